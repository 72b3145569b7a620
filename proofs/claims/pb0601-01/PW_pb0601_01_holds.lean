import PyProof.Rows.All
import Wide.All
import OpenK.AllK
import Wide.FinOn
import PyProof.ExcBaseAll.Exception
import PyProof.InstStoreFacts
import PyProof.P3Statements
import PyProof.TableCode
import Lean
import PySem.Challenge.RW_pb0601_01
set_option maxRecDepth 100000
set_option maxHeartbeats 4000000
set_option backward.match.sparseCases false
set_option tactic.hygienic false
set_option bootstrap.genMatcherCode false
open List (replicate length any_cons find?_cons zip_cons_cons mem_cons_self mem_cons_of_mem getElem?_map mem_of_getElem? all_eq_true all_append length_map foldl append_nil replicate_succ foldl_cons flatten_cons append_assoc length_append nil_append drop_nil reverse_cons length_drop length_take pairwise_cons mem_cons take_of_length_le length_eq_zero_iff mem_singleton length_set any_eq_true map_cons map_congr_left map_id mem_map nodup_cons map_append mem_append_left mem_append_right mem_append contains_iff_mem lookup_cons forIn_cons mem_filterMap getElem?_append_left getElem?_append_right map_map getElem?_drop drop_drop ext_getElem? filter_eq_nil_iff not_mem_nil length_replicate of_mem_zip contains_cons length_cons getD_eq_getElem?_getD mem_filter range' map_nil length_zipIdx snd_lt_of_mem_zipIdx map_drop map_take filter_cons length_range' length_filter_le flatMap_cons take_length getLast?_concat flatten_append flatMap_def mem_range'_1 cons_ne_nil sum_cons range'_1_concat flatten range'_succ take_left' filter_append drop_of_length_le take_take length_pos_iff)
open Nat (beq blt le_of_ble_eq_true add_comm le_add_right add_sub_cancel_left le_of_lt ble lt_irrefl not_lt_zero lt_of_succ_lt_succ succ_pos blt_eq zero_le succ_le_succ le_succ lt_of_lt_of_le lt_succ_self lt_or_ge add_sub_cancel lt_of_le_of_lt exists_eq_add_of_le' sub_self le_zero)
open Bool (and_eq_true or_eq_true_iff and_eq_true_iff eq_false_iff)
open Option (none_or map_some map_eq_some_iff bind_eq_some_iff isNone_iff_eq_none or_none some_or)
open Array (length_toList getElem?_toList toList_append)
open Int (zero_mul add_mul mul_one ofNat_le ofNat_lt)
open Prod (snd)
set_option Elab.async false
set_option genInjectivity false
set_option genSizeOf false
set_option linter.all false
section
namespace Mine.Internal.Z
set_option genCtorIdx false in
inductive E where
 | x (i:Nat)
 | n (k:Nat)
 | b (o:Nat) (p q:E)
 | c (p:E)
set_option genCtorIdx false in
inductive F where
 | r (o:Nat) (m:Bool) (p q:E)
 | b (o:Nat) (p q:F)
 | f
noncomputable abbrev Ip (o a b:Nat):Nat:=
 match o with
 | 0=>a+b
 | 1=>a-b
 | 2=>min a b
 | 3=>max a b
 | _=>a*b
noncomputable abbrev Iq (o:Nat) (a b:Int):Int:=
 match o with
 | 0=>a+b
 | 1=>a-b
 | 2=>min a b
 | 3=>max a b
 | 4=>a*b
 | _ =>-a
noncomputable abbrev g {α:Type} (d:α):List α->Nat->α
 | [],_=>d
 | a::_,0=>a
 | _::r,i+1=>g d r i
noncomputable abbrev ev (ρ:List Nat) (σ:List Int):E->Nat×Int
 | .x i=>(g 0 ρ i,g 0 σ i)
 | .n k=>(k,.ofNat k)
 | .b o p q=>(Ip o (ev ρ σ p).1 (ev ρ σ q).1,Iq o (ev ρ σ p).2 (ev ρ σ q).2)
 | .c p=>((ev ρ σ p).2.toNat,((ev ρ σ p).1:Int))
noncomputable abbrev Fa (o a b:Nat):Prop:=
 match o with
 | 0=>a<=b
 | 1=>a<b
 | _=>a=b
noncomputable abbrev CG (o:Nat) (a b:Int):Prop:=
 match o with
 | 0=>a<=b
 | 1=>a<b
 | _=>a=b
noncomputable abbrev Ir (o:Nat) (p q:Prop):Prop:=
 match o with
 | 0=>p->q
 | 1=>p∧q
 | _=>p∨q
noncomputable abbrev pQ (ρ:List Nat) (σ:List Int):F->Prop
 | .r o m p q=>m.casesOn (Fa o (ev ρ σ p).1 (ev ρ σ q).1) (CG o (ev ρ σ p).2 (ev ρ σ q).2)
 | .b o p q=>Ir o (pQ ρ σ p) (pQ ρ σ q)
 | .f=>False
noncomputable abbrev L:=List Int
noncomputable def ER:L->L->L
 | [],y=>y
 | a::x,y=>(a+y.headD 0)::ER x y.tail
noncomputable def mul (k:Int):L->L
 | []=>[]
 | a::x=>k*a::mul k x
noncomputable def un:Nat->L
 | 0=>[1]
 | j+1=>0::un j
variable {v:Nat->Int}
noncomputable def ef (v:Nat->Int):Nat->L->Int
 | _,[]=>0
 | i,c::r=>c*v i+ef v (i+1) r
theorem CH (i:Nat):∀y:L,ef v i y=y.headD 0*v i+ef v (i+1) y.tail
 | []=>by show 0=0*v i+0;rw[zero_mul];rfl
 | _::_=>rfl
theorem iF:∀(x y:L) (i:Nat),ef v i (ER x y)=ef v i x+ef v i y
 | [],y,i=>(Int.zero_add _).symm
 | a::x,y,i=>by
  rw[CH i y]
  refine(congrArg (_+·) (iF x y.tail (i+1))).trans ?_
  rw[add_mul]
  exact ac _ _ _ _
where ac (a b c d:Int):a+b+(c+d)=a+c+(b+d):=by rw[Int.add_assoc,Int.add_assoc,Int.add_left_comm b]
theorem fC (k:Int):∀(x:L) (i:Nat),ef v i (mul k x)=k*ef v i x
 | [],_=>(Int.mul_zero k).symm
 | a::x,i=>by
  refine(congrArg (_+·) (fC k x (i+1))).trans ?_
  rw[Int.mul_assoc,←Int.mul_add]
  rfl
theorem oB:∀(j i:Nat),ef v i (un j)=v (i+j)
 | 0,i=>(Int.add_zero _).trans (Int.one_mul _)
 | j+1,i=>by
  refine(congrArg (_+·) (oB j (i+1))).trans ?_
  rw[zero_mul,Int.zero_add,Nat.add_right_comm]
  rfl
noncomputable def sub (x y:L):L:=ER x (mul (-1) y)
theorem ke (x y:L) (i:Nat):ef v i (sub x y)=ef v i x-ef v i y:=by
 rw[sub,iF,fC,Int.neg_one_mul]
 rfl
def H (v:Nat->Int):List L->Prop
 | []=>True
 | c::cs=>0<=ef v 0 c∧H v cs
theorem hc {c:L} {cs:List L} (a:0<=ef v 0 c) (b:H v cs):H v (c::cs):=⟨a,b⟩
noncomputable def H6:L->Bool
 | []=>true
 | a::r=>beq a.natAbs 0&&H6 r
theorem and_l {a b:Bool} (h:(a&&b)=true):a=true:=((and_eq_true _ _).mp h).1
theorem and_r {a b:Bool} (h:(a&&b)=true):b=true:=((and_eq_true _ _).mp h).2
theorem oE:∀{x:L} {i:Nat},H6 x=true->ef v i x=0
 | [],_,_=>rfl
 | a::r,i,h=>by
  have e:a=0:=Int.natAbs_eq_zero.mp (Nat.eq_of_beq_eq_true (and_l h))
  refine(congrArg (_+·) (oE (i:=i+1) (and_r h))).trans ?_
  rw[e,zero_mul]
  rfl
noncomputable def bad:L->Bool
 | []=>false
 | k::r=>blt 0 (-k).toNat&&H6 r
theorem CI (h1:v 0=1):∀{x:L},bad x=true->¬0<=ef v 0 x
 | k::r,h,h2=>by
  have h2:0<=k*v 0+ef v 1 r:=h2
  rw[oE (and_r h),h1,mul_one,Int.add_zero]at h2
  have h3:=le_of_ble_eq_true (and_l h)
  rw[Int.toNat_of_nonpos (Int.neg_nonpos_of_nonneg h2)]at h3
  exact Nat.not_succ_le_zero _ h3
noncomputable def ps (i:Nat) (c:L):Nat:=(c.getD i 0).toNat
noncomputable def ng (i:Nat) (c:L):Nat:=(-c.getD i 0).toNat
noncomputable def cm (i:Nat) (p:L):List L->List L->List L
 | [],r=>r
 | q::cs,r=>cm i p cs (bif blt 0 (ng i q)then ER (mul (ps i p) q) (mul (ng i q) p)::r else r)
noncomputable def CJ (i:Nat) (all:List L):List L->List L->List L
 | [],r=>r
 | p::cs,r=>CJ i all cs (bif blt 0 (ps i p)then cm i p all r else bif blt 0 (ng i p)then r else p::r)
theorem CK {b:Bool} {x y:List L} (h:H v x) (k:H v y):H v (bif b then x else y):=by
 cases b with
 | true=>exact h
 | false=>exact k
theorem BQ {i:Nat} {p:L} (hp:0<=ef v 0 p):∀{cs r:List L},H v cs->H v r->H v (cm i p cs r)
 | [],_,_,h=>h
 | _::cs,_,⟨a,b⟩,h=>BQ hp (cs:=cs) b (CK (hc (by
   rw[iF,fC,fC]
   exact Int.add_nonneg (Int.mul_nonneg (Int.natCast_nonneg _) a) (Int.mul_nonneg (Int.natCast_nonneg _) hp)) h) h)
theorem s4 {i:Nat} {all:List L} (ha:H v all):∀{cs r:List L},H v cs->H v r->H v (CJ i all cs r)
 | [],_,_,h=>h
 | _::cs,_,⟨a,b⟩,h=>s4 ha (cs:=cs) b (CK (BQ a ha h) (CK h (hc a h)))
noncomputable def zC:List L->Bool
 | []=>false
 | c::cs=>bad c||zC cs
noncomputable def elim:Nat->List L->Bool
 | 0,cs=>zC cs
 | i+1,cs=>zC cs||elim i (CJ (i+1) cs cs [])
theorem rO (h1:v 0=1):∀{cs:List L},zC cs=true->¬H v cs
 | _::_,e,⟨a,b⟩=>((Bool.or_eq_true _ _).mp e).elim (fun e=>CI h1 e a) fun e=>rO h1 e b
theorem s5 (h1:v 0=1):∀{i:Nat} {cs:List L},elim i cs=true->¬H v cs
 | 0,_,e,h=>rO h1 e h
 | _+1,_,e,h=>((Bool.or_eq_true _ _).mp e).elim (fun e=>rO h1 e h) fun e=>s5 h1 e (s4 h h trivial)
noncomputable abbrev K:=L->List L->Bool
noncomputable def one:L->(Int->Bool)->Bool
 | [],_=>false
 | c::r,k=>H6 r&&k c
noncomputable def bin (o:Nat) (m:Bool) (x y:L) (cs:List L) (k:K):Bool:=
 match o with
 | 0=>k (ER x y) cs
 | 1=>bif m then k (sub x y) cs else k (sub x y) (sub x y::cs)&&k [] (sub y x::cs)
 | 2=>k x (sub y x::cs)&&k y (sub x y::cs)
 | 3=>k y (sub y x::cs)&&k x (sub x y::cs)
 | 4=>one x fun c=>k (mul c y) cs
 | _=>m&&k (mul (-1) x) cs
noncomputable def ES (a:Nat):E->Bool->List L->K->Bool
 | .x i,m,cs,k=>bif m then k (un (1+(a+i))) cs else blt i a&&k (un (1+i)) cs
 | .n j,_,cs,k=>k [.ofNat j] cs
 | .b o p q,m,cs,k=>ES a p m cs fun x cs=>ES a q m cs fun y cs=>bin o m x y cs k
 | .c p,m,cs,k=>ES a p (!m) cs fun l cs=>bif m then k l cs else k l (l::cs)&&k [] (mul (-1) l::cs)
noncomputable def It (m:Bool) (a:Nat) (b:Int):Int:=m.casesOn (a:Int) b
noncomputable def vv (ρ:List Nat) (σ:List Int):Nat->Int
 | 0=>1
 | j+1=>if j<ρ.length then((g 0 ρ j:Nat):Int)else g 0 σ (j-ρ.length)
inductive R (v:Nat->Int) (k:K) (z:Int):Prop
 | mk (l cs) (h:H v cs) (e:ef v 0 l=z) (t:k l cs=true)
theorem zq {x y:L} (h:ef v 0 x<=ef v 0 y):0<=ef v 0 (sub y x):=by
 rw[ke]
 exact Int.sub_nonneg_of_le h
variable {k:K} {x y:L} {cs:List L} (h1:v 0=1) (h:H v cs)
theorem mn (a b:Nat):((min a b:Nat):Int)=min (a:Int) b:=
 (Nat.le_total a b).elim (fun c=>(congrArg Int.ofNat (Nat.min_eq_left c)).trans (Int.min_eq_left (ofNat_le.mpr c)).symm) fun c=>(congrArg Int.ofNat (Nat.min_eq_right c)).trans (Int.min_eq_right (ofNat_le.mpr c)).symm
theorem mx (a b:Nat):((max a b:Nat):Int)=max (a:Int) b:=
 (Nat.le_total a b).elim (fun c=>(congrArg Int.ofNat (Nat.max_eq_right c)).trans (Int.max_eq_right (ofNat_le.mpr c)).symm) fun c=>(congrArg Int.ofNat (Nat.max_eq_left c)).trans (Int.max_eq_left (ofNat_le.mpr c)).symm
theorem CL {o:Nat} (c:o≠1) (t:bin o false x y cs k=true):bin o true x y cs k=true∧∀a b:Nat,((Ip o a b:Nat):Int)=Iq o a b:=by
 rcases o with _|_|_|_|_|o
 ·exact⟨t,fun _ _=>rfl⟩
 ·exact absurd rfl c
 ·exact⟨t,mn⟩
 ·exact⟨t,mx⟩
 ·exact⟨t,fun _ _=>rfl⟩
 ·cases t
include h
theorem CM (t:(k x (sub y x::cs)&&k y (sub x y::cs))=true):R v k (min (ef v 0 x) (ef v 0 y)):=
 (Int.le_total (ef v 0 x) (ef v 0 y)).elim (fun c=>⟨_,_,hc (zq c) h,(Int.min_eq_left c).symm,and_l t⟩) fun c=>⟨_,_,hc (zq c) h,(Int.min_eq_right c).symm,and_r t⟩
theorem CN (t:(k y (sub y x::cs)&&k x (sub x y::cs))=true):R v k (max (ef v 0 x) (ef v 0 y)):=
 (Int.le_total (ef v 0 x) (ef v 0 y)).elim (fun c=>⟨_,_,hc (zq c) h,(Int.max_eq_right c).symm,and_l t⟩) fun c=>⟨_,_,hc (zq c) h,(Int.max_eq_left c).symm,and_r t⟩
theorem CO {a b:Nat} (p:ef v 0 x=a) (q:ef v 0 y=b) (t:(k (sub x y) (sub x y::cs)&&k [] (sub y x::cs))=true):R v k ((a-b:Nat):Int):=
 (Nat.le_total b a).elim (fun c=>⟨_,_,hc (zq (by rw[p,q];exact ofNat_le.mpr c)) h,by rw[ke,p,q,Int.ofNat_sub c],and_l t⟩)
  fun c=>⟨_,_,hc (zq (by rw[p,q];exact ofNat_le.mpr c)) h,by rw[Nat.sub_eq_zero_of_le c];rfl,and_r t⟩
include h1
theorem CP (t:one x (fun c=>k (mul c y) cs)=true):R v k (ef v 0 x*ef v 0 y):=by
 rcases x with _|⟨c,r⟩
 ·cases t
 ·refine⟨_,_,h,?_,and_r t⟩
  have e:ef v 0 (c::r)=c*v 0+ef v 1 r:=rfl
  rw[fC,e,oE (and_l t),h1,mul_one,Int.add_zero]
theorem BR {o:Nat} (t:bin o true x y cs k=true):R v k (Iq o (ef v 0 x) (ef v 0 y)):=by
 rcases o with _|_|_|_|_|o
 ·exact⟨_,_,h,iF _ _ _,t⟩
 ·exact⟨_,_,h,ke _ _ _,t⟩
 ·exact CM h t
 ·exact CN h t
 ·exact CP h1 h t
 ·exact⟨_,_,h,by rw[fC,Int.neg_one_mul];rfl,t⟩
theorem Fb {o a b:Nat} (t:bin o false x y cs k=true) (p:ef v 0 x=a) (q:ef v 0 y=b):R v k (Ip o a b:Nat):=by
 by_cases c:o=1
 ·subst c
  exact CO h p q t
 ·obtain⟨t,e⟩:=CL c t
  have f:=BR h1 h t
  rw[p,q]at f
  exact e a b▸f
omit h1 in
theorem CQ {p:Int} (e:ef v 0 x=p) (t:(k x (x::cs)&&k [] (mul (-1) x::cs))=true):R v k (p.toNat:Int):=
 (Int.le_total 0 p).elim (fun c=>⟨_,_,hc (by rw[e];exact c) h,e.trans (Int.toNat_of_nonneg c).symm,and_l t⟩)
  fun c=>⟨_,_,hc (by rw[fC,Int.neg_one_mul,e];exact Int.neg_nonneg_of_nonpos c) h,by rw[Int.toNat_of_nonpos c];rfl,and_r t⟩
omit h1 h
variable {ρ:List Nat} {σ:List Int}
def LO (ρ:List Nat) (σ:List Int) (e:E):Prop:=∀{m:Bool} {cs:List L} {k:K},ES ρ.length e m cs k=true->H (vv ρ σ) cs->R (vv ρ σ) k (It m (ev ρ σ e).1 (ev ρ σ e).2)
theorem Fc {i:Nat}:LO ρ σ (.x i):=fun{m cs k} t h=>by
 cases m with
 | true=>
  refine⟨_,_,h,?_,t⟩
  rw[oB,Nat.zero_add,add_comm]
  refine(if_neg (Nat.not_lt.mpr (le_add_right _ _))).trans ?_
  rw[add_sub_cancel_left]
  rfl
 | false=>
  refine⟨_,_,h,?_,and_r t⟩
  rw[oB,Nat.zero_add,add_comm]
  exact if_pos (le_of_ble_eq_true (and_l t))
theorem Fe {n:Nat}:LO ρ σ (.n n):=fun{m cs k} t h=>⟨_,_,h,(Int.add_zero _).trans ((mul_one _).trans (by cases m<;>rfl)),t⟩
theorem Ff {o:Nat} {p q:E} (hp:LO ρ σ p) (hq:LO ρ σ q):LO ρ σ (.b o p q):=fun{m cs k} t h=>by
 obtain⟨x,cs,h,ex,t⟩:=hp t h
 obtain⟨y,cs,h,ey,t⟩:=hq t h
 cases m with
 | true=>
  have e:=BR rfl h t
  rw[ex,ey]at e
  exact e
 | false=>exact Fb rfl h t ex ey
theorem Fg {p:E} (hp:LO ρ σ p):LO ρ σ (.c p):=fun{m cs k} t h=>by
 obtain⟨x,cs,h,e,t⟩:=hp t h
 cases m with
 | true=>exact⟨x,cs,h,e,t⟩
 | false=>exact CQ h e t
theorem kG:∀e:E,LO ρ σ e
 | .x _=>Fc
 | .n _=>Fe
 | .b _ p q=>Ff (kG p) (kG q)
 | .c p=>Fg (kG p)
noncomputable def LY (x y:L):L:=sub y x
noncomputable def ET (x y:L):L:=sub y (ER x [1])
noncomputable def rl (o:Nat) (s:Bool) (x y:L) (cs:List L) (k:List L->Bool):Bool:=
 match o with
 | 0=>k ((bif s then sub y x else ET y x)::cs)
 | 1=>k ((bif s then ET x y else sub x y)::cs)
 | _=>bif s then k (sub y x::sub x y::cs)else k (ET x y::cs)&&k (ET y x::cs)
noncomputable def sp (o:Nat) (s:Bool):Bool:=bif beq o 0 then !s else s
noncomputable def sq (o:Nat) (s:Bool):Bool:=bif beq o 1 then s else !s
noncomputable def ref (a:Nat):F->Bool->List L->(List L->Bool)->Bool
 | .r o m p q,s,cs,k=>ES a p m cs fun x cs=>ES a q m cs fun y cs=>rl o s x y cs k
 | .b o p q,s,cs,k=>bif sq o s then ref a p (sp o s) cs fun cs=>ref a q s cs k else ref a p (sp o s) cs k&&ref a q s cs k
 | .f,s,cs,k=>s||k cs
def sg (p:Prop) (s:Bool):Prop:=s.casesOn (¬p) p
inductive T (w:Nat->Int) (kk:List L->Bool):Prop
 | mk (d) (h:H w d) (t:kk d=true)
theorem H7 (h1:v 0=1) {x y:L} (h:ef v 0 x<ef v 0 y):0<=ef v 0 (ET x y):=by
 rw[ET,ke,iF]
 refine Int.sub_nonneg_of_le ?_
 have e:ef v 0 [1]=1*v 0+0:=rfl
 rw[e,h1]
 exact h
theorem Fh (h1:v 0=1) (h:H v cs) {k:List L->Bool} {o:Nat} {s:Bool} (t:rl o s x y cs k=true) (e:sg (CG o (ef v 0 x) (ef v 0 y)) s):T v k:=by
 rcases o with _|_|o
 ·cases s with
  | true=>exact⟨_,hc (zq e) h,t⟩
  | false=>exact⟨_,hc (H7 h1 (Int.not_le.mp e)) h,t⟩
 ·cases s with
  | true=>exact⟨_,hc (H7 h1 e) h,t⟩
  | false=>exact⟨_,hc (zq (Int.not_lt.mp e)) h,t⟩
 ·cases s with
  | true=>exact⟨_,hc (zq (Int.le_of_eq e)) (hc (zq (Int.le_of_eq (Eq.symm e))) h),t⟩
  | false=>exact(Int.lt_or_gt_of_ne e).elim (fun c=>⟨_,hc (H7 h1 c) h,and_l t⟩) fun c=>⟨_,hc (H7 h1 c) h,and_r t⟩
theorem CR {p q:Prop} (h:p↔q) {s:Bool} (e:sg p s):sg q s:=(propext h)▸e
theorem NI {a b o:Nat}:Fa o a b↔CG o a b:=by
 rcases o with _|_|o
 ·exact ofNat_le.symm
 ·exact ofNat_lt.symm
 ·exact Int.ofNat_inj.symm
theorem Fi {p q:Prop} {o:Nat} {s:Bool} (c:sq o s=true) (e:sg (Ir o p q) s):sg p (sp o s)∧sg q s:=by
 rcases o with _|_|o
 ·cases s with
  | true=>cases c
  | false=>exact Classical.not_imp.mp e
 ·cases s with
  | true=>exact e
  | false=>cases c
 ·cases s with
  | true=>cases c
  | false=>exact⟨fun c=>e (.inl c),fun c=>e (.inr c)⟩
theorem Fj {p q:Prop} {o:Nat} {s:Bool} (c:sq o s=false) (e:sg (Ir o p q) s):sg p (sp o s)∨sg q s:=by
 rcases o with _|_|o
 ·cases s with
  | true=>exact(Classical.em p).elim (fun a=>.inr (e a)) .inl
  | false=>cases c
 ·cases s with
  | true=>cases c
  | false=>exact(Classical.em p).elim (fun a=>.inr fun b=>e ⟨a,b⟩) .inl
 ·cases s with
  | true=>exact e
  | false=>cases c
def RO (ρ:List Nat) (σ:List Int) (g:F):Prop:=∀{s:Bool} {cs:List L} {k:List L->Bool},ref ρ.length g s cs k=true->H (vv ρ σ) cs->sg (pQ ρ σ g) s->T (vv ρ σ) k
theorem Fk {o:Nat} {m:Bool} {p q:E}:RO ρ σ (.r o m p q):=fun{s cs k} t h e=>by
 obtain⟨x,cs,h,ex,t⟩:=kG p t h
 obtain⟨y,cs,h,ey,t⟩:=kG q t h
 refine Fh rfl h t ?_
 rw[ex,ey]
 cases m with
 | true=>exact e
 | false=>exact CR NI e
theorem Fm {o:Nat} {p q:F} (hp:RO ρ σ p) (hq:RO ρ σ q):RO ρ σ (.b o p q):=fun{s cs k} t h e=>by
 have t:(bif sq o s then _ else _)=true:=t
 cases c:sq o s with
 | true=>
  rw[c]at t
  obtain⟨a,b⟩:=Fi c e
  obtain⟨cs,h,t⟩:=hp t h a
  exact hq t h b
 | false=>
  rw[c]at t
  exact(Fj c e).elim (hp (and_l t) h) (hq (and_r t) h)
theorem Fo:RO ρ σ .f:=fun{s cs k} t h e=>by
 cases s with
 | true=>exact False.elim e
 | false=>exact⟨_,h,t⟩
theorem rP:∀g:F,RO ρ σ g
 | .r _ _ _ _=>Fk
 | .b _ p q=>Fm (rP p) (rP q)
 | .f=>Fo
noncomputable def nn:Nat->List L
 | 0=>[]
 | i+1=>un (i+1)::nn i
theorem BS:∀{i:Nat},i<=ρ.length->H (vv ρ σ) (nn i)
 | 0,_=>trivial
 | i+1,h=>⟨by
   rw[oB,Nat.zero_add]
   have e:vv ρ σ (i+1)=_:=if_pos h
   rw[e]
   exact Int.natCast_nonneg _,BS (le_of_lt h)⟩
noncomputable abbrev dE:Nat->Nat->E×Nat
 | 0,n=>(.n 0,n)
 | f+1,n=>match n % 16 with
  | 0=>(.x (n / 16 % 16),n / 256)
  | 1=>(.n (n / 16 % 16),n / 256)
  | 2=>(.n (n / 256 % 16 ^ (n / 16 % 16)),n / 256 / 16 ^ (n / 16 % 16))
  | 3=>(.c (dE f (n / 16)).1,(dE f (n / 16)).2)
  | o+4=>(.b o (dE f (n / 16)).1 (dE f (dE f (n / 16)).2).1,(dE f (dE f (n / 16)).2).2)
noncomputable abbrev dF:Nat->Nat->F×Nat
 | 0,n=>(.f,n)
 | f+1,n=>match n % 16 with
  | 0=>(.f,n / 16)
  | o+1=>bif blt o 6 then(.r (o % 3) (ble 3 o) (dE f (n / 16)).1 (dE f (dE f (n / 16)).2).1,(dE f (dE f (n / 16)).2).2)
   else(.b (o-6) (dF f (n / 16)).1 (dF f (dF f (n / 16)).2).1,(dF f (dF f (n / 16)).2).2)
noncomputable abbrev fo (n:Nat):F:=(dF 30 n).1
noncomputable def ok (a b n:Nat):Bool:=ref a (fo n) false (nn a) fun cs=>elim (a+b) cs
theorem Z (ρ:List Nat) (σ:List Int) (n:Nat) (h:ok ρ.length σ.length n=true):pQ ρ σ (fo n):=by
 refine Classical.byContradiction fun c=>?_
 obtain⟨cs,h,t⟩:=rP _ (s:=false) h (BS (Nat.le_refl _)) c
 exact s5 rfl t h
end Mine.Internal.Z
namespace Mine.Internal
open Z (ok pQ fo)
theorem bA {a b:Bool} (h:(a&&b)=true):a=true∧b=true:=(and_eq_true _ _).mp h
theorem pM {i:Int} (n:Nat) (h:ok 0 1 n=true:=by kernel_rfl):pQ [] [i] (fo n):=Z.Z _ _ n h
theorem oG {i j:Int} (n:Nat) (h:ok 0 2 n=true:=by kernel_rfl):pQ [] [i,j] (fo n):=Z.Z _ _ n h
theorem Fp {i j k:Int} (n:Nat) (h:ok 0 3 n=true:=by kernel_rfl):pQ [] [i,j,k] (fo n):=Z.Z _ _ n h
theorem ba {a:Nat} (n:Nat) (h:ok 1 0 n=true:=by kernel_rfl):pQ [a] [] (fo n):=Z.Z _ _ n h
theorem mE {a:Nat} {i:Int} (n:Nat) (h:ok 1 1 n=true:=by kernel_rfl):pQ [a] [i] (fo n):=Z.Z _ _ n h
theorem az {a b:Nat} (n:Nat) (h:ok 2 0 n=true:=by kernel_rfl):pQ [a,b] [] (fo n):=Z.Z _ _ n h
theorem H8 {a b:Nat} {i:Int} (n:Nat) (h:ok 2 1 n=true:=by kernel_rfl):pQ [a,b] [i] (fo n):=Z.Z _ _ n h
theorem aQ {a b c:Nat} (n:Nat) (h:ok 3 0 n=true:=by kernel_rfl):pQ [a,b,c] [] (fo n):=Z.Z _ _ n h
theorem b6 {a b c d:Nat} (n:Nat) (h:ok 4 0 n=true:=by kernel_rfl):pQ [a,b,c,d] [] (fo n):=Z.Z _ _ n h
theorem KH {a b c d:Nat} {i:Int} (n:Nat) (h:ok 4 1 n=true:=by kernel_rfl):pQ [a,b,c,d] [i] (fo n):=Z.Z _ _ n h
theorem mG {a b c d e:Nat} (n:Nat) (h:ok 5 0 n=true:=by kernel_rfl):pQ [a,b,c,d,e] [] (fo n):=Z.Z _ _ n h
theorem H9 {a b c d e f:Nat} (n:Nat) (h:ok 6 0 n=true:=by kernel_rfl):pQ [a,b,c,d,e,f] [] (fo n):=Z.Z _ _ n h
end Mine.Internal
end
namespace Mine.Internal
section
open PySem
inductive E2 {α β:Type} (p:α->β->Prop):Prop
 | mk x0 x1 (h:p x0 x1)
theorem E2.imp {α β:Type} {p q:α->β->Prop} (h:E2 p) (k:∀x y,p x y->q x y):E2 q:=by
 rcases h with⟨x,y,h⟩
 exact⟨x,y,k x y h⟩
inductive E3 {α β γ:Type} (p:α->β->γ->Prop):Prop
 | mk x0 x1 x2 (h:p x0 x1 x2)
inductive E4 {α β γ δ:Type} (p:α->β->γ->δ->Prop):Prop
 | mk x0 x1 x2 x3 (h:p x0 x1 x2 x3)
inductive E5 {α β γ δ ε:Type} (p:α->β->γ->δ->ε->Prop):Prop
 | mk x0 x1 x2 x3 x4 (h:p x0 x1 x2 x3 x4)
inductive E6 {α β γ δ ε ζ:Type} (p:α->β->γ->δ->ε->ζ->Prop):Prop
 | mk x0 x1 x2 x3 x4 x5 (h:p x0 x1 x2 x3 x4 x5)
inductive E7 {α β γ δ ε ζ η:Type} (p:α->β->γ->δ->ε->ζ->η->Prop):Prop
 | mk x0 x1 x2 x3 x4 x5 x6 (h:p x0 x1 x2 x3 x4 x5 x6)
structure A3 (a b c:Prop):Prop where
 h1:a
 h2:b
 h3:c
structure A4 (a b c d:Prop):Prop where
 h1:a
 h2:b
 h3:c
 h4:d
structure A5 (a b c d e:Prop):Prop where
 h1:a
 h2:b
 h3:c
 h4:d
 h5:e
structure A6 (a b c d e f:Prop):Prop where
 h1:a
 h2:b
 h3:c
 h4:d
 h5:e
 h6:f
inductive A8 (a b c d e f g h:Prop):Prop
 | mk (h1:a) (h2:b) (h3:c) (h4:d) (h5:e) (h6:f) (h7:g) (h8:h)
inductive A9 (a b c d e f g h i:Prop):Prop
 | mk (h1:a) (h2:b) (h3:c) (h4:d) (h5:e) (h6:f) (h7:g) (h8:h) (h9:i)
inductive Lb (a b c d e f g h i j:Prop):Prop
 | mk (h1:a) (h2:b) (h3:c) (h4:d) (h5:e) (h6:f) (h7:g) (h8:h) (h9:i) (h10:j)
noncomputable abbrev Om:=Prop
theorem no {α:Type _} {q:α} {C:Prop} (h:none=some q):C:=nomatch h
theorem bp {C:Prop} (h:false=true):C:=nomatch h
noncomputable def eO:Om:=False
noncomputable def CS (f:Value->Om):Om:=∀u,f u
noncomputable def bK (b:Bool) (k:Om):Om:=match b with
 | true=>k
 | false=>eO
noncomputable def KI (u w:Value) (k:Om):Om:=u=w∧k
set_option genCtorIdx false in
inductive PV where
 | LZ|exc|none
 | bool (b:Bool)
 | int (i:Int)
 | str (s:Str)
 | tup (l:List PV)
 | lst (l:List PV)
 | dct (ks:List Str) (vs:List PV)
 | obj (c:Nat) (ks:List Str) (vs:List PV)
 | fz (v:PV)
 | pin (u:Value) (v:PV)
noncomputable def PV.ctorIdx (v:PV):Nat:=v.casesOn 0 1 2 (fun _=>3) (fun _=>4) (fun _=>5) (fun _=>6) (fun _=>7) (fun _ _=>8) (fun _ _ _=>9) (fun _=>10) fun _ _=>11
noncomputable abbrev Env:=List PV
noncomputable abbrev M (α:Type):=Env->(α->Env->Om)->Om
noncomputable def aP {α:Type}:Option α->(α->Om)->Om
 | some a,k=>k a
 | none,_=>eO
noncomputable def af:PV->PV
 | .lst l=>.fz (.lst l)
 | .dct k v=>.fz (.dct k v)
 | .obj c k v=>.fz (.obj c k v)
 | v=>v
noncomputable def un:PV->PV
 | .fz v=>v
 | v=>v
noncomputable def jJ:PV->Bool
 | .lst _=>true
 | .dct _ _=>true
 | .obj _ _ _=>true
 | _=>false
noncomputable def mH:PV->Bool
 | .LZ=>false
 | .exc=>false
 | .fz v=>jJ v
 | _=>true
noncomputable def rQ:PV->Bool
 | .none=>true
 | .bool _=>true
 | .int _=>true
 | .str _=>true
 | _=>false
noncomputable def aL:PV->Bool
 | .tup _=>true
 | .fz v=>jJ v
 | v=>rQ v
noncomputable def bS (v:PV):Bool:=aL v||jJ v
noncomputable def iG (v:PV):Option PV:=if mH v then some v else none
noncomputable def kH (v:PV):Option PV:=if aL v then some v else none
noncomputable def zE:List Nat->List Nat->Bool
 | [],[]=>true
 | a::r,b::s=>beq a b&&zE r s
 | _,_=>false
noncomputable def EU (s:Str):Bool:=s.cps.toList.all fun c=>blt c 1114112
noncomputable def aM (a b:Str):Bool:=zE a.cps.toList b.cps.toList
noncomputable def CT (s:Str):Bool:=match s.cps.toList with
 | []=>false
 | _=>true
noncomputable def ix (x:Str):List Str->Option Nat
 | []=>none
 | y::r=>if(aM y x&&CT y)=true then some 0 else(ix x r).map (·+1)
theorem Iu {x y:Str} {r:List Str}:ix x (y::r)=if(aM y x&&CT y)=true then some 0 else(ix x r).map (·+1):=rfl
noncomputable def aK:List PV->Nat->PV
 | [],_=>.LZ
 | x::_,0=>x
 | _::r,n+1=>aK r n
noncomputable def aS:List PV->Nat->PV->List PV
 | [],_,_=>[]
 | _::r,0,v=>v::r
 | x::r,n+1,v=>x::aS r n v
noncomputable def bb:List PV->PV
 | []=>.LZ
 | [x]=>x
 | _::r=>bb r
noncomputable def iH:List PV->PV->List PV
 | [],_=>[]
 | [_],v=>[v]
 | x::r,v=>x::iH r v
noncomputable def cu (x:Str):List Str->List PV->PV
 | k::ks,v::vs=>if aM k x then v else cu x ks vs
 | _,_=>.LZ
theorem CU {x k:Str} {ks:List Str} {v:PV} {vs:List PV}:cu x (k::ks) (v::vs)=if aM k x then v else cu x ks vs:=rfl
noncomputable def oH (x:Str):List Str->List Str
 | []=>[x]
 | k::ks=>if aM k x then k::ks else k::oH x ks
noncomputable def kvs (x:Str) (v:PV):List Str->List PV->List PV
 | k::ks,w::vs=>if aM k x then v::vs else w::kvs x v ks vs
 | _,_=>[v]
noncomputable def rR (x:Str) (l:List Str):Bool:=l.any fun y=>aM y x
-- ir: a slot and a road,its last step first
set_option genCtorIdx false in
inductive PE where
 | at (f:Str)|key (k:Str)|last
noncomputable def Fq:PE->PV->Option PV
 | .at f,.obj _ ks vs=>iG (cu f ks vs)
 | .key k,.dct ks vs=>iG (cu k ks vs)
 | .last,.lst l=>iG (bb l)
 | _,_=>none
noncomputable def gK (k:PE):PV->Option PV
 | .fz w=>(Fq k w).bind fun q=>kH (af q)
 | w=>Fq k w
noncomputable def sK:PE->PV->PV->Option PV
 | .at f,.obj c ks vs,q=>if mH (cu f ks vs)then some (.obj c ks (kvs f q ks vs))else none
 | .key k,.dct ks vs,q=>if mH (cu k ks vs)then some (.dct ks (kvs k q ks vs))else none
 | .last,.lst l,q=>if bS q then some (.lst (iH l q))else none
 | _,_,_=>none
noncomputable def CV:List PE->PV->Option PV
 | [],v=>iG v
 | k::p,v=>(CV p v).bind (gK k)
noncomputable def Fr:List PE->PV->PV->Option PV
 | [],_,q=>some q
 | k::p,v,q=>(CV p v).bind fun t=>(sK k t q).bind fun t'=>Fr p v t'
noncomputable def rS:PV->Option Str
 | .str s=>some s
 | _=>none
noncomputable def jK:PV->Option Int
 | .int b=>some b
 | _=>none
noncomputable def mI:PV->Option (List PV)
 | .tup l=>some l
 | _=>none
noncomputable def wr:Expr->Option (Const×Nat×Pos)
 | .Constant c j p=>some (c,j,p)
 | _=>none
noncomputable def Fs:Const->Option Str
 | .str s=>some s
 | _=>none
noncomputable def Ft:Const->Option Int
 | .int i=>some i
 | _=>none
noncomputable def jL (e:Expr):Option Str:=(wr e).bind fun q=>Fs q.1
noncomputable def zF (e:Expr):Option Int:=(wr e).bind fun q=>Ft q.1
noncomputable def Ia (n:Int) (e:Expr):Bool:=match zF e with
 | some i=>i==n
 | none=>false
noncomputable def wt:Expr->Option (UnaryOp×Expr×Pos)
 | .UnaryOp op a p=>some (op,a,p)
 | _=>none
noncomputable def j8 (e:Expr):Bool:=match wt e with
 | some (op,a,_)=>(match op with
  | .USub=>Ia 1 a
  | _=>false)
 | none=>false
noncomputable def dM:Expr->Option Str
 | .Name x _=>some x
 | _=>none
noncomputable def dX:List Expr->Option (List Str)
 | []=>some []
 | e::r=>(dM e).bind fun x=>(dX r).map (x::·)
noncomputable def ia:List (Option Expr)->Option (List Str)
 | []=>some []
 | k::ks=>k.bind fun e=>(jL e).bind fun x=>(ia ks).map (x::·)
noncomputable def pR:Expr->Bool
 | .List es _=>es.isEmpty
 | _=>false
noncomputable def jM:Expr->Bool
 | .Set _ _ _=>false
 | .Starred _ _=>false
 | _=>true
noncomputable def gX (l:List Expr):Bool:=blt l.length 20&&l.all jM
noncomputable abbrev f8:=Nat×List PE
noncomputable def ja (names:List Str):Nat->Expr->Option f8
 | 0,_=>none
 | n+1,e=>match e with
  | .Name x _=>(ix x names).map fun i=>(i,[])
  | .Attribute b f _=>(ja names n b).map fun p=>(p.1,.at f::p.2)
  | .Subscript b s _=>match jL s with
   | some k=>(ja names n b).map fun p=>(p.1,.key k::p.2)
   | none=>if j8 s then(ja names n b).map fun p=>(p.1,.last::p.2)else none
  | _=>none
noncomputable def oJ (p:f8) (ρ:Env):Option PV:=CV p.2 (aK ρ p.1)
noncomputable def mC (p:f8) (q:PV) (ρ:Env):Option Env:=(Fr p.2 (aK ρ p.1) q).map fun t=>aS ρ p.1 t
-- operations on values
set_option genCtorIdx false in
mutual
inductive COp where|eq|ne|lt|le|gt|ge|isn|notn|inn|nin
inductive Fl where
 | nxt|brk|cnt|exc
 | ret (v:PV)
end
noncomputable def COp.ctorIdx (x:COp):Nat:=x.casesOn 0 1 2 3 4 5 6 7 8 9
noncomputable def Fl.ctorIdx (x:Fl):Nat:=x.casesOn 0 1 2 3 fun _=>4
inductive BI where|len|lst|max|sorted|sum|int|isi|range|enum|zip|bool
 deriving DecidableEq
mutual
noncomputable def oO:PV->PyData
 | .bool b=>.bool b
 | .int i=>.int i
 | .str s=>.str s
 | .tup l=>.tuple (fD l)
 | .lst l=>.list (fD l)
 | .fz v=>oO v
 | _=>.none
noncomputable def fD:List PV->List PyData
 | []=>[]
 | a::r=>oO a::fD r
end
noncomputable def eqv (p q:PV):Bool:=match p,q with
 | .str a,.str b=>aM a b
 | .int i,.int j=>i==j
 | p,q=>PyData.eqv (oO p) (oO q)
noncomputable def plain:Nat->PV->Bool
 | n+1,.tup l=>l.all (plain n)
 | n+1,.lst l=>l.all (plain n)
 | n+1,.fz (.lst l)=>l.all (plain n)
 | _,v=>rQ v
noncomputable def Fu:Nat:=1000000
noncomputable def cA (l:List PV):Bool:=blt l.length Fu
noncomputable def small:Int->Bool
 | .ofNat n=>blt n 4611686018427387904
 | .negSucc n=>blt n 4611686018427387903
noncomputable def kI:PV->Option Bool
 | .none=>some false
 | .bool b=>some b
 | .int i=>some (!(i==0))
 | .tup l=>some (!l.isEmpty)
 | .lst l=>some (!l.isEmpty)
 | .fz (.lst l)=>some (!l.isEmpty)
 | _=>none
noncomputable def litems:PV->Option (List PV)
 | .lst l=>some (l.map af)
 | .fz (.lst l)=>some (l.map af)
 | _=>none
noncomputable def items:PV->Option (List PV)
 | .tup l=>some l
 | v=>litems v
noncomputable def Fv (op:Operator) (a b:PV):Option PV:=match op with
 | .Add=>match mI a with
  | some x=>(mI b).bind fun y=>if !x.isEmpty&&!y.isEmpty&&blt (x.length+y.length) 1000 then some (.tup (x++y))else none
  | none=>(litems a).bind fun x=>(litems b).map fun y=>.lst (x++y)
 | .Mult=>(jK b).bind fun n=>(litems a).bind fun x=>if small n then some (.lst (replicate n.toNat x).flatten)else none
 | _=>none
noncomputable def j9 (a b:PV):Option (Int×Int):=(jK a).bind fun x=>(jK b).map fun y=>(x,y)
noncomputable def Fw (op:Operator) (x y:Int):Option PV:=match op with
 | .Add=>some (.int (x+y))
 | .Sub=>some (.int (x-y))
 | .Mult=>if small x&&small y then some (.int (x*y))else none
 | .Mod=>if decide (0<y)then some (.int (x % y))else none
 | .FloorDiv=>if decide (0<y)&&decide (y<1073741824)then some (.int (x / y))else none
 | _=>none
noncomputable def bin (op:Operator) (a b:PV):Option PV:=match j9 a b with
 | some q=>Fw op q.1 q.2
 | none=>Fv op a b
noncomputable def Iv:PV->Bool
 | .lst l=>cA l
 | _=>true
noncomputable def isNone:PV->Bool
 | .none=>true
 | _=>false
noncomputable def uL (a:PV):List PV->Bool
 | []=>false
 | b::r=>eqv b a||uL a r
noncomputable def s6 (a b:PV):Option (Bool×Bool):=match un b with
 | .tup l=>some (plain 8 a&&l.all (plain 8),uL a l)
 | .lst l=>some (plain 8 a&&l.all (plain 8),uL a l)
 | .dct ks vs=>match a with
  | .str x=>some (vs.all mH,mH (cu x ks vs))
  | _=>none
 | _=>none
noncomputable def KJ (op:CmpOp) (a b:PV):Option (Bool×Bool):=match op with
 | .In=>s6 a b
 | .NotIn=>(s6 a b).map fun r=>(r.1,!r.2)
 | .Is=>some (isNone b,isNone a)
 | .IsNot=>some (isNone b,!isNone a)
 | .Eq=>some (plain 8 a&&plain 8 b,eqv a b)
 | .NotEq=>some (plain 8 a&&plain 8 b,!eqv a b)
 | .Lt=>(j9 a b).map fun q=>(true,decide (q.1<q.2))
 | .LtE=>(j9 a b).map fun q=>(true,decide (q.1<=q.2))
 | .Gt=>(j9 a b).map fun q=>(true,decide (q.2<q.1))
 | .GtE=>(j9 a b).map fun q=>(true,decide (q.2<=q.1))
noncomputable def eh:List PV->Option (List Int)
 | []=>some []
 | .int i::r=>(eh r).map (i::·)
 | _=>none
noncomputable def oP (x:Int):List Int->List Int
 | []=>[x]
 | y::r=>if decide (x<=y)then x::y::r else y::oP x r
theorem wu {x y:Int} {r:List Int}:oP x (y::r)=if decide (x<=y)then x::y::r else y::oP x r:=rfl
noncomputable def jN:List Int->List Int
 | []=>[]
 | x::r=>oP x (jN r)
noncomputable def aZ (a s:Int):Nat->List PV
 | 0=>[]
 | n+1=>.int a::aZ (a+s) s n
noncomputable def dT:Nat->List PV->List PV
 | _,[]=>[]
 | n,x::r=>.tup [.int n,x]::dT (n+1) r
noncomputable def gb:List PV->List PV->List PV
 | x::r,y::s=>.tup [x,y]::gb r s
 | _,_=>[]
noncomputable def Fx:List Int->Option (Int×Int×Int)
 | [n]=>some (0,n,1)
 | [a,b]=>some (a,b,1)
 | [a,b,s]=>some (a,b,s)
 | _=>none
noncomputable def oQ (q:Int×Int×Int):Nat:=if q.2.2=1 then(q.2.1-q.1).toNat else(q.1-q.2.1).toNat
noncomputable def cv (l:List PV):Option (List PV):=(eh l).bind fun l=>(Fx l).bind fun q=>if(small q.1&&small q.2.1&&(decide (q.2.2=1)||decide (q.2.2 = -1))&&blt (oQ q) 1000000)=true then some (aZ q.1 q.2.2 (oQ q))else none
noncomputable def one {α:Type}:List α->Option α
 | [a]=>some a
 | _=>none
noncomputable def two {α:Type}:List α->Option (α×α)
 | [a,b]=>some (a,b)
 | _=>none
noncomputable def Iw:PV->Option Int
 | .int a=>some a
 | .bool b=>some (if b then 1 else 0)
 | _=>none
noncomputable def builtin (f:BI) (l:List PV):Option PV:=match f with
 | .len=>(one l).bind fun a=>(items a).map fun l=>.int l.length
 | .lst=>(one l).bind fun a=>(items a).map .lst
 | .max=>(two l).bind fun q=>(j9 q.1 q.2).map fun q=>.int (if decide (q.1<q.2)then q.2 else q.1)
 | .sorted=>(one l).bind fun a=>(litems a).bind fun l=>if blt l.length 64 then(eh l).map fun x=>.lst ((jN x).map .int)else none
 | .sum=>(one l).bind fun a=>(litems a).bind fun l=>(eh l).map fun x=>.int x.sum
 | .int=>(one l).bind fun a=>(Iw a).map .int
 | _=>none
noncomputable def oU (b:BI) (l:List PV):Option (List PV):=if b=.range then cv l else if b=.enum then(one l).bind fun a=>(litems a).map (dT 0)else if b=.zip then(two l).bind fun q=>(litems q.1).bind fun l=>(litems q.2).map (gb l)else none
noncomputable def Fy:List PV->Option (Str×PV)
 | [a]=>(rS a).map fun x=>(x,.none)
 | [a,d]=>(rS a).map fun x=>(x,d)
 | _=>none
noncomputable def wv (ks:List Str) (vs l:List PV):Option PV:=(Fy l).bind fun q=>if vs.all bS=true then some (if mH (cu q.1 ks vs)=true then af (cu q.1 ks vs)else q.2)else none
noncomputable def bg (i:Int) (n:Nat):Option Nat:=if decide (0<=i)then(if decide (i<n)then some i.toNat else none)else if decide (0<=i+n)then some (i+n).toNat else none
noncomputable def jO (s:Str):List PV:=s.cps.toList.map fun c=>.str ⟨#[c]⟩
noncomputable def mV:PV->Option (List Str×List PV)
 | .dct ks vs=>some (ks,vs)
 | _=>none
noncomputable def aw (v i:PV):Option PV:=match jK i with
 | some k=>match rS v with
  | some s=>if blt (jO s).length 1000 then(bg k (jO s).length).map (aK (jO s))else none
  | none=>(items v).bind fun l=>(bg k l.length).map (aK l)
 | none=>(rS i).bind fun x=>(mV (un v)).bind fun q=>kH (af (cu x q.1 q.2))
noncomputable def fR (v i:PV):Option PV:=match v with
 | .lst l=>(jK i).bind fun k=>(bg k l.length).map (aK l)
 | .dct ks vs=>(rS i).map fun x=>cu x ks vs
 | _=>none
noncomputable def be (i:Int) (n:Nat):Nat:=if decide (i<0)then(i+n).toNat else min i.toNat n
noncomputable def cut (l:List PV) (lo hi:Option Int):List PV:=
 (l.take (match hi with|some i=>be i l.length|none=>l.length)).drop (match lo with|some i=>be i l.length|none=>0)
noncomputable def s7 (f:Str) (v:PV):Option PV:=gK (.at f) (af v)
-- the text's tables
set_option genCtorIdx false in
inductive GV where
 | v (p:PV)|fn (k:Nat)|cls (k:Nat)|bi (b:BI)
structure uM where
 names:List Str
 np:Nat
 dfl:List PV
 io:Bool
 sc:List (Str×NameKind)
 body:List Stmt
structure zG where
 fields:List Str
 init:Nat
 meths:List (Str×Nat)
structure Tab where
 glob:Str->Option GV
 fn:Nat->Option uM
 cls:Nat->Option zG
 ali:Str
 bad:Str
noncomputable def bk (x:Str):Bool:=!(x==("__debug__" : Str))&&!(x==("__classdict__" : Str))&&!(x==("__name__" : Str))
noncomputable def bD {α:Type} (x:Str):List (Str×α)->Option α
 | []=>none
 | (y,a)::r=>if aM y x then some a else bD x r
noncomputable def Tab.meth (T:Tab) (c:Nat) (m:Str):Option Nat:=(T.cls c).bind fun d=>bD m d.meths
noncomputable def Tab.isIo (T:Tab) (k:Nat):Bool:=match T.fn k with
 | some d=>d.io
 | none=>false
structure bF where
 names:List Str
 pins:List Nat
 sc:List (Str×NameKind)
 own:Nat
noncomputable abbrev Calls:=Nat->List PV->(PV->PV->Om)->Om
structure Ev where
 e:bF->Expr->M PV
 t:bF->Expr->M Bool
noncomputable def Ib (p:f8):M PV:=fun ρ P=>aP (oJ p ρ) fun q=>if aL q then P q ρ else bK (jJ q) (aP (mC p (af q) ρ) fun ρ'=>P (af q) ρ')
noncomputable def fX {α β:Type} (o:Option α) (f:α->β) (g:β):β:=match o with
 | some a=>f a
 | none=>g
noncomputable def s8:Expr->Bool
 | .Subscript _ _ _=>true
 | _=>false
noncomputable def Ix (op:Operator) (q:Int×Int):Option PV:=match op with
 | .Add=>some (.int (q.1+q.2))
 | .Sub=>some (.int (q.1-q.2))
 | _=>none
noncomputable def oV:PV->Option Bool
 | .bool b=>some b
 | _=>none
noncomputable def KK (f:Expr->Env->Option PV) (e:Expr) (ρ:Env):Option PV:=match e with
 | .Constant k _ _=>match k with
  | .int i=>some (.int i)
  | _=>none
 | .BinOp a op b _=>(f a ρ).bind fun x=>(f b ρ).bind fun y=>(j9 x y).bind (Ix op)
 | .IfExp t a b _=>if s8 t then(f t ρ).bind fun x=>(oV x).bind fun r=>if r then f a ρ else f b ρ else none
 | .Subscript b i _=>(f b ρ).bind fun x=>(f i ρ).bind fun y=>(jK y).bind fun k=>(litems x).bind fun l=>(bg k l.length).map (aK l)
 | _=>none
noncomputable def zH (c:bF):Nat->Expr->Env->Option PV
 | 0,_,_=>none
 | n+1,e,ρ=>fX (ja c.names 5 e) (fun p=>(oJ p ρ).bind kH) (KK (zH c n) e ρ)
noncomputable def du (c:bF) (i:Nat) (v:PV) (ρ:Env):Option Env:=if blt i c.own&&!c.pins.any (beq i)then some (aS ρ i v)else none
noncomputable def cZ (T:Tab) (c:bF) (x:Str):Option GV:=match ix x c.names with
 | some _=>none
 | none=>match bD x c.sc with
  | some k=>match k with
   | .globalImplicit=>T.glob x
   | _=>none
  | none=>none
noncomputable def gY (c:bF) (x:Str) (v:PV) (ρ:Env):Option Env:=(ix x c.names).bind fun i=>du c i v ρ
noncomputable def b7 (c:bF):List Str->List PV->Env->Option Env
 | [],[],ρ=>some ρ
 | x::xs,v::vs,ρ=>(gY c x v ρ).bind (b7 c xs vs)
 | _,_,_=>none
noncomputable def cq (c:bF) (t:Expr) (v:PV) (ρ:Env):Option Env:=match t with
 | .Name x _=>gY c x v ρ
 | .Tuple es _ _=>(dX es).bind fun xs=>(mI v).bind fun l=>b7 c xs l ρ
 | _=>none
noncomputable def a9 (bind:PV->Env->Option Env) (body:M Fl):List PV->M Fl
 | [],ρ,P=>P .nxt ρ
 | x::r,ρ,P=>aP (bind x ρ) fun ρ=>body ρ fun fl ρ=>match fl with
  | .nxt=>a9 bind body r ρ P
  | .cnt=>a9 bind body r ρ P
  | .brk=>P .nxt ρ
  | fl=>P fl ρ
noncomputable def gZ (test:M Bool) (body:M Fl):Nat->M Fl
 | 0,_,_=>eO
 | n+1,ρ,P=>test ρ fun b ρ=>if b then body ρ fun fl ρ=>match fl with
  | .nxt=>gZ test body n ρ P
  | .cnt=>gZ test body n ρ P
  | .brk=>P .nxt ρ
  | .exc=>eO
  | .ret v=>P (.ret v) ρ else P .nxt ρ
noncomputable def cK (bind:PV->Env->Option Env) (turn:List PV->M (List PV)):List PV->List PV->M (List PV)
 | [],a,ρ,P=>P a ρ
 | x::r,a,ρ,P=>aP (bind x ρ) fun ρ=>turn a ρ fun a ρ=>cK bind turn r a ρ P
noncomputable def bU (scope:Scope):List Str:=scope.names.filterMap fun x=>match x.2 with
 | .local=>if aM x.1 (Str.ofString ".0")then none else some x.1
 | _=>none
section
variable (T:Tab) (Φ:Calls) (r:Ev)
noncomputable def CW (c:bF):List Expr->M (List PV)
 | [],ρ,P=>P [] ρ
 | e::es,ρ,P=>r.e c e ρ fun v ρ=>CW c es ρ fun l ρ=>P (v::l) ρ
noncomputable def mJ (c:bF) (es:List Expr):M (List PV):=fun ρ P=>bK (gX es) (CW r c es ρ P)
noncomputable def BU (c:bF):List Expr->M (List PV)
 | [],ρ,P=>P [] ρ
 | e::es,ρ,P=>match dM e with
  | some x=>aP (ix x c.names) fun i=>bK (bS (aK ρ i)) (BU c es (aS ρ i .LZ) fun l ρ'=>P (aK ρ i::l) ρ')
  | none=>bK (jM e) (r.e c e ρ fun v ρ=>BU c es ρ fun l ρ=>P (v::l) ρ)
noncomputable def ww (c:bF):List Expr->M PV
 | [],_,_=>eO
 | [e],ρ,P=>r.e c e ρ P
 | e::es,ρ,P=>r.e c e ρ fun x ρ=>aP (kI x) fun b=>if b then ww c es ρ P else P x ρ
noncomputable def CX (c:bF):List Expr->M PV
 | [],_,_=>eO
 | [e],ρ,P=>r.e c e ρ P
 | e::es,ρ,P=>r.e c e ρ fun x ρ=>aP (kI x) fun b=>if b then P x ρ else CX c es ρ P
noncomputable def rT (c:bF):List Expr->M Bool
 | [],ρ,P=>P true ρ
 | e::es,ρ,P=>r.t c e ρ fun b ρ=>if b then rT c es ρ P else P false ρ
noncomputable def Iy (c:bF):List Expr->M Bool
 | [],ρ,P=>P false ρ
 | e::es,ρ,P=>r.t c e ρ fun b ρ=>if b then P true ρ else Iy c es ρ P
noncomputable def kJ (c:bF) (e:Expr) (ρ:Env):Option (f8×PV):=(ja c.names 5 e).bind fun p=>(oJ p ρ).bind fun q=>if jJ q then some (p,q)else none
noncomputable def s9:PV->Option (List PV)
 | .lst l=>some l
 | _=>none
noncomputable def mW:PV->Option (Nat×List Str×List PV)
 | .obj cl ks vs=>some (cl,ks,vs)
 | _=>none
noncomputable def ib (c:bF) (e:Expr) (ρ:Env):Option (f8×List PV):=(kJ c e ρ).bind fun q=>(s9 q.2).map fun l=>(q.1,l)
noncomputable def wx (c:bF) (e:Expr) (ρ:Env):Option (f8×List Str×List PV):=(kJ c e ρ).bind fun q=>(mV q.2).map fun l=>(q.1,l)
noncomputable def zI (c:bF) (e:Expr) (ρ:Env):Option (f8×Nat×List Str×List PV):=(kJ c e ρ).bind fun q=>(mW q.2).map fun l=>(q.1,l)
noncomputable def ta:CmpOp->Bool
 | .NotIn=>true
 | _=>false
noncomputable def zJ (op:CmpOp) (x y:PV) (k:Bool->Om):Om:=aP (KJ op x y) fun r=>bK r.1 (k r.2)
noncomputable def oX (c:bF) (a:Expr) (op:CmpOp) (b:Expr):M Bool:=fun ρ P=>match (if pR b then ib c a ρ else none)with
 | some q=>match op with
  | .Eq=>P q.2.isEmpty ρ
  | .NotEq=>bK (q.2.all (plain 7)) (P (!q.2.isEmpty) ρ)
  | _=>eO
 | none=>bK (jM b) (r.e c a ρ fun x ρ=>match (if ta op then wx c b ρ else none)with
  | some q=>zJ op x (.dct q.2.1 q.2.2) fun b=>P b ρ
  | none=>r.e c b ρ fun y ρ=>zJ op x y fun b=>P b ρ)
noncomputable def pS (c:bF) (a:Expr):List CmpOp->List Expr->M Bool
 | [op],[b],ρ,P=>oX r c a op b ρ P
 | [o1,o2],[b,d],ρ,P=>bK (jM b&&jM d) (r.e c a ρ fun x ρ=>r.e c b ρ fun y ρ=>zJ o1 x y fun q=>if q then r.e c d ρ fun z ρ=>zJ o2 y z fun q=>P q ρ else P false ρ)
 | _,_,_,_=>eO
noncomputable def Fz (c:bF):Option Expr->M (Option Int)
 | none,ρ,P=>P none ρ
 | some e,ρ,P=>r.e c e ρ fun x ρ=>match x with
  | .int i=>P (some i) ρ
  | _=>eO
noncomputable def rU (c:bF) (k i:Nat) (as:List Expr):M PV:=fun ρ P=>bK (jJ (aK ρ i)) (mJ r c as ρ fun vs ρ'=>bK (jJ (aK ρ' i)) (Φ k (aK ρ' i::vs.map af) fun v o=>bK (jJ o) (P v (aS ρ' i o))))
noncomputable def wy (c:bF) (k:Nat) (v0:List PV) (as:List Expr):M PV:=fun ρ P=>bK (!T.isIo k) (mJ r c as ρ fun vs ρ'=>Φ k (v0++vs.map af) fun v _=>P v ρ')
noncomputable def rV (c:bF) (k:Nat) (as:List Expr):M PV:=fun ρ P=>if T.isIo k then match as with
 | a::as=>match ja c.names 1 a with
  | some (i,_)=>rU Φ r c k i as ρ P
  | none=>eO
 | []=>eO else wy T Φ r c k [] as ρ P
noncomputable def FA (c:bF) (k:Nat) (as:List Expr):M PV:=fun ρ P=>aP (T.cls k) fun d=>mJ r c as ρ fun vs ρ=>Φ d.init (.obj k [] []::vs.map af) fun v o=>bK (isNone v&&jJ o) (P o ρ)
noncomputable def FB (m:Str):Bool:=aM m (Str.ofString "pop")
noncomputable def BV (m:Str):Bool:=aM m (Str.ofString "get")
noncomputable def uN (o:PV):List PV->Option (Value×List PV)
 | []=>none
 | .pin u .LZ::r=>some (u,o::r)
 | x::r=>(uN o r).map fun q=>(q.1,x::q.2)
noncomputable def tb (p:f8) (o:PV) (w:Value) (ρ:Env) (k:Env->Om):Om:=match oJ p ρ with
 | some (.dct ks vs)=>aP (uN o vs) fun q=>KI q.1 w (aP (mC p (.dct ks q.2) ρ) k)
 | _=>eO
noncomputable def oZ (c:bF) (i:Nat) (w:Value) (t:PV) (m:Str) (as:List Expr):M PV:=fun ρ P=>match t with
 | .obj cl _ _=>aP (T.meth cl m) fun k=>bK (T.isIo k) (mJ r c as ρ fun vs ρ=>Φ k (t::vs.map af) fun v o=>bK (jJ o) (tb (i,[.at T.ali]) o w ρ fun ρ=>P v ρ))
 | _=>eO
noncomputable def wz (c:bF):Expr->Option Nat
 | .Call f _ _ _=>match f with
  | .Attribute b _ _=>(dM b).bind fun x=>ix x c.names
  | _=>none
 | _=>none
noncomputable def BW (c:bF) (m:Str) (as:List Expr) (v:PV):M PV:=fun ρ P=>fX (mW (un v)) (fun q=>aP (T.meth q.1 m) fun k=>wy T Φ r c k [.fz (.obj q.1 q.2.1 q.2.2)] as ρ P)
 (bK (BV m) (aP (mV (un v)) fun q=>mJ r c as ρ fun l ρ=>aP (wv q.1 q.2 (l.map af)) fun x=>P x ρ))
noncomputable def KL {α:Type}:List α->Option (α×List α)
 | x::l=>some (x,l)
 | []=>none
noncomputable def Lc (c:bF) (b:Expr) (m:Str) (ρ:Env):Option (Nat×Nat):=(zI c b ρ).bind fun q=>if q.1.2.isEmpty then((T.meth q.2.1 m).filter T.isIo).map fun k=>(k,q.1.1)else none
noncomputable def CY (c:bF) (b:Expr) (m:Str) (as:List Expr) (ρ:Env):Option (f8×PV×List PV):=if FB m=true then(one as).bind fun e=>if Ia 0 e=true then(ib c b ρ).bind fun q=>(KL q.2).bind fun t=>if rQ t.1=true then some (q.1,t)else none else none else none
noncomputable def wA (c:bF) (b:Expr) (m:Str) (as:List Expr):M PV:=fun ρ P=>fX (Lc T c b m ρ) (fun q=>rU Φ r c q.1 q.2 as ρ P)
 (fX (CY c b m as ρ) (fun q=>aP (mC q.1 (.lst q.2.2) ρ) fun ρ=>P q.2.1 ρ) (r.e c b ρ fun v ρ=>BW T Φ r c m as v ρ P))
noncomputable def fE (e:Expr):Option (Expr×List Expr×Pos):=match e with
 | .Call f as kws p=>match kws with
  | []=>some (f,as,p)
  | _=>none
 | _=>none
noncomputable def CZ:GV->Option BI
 | .bi b=>some b
 | _=>none
noncomputable def fa (T:Tab) (c:bF) (e:Expr):Option (BI×List Expr):=(fE e).bind fun q=>(dM q.1).bind fun x=>(cZ T c x).bind fun g=>(CZ g).map fun b=>(b,q.2.1)
noncomputable def kg (T:Tab) (c:bF) (e:Expr):Option (BI×List Expr):=(fa T c e).bind fun q=>if q.1=.range∨q.1=.enum∨q.1=.zip then some q else none
noncomputable def hH:Expr->Bool
 | .Name _ _=>true
 | .Tuple _ _ _=>true
 | _=>false
noncomputable def mX:Expr->Bool
 | .Tuple _ _ _=>true
 | _=>false
noncomputable def wB (T:Tab) (c:bF) (b:BI) (as:List Expr):Option (List Expr):=if b=.lst then(one as).bind fun a=>(fa T c a).bind fun q=>if q.1=.range then some q.2 else none else none
noncomputable def wC (T:Tab) (c:bF) (b:BI) (as:List Expr):Option Expr:=if b=.isi then(two as).bind fun q=>(dM q.2).bind fun x=>(cZ T c x).bind fun g=>if CZ g=some .bool∧jM q.1=true then some q.1 else none else none
noncomputable def isStr:PV->Bool
 | .str _=>true
 | _=>false
noncomputable def rW (c:bF) (b:BI) (as:List Expr):M PV:=fun ρ P=>fX (wC T c b as) (fun a=>r.e c a ρ fun v ρ=>bK (isStr v) (P (.bool false) ρ))
 (fX (wB T c b as) (fun as=>mJ r c as ρ fun vs ρ=>aP (cv vs) fun l=>P (.lst l) ρ) (mJ r c as ρ fun vs ρ=>aP (builtin b vs) fun x=>P x ρ))
noncomputable def tc (e:Expr):Bool:=match e with
 | .Call f as _ _=>match f with
  | .Name _ _=>!as.isEmpty
  | _=>true
 | _=>true
noncomputable def zr (b:Expr) (ap p:Pos):Bool:=tc b&&(ap.endLine==p.line)
noncomputable def jc (c:bF) (p:Pos) (f:Expr) (as:List Expr):M PV:=fun ρ P=>match f with
 | .Name x _=>aP (cZ T c x) fun g=>match g with
  | .fn k=>rV T Φ r c k as ρ P
  | .cls k=>FA T Φ r c k as ρ P
  | .bi b=>rW T r c b as ρ P
  | .v _=>eO
 | .Attribute b m ap=>bK (zr b ap p) (wA T Φ r c b m as ρ P)
 | _=>eO
noncomputable def wD (c:bF) (t e:Expr):M (List PV):=fun ρ P=>bK (hH t) (fX (kg T c e) (fun q=>bK (mX t||decide (q.1=.range)) (mJ r c q.2 ρ fun vs ρ=>aP (oU q.1 vs) fun l=>P l ρ)) (bK (jM e) (r.e c e ρ fun v ρ=>aP (items v) fun l=>P l ρ)))
noncomputable def Ic (c:bF) (elt:Expr):List Comprehension->List PV->M (List PV)
 | [],a,ρ,P=>r.e c elt ρ fun v ρ=>bK (cA (a++[v])) (P (a++[v]) ρ)
 | g::gs,a,ρ,P=>bK (g.is_async==0) (wD T r c g.target g.iter ρ fun l ρ=>cK (cq c g.target) (fun a ρ P=>rT r c g.ifs ρ fun b ρ=>if b then Ic c elt gs a ρ P else P a ρ) l a ρ P)
noncomputable def cO (scope:Scope) (y:Str):Str:=match bD y scope.names with
 | some .free=>y
 | _=>⟨#[]⟩
noncomputable def rX (scope:Scope) (c:bF):bF:=⟨bU scope++c.names.map (cO scope),c.pins.map (·+(bU scope).length),scope.names,(bU scope).length⟩
noncomputable def bV:List Str->Bool
 | []=>true
 | x::r=>!rR x r&&bV r
noncomputable def Iz:ScopeKind->Bool
 | .function=>true
 | _=>false
noncomputable def Id (p:NameKind->Bool):Option NameKind->Bool
 | some k=>p k
 | none=>false
noncomputable def zK (scope:Scope) (c:bF):Bool:=Iz scope.kind&&bV (bU scope)&&(bU scope).all bk&&scope.names.all fun y=>match y.2 with
 | .local=>Id (fun|.local=>true|_=>false) (bD y.1 scope.names)
 | .cell=>false
 | .free=>(ix y.1 c.names).isSome&&Id (fun|.cell=>true|.free=>true|_=>false) (bD y.1 c.sc)
 | _=>true
noncomputable def rY (c:bF) (elt:Expr) (gs:List Comprehension) (scope:Scope):M PV:=fun ρ P=>match gs with
 | []=>eO
 | g::gs=>bK (g.is_async==0&&zK scope c) (wD T r c g.target g.iter ρ fun l ρ=>cK (cq (rX scope c) g.target)
   (fun a ρ P=>rT r (rX scope c) g.ifs ρ fun b ρ=>if b then Ic T r (rX scope c) elt gs a ρ P else P a ρ) l [] ((bU scope).map (fun _=>.LZ)++ρ)
   fun l ρ=>P (.lst l) (ρ.drop (bU scope).length))
set_option genCtorIdx false in
inductive Sub where
 | cut (lo hi:Option Expr)|rev|i (e:Expr)|no
noncomputable def wE:Expr->Option (Option Expr×Option Expr×Option Expr×Pos)
 | .Slice lo hi st p=>some (lo,hi,st,p)
 | _=>none
noncomputable def mY (e:Expr):Sub:=match wE e with
 | some (lo,hi,st,_)=>match st with
  | none=>.cut lo hi
  | some s=>if lo.isNone&&hi.isNone&&j8 s then .rev else .no
 | none=>.i e
noncomputable def cw (v:PV) (i w:PV):Option PV:=match v with
 | .lst l=>match i with
  | .int k=>(bg k l.length).map fun j=>.lst (aS l j w)
  | _=>none
 | .dct ks vs=>match i with
  | .str x=>if blt ks.length 1000 then some (.dct (oH x ks) (kvs x w ks vs))else none
  | .int _=>match ks with
   | []=>match vs with
    | []=>some .LZ     -- a dict of numbers is not followed
    | _=>none
   | _=>none
  | _=>none
 | _=>none
noncomputable def kK (c:bF) (b s:Expr):M PV:=fun ρ P=>match mY s with
 | .cut lo hi=>r.e c b ρ fun x ρ=>Fz r c lo ρ fun i ρ=>Fz r c hi ρ fun j ρ=>aP (litems x) fun l=>P (.lst (cut l i j)) ρ
 | .rev=>r.e c b ρ fun x ρ=>aP (litems x) fun l=>P (.lst l.reverse) ρ
 | .i s=>match kJ c b ρ with
  | some q=>if q.1.2.isEmpty then r.e c s ρ fun k ρ=>aP (fR (aK ρ q.1.1) k) fun v=>bK (aL v) (P v ρ)
   else aP (zH c 8 s ρ) fun k=>aP (fR q.2 k) fun v=>bK (aL v) (P v ρ)
  | none=>r.e c b ρ fun x ρ=>r.e c s ρ fun k ρ=>aP (aw x k) fun v=>P v ρ
 | .no=>eO
noncomputable def wF (c:bF) (e:Expr):M PV:=fun ρ P=>match e with
 | .Constant k _ _=>match k with
  | .none=>P .none ρ
  | .bool b=>P (.bool b) ρ
  | .int i=>P (.int i) ρ
  | .str s=>bK (EU s) (P (.str s) ρ)
  | _=>eO
 | .Name x _=>aP (cZ T c x) fun g=>match g with
  | .v p=>P p ρ
  | _=>eO
 | .UnaryOp op a _=>match op with
  | .Not=>r.e c a ρ fun x ρ=>aP (kI x) fun b=>P (.bool (!b)) ρ
  | .USub=>match a with
   | .Constant k _ _=>match k with
    | .int i=>P (.int (-i)) ρ
    | _=>eO
   | _=>eO
  | _=>eO
 | .Attribute b f _=>bK (tc b) (r.e c b ρ fun x ρ=>aP (s7 f x) fun v=>P v ρ)
 | .Subscript b s _=>kK r c b s ρ P
 | .Tuple es _ _=>mJ r c es ρ fun l ρ=>P (.tup (l.map af)) ρ
 | .List es _=>mJ r c es ρ fun l ρ=>P (.lst l) ρ
 | .Dict ks es _=>aP (ia ks) fun ks=>bK (bV ks&&ble ks.length 15&&beq ks.length es.length) (BU r c es ρ fun l ρ=>P (.dct ks l) ρ)
 | .BinOp a op b _=>r.e c a ρ fun x ρ=>r.e c b ρ fun y ρ=>aP (bin op x y) fun v=>bK (Iv v) (P v ρ)
 | .BoolOp op es _=>match op with
  | .And=>ww r c es ρ P
  | .Or=>CX r c es ρ P
 | .Compare a ops bs _=>pS r c a ops bs ρ fun b ρ=>P (.bool b) ρ
 | .IfExp t a b _=>r.t c t ρ fun q ρ=>if q then r.e c a ρ P else r.e c b ρ P
 | .Call f as kws p=>match kws with
  | []=>jc T Φ r c p f as ρ fun v ρ=>bK (bS v) (P v ρ)
  | _=>eO
 | .ListComp elt gs scope _=>rY T r c elt gs scope ρ P
 | _=>eO
noncomputable def FC (c:bF) (e:Expr):M PV:=fun ρ P=>fX (ja c.names 5 e) (fun p=>Ib p ρ P) (wF T Φ r c e ρ P)
noncomputable def BX (c:bF) (e:Expr):M Bool:=fun ρ P=>match e with
 | .UnaryOp op a _=>match op with
  | .Not=>r.t c a ρ fun b ρ=>P (!b) ρ
  | _=>eO
 | .BoolOp op es _=>match op with
  | .And=>rT r c es ρ P
  | .Or=>Iy r c es ρ P
 | .IfExp t a b _=>r.t c t ρ fun q ρ=>if q then r.t c a ρ P else r.t c b ρ P
 | .Compare a ops bs _=>pS r c a ops bs ρ P
 | e=>r.e c e ρ fun v ρ=>aP (kI v) fun b=>P b ρ
end
noncomputable def ev (T:Tab) (Φ:Calls):Nat->Ev
 | 0=>⟨fun _ _ _ _=>eO,fun _ _ _ _=>eO⟩
 | n+1=>⟨FC T Φ (ev T Φ n),BX (ev T Φ n)⟩
noncomputable def eP:PV->Bool
 | .exc=>true
 | _=>false
noncomputable def BY (T:Tab) (c:bF) (e:Expr):Option (Expr×Expr×List Expr×Pos):=(fa T c e).bind fun q=>(two q.2).bind fun t=>if q.1=.max∧jM t.1=true then(fE t.2).map fun q=>(t.1,q)else none
noncomputable def ic:Expr->Bool
 | .ListComp _ _ _ _=>true
 | .SetComp _ _ _ _=>true
 | .DictComp _ _ _ _ _=>true
 | _=>false
noncomputable def FD (m:Str):Bool:=aM m (Str.ofString "append")
noncomputable def wG (m:Str):Bool:=aM m (Str.ofString "extend")
noncomputable def wH (e:Expr):Option (Expr×Str×Pos):=match e with
 | .Attribute b m p=>some (b,m,p)
 | _=>none
noncomputable def FE (e:Expr):Option (Expr×Bool×Expr):=(fE e).bind fun q=>(wH q.1).bind fun t=>(one q.2.1).bind fun a=>if(zr t.1 t.2.2 q.2.2&&(FD t.2.1||wG t.2.1))=true then some (t.1,wG t.2.1,a)else none
noncomputable def wI (e:Expr):Option ((Expr×Str)×List Expr×Expr×List Expr×Pos):=(fE e).bind fun q=>(wH q.1).bind fun t=>(fE t.1).bind fun u=>if zr t.1 t.2.2 q.2.2=true then some ((t.1,t.2.1),q.2.1,u)else none
noncomputable def pT (e:Expr):Option (List Expr):=match e with
 | .Tuple vs _ _=>some vs
 | _=>none
noncomputable def Ie (vs:List Expr):Bool:=!vs.all (constantsAlone 8)||vs.all (foldedForSure 8)
noncomputable def td:PV->Option (Value×PV)
 | .pin w t=>some (w,t)
 | _=>none
section
variable (T:Tab) (Φ:Calls) (r:Ev)
noncomputable def EV (c:bF) (e:Expr):M PV:=fun ρ P=>fX (BY T c e) (fun q=>r.e c q.1 ρ fun x ρ=>jc T Φ r c q.2.2.2 q.2.1 q.2.2.1 ρ fun y ρ=>if eP y then P .exc ρ else aP (builtin .max [x,y]) fun v=>P v ρ)
 (fX (fE e) (fun q=>jc T Φ r c q.2.2 q.1 q.2.1 ρ P) (r.e c e ρ P))
noncomputable def aV (S:Stmt->M Fl):List Stmt->M Fl
 | [],ρ,P=>P .nxt ρ
 | s::b,ρ,P=>S s ρ fun fl ρ=>match fl with
  | .nxt=>aV S b ρ P
  | fl=>P fl ρ
noncomputable def BZ (c:bF) (t v:Expr):M Fl:=fun ρ P=>match t with
 | .Name x _=>aP (ix x c.names) fun i=>EV T Φ r c v ρ fun v ρ=>if eP v then P .exc ρ else bK (bS v) (aP (du c i v ρ) fun ρ=>P .nxt ρ)
 | .Tuple ts _ _=>aP (dX ts) fun xs=>fX (pT v) (fun vs=>bK (bV xs&&Ie vs) (mJ r c vs ρ fun l ρ=>aP (b7 c xs l ρ) fun ρ=>P .nxt ρ))
  (r.e c v ρ fun v ρ=>aP (mI v) fun l=>aP (b7 c xs l ρ) fun ρ=>P .nxt ρ)
 | .Attribute b f _=>r.e c v ρ fun v ρ=>aP (zI c b ρ) fun q=>aP (T.cls q.2.1) fun d=>bK (rR f d.fields&&blt q.2.2.1.length 64) (aP (mC q.1 (.obj q.2.1 (oH f q.2.2.1) (kvs f v q.2.2.1 q.2.2.2)) ρ) fun ρ=>P .nxt ρ)
 | .Subscript b s _=>r.e c v ρ fun v ρ=>aP (kJ c b ρ) fun q=>if q.1.2.isEmpty then r.e c s ρ fun k ρ=>aP (cw (aK ρ q.1.1) k v) fun o=>P .nxt (aS ρ q.1.1 o)
  else aP (zH c 8 s ρ) fun k=>aP (cw q.2 k v) fun o=>bK (jJ o) (aP (mC q.1 o ρ) fun ρ=>P .nxt ρ)
 | _=>eO
noncomputable def B0 (c:bF) (b:Expr) (isE:Bool) (a:Expr):M Fl:=fun ρ P=>aP (ib c b ρ) fun q=>bK (jM a) (if q.1.2.isEmpty then r.e c a ρ fun v ρ=>aP (s9 (aK ρ q.1.1)) fun l=>aP (if isE then items v else some [v]) fun x=>bK (cA (l++x)) (P .nxt (aS ρ q.1.1 (.lst (l++x))))
 else bK (!isE) (aP (zH c 8 a ρ) fun v=>bK (cA (q.2++[v])) (aP (mC q.1 (.lst (q.2++[v])) ρ) fun ρ=>P .nxt ρ)))
noncomputable def te (c:bF) (e:Expr) (ρ:Env):Option (f8×List Str×List PV×Str):=match e with
 | .Subscript b s _=>(wx c b ρ).bind fun q=>(zH c 8 s ρ).bind fun k=>match k with
  | .str y=>if jJ (cu y q.2.1 q.2.2)then some (q.1,q.2.1,q.2.2,y)else none
  | _=>none
 | _=>none
noncomputable def C0 (c:bF) (e:Expr):M Fl:=fun ρ P=>fX (FE e) (fun q=>B0 r c q.1 q.2.1 q.2.2 ρ P)
 (fX (wI e) (fun q=>jc T Φ r c q.2.2.2.2 q.2.2.1 q.2.2.2.1 ρ fun v ρ=>aP (td v) fun w=>aP (wz c q.1.1) fun i=>oZ T Φ r c i w.1 w.2 q.1.2 q.2.1 ρ fun v ρ=>bK (isNone v) (P .nxt ρ))
 (bK (!ic e) (r.e c e ρ fun v ρ=>bK (isNone v) (P .nxt ρ))))
noncomputable def wJ (i:Nat) (c:bF):bF:=⟨c.names,i::c.pins,c.sc,c.own⟩
noncomputable def fb (c:bF) (S:bF->Stmt->M Fl) (t it:Expr) (b:List Stmt):M Fl:=fun ρ P=>match (ib c it ρ).filter fun q=>q.1.2.isEmpty with
 | some q=>bK (hH t&&q.2.all aL) (a9 (cq (wJ q.1.1 c) t) (aV (S (wJ q.1.1 c)) b) q.2 (aS ρ q.1.1 .LZ) fun fl ρ=>match fl,aK ρ q.1.1 with
  | .nxt,.LZ=>P .nxt (aS ρ q.1.1 (.lst q.2))
  | _,_=>eO)
 | none=>wD T r c t it ρ fun l ρ=>a9 (cq c t) (aV (S c) b) l ρ P
noncomputable def wK (c:bF) (x:Str):Bool:=match bD x c.sc with
 | some k=>match k with
  | .globalImplicit=>(ix x c.names).isNone
  | _=>false
 | none=>false
noncomputable def wL (c:bF) (e:Expr):Option Expr:=(fE e).bind fun q=>(dM q.1).bind fun x=>(one q.2.1).bind fun a=>if(aM x T.bad&&wK c x&&jM a)=true then some a else none
noncomputable def tf (s:Stmt):Option (Expr×Expr):=match s with
 | .Assign ts v _=>match ts with
  | [t]=>some (t,v)
  | _=>none
 | _=>none
noncomputable def FG (c:bF):ExceptHandler->Option (Str×Int)
 | .ExceptHandler ty nm b _=>match nm with
  | some _=>none
  | none=>ty.bind fun ty=>(dM ty).bind fun y=>(one b).bind fun s=>(tf s).bind fun q=>(dM q.1).bind fun x=>(zF q.2).bind fun j=>if(aM y T.bad&&wK c y)=true then some (x,j)else none
noncomputable def B1 (c:bF) (b:List Stmt) (hs:List ExceptHandler):Option (Str×Expr×Int):=(one b).bind fun s=>(one hs).bind fun h=>(tf s).bind fun q=>(dM q.1).bind fun x=>(FG T c h).bind fun w=>if aM w.1 x=true then some (x,q.2,w.2)else none
noncomputable def B2 (c:bF) (b:List Stmt) (hs:List ExceptHandler):M Fl:=fun ρ P=>aP (B1 T c b hs) fun q=>aP (ix q.1 c.names) fun i=>EV T Φ r c q.2.1 ρ fun v ρ=>if eP v=true then aP (du c i (.int q.2.2) ρ) fun ρ=>P .nxt ρ
 else bK (bS v) (aP (du c i v ρ) fun ρ=>P .nxt ρ)
noncomputable def B3 (S:bF->Stmt->M Fl) (c:bF) (s:Stmt):M Fl:=fun ρ P=>match s with
 | .Assign ts v p=>aP (tf (.Assign ts v p)) fun q=>BZ T Φ r c q.1 q.2 ρ P
 | .Expr e _=>C0 T Φ r c e ρ P
 | .If t a b _=>r.t c t ρ fun q ρ=>if q then aV (S c) a ρ P else aV (S c) b ρ P
 | .While t b o _=>match o with
  | []=>gZ (r.t c t) (aV (S c) b) 10000 ρ P
  | _=>eO
 | .For t it b o _=>match o with
  | []=>fb T r c S t it b ρ P
  | _=>eO
 | .Return v _=>match v with
  | some e=>match te c e ρ with
   | some (p,ks,vs,x)=>CS fun w=>aP (mC p (.dct ks (kvs x (.pin w .LZ) ks vs)) ρ) fun ρ=>P (.ret (.pin w (cu x ks vs))) ρ
   | none=>r.e c e ρ fun v ρ=>P (.ret v) ρ
  | none=>P (.ret .none) ρ
 | .Raise x y _=>match x,y with
  | some e,none=>aP (wL T c e) fun a=>r.e c a ρ fun _ ρ=>P .exc ρ
  | _,_=>eO
 | .Try b hs o f _=>match o,f with
  | [],[]=>B2 T Φ r c b hs ρ P
  | _,_=>eO
 | .Pass _=>P .nxt ρ
 | .Break _=>P .brk ρ
 | .Continue _=>P .cnt ρ
 | _=>eO
end
noncomputable def ex (T:Tab) (Φ:Calls) (r:Ev):Nat->bF->Stmt->M Fl
 | 0,_,_,_,_=>eO
 | n+1,c,s,ρ,P=>B3 T Φ r (ex T Φ r n) c s ρ P
noncomputable def B4 (d:uM) (vs:List PV):Option (List PV):=
 if ble vs.length d.np&&ble d.np (vs.length+d.dfl.length)then some (vs++d.dfl.drop (d.dfl.length+vs.length-d.np))else none
noncomputable def pU (d:uM) (ρ:Env):PV:=if d.io then aK ρ 0 else .LZ
noncomputable def FH (d:uM) (P:PV->PV->Om) (fl:Fl) (ρ:Env):Om:=match fl with
 | .ret v=>bK (!eP v) (P v (pU d ρ))
 | .nxt=>P .none (pU d ρ)
 | .exc=>bK (!d.io) (P .exc .LZ)
 | _=>eO
noncomputable def FI (T:Tab) (Φ:Calls) (d:uM) (vs:List PV) (P:PV->PV->Om):Om:=aP (B4 d vs) fun vs=>
 aV (ex T Φ (ev T Φ 30) 12 ⟨d.names,if d.io then[0]else[],d.sc,d.names.length⟩) d.body (vs++replicate (d.names.length-vs.length) .LZ) (FH d P)
noncomputable def aW (T:Tab):Nat->Calls
 | 0,_,_,_=>eO
 | n+1,f,vs,P=>aP (T.fn f) fun d=>FI T (aW T n) d vs P
noncomputable abbrev s (x:String):Str:=Str.ofString x
noncomputable def pw:Program:=PySem.Challenge.pw_pb0601_01
noncomputable def aa (k:Nat):Stmt:=pw.main.body.getD k default
noncomputable def aA (k j:Nat):Stmt:=match aa k with
 | .ClassDef _ _ _ b _ _ _ _ _ _ _=>b.getD j default
 | _=>default
noncomputable def o0 (a:Arguments) (sc:Scope):List Str:=a.args.map (·.arg)++(sc.names.filterMap fun x=>match x.2 with
 | .local=>if rR x.1 (a.args.map (·.arg))then none else some x.1
 | .cell=>if rR x.1 (a.args.map (·.arg))then none else some x.1
 | _=>none)
noncomputable def ao (io:Bool) (dfl:List PV):Stmt->uM
 | .FunctionDef _ a b _ _ _ sc _ _ _=>⟨o0 a sc,a.args.length,dfl,io,sc.names,b⟩
 | _=>⟨[],0,[],false,[],[]⟩
noncomputable def IA:List uM:=[
 ao true [.none] (aA 3 0),
 ao false [] (aa 6),
 ao false [] (aa 16),
 ao false [] (aa 17),
 ao false [] (aa 18),
 ao false [] (aa 19),
 ao false [(.str (s "auto"))] (aa 20),
 ao false [] (aa 21),
 ao true [] (aA 22 0),
 ao true [] (aA 23 0),
 ao false [] (aA 23 1),
 ao false [(.int 125)] (aa 24),
 ao false [] (aa 26),
 ao true [(.tup [])] (aA 27 0),
 ao false [] (aa 28),
 ao false [] (aa 29),
 ao false [] (aa 30),
 ao false [.none] (aa 31),
 ao true [] (aA 32 0),
 ao false [] (aA 32 1),
 ao false [(.str (s "auto")),(.int 125)] (aa 33),
 ao false [] (aa 40),
 ao false [] (aa 41),
 ao false [] (aa 42),
 ao false [] (aa 43),
 ao false [] (aa 44),
 ao false [] (aa 45),
 ao false [] (aa 46),
 ao false [] (aa 47),
 ao false [] (aa 48),
 ao false [] (aa 49),
 ao false [] (aa 50),
 ao false [] (aa 52),
 ao false [] (aa 53),
 ao false [] (aa 54),
 ao false [] (aa 55),
 ao false [] (aa 57),
 ao false [] (aa 58),
 ao false [.none] (aa 59),
 ao false [] (aa 60),
 ao false [] (aa 61),
 ao false [] (aa 62),
 ao false [] (aa 63),
 ao false [(.str (s "auto")),(.int 125)] (aa 64),
 ao false [] (aa 69),
 ao false [] (aa 70),
 ao false [] (aa 71),
 ao false [] (aa 72),
 ao false [] (aa 73),
 ao false [] (aa 74),
 ao false [] (aa 75),
 ao false [] (aa 82),
 ao false [] (aa 83),
 ao false [] (aa 88),
 ao false [] (aa 89),
 ao false [] (aa 90),
 ao true [(.bool false)] (aA 91 0),
 ao true [] (aA 91 1),
 ao true [] (aA 91 2),
 ao true [] (aA 91 3),
 ao false [(.bool false)] (aa 92),
 ao false [(.bool false)] (aa 93),
 ao true [(.str (s "strict")),(.bool false),(.str (s "pairs"))] (aA 117 0),
 ao false [] (aa 119),
 ao true [] (aA 120 0),
 ao false [] (aa 121),
 ao true [] (aA 122 0),
 ao false [] (aA 122 1),
 ao false [] (aA 122 2),
 ao false [] (aA 122 3),
 ao false [] (aa 123),
 ao false [] (aa 124),
 ao false [] (aa 125),
 ao false [] (aa 126),
 ao false [] (aa 127),
 ao false [] (aa 128),
 ao false [] (aa 129),
 ao false [] (aa 130),
 ao false [] (aa 133),
 ao false [] (aa 134),
 ao false [] (aa 135),
 ao false [] (aa 136),
 ao false [] (aa 137),
 ao false [] (aa 138),
 ao false [] (aa 139),
 ao false [] (aa 140),
 ao true [] (aA 141 0),
 ao false [] (aA 141 1),
 ao false [] (aa 142),
 ao false [(.tup [])] (aa 143),
 ao true [.none] (aA 144 0),
 ao false [] (aA 144 1),
 ao false [] (aA 144 3),
 ao false [(.tup [])] (aA 144 4),
 ao false [(.bool false)] (aa 152),
 ao false [] (aa 153),
 ao false [] (aa 154),
 ao false [(.bool false)] (aa 155),
 ao false [(.bool false)] (aa 157),
 ao true [] (aA 158 0),
 ao false [(.str (s "auto")),.none] (aa 159),
 ao false [] (aa 161),
 ao true [] (aA 162 0),
 ao false [] (aA 162 1),
 ao true [] (aA 162 2),
 ao false [] (aa 164),
 ao true [] (aA 165 0),
 ao true [] (aA 165 1),
 ao false [] (aA 165 2),
 ao true [] (aA 165 3),
 ao false [] (aa 169),
 ao true [] (aa 170),
 ao false [] (aa 171),
 ao true [] (aa 172),
 ao false [] (aa 173),
 ao false [] (aa 174),
 ao false [] (aa 175),
 ao false [] (aa 176),
 ao false [] (aa 177),
 ao false [] (aa 178),
 ao false [] (aa 179),
 ao false [] (aa 180),
 ao false [] (aa 181),
 ao false [] (aa 182)]
noncomputable def clsL:List zG:=[
 ⟨[(s "level"),(s "override"),(s "is_isolate")],8,[]⟩,
 ⟨[(s "depth"),(s "entries"),(s "over_isolates"),(s "over_embeddings"),(s "valid_isolates")],9,[((s "last"),10)]⟩,
 ⟨[(s "places"),(s "classes"),(s "level"),(s "sos"),(s "eos"),(s "codes")],13,[]⟩,
 ⟨[(s "begin"),(s "end"),(s "codes"),(s "base"),(s "kinds"),(s "levels"),(s "classes")],18,[((s "sequences"),19)]⟩,
 ⟨[(s "data_asked"),(s "is_legacy"),(s "kind"),(s "is_odd"),(s "picture"),(s "conjunct")],56,[((s "put"),57),((s "is_held"),58),((s "take"),59)]⟩,
 ⟨[(s "strictness"),(s "keep_all"),(s "numbers")],62,[]⟩,
 ⟨[(s "word"),(s "code"),(s "at"),(s "is_joined")],64,[]⟩,
 ⟨[(s "data"),(s "how"),(s "units"),(s "solid"),(s "regional"),(s "numeric")],66,[((s "word"),67),((s "solid_word"),68),((s "is_quote"),69)]⟩,
 ⟨[(s "sums"),(s "ends")],86,[((s "width"),87)]⟩,
 ⟨[(s "data"),(s "how")],90,[((s "opportunities"),91),((s "measure"),92),((s "fit_lines"),93)]⟩,
 ⟨[(s "begin"),(s "end"),(s "codes")],99,[]⟩,
 ⟨[(s "default"),(s "starts"),(s "values")],102,[((s "get"),103),((s "put"),104)]⟩,
 ⟨[(s "defaults"),(s "maps"),(s "properties"),(s "words")],106,[((s "put"),107),((s "get"),108),((s "map_of"),109)]⟩]
noncomputable def globL:List (Str×GV):=[
 ((s "MAX_CODE"),.v (.int 1114111)),
 ((s "MAX_DEPTH"),.v (.int 125)),
 ((s "STRONG"),.v (.tup [(.str (s "L")),(.str (s "R")),(.str (s "AL"))])),
 ((s "EMBEDDINGS"),.v (.tup [(.str (s "RLE")),(.str (s "LRE")),(.str (s "RLO")),(.str (s "LRO"))])),
 ((s "INITIATORS"),.v (.tup [(.str (s "LRI")),(.str (s "RLI")),(.str (s "FSI"))])),
 ((s "REMOVED"),.v (.tup [(.str (s "RLE")),(.str (s "LRE")),(.str (s "RLO")),(.str (s "LRO")),(.str (s "PDF")),(.str (s "BN"))])),
 ((s "SEPARATOR"),.v (.str (s "B"))),
 ((s "CARRIAGE_RETURN"),.v (.int 13)),
 ((s "LINE_FEED"),.v (.int 10)),
 ((s "MOST_BRACKETS"),.v (.int 63)),
 ((s "ISOLATE_SIGNS"),.v (.tup [(.str (s "LRI")),(.str (s "RLI")),(.str (s "FSI")),(.str (s "PDI"))])),
 ((s "NEUTRALS"),.v (.tup [(.str (s "B")),(.str (s "S")),(.str (s "WS")),(.str (s "ON")),(.str (s "LRI")),(.str (s "RLI")),(.str (s "FSI")),(.str (s "PDI"))])),
 ((s "LEFT_OVERS"),.v (.tup [(.str (s "ES")),(.str (s "ET")),(.str (s "CS"))])),
 ((s "NUMBERS"),.v (.tup [(.str (s "EN")),(.str (s "AN"))])),
 ((s "LINE_SEPARATORS"),.v (.tup [(.str (s "S")),(.str (s "B"))])),
 ((s "LINE_BLANKS"),.v (.tup [(.str (s "WS")),(.str (s "FSI")),(.str (s "LRI")),(.str (s "RLI")),(.str (s "PDI"))])),
 ((s "LINE_MARKS_bidilines"),.v (.tup [(.str (s "Mn")),(.str (s "Me"))])),
 ((s "SYLLABLE_FIRST"),.v (.int 44032)),
 ((s "TAILS"),.v (.int 28)),
 ((s "SYLLABLES"),.v (.int 11172)),
 ((s "CLUSTER_ENDS"),.v (.tup [(.str (s "CR")),(.str (s "LF")),(.str (s "Control"))])),
 ((s "CLUSTER_MARKS"),.v (.tup [(.str (s "Extend")),(.str (s "ZWJ"))])),
 ((s "CLUSTER_JOINTS"),.v (.tup [(.str (s "Extend")),(.str (s "Linker"))])),
 ((s "LINE_HARD"),.v (.tup [(.str (s "BK")),(.str (s "CR")),(.str (s "LF")),(.str (s "NL"))])),
 ((s "LINE_BARE"),.v (.tup [(.str (s "BK")),(.str (s "CR")),(.str (s "LF")),(.str (s "NL")),(.str (s "SP")),(.str (s "ZW"))])),
 ((s "LINE_MARKS_linebreaks"),.v (.tup [(.str (s "CM")),(.str (s "ZWJ"))])),
 ((s "LINE_PLAIN"),.v (.tup [(.str (s "AI")),(.str (s "SG")),(.str (s "XX"))])),
 ((s "LINE_CLOSING"),.v (.tup [(.str (s "CL")),(.str (s "CP")),(.str (s "EX")),(.str (s "IS")),(.str (s "SY"))])),
 ((s "LINE_AHEAD_OF_OPENING"),.v (.tup [(.str (s "BK")),(.str (s "CR")),(.str (s "LF")),(.str (s "NL")),(.str (s "OP")),(.str (s "QU")),(.str (s "GL")),(.str (s "SP")),(.str (s "ZW"))])),
 ((s "LINE_BEHIND_CLOSING"),.v (.tup [(.str (s "SP")),(.str (s "GL")),(.str (s "WJ")),(.str (s "CL")),(.str (s "QU")),(.str (s "CP")),(.str (s "EX")),(.str (s "IS")),(.str (s "SY")),(.str (s "BK")),(.str (s "CR")),(.str (s "LF")),(.str (s "NL")),(.str (s "ZW"))])),
 ((s "LINE_ALPHABETIC"),.v (.tup [(.str (s "AL")),(.str (s "HL"))])),
 ((s "LINE_IDEOGRAPHIC"),.v (.tup [(.str (s "ID")),(.str (s "EB")),(.str (s "EM"))])),
 ((s "LINE_AFFIXES"),.v (.tup [(.str (s "PR")),(.str (s "PO"))])),
 ((s "LINE_SYLLABIC"),.v (.tup [(.str (s "JL")),(.str (s "JV")),(.str (s "JT")),(.str (s "H2")),(.str (s "H3"))])),
 ((s "LINE_INNER"),.v (.tup [(.str (s "NU")),(.str (s "SY")),(.str (s "IS"))])),
 ((s "LINE_KEPT"),.v (.tup [(.str (s "AL")),(.str (s "HL")),(.str (s "ID")),(.str (s "NU")),(.str (s "JL")),(.str (s "JV")),(.str (s "JT")),(.str (s "H2")),(.str (s "H3"))])),
 ((s "LINE_NUMBERS"),.v (.tup [(.tup [(.str (s "CL")),(.str (s "PO"))]),(.tup [(.str (s "CP")),(.str (s "PO"))]),(.tup [(.str (s "CL")),(.str (s "PR"))]),(.tup [(.str (s "CP")),(.str (s "PR"))]),(.tup [(.str (s "NU")),(.str (s "PO"))]),(.tup [(.str (s "NU")),(.str (s "PR"))]),(.tup [(.str (s "PO")),(.str (s "OP"))]),(.tup [(.str (s "PO")),(.str (s "NU"))]),(.tup [(.str (s "PR")),(.str (s "OP"))]),(.tup [(.str (s "PR")),(.str (s "NU"))]),(.tup [(.str (s "HY")),(.str (s "NU"))]),(.tup [(.str (s "IS")),(.str (s "NU"))]),(.tup [(.str (s "NU")),(.str (s "NU"))]),(.tup [(.str (s "SY")),(.str (s "NU"))])])),
 ((s "LINE_JAMO"),.v (.fz (.dct [(s "JL"),(s "JV"),(s "H2"),(s "JT"),(s "H3")] [(.tup [(.str (s "JL")),(.str (s "JV")),(.str (s "H2")),(.str (s "H3"))]),(.tup [(.str (s "JV")),(.str (s "JT"))]),(.tup [(.str (s "JV")),(.str (s "JT"))]),(.tup [(.str (s "JT"))]),(.tup [(.str (s "JT"))])]))),
 ((s "LINE_ITERATION"),.v (.tup [(.int 12293),(.int 12347),(.int 12445),(.int 12446),(.int 12541),(.int 12542)])),
 ((s "DOTTED_CIRCLE"),.v (.int 9676)),
 ((s "WIDTH_REFUSED"),.v (.tup [(.str (s "Cc")),(.str (s "Zl")),(.str (s "Zp")),(.str (s "Cs"))])),
 ((s "WIDTH_MARKS"),.v (.tup [(.str (s "Mn")),(.str (s "Me"))])),
 ((s "WIDTH_SOFT_HYPHEN"),.v (.int 173)),
 ((s "WIDTH_TEXT_SIGN"),.v (.int 65038)),
 ((s "WIDTH_PICTURE_SIGN"),.v (.int 65039)),
 ((s "WIDTH_KEYCAP"),.v (.int 8419)),
 ((s "_law_sorts"),.v (.tup [(.tup [(.int 97),(.str (s "L")),(.str (s "AL")),(.int 1),(.str (s "Ll")),(.str (s "Other"))]),(.tup [(.int 98),(.str (s "L")),(.str (s "AL")),(.int 1),(.str (s "Ll")),(.str (s "Other"))]),(.tup [(.int 1488),(.str (s "R")),(.str (s "AL")),(.int 1),(.str (s "Lo")),(.str (s "Other"))]),(.tup [(.int 1489),(.str (s "R")),(.str (s "AL")),(.int 1),(.str (s "Lo")),(.str (s "Other"))]),(.tup [(.int 19968),(.str (s "L")),(.str (s "ID")),(.int 2),(.str (s "Lo")),(.str (s "Other"))]),(.tup [(.int 32),(.str (s "WS")),(.str (s "SP")),(.int 1),(.str (s "Zs")),(.str (s "Other"))]),(.tup [(.int 10),(.str (s "B")),(.str (s "LF")),(.int 0),(.str (s "Cc")),(.str (s "LF"))])])),
 ((s "_law_mark"),.v (.tup [(.int 769),(.str (s "NSM")),(.str (s "CM")),(.int 0),(.str (s "Mn")),(.str (s "Extend"))])),
 ((s "place_by_half"),.fn 1),
 ((s "bidi_kinds"),.fn 2),
 ((s "paragraphs"),.fn 3),
 ((s "isolate_pairs"),.fn 4),
 ((s "bidi_first_strong"),.fn 5),
 ((s "base_level"),.fn 6),
 ((s "bidi_base"),.fn 7),
 ((s "explicit"),.fn 11),
 ((s "level_runs"),.fn 12),
 ((s "bidi_direction"),.fn 14),
 ((s "bidi_level_beside"),.fn 15),
 ((s "bidi_joined_runs"),.fn 16),
 ((s "isolating_sequences"),.fn 17),
 ((s "bidi_paragraphs"),.fn 20),
 ((s "bidi_marks"),.fn 21),
 ((s "bidi_arabic_numbers"),.fn 22),
 ((s "bidi_arabic_letters"),.fn 23),
 ((s "bidi_separators"),.fn 24),
 ((s "bidi_runs"),.fn 25),
 ((s "bidi_beside"),.fn 26),
 ((s "bidi_terminators"),.fn 27),
 ((s "bidi_left_overs"),.fn 28),
 ((s "bidi_left_numbers"),.fn 29),
 ((s "weak_classes"),.fn 30),
 ((s "weak"),.fn 31),
 ((s "bracket_pairs_of"),.fn 32),
 ((s "bracket_pairs"),.fn 33),
 ((s "bidi_strong"),.fn 34),
 ((s "bidi_embedding"),.fn 35),
 ((s "bracket_classes"),.fn 36),
 ((s "neutral_classes"),.fn 37),
 ((s "neutral"),.fn 38),
 ((s "implicit_level"),.fn 39),
 ((s "implicit"),.fn 40),
 ((s "sequence_levels"),.fn 41),
 ((s "paragraph_levels"),.fn 42),
 ((s "bidi_levels"),.fn 43),
 ((s "line_levels"),.fn 44),
 ((s "line_turned"),.fn 45),
 ((s "reordered"),.fn 46),
 ((s "is_line_mark"),.fn 47),
 ((s "marks_behind"),.fn 48),
 ((s "mirrored"),.fn 49),
 ((s "shown_lines"),.fn 50),
 ((s "is_hangul_syllable"),.fn 51),
 ((s "hangul_kind"),.fn 52),
 ((s "cluster_kind"),.fn 53),
 ((s "cluster_hangul_joins"),.fn 54),
 ((s "cluster_pair"),.fn 55),
 ((s "cluster_places"),.fn 60),
 ((s "clusters_of"),.fn 61),
 ((s "line_class"),.fn 63),
 ((s "line_units"),.fn 65),
 ((s "line_rule_hard"),.fn 70),
 ((s "line_rule_spaces"),.fn 71),
 ((s "line_rule_glue"),.fn 72),
 ((s "line_rule_closing"),.fn 73),
 ((s "line_rule_quotes"),.fn 74),
 ((s "line_rule_over_spaces"),.fn 75),
 ((s "line_rule_signs"),.fn 76),
 ((s "line_rule_letters"),.fn 77),
 ((s "line_rule_numbers"),.fn 78),
 ((s "line_rule_syllables"),.fn 79),
 ((s "line_is_aksara"),.fn 80),
 ((s "line_rule_aksaras"),.fn 81),
 ((s "line_rule_brackets"),.fn 82),
 ((s "line_rule_pictures"),.fn 83),
 ((s "line_verdict"),.fn 84),
 ((s "line_verdicts"),.fn 85),
 ((s "line_last_within"),.fn 88),
 ((s "line_fitted"),.fn 89),
 ((s "code_columns"),.fn 94),
 ((s "width_is_flag"),.fn 95),
 ((s "width_wish"),.fn 96),
 ((s "cluster_columns"),.fn 97),
 ((s "cluster_widths"),.fn 98),
 ((s "laid_out"),.fn 100),
 ((s "range_are_like"),.fn 101),
 ((s "data_defaults"),.fn 105),
 ((s "_law_deck"),.fn 110),
 ((s "_law_draw"),.fn 111),
 ((s "_law_data"),.fn 112),
 ((s "_law_clusters"),.fn 113),
 ((s "_law_paragraphs"),.fn 114),
 ((s "_law_base"),.fn 115),
 ((s "_law_sides"),.fn 116),
 ((s "_law_levels"),.fn 117),
 ((s "_law_order"),.fn 118),
 ((s "_law_may_break"),.fn 119),
 ((s "_law_width"),.fn 120),
 ((s "_law_lines"),.fn 121),
 ((s "_law_shown"),.fn 122),
 ((s "law"),.fn 123),
 ((s "BidiEntry"),.cls 0),
 ((s "BidiStack"),.cls 1),
 ((s "BidiSequence"),.cls 2),
 ((s "BidiParagraph"),.cls 3),
 ((s "ClusterStream"),.cls 4),
 ((s "LineHow"),.cls 5),
 ((s "LineUnit"),.cls 6),
 ((s "LineView"),.cls 7),
 ((s "LineMeasure"),.cls 8),
 ((s "LineBreaks"),.cls 9),
 ((s "LaidLine"),.cls 10),
 ((s "RangeMap"),.cls 11),
 ((s "Data"),.cls 12),
 ((s "len"),.bi .len),
 ((s "list"),.bi .lst),
 ((s "max"),.bi .max),
 ((s "sorted"),.bi .sorted),
 ((s "sum"),.bi .sum),
 ((s "int"),.bi .int),
 ((s "isinstance"),.bi .isi),
 ((s "range"),.bi .range),
 ((s "enumerate"),.bi .enum),
 ((s "zip"),.bi .zip),
 ((s "bool"),.bi .bool)]
noncomputable def TT:Tab:={glob:=fun x=>bD x globL,fn:=fun k=>IA[k]?,cls:=fun k=>clsL[k]?,ali:=s "maps",bad:=s "BadCode" }
noncomputable def IB:Nat:=123
end
end Mine.Internal
namespace Mine.Internal
section
open PySem PySem.W PyProof.Rows PySem.Calls
noncomputable abbrev PH:=Addr->Option Obj
def PH.le (Z Z':PH):Prop:=∀a o,Z a=some o->Z' a=some o
noncomputable def PH.un (x y:PH):PH:=fun a=>(x a).or (y a)
def PH.dj (x y:PH):Prop:=∀a,x a=none∨y a=none
noncomputable def PH.one (a:Addr) (o:Obj):PH:=fun b=>if b=a then some o else none
section
variable {x y z m:PH} {a b:Addr} {o:Obj}
theorem le_refl (Z:PH):Z.le Z:=fun zz zz e=>e
theorem ay:PH.le (fun zz=>none) x:=fun zz zz e=>nomatch e
theorem aE:PH.dj (fun zz=>none) x:=fun zz=>.inl rfl
theorem le_trans (h:x.le y) (k:y.le z):x.le z:=fun a o e=>k a o (h a o e)
theorem aR (d:x.dj y):y.dj x:=fun a=>(d a).symm
theorem b4 (l:x.le y) (e:y a=none):x a=none:=by
 cases q:x a with
 | none=>rfl
 | some o=>have:=l a o q;rw[e]at this;exact no this
theorem fc (d:x.dj y) (l:z.le x):z.dj y:=fun a=>(d a).imp_left (b4 l)
theorem un_none:x.un y a=none↔x a=none∧y a=none:=Option.or_eq_none_iff
theorem ti (d:x.dj z) (k:y.dj z):(x.un y).dj z:=fun a=>(d a).elim (fun e=>(k a).imp_left fun e'=>un_none.mpr ⟨e,e'⟩) .inr
theorem pV (e:x a=some o):x.un y a=some o:=by unfold PH.un;rw[e];rfl
theorem kL:x.le (x.un y):=fun zz zz e=>pV e
theorem jd (d:x.dj y):y.le (x.un y):=fun a o e=>by
 unfold PH.un
 rw[(d a).resolve_right (by rw[e];exact fun h=>nomatch h)]
 exact e
theorem jP (h:x.le m) (k:y.le m):(x.un y).le m:=fun a o e=>by
 unfold PH.un at e
 cases q:x a with
 | none=>rw[q]at e;exact k a o e
 | some ob=>rw[q]at e;cases e;exact h a _ q
theorem b8 (a:Addr) (o:Obj):PH.one a o a=some o:=if_pos rfl
theorem dN (h:b≠a):PH.one a o b=none:=if_neg h
theorem ei (e:y a=none):(PH.one a o).dj y:=fun b=>by
 by_cases h:b=a
 ·exact .inr (h▸e)
 ·exact .inl (dN h)
theorem jQ (d:x.dj y) (e:x a=some o):y a=none:=(d a).resolve_left (by rw[e];exact fun h=>nomatch h)
end
-- assertions
structure a7 where
 p:PH->PH->Prop
 mono:∀{Z Z' m m'},PH.le Z Z'->PH.le m m'->p Z m->p Z' m'
inductive spP (A B:PH->PH->Prop) (Z m:PH):Prop
 | mk (x y:PH) (d:PH.dj x y) (e:PH.le x m) (f:PH.le y m) (a:A Z x) (b:B Z y)
theorem kM {A B A' B':PH->PH->Prop} {Z Z' m m':PH} (hA:∀x,A Z x->A' Z' x) (hB:∀x,B Z x->B' Z' x) (l:PH.le m m'):spP A B Z m->spP A' B' Z' m':=by
 rintro⟨x,y,d,e,f,a,b⟩
 exact⟨x,y,d,le_trans e l,le_trans f l,hA x a,hB y b⟩
theorem kN {A B:PH->PH->Prop} {Z Z' m m':PH} (hA:∀x,A Z x->A Z' x) (hB:∀x,B Z x->B Z' x) (l:PH.le m m'):spP A B Z m->spP A B Z' m':=kM hA hB l
noncomputable def sp (A B:a7):a7:=⟨spP A.p B.p,fun l k=>kM (fun x=>A.mono l (le_refl x)) (fun x=>B.mono l (le_refl x)) k⟩
def FJ (a:Addr) (o:Obj):PH->PH->Prop:=fun zz m=>m a=some o
noncomputable def pt (a:Addr) (o:Obj):a7:=⟨FJ a o,fun zz k h=>k a o h⟩
noncomputable def xs {α:Type} (F:α->a7):a7:=⟨fun Z m=>∃x,(F x).p Z m,fun l k h=>h.elim fun x h=>⟨x,(F x).mono l k h⟩⟩
noncomputable def pu (φ:Prop) (A:a7):a7:=⟨fun Z m=>φ∧A.p Z m,fun l k h=>⟨h.1,A.mono l k h.2⟩⟩
noncomputable def wd {α:Type} (F G:α->a7):a7:=⟨fun Z y=>∀i Z' x m,PH.le Z Z'->PH.dj x y->PH.le x m->PH.le y m->(F i).p Z' x->(G i).p Z' m,
 fun l k h i Z' x m l' d e f q=>h i Z' x m (le_trans l l') (aR (fc (aR d) k)) e (le_trans k f) q⟩
def cM (A B:a7):Prop:=∀Z m,A.p Z m->B.p Z m
section
variable {A B C D:a7}
theorem rZ:cM (sp A B) (sp B A):=by
 rintro zz zz ⟨x,y,d,e,f,a,b⟩
 exact⟨y,x,aR d,f,e,b,a⟩
theorem bM:cM (sp (sp A B) C) (sp A (sp B C)):=by
 rintro zz zz ⟨w,z,d,e,f,⟨x,y,d',e',f',a,b⟩,c⟩
 exact⟨x,y.un z,aR (ti (aR d') (aR (fc d e'))),le_trans e' e,jP (le_trans f' e) f,a,y,z,fc d f',kL,jd (fc d f'),b,c⟩
theorem al (h:cM A C) (k:cM B D):cM (sp A B) (sp C D):=fun Z zz=>kM (h Z) (k Z) (le_refl _)
theorem ag:cM A A:=fun zz zz h=>h
theorem aj (h:cM A B) (k:cM B C):cM A C:=fun Z m a=>k Z m (h Z m a)
theorem a8:cM (sp A (sp B C)) (sp (sp A B) C):=aj rZ (aj bM (aj rZ (aj bM rZ)))
theorem aC:cM (sp A (sp B C)) (sp B (sp A C)):=aj a8 (aj (al rZ ag) bM)
theorem zL:cM (sp A B) A:=by
 rintro zz zz ⟨x,y,d,e,f,a,b⟩
 exact A.mono (le_refl _) e a
theorem iI:cM (sp A B) B:=aj rZ zL
theorem o5 {α:Type} {F G:α->a7} (i:α):cM (sp (F i) (wd F G)) (G i):=by
 rintro Z m ⟨x,y,d,e,f,a,b⟩
 exact b i Z x m (le_refl Z) d e f a
theorem kO {α:Type} {F D:α->a7} (H:∀i,cM (sp (F i) B) (D i)):cM B (wd F D):=fun zz y b i Z' x m l d e f g=>H i Z' m ⟨x,y,d,e,f,g,B.mono l (le_refl y) b⟩
end
def Sat (b₀:Heap) (Z m:PH) (h:Heap):Prop:=A3 (∀a o,b₀.get? a=some o->Z a=some o) (∀a o,Z a=some o->h.get? a=some o) (∀a o,m a=some o->h.get? a=some o∧Z a=none)
inductive St (b₀:Heap) (A:a7) (h:Heap):Prop
 | mk (Z m:PH) (a:A.p Z m) (s:Sat b₀ Z m h)
section
variable {b₀ h h':Heap} {A B C:a7}
theorem St.imp (S:St b₀ A h) (k:cM A B):St b₀ B h:=by
 obtain⟨Z,m,a,r⟩:=S
 exact⟨Z,m,k Z m a,r⟩
theorem St.up (S:St b₀ A h) (k:∀a o,h.get? a=some o->h'.get? a=some o):St b₀ A h':=by
 obtain⟨Z,m,a,r1,r2,r3⟩:=S
 exact⟨Z,m,a,r1,fun a o e=>k a o (r2 a o e),fun a o e=>⟨k a o (r3 a o e).1,(r3 a o e).2⟩⟩
theorem St.base (S:St b₀ A h):∀a o,b₀.get? a=some o->h.get? a=some o:=by
 obtain⟨zz,zz,zz,r1,r2,zz⟩:=S
 exact fun a o e=>r2 a o (r1 a o e)
theorem St.snd (S:St b₀ (sp A B) h):St b₀ B h:=S.imp iI
theorem St.fst (S:St b₀ (sp A B) h):St b₀ A h:=S.imp zL
theorem St.at {a:Addr} {o:Obj} (S:St b₀ (sp (pt a o) A) h):h.get? a=some o:=by
 obtain⟨zz,zz,⟨x,zz,zz,e,zz,q,zz⟩,zz,zz,r3⟩:=S
 exact(r3 a o (e a o q)).1
theorem St.new (S:St b₀ A h) {a:Addr} {o:Obj} (k:∀a o,h.get? a=some o->h'.get? a=some o) (n:h.get? a=none) (e:h'.get? a=some o):St b₀ (sp (pt a o) A) h':=by
 obtain⟨Z,m,ha,r1,r2,r3⟩:=S
 have ma:m a=none:=b4 (fun b ob q=>(r3 b ob q).1) n
 have za:Z a=none:=b4 r2 n
 refine⟨Z,(PH.one a o).un m,⟨PH.one a o,m,ei ma,kL,jd (ei ma),b8 a o,ha⟩,r1,fun b ob q=>k b ob (r2 b ob q),fun b ob q=>?_⟩
 by_cases hb:b=a
 ·subst hb
  rw[pV (b8 b o)]at q
  cases q
  exact⟨e,za⟩
 ·rw[PH.un,dN hb,none_or]at q
  exact⟨k b ob (r3 b ob q).1,(r3 b ob q).2⟩
theorem bG (h:Heap):h.get? h.objs.size=none:=by
 cases e:h.get? h.objs.size with
 | none=>rfl
 | some x=>exact absurd (Heap.lt_size e) (lt_irrefl _)
theorem St.push (S:St b₀ A h) (o:Obj) (hf:o.isFreed=false):St b₀ (sp (pt h.objs.size o) A) (h.push o):=
 S.new (fun zz zz e=>Heap.get?_push_of_some o e) (bG h) (Heap.get?_push_size _ hf)
theorem St.upd {a:Addr} {o o':Obj} (S:St b₀ (sp (pt a o) A) h) (k:∀b,b≠a->h'.get? b=h.get? b) (e:h'.get? a=some o'):St b₀ (sp (pt a o') A) h':=by
 obtain⟨Z,m,⟨x,y,d,l1,l2,q,hA⟩,r1,r2,r3⟩:=S
 have ya:=jQ d q
 have za:=(r3 a o (l1 a o q)).2
 refine⟨Z,(PH.one a o').un y,⟨PH.one a o',y,ei ya,kL,jd (ei ya),b8 a o',hA⟩,r1,fun b ob q=>(k b fun e=>by rw[e,za]at q;cases q).trans (r2 b ob q),fun b ob q=>?_⟩
 by_cases hb:b=a
 ·subst hb
  rw[pV (b8 b o')]at q
  cases q
  exact⟨e,za⟩
 ·rw[PH.un,dN hb,none_or]at q
  have:=r3 b ob (l2 b ob q)
  exact⟨(k b hb).trans this.1,this.2⟩
end
noncomputable abbrev aX (vs:Array Value) (k:Nat):Obj:={cls:=.type "list",dict:=none,data:=.seq vs k,slots:=#[]}
noncomputable abbrev dP (es:Array DictEntry) (k:Nat):Obj:={cls:=.type "dict",dict:=none,data:=.dict es k,slots:=#[]}
noncomputable abbrev dQ (C d:Addr) (sl:Array (Option Value)):Obj:={cls:=.ref C,dict:=some d,data:=.plain,slots:=sl}
noncomputable abbrev ej (vs:Array Value) (k:Nat):Obj:={cls:=.type "tuple",dict:=none,data:=.seq vs k,slots:=#[]}
structure Wld where
 prog:Program
 w:World
 T:Tab
 cls:Nat->Addr
 ad:Nat->Addr
 bad:Addr
inductive wM (G:Wld) (o:Obj) (kvs:List (Str×Value)):Prop
 | mk (es ep) (d:o.ExactDict∧o.data=.dict es ep∧KeysOf (strKind G.prog G.w) es∧Pairs (strKind G.prog G.w) es.toList kvs∧(kvs.map (·.1)).Nodup)
def r0:List Str->List Value->List DictEntry->Prop
 | [],us,es=>us=[]∧es=[]
 | k::ks,us,es=>E4 fun u r e q=>A5 (us=u::r) (es=e::q) (∃t,e.key=.str k t) (e.val=u) (r0 ks r q)
noncomputable abbrev gf:Nat:=1048576
def IC (G:Wld) (u:Value) (m:PH):Prop:=
 E3 fun a o vs=>A5 (u=.ref a) (m a=some o) (o.cls=.ref G.bad) (o.data=.fields vs) ((∃x,vs[0]?=some x) ∧
  (vs[1]?=some .none∨(E4 fun t ot ts x=>A5 (vs[1]?=some (.ref t)) (m t=some ot) (ot.data=.fields ts) (ts[3]?=some x) (t≠a))))
inductive IE (l:List PV) (u:Value) (Z:PH) (S:List Value->PH->PH->Prop):Prop
 | mk (a vs k) (e:u=.ref a) (h:l.length<=gf) (g:l.all aL=true) (f:Z a=some (ej vs k)) (s:S vs.toList Z fun zz=>none)
inductive IF (l:List PV) (u:Value) (Z m:PH) (S:List Value->PH->PH->Prop):Prop
 | mk (a vs k) (e:u=.ref a) (h:l.length<=gf) (g:l.all bS=true) (s:spP (FJ a (aX vs k)) (S vs.toList) Z m)
inductive IG (G:Wld) (ks:List Str) (l:List PV) (u:Value) (Z m:PH) (S:List Value->PH->PH->Prop):Prop
 | mk (a o us) (e:u=.ref a) (d:wM G o (ks.zip us)) (n:(a==sysModules)=false) (h:ks.length=l.length) (s:spP (FJ a o) (S us) Z m)
inductive IH (G:Wld) (c:Nat) (ks:List Str) (u:Value) (Z m:PH) (S:List Value->PH->PH->Prop):Prop
 | mk (a d sl es k us cd) (e:u=.ref a) (f:G.T.cls c=some cd) (g:∀x ∈ ks,x ∈ cd.fields) (h:r0 ks us es.toList) (s:spP (FJ a (dQ (G.cls c) d sl)) (spP (FJ d (dP es k)) (S us)) Z m)
mutual
def ca (G:Wld):PV->Value->PH->PH->Prop
 | .LZ,_=>fun zz zz=>True
 | .exc,u=>fun zz m=>IC G u m
 | .none,u=>fun zz zz=>u=.none
 | .bool b,u=>fun zz zz=>u=.bool b
 | .int i,u=>fun zz zz=>∃t,u=.int i t
 | .str s,u=>fun zz zz=>(∃t,u=.str s t)∧EU s=true
 | .tup l,u=>fun Z zz=>IE l u Z fun x=>bT G l x
 | .lst l,u=>fun Z m=>IF l u Z m fun x=>bT G l x
 | .dct ks l,u=>fun Z m=>IG G ks l u Z m fun x=>bT G l x
 | .obj c ks l,u=>fun Z m=>IH G c ks u Z m fun x=>bT G l x
 | .fz v,u=>fun Z zz=>∃x,PH.le x Z∧ca G v u Z x
 | .pin w v,u=>fun Z m=>u=w∧ca G v u Z m
def bT (G:Wld):List PV->List Value->PH->PH->Prop
 | [],us=>fun zz zz=>us=[]
 | p::ps,us=>fun Z m=>E2 fun u r=>us=u::r∧spP (ca G p u) (bT G ps r) Z m
end
section
variable {G:Wld}
mutual
theorem eo {Z Z':PH} (l:PH.le Z Z'):∀(p:PV) {u:Value} {m m':PH},PH.le m m'->ca G p u Z m->ca G p u Z' m'
 | .LZ,_,_,_,_,h=>h
 | .exc,_,_,_,k,h=>by
  obtain⟨a,o,vs,e1,e2,e3,e4,e5,h⟩:=h
  refine⟨a,o,vs,e1,k _ _ e2,e3,e4,e5,h.imp_right ?_⟩
  rintro⟨t,ot,ts,x,f1,f2,f3,f4,f5⟩
  exact⟨t,ot,ts,x,f1,k _ _ f2,f3,f4,f5⟩
 | .none,_,_,_,_,h=>h
 | .bool _,_,_,_,_,h=>h
 | .int _,_,_,_,_,h=>h
 | .str _,_,_,_,_,h=>h
 | .tup q,_,_,_,_,h=>by
  obtain⟨a,vs,k,e1,e2,e4,e3,h⟩:=h
  exact⟨a,vs,k,e1,e2,e4,l _ _ e3,ci l q (le_refl _) h⟩
 | .lst q,_,_,_,n,h=>by
  obtain⟨a,vs,k,e1,e2,e4,h⟩:=h
  exact⟨a,vs,k,e1,e2,e4,kN (Z:=Z) (Z':=Z') (fun zz h=>h) (fun zz h=>ci l q (le_refl _) h) n h⟩
 | .dct _ q,_,_,_,n,h=>by
  obtain⟨a,o,us,e1,e2,e3,e4,h⟩:=h
  exact⟨a,o,us,e1,e2,e3,e4,kN (Z:=Z) (Z':=Z') (fun zz h=>h) (fun zz h=>ci l q (le_refl _) h) n h⟩
 | .obj _ _ q,_,_,_,n,h=>by
  obtain⟨a,d,sl,es,k,us,cd,e1,e2,e3,e4,h⟩:=h
  exact⟨a,d,sl,es,k,us,cd,e1,e2,e3,e4,kN (Z:=Z) (Z':=Z') (fun zz h=>h) (fun zz h=>kN (Z:=Z) (Z':=Z') (fun zz h=>h) (fun zz h=>ci l q (le_refl _) h) (le_refl _) h) n h⟩
 | .fz q,_,_,_,_,h=>by
  obtain⟨x,lx,h⟩:=h
  exact⟨x,le_trans lx l,eo l q (le_refl _) h⟩
 | .pin _ q,_,_,_,n,h=>⟨h.1,eo l q n h.2⟩
theorem ci {Z Z':PH} (l:PH.le Z Z'):∀(ps:List PV) {us:List Value} {m m':PH},PH.le m m'->bT G ps us Z m->bT G ps us Z' m'
 | [],_,_,_,_,h=>h
 | p::ps,_,_,_,n,h=>by
  obtain⟨u,r,e,h⟩:=h
  exact⟨u,r,e,kN (Z:=Z) (Z':=Z') (fun zz h=>eo l p (le_refl _) h) (fun zz h=>ci l ps (le_refl _) h) n h⟩
end
end
noncomputable def aH (G:Wld) (p:PV) (u:Value):a7:=⟨ca G p u,fun l k h=>eo l p k h⟩
noncomputable def aq (G:Wld) (ps:List PV) (us:List Value):a7:=⟨bT G ps us,fun l k h=>ci l ps k h⟩
section
variable {G:Wld} {Z m:PH} {u:Value} {A B:a7} {b₀ h:Heap}
theorem d8 {v:PV} (a:aL v=true) (n:PH) (H:ca G v u Z m):ca G v u Z n:=by
 rcases v with _|_<;>first|exact H|exact bp a
theorem zM {v:PV} (a:aL v=true):cM (aH G v u) (sp (aH G v u) (aH G v u)):=fun zz m H=>⟨fun zz=>none,m,aE,ay,le_refl m,d8 a _ H,H⟩
theorem wO {v:PV} (s:aL v=true):af v=v:=by
 rcases v with _|_<;>first|rfl|exact bp s
theorem kQ {v:PV} {x:PH} (l:PH.le x Z) (s:bS v=true) (H:ca G v u Z x) (n:PH):ca G (af v) u Z n:=by
 cases v with
 | lst q=>exact⟨x,l,H⟩
 | dct _ q=>exact⟨x,l,H⟩
 | obj _ _ q=>exact⟨x,l,H⟩
 | LZ=>exact bp s
 | exc=>exact bp s
 | pin _ _=>exact bp s
 | _=>exact H
theorem fe:∀{l:List PV} {us:List Value} {x:PH},x.le Z->l.all bS=true->bT G l us Z x->∀n,bT G (l.map af) us Z n
 | [],_,_,_,_,H,_=>H
 | p::ps,_,_,l,s,H,n=>by
  obtain⟨u,r,e,x,y,d,l1,l2,h,k⟩:=H
  have s:=bA (List.all_cons.symm.trans s)
  exact⟨u,r,e,fun zz=>none,n,aE,ay,le_refl n,kQ (le_trans l1 l) s.1 h _,fe (le_trans l2 l) s.2 k n⟩
theorem St.fzA {C:a7} (H:∀Z x,A.p Z x->PH.le x Z->∀n,C.p Z n) (S:St b₀ (sp A B) h):St b₀ (sp C B) h:=by
 obtain⟨Z,m,⟨x,y,d,l1,l2,a,b⟩,r1,r2,r3⟩:=S
 have le:Z.le (x.un Z):=jd fun a=>by
  cases q:x a with
  | none=>exact .inl rfl
  | some o=>exact .inr (r3 a o (l1 a o q)).2
 refine⟨x.un Z,y,⟨fun zz=>none,y,aE,ay,le_refl y,H _ x (A.mono le (le_refl x) a) kL _,B.mono le (le_refl y) b⟩,fun a o e=>le a o (r1 a o e),jP (fun a o e=>(r3 a o (l1 a o e)).1) r2,fun a o e=>?_⟩
 have:=r3 a o (l2 a o e)
 exact⟨this.1,un_none.mpr ⟨jQ (aR d) e,this.2⟩⟩
theorem St.fz {v:PV} (s:jJ v=true) (S:St b₀ (sp (aH G v u) A) h):St b₀ (sp (aH G (af v) u) A) h:=
 S.fzA fun zz zz H l n=>kQ l (by unfold bS;rw[s,Bool.or_true]) H n
theorem St.shrs {l:List PV} {us:List Value} (s:l.all bS=true) (S:St b₀ (sp (aq G l us) A) h):St b₀ (sp (aq G (l.map af) us) A) h:=
 S.fzA fun zz zz H le n=>fe le s H n
theorem St.shr {v:PV} (s:bS v=true) (S:St b₀ (sp (aH G v u) A) h):St b₀ (sp (aH G (af v) u) A) h:=by
 cases q:jJ v with
 | true=>exact S.fz q
 | false=>rcases v with _|_<;>first|exact S|cases q|exact no s
theorem gg {v:PV} (s:bS v=true):aL (af v)=true:=by
 rcases v with _|_<;>first|rfl|exact s|cases s|exact(or_eq_true_iff.mp s).resolve_right fun h=>nomatch h
theorem er:∀{l:List PV},l.all bS=true->(l.map af).all aL=true
 | [],_=>rfl
 | _::_,s=>by
  have s:=bA (List.all_cons.symm.trans s)
  exact List.all_cons.trans (and_eq_true_iff.mpr ⟨gg s.1,er s.2⟩)
theorem bQ:∀{ps:List PV} {us:List Value} {m:PH},bT G ps us Z m->us.length=ps.length
 | [],_,_,H=>congrArg length H
 | _::_,_,_,H=>by
  obtain⟨u,r,rfl,x,y,zz,zz,zz,zz,k⟩:=H
  exact congrArg Nat.succ (bQ k)
theorem cB:∀{ps qs:List PV} {us ws:List Value},cM (sp (aq G ps us) (aq G qs ws)) (aq G (ps++qs) (us++ws))
 | [],_,_,_=>by
  rintro Z zz ⟨x,y,d,l1,l2,rfl,b⟩
  exact ci (le_refl Z) _ l2 b
 | p::ps,qs,_,ws=>by
  rintro Z m ⟨x,y,d,l1,l2,⟨u,r,rfl,h⟩,b⟩
  exact⟨u,r++ws,rfl,(al ag cB) Z _ (bM (A:=aH G p u) (B:=aq G ps r) (C:=aq G qs ws) Z _ ⟨x,y,d,l1,l2,h,b⟩)⟩
theorem dw {p:PV}:cM (aH G p u) (aq G [p] [u]):=fun zz m h=>⟨u,[],rfl,m,fun zz=>none,aR aE,le_refl m,ay,h,rfl⟩
theorem kh:∀{i:Nat} {ps:List PV} {us:List Value},i<ps.length->cM (aq G ps us) (xs fun u=>pu (us[i]?=some u) (sp (aH G (aK ps i) u) (wd (fun q:PV×Value=>aH G q.1 q.2) fun q=>aq G (aS ps i q.1) (us.set i q.2))))
 | _,[],_,h=>absurd h (not_lt_zero _)
 | 0,p::ps,us,_=>by
  rintro Z m ⟨u,r,rfl,H⟩
  exact⟨u,rfl,(al (A:=aH G p u) (B:=aq G ps r) ag (kO (F:=fun q:PV×Value=>aH G q.1 q.2) (D:=fun q:PV×Value=>aq G (q.1::ps) (q.2::r)) fun q zz zz h=>⟨q.2,r,rfl,h⟩)) Z m H⟩
 | i+1,p::ps,us,hi=>by
  rintro Z m ⟨u,r,rfl,x,y,d,l1,l2,h,k⟩
  obtain⟨w,e,k⟩:=kh (lt_of_succ_lt_succ hi) Z y k
  refine⟨w,e,(aj aC (al ag (kO (D:=fun q:PV×Value=>aq G (p::aS ps i q.1) (u::r.set i q.2)) fun q=>?_))) Z m ((⟨x,y,d,l1,l2,h,k⟩:(sp (aH G p u) (sp _ _)).p Z m))⟩
  exact aj aC fun Z m h=>⟨u,r.set i q.2,rfl,(al ag (o5 (F:=fun q:PV×Value=>aH G q.1 q.2) (G:=fun q=>aq G (aS ps i q.1) (r.set i q.2)) q)) Z m h⟩
end
structure pW (K:Frag) (C:Addr) (fields:List Str):Prop where
 has:hasDictIn K C=true
 get:plainGet K C "x" = true
 set:findIn K (.ref C) "__setattr__" = some (some (.builtin "object.__setattr__"))
 over:plainOver K C=true
 fld:∀f ∈ fields,(∃attr,findIn K (.ref C) f=some attr∧noGet K attr=true)∧takerIn K C f=some none
structure bB extends Wld where
 K:Frag
 p:Program
 loose:List Str
 mg:Str->Option Value
 mb:Str->Option Value
 b₀:Heap
 X:K.In b₀
 top:TopRead p loose mg mb b₀
 sys:∃o,b₀.get? sysModules=some o
 clsok:∀c cd,T.cls c=some cd->pW K (cls c) cd.fields
set_option genCtorIdx false in
inductive Loc where
 | loc (D:Addr) (x:Str)
 | cel (c:Addr)
noncomputable def Loc.ctorIdx (x:Loc):Nat:=x.casesOn (fun _ _=>0) fun _=>1
def At (env:PySem.Env) (x:Str):Loc->Prop
 | .loc D y=>D=env.locals∧y=x∧env.kindOf x=some .local
 | .cel c=>env.cells.lookup x=some c∧(env.kindOf x=some .cell∨env.kindOf x=some .free)
structure Amb (G:bB) where
 env:PySem.Env
 vars:List (Str×Loc)
 Ds:List Addr
 cs:List Addr
 Os:List (Addr×Obj)
 pins:List Nat
 sc:List (Str×NameKind)
 own:Nat
 A:Around
 n:Nat
 top:PySem.Env
 kind:env.scope.kind=.function
 glo:env.globals=mainGlobals
 bui:env.builtins=builtinsNs
 at_:∀(i:Nat) (x:Str) (l:Loc),ix x (vars.map (·.1))=some i->vars[i]?=some (x,l)->At env x l
 gl:∀x k,bD x sc=some k->env.kindOf x=some k∨(k=.free∧env.kindOf x=some .cell)
 st:∀(i:Nat) (x:Str) (c:Addr),i<own->vars[i]?=some (x,.cel c)->env.kindOf x=some .cell
 okn:∀v ∈ vars,bk v.1=true
 inj:∀(i j:Nat) (x y:Str) (l:Loc),vars[i]?=some (x,l)->vars[j]?=some (y,l)->i=j
 dict:∀v ∈ vars,∀D x,v.2=.loc D x->D ∈ Ds
 cell:∀v ∈ vars,∀c,v.2=.cel c->c ∈ cs
 off:∀q ∈ Os,q.1 ∉ Ds∧q.1 ∉ cs
 odat:∀q ∈ Os,∀vs,q.2.data≠.fields vs
 hd:A.handled=none
 dp:A.depth+4*n+4<=900
 un:A.units+16*n+300<=9000
 fr:∃outer,A.frames=some (top::outer)∧∀e ∈ top::outer,e.scope.kind≠.module∧∃L,e.frame=some L∧(L ∈ Ds∨L ∈ Os.map (·.1))
noncomputable def Amb.names {G:bB} (X:Amb G):List Str:=X.vars.map (·.1)
noncomputable def Amb.c {G:bB} (X:Amb G):bF:=⟨X.names,X.pins,X.sc,X.own⟩
inductive wa (o:Obj) (f:Str->Option Value):Prop
 | mk (es ep) (d:o.data=.dict es ep∧StrKeys es∧∀x,nsFind es x=f x)
def LocAt (m:PH):Loc->Value->Prop
 | .loc D x,v=>E2 fun o f=>A3 (m D=some o) (wa o f) (f x=some v)
 | .cel c,v=>∃o,m c=some o∧o.data=.cell (some v)
structure FrQ (vars:List (Str×Loc)) (Ds cs:List Addr) (Os:List (Addr×Obj)) (pins:List Nat) (ρ:Env) (us:List Value) (m:PH):Prop where
 d:∀D ∈ Ds,E2 fun o f=>m D=some o∧wa o f
 c:∀c ∈ cs,E2 fun o w=>m c=some o∧o.data=.cell w
 o:∀q ∈ Os,∃sl,m q.1=some {q.2 with slots:=sl}
 v:∀(i:Nat) (v:Str×Loc) (u:Value),vars[i]?=some v->us[i]?=some u->(mH (aK ρ i)=true∨i ∈ pins)->LocAt m v.2 u
 l:us.length=vars.length
noncomputable abbrev uO {G:bB} (X:Amb G) (ρ:Env) (us:List Value) (m:PH):Prop:=FrQ X.vars X.Ds X.cs X.Os X.pins ρ us m
theorem LocAt.le {m m':PH} (k:m.le m'):∀{l:Loc} {u:Value},LocAt m l u->LocAt m' l u
 | .loc _ _,_,⟨o,f,e,r,q⟩=>⟨o,f,k _ _ e,r,q⟩
 | .cel _,_,⟨o,e,r⟩=>⟨o,k _ _ e,r⟩
theorem FrQ.le {G:bB} {X:Amb G} {ρ:Env} {us:List Value} {m m':PH} (k:m.le m') (H:uO X ρ us m):uO X ρ us m':=
 ⟨fun D h=>(H.d D h).imp fun zz zz h=>⟨k _ _ h.1,h.2⟩,fun c h=>(H.c c h).imp fun zz zz h=>⟨k _ _ h.1,h.2⟩,fun q h=>(H.o q h).imp fun zz h=>k _ _ h,fun i v u a b c=>(H.v i v u a b c).le k,H.l⟩
noncomputable def wP {G:bB} (X:Amb G) (ρ:Env) (us:List Value):a7:=⟨fun zz m=>uO X ρ us m,fun zz k h=>h.le k⟩
noncomputable def au {G:bB} (X:Amb G) (ρ:Env) (us:List Value):a7:=sp (wP X ρ us) (aq G.toWld ρ us)
def dY (v:PV) (Q E:Value->Shared->Prop):Value->Shared->Prop:=match v with
 | .exc=>E
 | _=>Q
def SE {G:bB} (X:Amb G) (t:Sem Value) (f:M PV):Prop:=
 ∀(s:Shared) (ρ:Env) (us:List Value) (P:PV->Env->Prop) (R:a7) (Q E:Value->Shared->Prop),f ρ P->St G.b₀ (sp (au X ρ us) R) s.heap ->
  (∀v ρ' u h k,bS v=true->P v ρ'->St G.b₀ (sp (aH G.toWld v u) (sp (au X ρ' us) R)) h->Q u {s with heap:=h,toks:=k})->wpAny (model G.prog G.w) X.A t Q E s
def ST {G:bB} (X:Amb G) (t:Sem Bool) (f:M Bool):Prop:=
 ∀(s:Shared) (ρ:Env) (us:List Value) (P:Bool->Env->Prop) (R:a7) (Q:Bool->Shared->Prop) (E:Value->Shared->Prop),f ρ P->St G.b₀ (sp (au X ρ us) R) s.heap ->
  (∀b ρ' h k,P b ρ'->St G.b₀ (sp (au X ρ' us) R) h->Q b {s with heap:=h,toks:=k})->wpAny (model G.prog G.w) X.A t Q E s
theorem eQ {α:Type} {o:Option α} {g:α->Prop} {C:Prop} (h:aP o g) (k:∀a,o=some a->g a->C):C:=by
 rcases o with _|a
 ·exact h.elim
 ·exact k a rfl h
theorem bH {b:Bool} {g C:Prop} (h:bK b g) (k:b=true->g->C):C:=by
 rcases b with _|_
 ·exact h.elim
 ·exact k rfl h
theorem FK {α:Type} {o:Option α} {f:α->Prop} {d C:Prop} (h:fX o f d) (k1:o=none->d->C) (k2:∀a,o=some a->f a->C):C:=by
 rcases o with _|a
 ·exact k1 rfl h
 ·exact k2 a rfl h
theorem kS {α:Type} {o:Option α} {f:α->Prop} {d C:Prop} (h:fX o f d) (k2:∀a,o=some a->f a->C) (k1:o=none->d->C):C:=FK h k1 k2
theorem aJ {α β:Type} {o:Option α} {f:α->Option β} {b:β} {C:Prop} (h:o.bind f=some b) (k:∀a,o=some a->f a=some b->C):C:=by
 rcases o with _|a
 ·exact no h
 ·exact k a rfl h
theorem bY {α β:Type} {o:Option α} {f:α->β} {b:β} {C:Prop} (h:o.map f=some b) (k:∀a,o=some a->f a=b->C):C:=by
 rcases o with _|a
 ·exact no h
 ·exact k a rfl (Option.some.inj h)
theorem cz {a b:Bool} {C:Prop} (h:(a&&b)=true) (k:a=true->b=true->C):C:=k (bA h).1 (bA h).2
theorem d9 {v:PV} {b:Int} (h:jK v=some b):v=.int b:=by
 rcases v with _|_<;>first|exact no h|(cases h;rfl)
theorem gh {v:PV} {b:Str} (h:rS v=some b):v=.str b:=by
 rcases v with _|_<;>first|exact no h|(cases h;rfl)
theorem kU {v:PV} {l:List PV} (h:mI v=some l):v=.tup l:=by
 rcases v with _|_<;>first|exact no h|(cases h;rfl)
theorem je {v:PV} {l:List Str×List PV} (h:mV v=some l):v=.dct l.1 l.2:=by
 rcases v with _|_<;>first|exact no h|(cases h;rfl)
theorem mZ {e:Expr} {q:Const×Nat×Pos} (h:wr e=some q):e=.Constant q.1 q.2.1 q.2.2:=by
 rcases e with _|_<;>first|exact no h|(cases h;rfl)
theorem wQ {e:Const} {q:Str} (h:Fs e=some q):e=.str q:=by
 rcases e with _|_<;>first|exact no h|(cases h;rfl)
theorem wR {e:Const} {q:Int} (h:Ft e=some q):e=.int q:=by
 rcases e with _|_<;>first|exact no h|(cases h;rfl)
theorem m0 {e:Expr} {x:Str} (h:jL e=some x):∃j p,e=.Constant (.str x) j p:=
 aJ h fun q hq h=>⟨_,_,wQ h▸mZ hq⟩
theorem pX {e:Expr} {i:Int} (h:zF e=some i):∃j p,e=.Constant (.int i) j p:=
 aJ h fun q hq h=>⟨_,_,wR h▸mZ hq⟩
theorem tj {n:Int} {e:Expr} (h:Ia n e=true):∃j p,e=.Constant (.int n) j p:=by
 unfold Ia at h
 rcases q:zF e with _|i<;>rw[q]at h
 ·exact bp h
 ·exact(beq_iff_eq.mp h)▸pX q
theorem uP {e:Expr} {q:UnaryOp×Expr×Pos} (h:wt e=some q):e=.UnaryOp q.1 q.2.1 q.2.2:=by
 rcases e with _|_<;>first|exact no h|(cases h;rfl)
theorem pY {e:Expr} (h:j8 e=true):E3 fun j p q=>e=.UnaryOp .USub (.Constant (.int 1) j p) q:=by
 unfold j8 at h
 rcases q:wt e with _|⟨op,a,p⟩<;>rw[q]at h
 ·exact bp h
 ·rcases op with _|_<;>first|exact bp h|skip
  obtain⟨j,p',rfl⟩:=tj h
  exact⟨j,p',p,uP q⟩
theorem uQ {e:Expr} {q:Option Expr×Option Expr×Option Expr×Pos} (h:wE e=some q):e=.Slice q.1 q.2.1 q.2.2.1 q.2.2.2:=by
 rcases e with _|_<;>first|exact no h|(cases h;rfl)
theorem br {α:Type} {c:Prop} [Decidable c] {x y:α} (h:(if c then some x else none)=some y):c∧x=y:=by
 by_cases q:c
 ·exact⟨q,Option.some.inj ((if_pos q).symm.trans h)⟩
 ·cases (if_neg q).symm.trans h
theorem et {α:Type} {c:Prop} [Decidable c] {x:Option α} {y:α} (h:(if c then x else none)=some y):c∧x=some y:=by
 by_cases q:c
 ·exact⟨q,(if_pos q).symm.trans h⟩
 ·cases (if_neg q).symm.trans h
theorem aY {α:Type} {o:Option α} {k:α->Prop} (h:aP o k):∃a,o=some a∧k a:=by
 rcases o with _|a
 ·exact h.elim
 ·exact⟨a,rfl,h⟩
theorem bL {b:Bool} {k:Prop} (h:bK b k):b=true∧k:=by
 rcases b with _|_
 ·exact h.elim
 ·exact⟨rfl,h⟩
section
variable {G:bB} {X:Amb G} {ρ:Env} {us:List Value} {A B C R:a7} {h:Heap}
theorem ki:∀{l:List PV} {i:Nat},mH (aK l i)=true->i<l.length
 | [],i,h=>by rcases i with _|_<;>exact bp h
 | _::_,0,_=>succ_pos _
 | _::r,_+1,h=>Nat.succ_lt_succ (ki (l:=r) h)
theorem setN_len:∀{l:List PV} {i:Nat} {v:PV},(aS l i v).length=l.length
 | [],_,_=>rfl
 | _::_,0,_=>rfl
 | _::r,_+1,_=>congrArg Nat.succ (setN_len (l:=r))
theorem gE:∀{l:List PV} {i j:Nat} {v:PV},i<l.length->aK (aS l i v) j=if i=j then v else aK l j
 | [],_,_,_,h=>absurd h (not_lt_zero _)
 | _::_,0,0,_,_=>rfl
 | _::_,0,_+1,_,_=>rfl
 | _::_,_+1,0,_,_=>rfl
 | _::r,i+1,j+1,v,h=>(gE (l:=r) (lt_of_succ_lt_succ h)).trans (by simp only[Nat.add_right_cancel_iff];rfl)
set_option tactic.hygienic true in
theorem C1 {i:Nat} (hi:mH (aK ρ i)=true):cM (au X ρ us) (xs fun u=>pu (us[i]?=some u) (sp (aH G.toWld (aK ρ i) u) (wd (fun q:PV=>aH G.toWld q u) fun q=>au X (aS ρ i q) us))):=by
 have hl:=ki hi
 rintro Z m ⟨x,y,d,l1,l2,hf,ho⟩
 obtain⟨u,hu,ho⟩:=kh hl Z y ho
 have e:us.set i u=us:=by
  obtain⟨hlt,e⟩:=List.getElem?_eq_some_iff.mp hu
  rw[←e,List.set_getElem_self]
 refine⟨u,hu,(aj aC (al ag (kO fun q=>aj aC (al ?_ ?_)))) Z m ⟨x,y,d,l1,l2,hf,ho⟩⟩
 ·refine fun Z m hf=>⟨hf.d,hf.c,hf.o,fun j v w hv hw hj=>hf.v j v w hv hw ?_,hf.l⟩
  refine hj.imp_left fun hj=>?_
  rw[gE hl]at hj
  split at hj
  ·rename_i q;subst q;exact hi
  ·exact hj
 ·have:=o5 (F:=fun q:PV×Value=>aH G.toWld q.1 q.2) (G:=fun q=>aq G.toWld (aS ρ i q.1) (us.set i q.2)) (q,u)
  rw[e]at this
  exact this
end
theorem neqL_iff:∀{a b:List Nat},zE a b=true↔a=b
 | [],[]=>iff_of_true rfl rfl
 | [],_::_=>⟨fun h=>(nomatch h),fun h=>(nomatch h)⟩
 | _::_,[]=>⟨fun h=>(nomatch h),fun h=>(nomatch h)⟩
 | a::r,b::s=>by
  show(beq a b&&zE r s)=true↔_
  rw[and_eq_true,neqL_iff,List.cons.injEq]
  exact and_congr_left' ⟨Nat.eq_of_beq_eq_true,fun e=>e▸Nat.beq_refl a⟩
theorem strEq_iff {a b:Str}:aM a b=true↔a=b:=by
 obtain⟨⟨a⟩⟩:=a
 obtain⟨⟨b⟩⟩:=b
 exact neqL_iff.trans ⟨fun e=>congrArg (fun l=>(⟨⟨l⟩⟩:Str)) e,fun e=>congrArg (fun s:Str=>s.cps.toList) e⟩
theorem wT {a b:Str} (h:a≠b):aM a b=false:=eq_false_iff.mpr fun e=>h (strEq_iff.mp e)
theorem kW (a:Str):aM a a=true:=strEq_iff.mpr rfl
theorem jR:∀{l:List Str} {x:Str} {i:Nat},ix x l=some i->l[i]?=some x
 | [],_,_,h=>nomatch h
 | y::r,x,i,h=>by
  rw[Iu]at h
  by_cases c:(aM y x&&CT y)=true
  ·cases (if_pos c).symm.trans h
   exact congrArg some (strEq_iff.mp (bA c).1)
  ·refine bY ((if_neg c).symm.trans h) fun j e e_2=>?_
   subst e_2
   exact jR (l:=r) e
theorem gi {x:Str}:∀{ks:List Str} {us:List Value} {es:List DictEntry},r0 ks us es->A4 (PySem.W.getL x es=some (valueAt (ks.zip us) x)) (es.any (·.refKey)=false) (us.length=ks.length) (es.length=ks.length)
 | [],_,_,H=>by
  obtain⟨rfl,rfl⟩:=H
  exact⟨rfl,rfl,rfl,rfl⟩
 | k::ks,_,_,H=>by
  obtain⟨u,r,e,q,rfl,rfl,⟨t,hk⟩,rfl,H⟩:=H
  obtain⟨h1,h2,h3,h4⟩:=gi (x:=x) H
  have h5:(e::q).any (·.refKey)=false:=by
   rw[any_cons,h2,Bool.or_false]
   unfold DictEntry.refKey
   rw[hk]
  refine⟨?_,h5,congrArg Nat.succ h3,congrArg Nat.succ h4⟩
  unfold valueAt at h1⊢
  unfold PySem.W.getL at h1⊢
  rw[h2]at h1
  rw[h5,find?_cons,hk,zip_cons_cons,find?_cons]
  by_cases c:k=x
  ·subst c
   simp only[Value.isStr,beq_self_eq_true,decide_true,map_some]
  ·simp only[Value.isStr,beq_eq_false_iff_ne.mpr c,decide_eq_false c]
   exact h1
theorem kj {x:Str}:∀{ks:List Str} {vs:List PV},mH (cu x ks vs)=true->∃j,A6 (j<vs.length) (cu x ks vs=aK vs j) (∀q,kvs x q ks vs=aS vs j q) (oH x ks=ks) (x ∈ ks) (∀us:List Value,valueAt (ks.zip us) x=us[j]?)
 | [],vs,h=>by rcases vs with _|_<;>exact bp h
 | _::_,[],h=>nomatch h
 | k::ks,v::vs,h=>by
  by_cases c:aM k x=true
  ·have e:=strEq_iff.mp c
   refine⟨0,succ_pos _,if_pos c,fun zz=>if_pos c,if_pos c,e▸mem_cons_self,fun us=>?_⟩
   rcases us with _|⟨u,us⟩
   ·rfl
   ·exact congrArg (Option.map snd) (List.find?_cons_of_pos (p:=fun kv:Str×Value=>decide (kv.1=x)) (a:=(k,u)) (l:=ks.zip us) (decide_eq_true e))
  ·have n:¬ k=x:=fun e=>c (strEq_iff.mpr e)
   have g:cu x (k::ks) (v::vs)=cu x ks vs:=if_neg c
   rw[g]at h⊢
   obtain⟨j,h1,h2,h3,h4,h5,h6⟩:=kj h
   refine⟨j+1,Nat.succ_lt_succ h1,h2,fun q=>(if_neg c).trans (congrArg (v::·) (h3 q)),(if_neg c).trans (congrArg (k::·) h4),mem_cons_of_mem _ h5,fun us=>?_⟩
   rcases us with _|⟨u,us⟩
   ·rfl
   ·exact(congrArg (Option.map snd) (List.find?_cons_of_neg (p:=fun kv:Str×Value=>decide (kv.1=x)) (a:=(k,u)) (l:=ks.zip us) fun e=>n (of_decide_eq_true e))).trans (h6 us)
theorem tm:∀{l:List PV},mH (bb l)=true->∃j,A3 (j+1=l.length) (bb l=aK l j) (∀q,iH l q=aS l j q)
 | [],h=>nomatch h
 | [_],_=>⟨0,rfl,rfl,fun zz=>rfl⟩
 | x::y::r,h=>by
  obtain⟨j,h1,h2,h3⟩:=tm (l:=y::r) h
  exact⟨j+1,congrArg Nat.succ h1,h2,fun q=>congrArg (x::·) (h3 q)⟩
theorem gF {v w:PV} (h:iG v=some w):mH v=true∧w=v:=by
 obtain⟨c,e⟩:=br h
 exact⟨c,e.symm⟩
theorem gj {v w:PV} (h:kH v=some w):aL v=true∧w=v:=by
 obtain⟨c,e⟩:=br h
 exact⟨c,e.symm⟩
inductive Le (G:Wld) (h:Heap) (f:Str) (u w:Value):Prop
 | mk (a c d sl es k cd) (e:u=.ref a) (t:G.T.cls c=some cd) (m:f ∈ cd.fields) (h1:h.get? a=some (dQ (G.cls c) d sl)) (h2:h.get? d=some (dP es k)) (g:PySem.W.getL f es.toList=some (some w))
inductive Lf (G:Wld) (h:Heap) (x:Str) (u w:Value):Prop
 | mk (a o kvs) (e:u=.ref a) (h1:h.get? a=some o) (d:wM G o kvs) (n:(a==sysModules)=false) (v:valueAt kvs x=some w)
inductive Lg (h:Heap) (u w:Value):Prop
 | mk (a vs k) (e:u=.ref a) (h1:h.get? a=some (aX vs k)) (p:0<vs.size) (c:vs.size<=gf) (v:vs[vs.size-1]?=some w)
def zN (G:Wld) (h:Heap):PE->Value->Value->Prop
 | .at f,u,w=>Le G h f u w
 | .key x,u,w=>Lf G h x u w
 | .last,u,w=>Lg h u w
noncomputable def sub (k:PE) (t q:PV) (w u:Value) (G:Wld):a7:=wd (fun i:PV×PV=>pu ((i.1=q∧i.2=t)∨sK k t i.1=some i.2) (aH G i.1 w)) fun i=>aH G i.2 u
section
variable {G:Wld} {b₀ h:Heap} {u:Value} {R A B:a7}
theorem jf:∀{l:List PV} {j:Nat},aS l j (aK l j)=l
 | [],_=>rfl
 | _::_,0=>rfl
 | x::_,_+1=>congrArg (x::·) jf
theorem pZ {us:List Value} {j:Nat} {w:Value} (e:us[j]?=some w):us.set j w=us:=by
 obtain⟨zz,rfl⟩:=List.getElem?_eq_some_iff.mp e
 exact List.set_getElem_self _
theorem r4 {k:PE} {t q:PV} {l:List PV} {us:List Value} {j:Nat} {w:Value} (hl:j<l.length) (hj:us[j]?=some w) (hq:aK l j=q) (h1:cM (sp A (aq G l us)) (aH G t u)) (h2:∀q' t',sK k t q'=some t'->cM (sp A (aq G (aS l j q') us)) (aH G t' u)):
  cM (sp A (aq G l us)) (sp (aH G q w) (sub k t q w u G)):=by
 intro Z m H
 obtain⟨x,y,d,l1,l2,a,o⟩:=H
 obtain⟨w',e,o⟩:=kh hl Z y o
 cases hj.symm.trans e
 rw[hq]at o
 refine(aj aC (al ag (kO fun i=>?_))) Z m ((⟨x,y,d,l1,l2,a,o⟩:(sp A (sp _ _)).p Z m))
 refine aj (B:=sp A (pu ((i.1=q∧i.2=t)∨sK k t i.1=some i.2) (aq G (aS l j i.1) us))) (aj aC (al ag ?_)) ?_
 ·rintro Z m ⟨x,y,d,l1,l2,⟨c,f⟩,g⟩
  refine⟨c,?_⟩
  have q:(aq G (aS l j i.1) (us.set j w)).p Z m:=g (i.1,w) Z x m (le_refl Z) d l1 l2 f
  rw[pZ e]at q
  exact q
 ·rintro Z m ⟨x,y,d,l1,l2,a,c,o⟩
  rcases c with⟨c1,c2⟩|c
  ·rw[c1,←hq,jf]at o
   rw[c2]
   exact h1 Z m ⟨x,y,d,l1,l2,a,o⟩
  ·exact h2 _ _ c Z m ⟨x,y,d,l1,l2,a,o⟩
end
theorem o6 {v:PV} (s:aL (af v)=true):bS v=true:=by
 rcases v with _|_<;>first|rfl|exact s|cases s|exact or_eq_true_iff.mpr (.inl s)
theorem kX {f:PV->Bool}:∀{l:List PV} {j:Nat} {q:PV},l.all f=true->f q=true->(aS l j q).all f=true
 | [],_,_,_,_=>rfl
 | _::_,0,_,h,k=>List.all_cons.trans (and_eq_true_iff.mpr ⟨k,(bA (List.all_cons.symm.trans h)).2⟩)
 | _::_,_+1,_,h,k=>by
  have h:=bA (List.all_cons.symm.trans h)
  exact List.all_cons.trans (and_eq_true_iff.mpr ⟨h.1,kX h.2 k⟩)
section
variable {G:Wld} {b₀ h:Heap} {u:Value} {R A B:a7} {Z x:PH}
theorem r5 {a d:Addr} {c:Nat} {ks:List Str} {l:List PV} {us:List Value} {es:Array DictEntry} {k:Nat} {sl:Array (Option Value)} {cd:zG} (h1:G.T.cls c=some cd) (h2:∀x ∈ ks,x ∈ cd.fields) (h3:r0 ks us es.toList):
  cM (sp (pt a (dQ (G.cls c) d sl)) (sp (pt d (dP es k)) (aq G l us))) (aH G (.obj c ks l) (.ref a)):=fun zz zz H=>⟨a,d,sl,es,k,us,cd,rfl,h1,h2,h3,H⟩
set_option tactic.hygienic true in
theorem own_kid {k:PE} {t q:PV} (hk:Fq k t=some q) (H:ca G t u Z x):∃w,(∀h:Heap,x.le h.get?->zN G h k u w)∧(sp (aH G q w) (sub k t q w u G)).p Z x:=by
 cases k with
 | «at» f=>
  rcases t with _|_<;>first|exact no hk|exact bp hk|(cases hk;done)|skip
  ·rename_i c ks vs
   obtain⟨iv,rfl⟩:=gF hk
   obtain⟨a,d,sl,es,kk,us,cd,rfl,hcd,hfd,he,H⟩:=H
   obtain⟨j,hj,hq,hs,hks,hmem,hval⟩:=kj iv
   have H2:=a8 (A:=pt a (dQ (G.cls c) d sl)) (B:=pt d (dP es kk)) (C:=aq G vs us) Z x H
   obtain⟨y,z,zz,l1,l2,ha,y',z',zz,l3,l4,hd,ho⟩:=H
   have hlen:=bQ ho
   obtain⟨w,hw⟩:∃w,us[j]?=some w:=⟨_,List.getElem?_eq_getElem (by rw[hlen];exact hj)⟩
   refine⟨w,fun h l=>⟨a,c,d,sl,es,kk,cd,rfl,hcd,hfd f hmem,l _ _ (l1 _ _ ha),l _ _ (l2 _ _ (l3 _ _ hd)),(gi he).1.trans (congrArg some ((hval us).trans hw))⟩,?_⟩
   refine r4 (G:=G) (t:=.obj c ks vs) (u:=.ref a) hj hw hq.symm (aj bM (r5 hcd hfd he)) (fun q' t' e=>?_) Z x H2
   cases (if_pos iv).symm.trans e
   rw[hs]
   exact aj bM (r5 hcd hfd he)
 | key y=>
  rcases t with _|_<;>first|exact no hk|exact bp hk|(cases hk;done)|skip
  ·rename_i ks vs
   obtain⟨iv,rfl⟩:=gF hk
   obtain⟨a,o,us,rfl,ho,hsys,hl,H⟩:=H
   obtain⟨j,hj,hq,hs,hks,hmem,hval⟩:=kj iv
   obtain⟨w,hw⟩:∃w,us[j]?=some w:=by
    obtain⟨zz,zz,zz,zz,zz,zz,h2⟩:=H
    exact⟨_,List.getElem?_eq_getElem (by rw[bQ h2];exact hj)⟩
   refine⟨w,fun h l=>?_,?_⟩
   ·obtain⟨y,z,zz,l1,zz,ha,zz⟩:=H
    exact⟨a,o,_,rfl,l _ _ (l1 _ _ ha),ho,hsys,(hval us).trans hw⟩
   refine r4 (G:=G) (t:=.dct ks vs) (u:=.ref a) (A:=pt a o) hj hw hq.symm (fun Z m H=>⟨a,o,us,rfl,ho,hsys,hl,H⟩) (fun q' t' e=>?_) Z x H
   cases (if_pos iv).symm.trans e
   intro Z m H
   rw[hs]
   exact⟨a,o,us,rfl,ho,hsys,hl.trans setN_len.symm,H⟩
 | last=>
  cases t with
  | lst l=>
   obtain⟨iv,rfl⟩:=gF hk
   obtain⟨a,vs,kk,rfl,hc,hok,H⟩:=H
   obtain⟨j,hj,hq,hs⟩:=tm iv
   have hlen:vs.size=l.length:=by
    obtain⟨zz,zz,zz,zz,zz,zz,h2⟩:=H
    exact length_toList.symm.trans (bQ h2)
   obtain⟨w,hw⟩:∃w,vs.toList[j]?=some w:=⟨_,List.getElem?_eq_getElem (by rw[length_toList,hlen];exact(az 0x10002101100437) hj)⟩
   refine⟨w,fun h l=>?_,?_⟩
   ·obtain⟨y,z,zz,l1,zz,ha,zz⟩:=H
    refine⟨a,vs,kk,rfl,l _ _ (l1 _ _ ha),by exact(aQ 0x20012102037101100437) hj hlen,by exact(aQ 0x10201002037100017) hc hlen,?_⟩
    rw[←getElem?_toList,show vs.size-1=j by exact(aQ 0x112053102037101100437) hj hlen]
    exact hw
   refine r4 (G:=G) (t:=.lst l) (u:=.ref a) (A:=pt a (aX vs kk)) (by exact(az 0x10002101100437) hj) hw hq.symm (fun Z m H=>⟨a,vs,kk,rfl,hc,hok,H⟩) (fun q' t' e=>?_) Z x H
   by_cases hv:bS q'=true
   ·cases (if_pos hv).symm.trans e
    intro Z m H
    rw[hs]
    exact⟨a,vs,kk,rfl,setN_len.symm▸hc,kX hok hv,H⟩
   ·cases (if_neg hv).symm.trans e
  | _=>exact no hk
theorem zO {k:PE} {t q:PV} {Z m:PH} (hk:gK k t=some q) (S:(sp (aH G t u) R).p Z m) (T:Sat b₀ Z m h):∃w,zN G h k u w∧(sp (aH G q w) (sp (sub k t q w u G) R)).p Z m:=by
 obtain⟨x,y,d,l1,l2,H,r⟩:=S
 by_cases c:∃v,t=.fz v
 ·obtain⟨v,rfl⟩:=c
  refine aJ hk fun q0 h0 hq=>?_
  obtain⟨s,rfl⟩:=gj hq
  obtain⟨z,lz,H0⟩:=id H
  obtain⟨w,st,zz,zz,zz,l3,zz,o,zz⟩:=own_kid h0 H0
  refine⟨w,st h fun a o e=>T.2 a o (lz a o e),fun zz=>none,m,aE,ay,le_refl m,kQ (le_trans l3 lz) (o6 s) o _,x,y,d,l1,l2,?_,r⟩
  refine kO (B:=aH G (.fz v) u) (fun i=>?_) Z x H
  rintro Z m ⟨x,y,d,l1,l2,⟨c,zz⟩,o⟩
  rcases c with⟨zz,c⟩|c
  ·exact c▸(aH G _ u).mono (le_refl Z) l2 o
  ·rcases k with _|_<;>exact no c
 ·have hk:Fq k t=some q:=by
   rcases t with _|_<;>first|exact hk|exact absurd ⟨_,rfl⟩ c
  obtain⟨w,st,H⟩:=own_kid hk H
  exact⟨w,st h fun a o e=>(T.3 a o (l1 a o e)).1,bM Z m ⟨x,y,d,l1,l2,H,r⟩⟩
theorem St.own_kid {k:PE} {t q:PV} (hk:gK k t=some q) (S:St b₀ (sp (aH G t u) R) h):∃w,zN G h k u w∧St b₀ (sp (aH G q w) (sp (sub k t q w u G) R)) h:=by
 obtain⟨Z,m,S,T⟩:=S
 obtain⟨w,st,S⟩:=zO hk S T
 exact⟨w,st,Z,m,S,T⟩
end
end
end Mine.Internal
section
open PySem PySem.W PyProof.Rows PySem.Calls Builtin Builtin.ObjectAttr
namespace Mine.Internal
section
variable {K:Frag} {prog:Program} {w:World} {A:Around} {E:Value->Shared->Prop} {s:Shared} {C a d:Addr} {sl:Array (Option Value)} {es:Array DictEntry} {k:Nat} {fs:List Str}
theorem kl (h1:s.heap.get? a=some (dQ C d sl)) (h2:s.heap.get? d=some (dP es k)):InstAt s.heap a (dQ C d sl) C (some (dictOf es.toList k)):=
 ⟨h1,rfl,rfl,by show s.heap.get? d=some _;rw[h2]⟩
theorem uR (X:K.In s.heap) (O:pW K C fs) (h1:s.heap.get? a=some (dQ C d sl)) (h2:s.heap.get? d=some (dP es k)) {f:Str} (hf:f ∈ fs) {v:Value} (hl:PySem.W.getL f es.toList=some (some v)) (hv:handedIn v=true)
  {expr:Bool} {Q:Value->Shared->Prop} (h:Q v {s with toks:=s.toks+1}):wpAny (model prog w) A (getAttr (.ref a) f expr) Q E s:=by
 obtain⟨⟨attr,ha,hn⟩,zz⟩:=O.fld f hf
 exact get_value X (kl h1 h2) (plainGet_of O.get).1 (findObj_own O.has ha hn hl) hv h
theorem uS {value:Expr} {attr:Str} {pos:Pos} {env:PySem.Env} {Q:Value->Shared->Prop} (hb:∀x,attributeBase value attr env x=x)
  (h:wpAny (model prog w) A (eval value env) (fun o s₁=>wpAny (model prog w) A (getAttr o attr true) Q E s₁) E s):wpAny (model prog w) A (eval (.Attribute value attr pos) env) Q E s:=by
 rw[arm_eval_Attribute,hb]
 exact wpAny_bind (wpAny_mono h (fun o s₁ h₁=>wpAny_bind (wpAny_standAt (wpAny_bind (wpAny_holding (wpAny_mono h₁ (fun r s₂ h₂=>wpAny_bind (wpAny_letTemporaryGo (wpAny_pure h₂))) fun zz zz x=>x))))) fun zz zz x=>x)
set_option tactic.hygienic true in
theorem C2 {slice:Expr} {o i:Value}:subscripted slice false o i=operate [i,o] (getItem o i)∨subscripted slice false o i=operate [o,i] (getItem o i):=by
 rcases slice with _|_<;>first|exact .inr rfl|skip
 rename_i lo hi x p
 rcases x with _|x
 ·exact .inl rfl
 ·exact .inr rfl
theorem cC {value slice:Expr} {o i:Value} {T id:String} {Q:Value->Shared->Prop} (hT:s.TypeIs o T)
  (hl:typeLookup (.type T) "__getitem__" = pure (some (.builtin id))) (h:wpAny (model prog w) A (getItem o i) Q E s):wpAny (model prog w) A (subscriptTail value slice o i) Q E s:=by
 unfold subscriptTail
 refine wpAny_bind ?_
 rw[getitemInPython_of_ne hT.not_modules]
 refine wpAny_bind (wpAny_specialOf hT hl ?_)
 have go:wpAny (model prog w) A (getItem o i) (fun r s₃=>wpAny (model prog w) A (letTemporaryGo value o r >>= fun zz=>pure r) Q E s₃) E s:=
  wpAny_mono h (fun r s₃ h₃=>wpAny_bind (wpAny_letTemporaryGo (wpAny_pure h₃))) fun zz zz x=>x
 have dY:wpAny (model prog w) A (subscripted slice false o i) (fun r s₃=>wpAny (model prog w) A (letTemporaryGo value o r >>= fun zz=>pure r) Q E s₃) E s:=by
  rcases C2 (slice:=slice) (o:=o) (i:=i)with e|e<;>rw[e]<;>exact wpAny_operating go
 first
  | exact wpAny_pure (wpAny_bind dY)
  | exact wpAny_bind (wpAny_pure (wpAny_bind dY))
  | exact wpAny_bind dY
end
theorem iJ {x:Str} (h:bk x=true):(x==("__debug__" : Str))=false∧(x==("__classdict__" : Str))=false∧x≠"__name__" :=by
 simp only[bk,and_eq_true,Bool.not_eq_true']at h
 exact⟨h.1.1,h.1.2,by simpa using h.2⟩
set_option tactic.hygienic true in
theorem kY {G:Wld} {Z m:PH} {v:PV} {u:Value} (s:bS v=true) (H:ca G v u Z m):handedIn u=true:=by
 rcases v with _|_|_|b|i|x|l|l|⟨_,l⟩|⟨_,_,l⟩|q|⟨_,_⟩
 ·exact bp s
 ·exact bp s
 ·cases (show u=_ from H);rfl
 ·cases (show u=_ from H);rfl
 ·obtain⟨t,rfl⟩:=H;rfl
 ·obtain⟨⟨t,rfl⟩,zz⟩:=H;rfl
 ·obtain⟨a,zz,zz,rfl,zz⟩:=H;rfl
 ·obtain⟨a,zz,zz,rfl,zz⟩:=H;rfl
 ·obtain⟨a,zz,zz,rfl,zz⟩:=H;rfl
 ·obtain⟨a,zz,zz,zz,zz,zz,zz,rfl,zz⟩:=H;rfl
 ·obtain⟨x,zz,H⟩:=H
  rcases q with _|_<;>first|exact no s|exact bp s|(cases s;done)|skip
  ·rename_i l
   obtain⟨a,zz,zz,rfl,zz⟩:=H;rfl
  ·rename_i _ l
   obtain⟨a,zz,zz,rfl,zz⟩:=H;rfl
  ·rename_i _ _ l
   obtain⟨a,zz,zz,zz,zz,zz,zz,rfl,zz⟩:=H;rfl
 ·exact bp s
def wU (h:Heap):Loc->Value->Prop
 | .loc D x,v=>∃m,h.Ns D m∧m x=some v
 | .cel c,v=>h.IsCell c (some v)
noncomputable def foc {G:bB} (X:Amb G) (p:f8) (ρ:Env) (us:List Value) (q:PV) (u:Value):a7:=
 wd (fun i:PV×Env=>pu ((i.1=q∧i.2=ρ)∨mC p i.1 ρ=some i.2) (aH G.toWld i.1 u)) fun i=>au X i.2 us
section
variable {G:bB} {X:Amb G} {ρ:Env} {us:List Value} {R:a7} {h:Heap} {E:Value->Shared->Prop}
theorem wW {m:PH} (l:m.le h.get?):∀{l:Loc} {u:Value},LocAt m l u->wU h l u
 | .loc D x,u,H=>by
  obtain⟨o,f,e,⟨es,ep,h1,h2,h3⟩,hx⟩:=H
  exact⟨f,⟨o,es,ep,l _ _ e,h1,h2,h3⟩,hx⟩
 | .cel c,u,H=>by
  obtain⟨o,e,hd⟩:=H
  exact⟨o,l _ _ e,hd⟩
theorem r6 {i:Nat} {x:Str} (hi:X.names[i]?=some x):∃l,X.vars[i]?=some (x,l):=by
 unfold Amb.names at hi
 rw[getElem?_map]at hi
 obtain⟨⟨y,l⟩,e,rfl⟩:=map_eq_some_iff.mp hi
 exact⟨l,e⟩
theorem II {i:Nat} {Z m:PH} (S:(sp (au X ρ us) R).p Z m) (T:Sat G.b₀ Z m h) (hi:mH (aK ρ i)=true) {v:Str×Loc} (hv:X.vars[i]?=some v) {u:Value} (hu:us[i]?=some u):wU h v.2 u:=by
 obtain⟨x,y,zz,l1,zz,⟨z,t,zz,l2,zz,hf,zz⟩,zz⟩:=S
 exact wW (fun a o e=>(T.3 a o (l1 a o (l2 a o e))).1) (hf.v i v u hv hu (.inl hi))
theorem uT {x:Str} {l:Loc} {u:Value} {pos:Pos} {s:Shared} {Q:Value->Shared->Prop} (a:At X.env x l) (hv:wU s.heap l u) (hx:bk x=true) (h:Q u s):wpAny (model G.prog G.w) X.A (eval (.Name x pos) X.env) Q E s:=by
 obtain⟨h1,h2,zz⟩:=iJ hx
 refine wpAny_Name ?_ h1
 cases l with
 | loc D y=>
  obtain⟨rfl,rfl,hk⟩:=a
  obtain⟨m,hn,hm⟩:=hv
  exact wpAny_loadName_local X.kind hk hn hm h
 | cel c=>
  obtain⟨hc,hk|hk⟩:=a
  ·exact wpAny_loadName_cell X.kind hk hc hv h
  ·exact wpAny_loadName_free X.kind hk hc hv h h2
theorem p8 {k:PE} {pth:List PE} {i:Nat} {t q:PV} {u w:Value} (ht:oJ (i,pth) ρ=some t):cM (sp (sub k t q w u G.toWld) (Internal.foc X (i,pth) ρ us t u)) (Internal.foc X (i,k::pth) ρ us q w):=by
 refine kO fun j=>?_
 rintro Z m ⟨x,y,d,l1,l2,⟨c,o⟩,y1,y2,d',l3,l4,g1,g2⟩
 have key:∀t',((j.1=q∧t'=t)∨sK k t j.1=some t')->((t'=t∧j.2=ρ)∨mC (i,pth) t' ρ=some j.2)->(au X j.2 us).p Z m:=fun t' c1 c2=>by
  have H:=g1 (j.1,t') Z x (x.un y1) (le_refl Z) (aR (fc (aR d) l3)) kL (jd (aR (fc (aR d) l3))) ⟨c1,o⟩
  exact g2 (t',j.2) Z _ m (le_refl Z) (ti (aR (fc (aR d) l4)) d') (jP l1 (le_trans l3 l2)) (le_trans l4 l2) ⟨c2,H⟩
 rcases c with⟨c1,c2⟩|c
 ·exact key t (.inl ⟨c1,rfl⟩) (.inl ⟨rfl,c2⟩)
 ·refine bY c fun r h0 e=>?_
  refine aJ h0 fun t1 h1 h2=>?_
  refine aJ h2 fun t' h3 h4=>?_
  cases ht.symm.trans h1
  exact key t' (.inr h3) (.inr (map_eq_some_iff.mpr ⟨r,h4,e⟩))
theorem zP:∀{pth:List PE} {i:Nat} {q:PV} {R:a7} {Z m:PH},oJ (i,pth) ρ=some q->(sp (au X ρ us) R).p Z m->Sat G.b₀ Z m h->∃u,(sp (aH G.toWld q u) (sp (foc X (i,pth) ρ us q u) R)).p Z m∧(pth=[]->us[i]?=some u)
 | [],i,q,R,Z,m,hq,S,T=>by
  obtain⟨iv,rfl⟩:=gF hq
  obtain⟨x,y,d,l1,l2,⟨u,hu,e⟩,r⟩:=(al (C1 iv) ag) Z m S
  refine⟨u,(aj bM (al ag (al (kO fun i'=>?_) ag))) Z m ⟨x,y,d,l1,l2,e,r⟩,fun zz=>hu⟩
  have W:=o5 (F:=fun q:PV=>aH G.toWld q u) (G:=fun q=>au X (aS ρ i q) us) i'.1
  rintro Z m ⟨x,y,d,l1,l2,⟨c,o⟩,g⟩
  have H:=W Z m ⟨x,y,d,l1,l2,o,g⟩
  rcases c with⟨c1,c2⟩|c
  ·rw[c1,jf]at H
   rw[c2]
   exact H
  ·rw[←Option.some.inj c]
   exact H
 | k::pth,i,q,R,Z,m,hq,S,T=>by
  refine aJ hq fun t ht hk=>?_
  obtain⟨u,S,zz⟩:=zP (pth:=pth) ht S T
  obtain⟨w,zz,S⟩:=zO hk S T
  exact⟨w,(al ag (aj a8 (al (p8 ht) ag))) Z m S,fun e=>nomatch e⟩
theorem St.foc {p:f8} {q:PV} (hq:oJ p ρ=some q) (S:St G.b₀ (sp (au X ρ us) R) h):∃u,St G.b₀ (sp (aH G.toWld q u) (sp (Internal.foc X p ρ us q u) R)) h∧(p.2=[]->us[p.1]?=some u):=by
 obtain⟨Z,m,S,T⟩:=S
 obtain⟨u,S,hu⟩:=zP hq S T
 exact⟨u,⟨Z,m,S,T⟩,hu⟩
end
end Mine.Internal
end
namespace Mine.Internal
section
open PySem PySem.W PyProof.Rows PySem.Calls
def Ig {G:bB} (X:Amb G) (e:Expr) (p:f8):Prop:=
 ∀(s:Shared) (ρ:Env) (us:List Value) (q:PV) (R:a7) (Z m:PH) (Q E:Value->Shared->Prop),oJ p ρ=some q->bS q=true->(sp (au X ρ us) R).p Z m->Sat G.b₀ Z m s.heap ->
  (∀u k,(sp (aH G.toWld q u) (sp (foc X p ρ us q u) R)).p Z m->(p.2=[]->us[p.1]?=some u)->Q u {s with toks:=k})->wpAny (model G.prog G.w) X.A (eval e X.env) Q E s
theorem Sat.base {b₀ h:Heap} {Z m:PH} (T:Sat b₀ Z m h):∀a o,b₀.get? a=some o->h.get? a=some o:=fun a o e=>T.2 a o (T.1 a o e)
theorem zQ {G:bB} {q:PV} {u:Value} {R:a7} {Z m:PH} (S:(sp (aH G.toWld q u) R).p Z m) (s:bS q=true):handedIn u=true:=by
 obtain⟨zz,zz,zz,zz,zz,H,zz⟩:=S
 exact kY s H
theorem St.handed {G:bB} {q:PV} {u:Value} {R:a7} {h:Heap} (S:St G.b₀ (sp (aH G.toWld q u) R) h) (s:bS q=true):handedIn u=true:=by
 obtain⟨zz,zz,⟨zz,zz,zz,zz,zz,H,zz⟩,zz⟩:=S
 exact kY s H
theorem tn {k:PE} {t q:PV} (h:Fq k t=some q):jJ t=true:=by
 rcases k with _|_<;>rcases t with _|_<;>first|rfl|exact no h
theorem C3 {k:PE} {t q:PV} (h:gK k t=some q):bS t=true:=by
 cases t with
 | fz v=>
  refine aJ h fun zz h zz=>?_
  exact or_eq_true_iff.mpr (.inl (tn h))
 | _=>exact or_eq_true_iff.mpr (.inr (tn h))
section
variable {G:bB} {X:Amb G}
theorem cP {p:f8} {ρ ρ':Env} {us:List Value} {q q':PV} {u:Value} (c:(q'=q∧ρ'=ρ)∨mC p q' ρ=some ρ'):cM (sp (aH G.toWld q' u) (foc X p ρ us q u)) (au X ρ' us):=by
 rintro Z m ⟨x,y,d,l1,l2,a,b⟩
 exact b (q',ρ') Z x m (le_refl Z) d l1 l2 ⟨c,a⟩
theorem p9 {p:f8} {ρ ρ':Env} {us:List Value} {q q':PV} {u:Value} {R:a7} (s:aL q'=true) (c:(q'=q∧ρ'=ρ)∨mC p q' ρ=some ρ'):cM (sp (aH G.toWld q' u) (sp (foc X p ρ us q u) R)) (sp (aH G.toWld q' u) (sp (au X ρ' us) R)):=
 aj (al (zM s) ag) (aj bM (al ag (aj a8 (al (cP c) ag))))
theorem zR {x:Str} {i:Nat} {pos:Pos} (hi:ix x X.names=some i):Ig X (.Name x pos) (i,[]):=by
 intro s ρ us q R Z m Q E hq ok S T k
 obtain⟨l,hl⟩:=r6 (jR hi)
 obtain⟨iv,zz⟩:=gF hq
 obtain⟨u,S',hu⟩:=zP hq S T
 exact uT (X.at_ i x l hi hl) (II S T iv hl (hu rfl)) (X.okn _ (mem_of_getElem? hl)) (k u s.toks S' hu)
def tq (G:bB) (A:Around) (env:PySem.Env) (b e:Expr) (k:PE):Prop:=∀(s:Shared) (Q E:Value->Shared->Prop),
 wpAny (model G.prog G.w) A (eval b env) (fun u s₁=>G.K.In s₁.heap∧∃w,zN G.toWld s₁.heap k u w∧handedIn w=true∧∀tk,Q w {s₁ with toks:=tk}) E s->wpAny (model G.prog G.w) A (eval e env) Q E s
theorem o7 {e b:Expr} {p:f8} {k:PE} (H:Ig X b p) (he:tq G X.A X.env b e k):Ig X e (p.1,k::p.2):=by
 intro s ρ us q R Z m Q E hq ok S T kk
 refine aJ hq fun t ht hk=>?_
 refine he s Q E (H s ρ us t R Z m _ E ht (C3 hk) S T fun u tk S zz=>⟨G.X.keeps T.base,?_⟩)
 obtain⟨w,st,S⟩:=zO hk S T
 exact⟨w,st,zQ S ok,fun tk'=>kk w tk' ((al ag (aj a8 (al (p8 ht) ag))) Z m S) fun e=>nomatch e⟩
theorem m6 {b:Expr} {f:Str} {pos:Pos} (hb:∀x,attributeBase b f X.env x=x):tq G X.A X.env b (.Attribute b f pos) (.at f):=by
 intro s Q E h
 refine uS hb (wpAny_mono h (fun u s₁ ⟨hK,w,st,hw,hq⟩=>?_) fun zz zz x=>x)
 obtain⟨a,c,d,sl,es,kk,cd,rfl,hcd,hf,ha,hd,hl⟩:=st
 exact uR hK (G.clsok c cd hcd) ha hd hf hl hw (hq _)
theorem wX {b i:Expr} {x:Str} {pos:Pos} (hi:jL i=some x):tq G X.A X.env b (.Subscript b i pos) (.key x):=by
 intro s Q E h
 obtain⟨j,pos',rfl⟩:=m0 hi
 refine Subscript_ (wpAny_mono h (fun u s₁ ⟨hK,w,st,hw,hq⟩=>wpAny_Constant_str ?_) fun zz zz x=>x)
 obtain⟨a,o,kvs,rfl,ha,⟨es,ep,hd⟩,hs,hv⟩:=st
 have hD:({s₁ with toks:=s₁.toks+1}:Shared).heap.DictOf (strKind G.prog G.w) a kvs:=⟨o,es,ep,ha,hd⟩
 exact cC hD.mapOf.typeIs slot_dict_getitem.lookup (wpAny_getItem_of (strKind_is G.prog G.w _ _) hD.mapOf hv (hq _))
theorem uU {b i:Expr} {pos:Pos} (hi:j8 i=true):tq G X.A X.env b (.Subscript b i pos) .last:=by
 intro s Q E h
 obtain⟨j,p1,p2,rfl⟩:=pY hi
 refine Subscript_ (wpAny_mono h (fun u s₁ ⟨hK,w,st,hw,hq⟩=>wpAny_UnaryOp (wpAny_Constant_int (PySem.P.neg_int ?_))) fun zz zz x=>x)
 obtain⟨a,vs,kk,rfl,ha,h0,h1,hv⟩:=st
 have hL:({s₁ with toks:=s₁.toks+1+1}:Shared).heap.IsList a vs:=⟨_,ha,rfl,_,rfl⟩
 refine cC hL.typeIs slot_list_getitem.lookup (wpAny_getItem_list_neg hL (by decide) (by exact(ba 0x11190100394000127) h0) (by decide) (x:=w) ?_ (hq _))
 rw[←hv]
 congr 1
 exact(ba 0x1100500301119433)
set_option tactic.hygienic true in
theorem ie:∀{n:Nat} {e:Expr} {p:f8},ja X.names n e=some p->Ig X e p∧∀f x,attributeBase e f X.env x=x
 | 0,_,_,h=>nomatch h
 | n+1,e,p,h=>by
  rcases e with _|_<;>first|exact no h|exact bp h|(cases h;done)|skip
  ·rename_i b f pos
   refine bY h fun p hp e_2=>?_
   subst e_2
   exact⟨o7 (ie hp).1 (m6 ((ie hp).2 _)),fun zz zz=>rfl⟩
  ·rename_i b s pos
   refine⟨?_,fun zz zz=>rfl⟩
   change (match jL s with
    | some k=>(ja X.names n b).map fun p=>(p.1,.key k::p.2)
    | none=>if j8 s then(ja X.names n b).map fun p=>(p.1,.last::p.2)else none)=some p at h
   cases hs:jL s with
   | some x=>
    rw[hs]at h
    refine bY h fun p hp e_2=>?_
    subst e_2
    exact o7 (ie hp).1 (wX hs)
   | none=>
    rw[hs]at h
    by_cases c:j8 s=true
    ·refine bY (((if_pos c).symm.trans h)) fun p hp e_2=>?_
     subst e_2
     exact o7 (ie hp).1 (uU c)
    ·cases (if_neg c).symm.trans h
  ·rename_i x pos
   refine bY h fun i hi e_2=>?_
   subst e_2
   exact⟨zR hi,fun zz zz=>rfl⟩
theorem cj {n:Nat} {e:Expr} {p:f8} (h:ja X.names n e=some p) {s:Shared} {ρ:Env} {us:List Value} {q:PV} {R:a7} {Q E:Value->Shared->Prop} (hq:oJ p ρ=some q) (ok:bS q=true) (S:St G.b₀ (sp (au X ρ us) R) s.heap)
  (k:∀u tk,St G.b₀ (sp (aH G.toWld q u) (sp (foc X p ρ us q u) R)) s.heap->(p.2=[]->us[p.1]?=some u)->Q u {s with toks:=tk}):wpAny (model G.prog G.w) X.A (eval e X.env) Q E s:=by
 obtain⟨Z,m,S,T⟩:=S
 exact(ie h).1 s ρ us q R Z m Q E hq ok S T fun u tk S hu=>k u tk ⟨Z,m,S,T⟩ hu
theorem wY {n:Nat} {e:Expr} {p:f8} (h:ja X.names n e=some p):SE X (eval e X.env) (Ib p):=by
 intro s ρ us P R Q E hf S k
 refine eQ hf fun q hq hf=>?_
 by_cases c:aL q=true
 ·have o:bS q=true:=or_eq_true_iff.mpr (.inl c)
  exact cj h hq o S fun u tk S zz=>k q ρ u _ tk o ((if_pos c).mp hf) (S.imp (p9 c (.inl ⟨rfl,rfl⟩)))
 ·refine bH (((if_neg c).mp hf)) fun c2 hf=>?_
  obtain⟨ρ',hp,hf⟩:=aY hf
  have o:bS q=true:=or_eq_true_iff.mpr (.inr c2)
  have o':=gg o
  exact cj h hq o S fun u tk S zz=>k (af q) ρ' u _ tk (or_eq_true_iff.mpr (.inl o')) hf ((S.fz c2).imp (p9 o' (.inr hp)))
end
theorem all_cons {f:PV->Bool} {p:PV} {l:List PV} (h:(p::l).all f=true):f p=true∧l.all f=true:=bA (List.all_cons.symm.trans h)
theorem zS {s:Str} (h:EU s=true):PyData.strOk s=true:=by
 unfold PyData.strOk
 rw[Array.all_eq_true_iff_forall_mem]
 intro c hc
 exact decide_eq_true (by simpa [blt_eq] using all_eq_true.mp h c (Array.mem_toList_iff.mpr hc))
section
variable {G:Wld} {h:Heap}
inductive FL (h:Heap) (n:Nat) (d:PyData) (u:Value):Prop
 | mk as (h1:Reads h u d as) (h2:d.canLay0=true) (h3:d.depth<=n)
theorem gm {n:Nat} (ih:∀(p:PV) {u:Value} {Z m:PH},plain n p=true->Z.le h.get?->m.le h.get?->ca G p u Z m->FL h n (oO p) u):
  ∀(l:List PV) {us:List Value} {Z m:PH},l.all (plain n)=true->Z.le h.get?->m.le h.get?->bT G l us Z m->∃as,A3 (ReadsAll h us (fD l) as) (PyData.canLayAll0 (fD l)=true) (PyData.depthAll (fD l)<=n)
 | [],_,_,_,_,_,_,H=>by cases (show _=[]from H);exact⟨_,.nil,rfl,zero_le _⟩
 | p::l,_,_,_,a,hz,hm,H=>by
  obtain⟨u,r,rfl,x,y,zz,l1,l2,o,os⟩:=H
  obtain⟨as,h1,h2,h3⟩:=ih p (all_cons a).1 hz (le_trans l1 hm) o
  obtain⟨bs,k1,k2,k3⟩:=gm ih l (all_cons a).2 hz (le_trans l2 hm) os
  refine⟨_,.cons h1 k1,?_,?_⟩
  ·exact and_eq_true_iff.mpr ⟨h2,k2⟩
  ·exact Nat.max_le.mpr ⟨h3,k3⟩
theorem kZ (n:Nat) {p:PV} {u:Value} {Z m:PH} (a:rQ p=true) (H:ca G p u Z m):FL h n (oO p) u:=by
 cases p with
 | none=>cases (show u=_ from H);exact⟨_,.none,rfl,zero_le _⟩
 | bool b=>cases (show u=_ from H);exact⟨_,.bool _,rfl,zero_le _⟩
 | int i=>obtain⟨t,rfl⟩:=H;exact⟨_,.int _ _,rfl,zero_le _⟩
 | str s=>obtain⟨⟨t,rfl⟩,k⟩:=H;exact⟨_,.str _ _,zS k,zero_le _⟩
 | _=>exact bp a
theorem m7 {n:Nat} (ih:∀(p:PV) {u:Value} {Z m:PH},plain n p=true->Z.le h.get?->m.le h.get?->ca G p u Z m->FL h n (oO p) u) {l:List PV} {u:Value} {Z m:PH} (a:l.all (plain n)=true) (hm:m.le h.get?) (hz:Z.le h.get?) (H:ca G (.lst l) u Z m):FL h (n+1) (.list (fD l)) u:=by
 obtain⟨a',vs,k,rfl,zz,zz,y,z,zz,l1,l2,e,o⟩:=H
 obtain⟨as,h1,h2,h3⟩:=gm ih l a hz (le_trans l2 hm) o
 exact⟨_,.list (hm _ _ (l1 _ _ e)) rfl rfl h1,h2,succ_le_succ h3⟩
theorem zT {p:PV} (a:plain 0 p=true):rQ p=true:=by rcases p with _|_<;>first|exact a|cases a
theorem cD:∀(n:Nat) (p:PV) {u:Value} {Z m:PH},plain n p=true->Z.le h.get?->m.le h.get?->ca G p u Z m->FL h n (oO p) u
 | 0,_,_,_,_,a,_,_,H=>kZ 0 (zT a) H
 | n+1,p,u,Z,m,a,hz,hm,H=>by
  cases p with
  | lst l=>exact m7 (cD n) a hm hz H
  | tup l=>
   obtain⟨a',vs,k,rfl,zz,zz,e,o⟩:=H
   obtain⟨as,h1,h2,h3⟩:=gm (cD n) l a hz ay o
   exact⟨_,.tuple (hz _ _ e) rfl rfl h1,h2,succ_le_succ h3⟩
  | fz v=>
   cases v with
   | lst l=>
    obtain⟨x,lx,H⟩:=H
    exact m7 (cD n) a (le_trans lx hz) hz H
   | _=>exact bp a
  | _=>exact kZ _ a H
theorem jg {d:PyData} (h1:d.canLay0=true) (h2:d.depth<=8):SeqAt.shaped d=true:=by
 unfold SeqAt.shaped
 rw[h1,Bool.true_and]
 exact decide_eq_true (Nat.le_trans h2 (by decide))
theorem r7 (p q:PV):PyData.eqv (oO p) (oO q)=eqv p q:=by
 rcases p with _|_<;>try rfl
 ·cases q<;>rfl
 ·cases q<;>try rfl
  exact Bool.eq_iff_iff.mpr (beq_iff_eq.trans strEq_iff.symm)
end
theorem iK {x y:PV} {q:Int×Int} (h:j9 x y=some q):x=.int q.1∧y=.int q.2:=
 aJ h fun a ha h=>bY h fun b hb h=>h▸⟨d9 ha,d9 hb⟩
section
variable {G:Wld} {b₀ h:Heap} {R:a7} {x y:PV} {u v a b:Value}
theorem St.look (S:St b₀ (sp (aH G x u) R) h):E2 fun Z m=>A3 (PH.le Z h.get?) (PH.le m h.get?) (ca G x u Z m):=by
 obtain⟨Z,m,⟨y,zz,zz,l1,zz,H,zz⟩,zz,r2,r3⟩:=S
 exact⟨Z,y,r2,fun a o e=>(r3 a o (l1 a o e)).1,H⟩
theorem bN {l:List PV} {vs:Array Value} {Z m:PH} (H:bT G l vs.toList Z m):vs.size=l.length:=length_toList.symm.trans (bQ H)
theorem dg {l:List PV} {vs:Array Value} (e:vs.size=l.length):vs.isEmpty=l.isEmpty:=by
 rcases l with _|⟨a,r⟩
 ·exact decide_eq_true e
 ·exact decide_eq_false (by rw[e];exact Nat.succ_ne_zero _)
variable {prog:Program} {w:World} {A:Around} {s:Shared} {E:Value->Shared->Prop}
set_option tactic.hygienic true in
theorem dZ {r:Bool} (e:kI x=some r) (S:St b₀ (sp (aH G x u) R) s.heap) {Q:Bool->Shared->Prop} (k:∀tk,Q r {s with toks:=tk}):wpAny (model prog w) A (truthy u) Q E s:=by
 obtain⟨Z,m,hz,hm,H⟩:=S.look
 have lst:∀{l:List PV} {m:PH},m.le s.heap.get?->ca G (.lst l) u Z m->(!l.isEmpty)=r->wpAny (model prog w) A (truthy u) Q E s:=by
  intro l m hm H hr
  obtain⟨a,vs,i,rfl,hc,zz,y,z,zz,l1,zz,ha,ho⟩:=H
  have:=bN ho
  simp only[gf]at hc
  refine wpAny_truthy_list ⟨_,hm _ _ (l1 _ _ ha),rfl,_,rfl⟩ (by lia) ?_
  rw[dg this,hr]
  exact k _
 rcases x with _|_<;>first|exact no e|exact bp e|(cases e;done)|skip
 ·cases e;cases (show u=_ from H);exact fun zz zz zz=>k s.toks
 ·rename_i b
  cases e;cases (show u=_ from H);exact fun zz zz zz=>k s.toks
 ·rename_i i
  cases e;obtain⟨t,rfl⟩:=H;exact PySem.P.truthy_int (k s.toks)
 ·rename_i l
  cases e
  obtain⟨a,vs,i,rfl,hc,zz,ha,ho⟩:=H
  have:=bN ho
  simp only[gf]at hc
  refine truthy_tuple ⟨_,hz _ _ ha,rfl,_,rfl⟩ (by lia) ?_
  rw[dg this]
  exact k _
 ·rename_i l
  exact lst hm H (Option.some.inj e)
 ·rename_i q
  cases q with
  | lst l=>
   obtain⟨y,ly,H⟩:=H
   exact lst (le_trans ly hz) H (Option.some.inj e)
  | _=>exact no e
set_option tactic.hygienic true in
theorem qa {Z m:PH} (s:bS x=true) (H:ca G x u Z m):(u==.none)=isNone x:=by
 have r:∀{q:PV} {Z m:PH},jJ q=true->ca G q u Z m->(u==.none)=false:=by
  intro q Z m s H
  rcases q with _|_<;>first|exact no s|exact bp s|(cases s;done)|skip
  ·rename_i l
   obtain⟨a,zz,zz,rfl,zz⟩:=H;rfl
  ·rename_i _ l
   obtain⟨a,zz,zz,rfl,zz⟩:=H;rfl
  ·rename_i _ _ l
   obtain⟨a,zz,zz,zz,zz,zz,zz,rfl,zz⟩:=H;rfl
 cases x with
 | none=>cases (show u=_ from H);rfl
 | bool b=>cases (show u=_ from H);rfl
 | int i=>obtain⟨t,rfl⟩:=H;rfl
 | str i=>obtain⟨⟨t,rfl⟩,zz⟩:=H;rfl
 | tup l=>obtain⟨a,zz,zz,rfl,zz⟩:=H;rfl
 | fz q=>obtain⟨y,zz,H⟩:=H;exact r ((Bool.or_false _).symm.trans s) H
 | LZ=>exact bp s
 | exc=>exact bp s
 | pin _ _=>exact bp s
 | _=>exact r rfl H
theorem r9:∀(l:List PV),((fD l).any fun z=>PyData.eqv z (oO x))=uL x l
 | []=>rfl
 | b::r=>by
  show(PyData.eqv (oO b) (oO x)||_)=(eqv b x||_)
  rw[r9 r,r7]
theorem B5 {ks:List Str} {us:List Value} {vs:List PV} {z:Str} (hl:ks.length=vs.length) (hu:us.length=vs.length) (hv:vs.all mH=true):(valueAt (ks.zip us) z).isSome=mH (cu z ks vs):=by
 induction ks generalizing us vs with
 | nil=>rcases vs with _|_<;>rfl
 | cons k ks ih=>
  cases vs with
  | nil=>cases hl
  | cons v vs=>
  cases us with
  | nil=>cases hu
  | cons u us=>
  unfold valueAt
  rw[CU]
  rw[zip_cons_cons,find?_cons]
  by_cases c:k=z
  ·subst c
   simp only[decide_true,kW,if_true,(all_cons hv).1,map_some,Option.isSome_some]
  ·simp only[decide_eq_false c,wT c,Bool.false_eq_true,if_false]
   exact ih (Nat.succ.inj hl) (Nat.succ.inj hu) (all_cons hv).2
end
section
variable {G:bB} {X:Amb G} {R:a7} {x y:PV} {a b:Value} {s:Shared} {E:Value->Shared->Prop}
theorem FM:X.A.units+64<cLine:=by have:=X.un;simp only[cLine];exact(az 0x26ac424022004223284212c321010228004417) this
theorem C4 {y:PV} {u:Value} {Z m:PH} {h:Heap} (hz:Z.le h.get?) (hm:m.le h.get?) (H:ca G.toWld y u Z m):∃n,PH.le n h.get?∧ca G.toWld (un y) u Z n:=by
 cases y with
 | fz v=>obtain⟨n,l,H⟩:=H;exact⟨n,le_trans l hz,H⟩
 | _=>exact⟨m,hm,H⟩
theorem qb {ng r:Bool} (e:s6 x y=some (true,r)) (S:St G.b₀ (sp (aH G.toWld x a) (sp (aH G.toWld y b) R)) s.heap) {Q:Value->Shared->Prop}
  (k:∀tk,Q (.bool (if ng then !r else r)) {s with toks:=tk}):wpAny (model G.prog G.w) X.A (compareOp (if ng then .NotIn else .In) a b) Q E s:=by
 obtain⟨Zx,mx,zx,lx,hx⟩:=S.look
 obtain⟨Zy,my,zy,ly,hy⟩:=S.snd.look
 obtain⟨n,ln,hy⟩:=C4 zy ly hy
 have now:=k s.toks
 have u:=FM (X:=X)
 unfold s6 at e
 cases q:un y with
 | tup l=>
  rw[q]at e hy
  obtain⟨c,rfl⟩:=Prod.mk.inj (Option.some.inj e)
  refine cz c fun c1 c2=>?_
  obtain⟨as,ra,la,da⟩:=cD 8 x c1 zx lx hx
  obtain⟨bs,rb,lb,db⟩:=cD 9 (.tup l) c2 zy ln hy
  rw[←r9]at now
  cases ng
  ·exact SeqAt.in_tuple_reads rb ra lb la (by exact(b6 0x1020306110044281201710402200427) u da) now
  ·exact SeqAt.notIn_tuple_reads rb ra lb la (by exact(b6 0x1020306110044281201710402200427) u da) now
 | lst l=>
  rw[q]at e hy
  obtain⟨c,rfl⟩:=Prod.mk.inj (Option.some.inj e)
  refine cz c fun c1 c2=>?_
  obtain⟨as,ra,la,da⟩:=cD 8 x c1 zx lx hx
  obtain⟨bs,rb,lb,db⟩:=cD 9 (.lst l) c2 zy ln hy
  rw[←r9]at now
  cases ng
  ·exact SeqAt.in_list_reads rb ra lb la (by exact(b6 0x1020306110044281201710402200427) u da) now
  ·exact SeqAt.notIn_list_reads rb ra lb la (by exact(b6 0x1020306110044281201710402200427) u da) now
 | dct ks vs=>
  rw[q]at e hy
  cases x with
  | str z=>
   obtain⟨c,rfl⟩:=Prod.mk.inj (Option.some.inj e)
   obtain⟨⟨t,rfl⟩,zz⟩:=hx
   obtain⟨d,o,us,rfl,⟨es,ep,hd⟩,sys,hl,y1,y2,zz,l1,zz,ho,hus⟩:=hy
   have hD:s.heap.DictOf (strKind G.prog G.w) d (ks.zip us):=⟨o,es,ep,ln _ _ (l1 _ _ ho),hd⟩
   have now:=k (s.toks+1)
   rw[←B5 hl (bQ hus) c]at now
   cases ng
   ·exact wpAny_in_of (strKind_is G.prog G.w _ t) sys hD.mapOf now
   ·exact wpAny_notIn_of (strKind_is G.prog G.w _ t) sys hD.mapOf now
  | _=>exact no e
 | _=>rw[q]at e;exact no e
theorem gG {op:CmpOp} {r:Bool} (e:KJ op x y=some (true,r)) (ox:bS x=true) (S:St G.b₀ (sp (aH G.toWld x a) (sp (aH G.toWld y b) R)) s.heap) {Q:Value->Shared->Prop}
  (k:∀tk,Q (.bool r) {s with toks:=tk}):wpAny (model G.prog G.w) X.A (compareOp op a b) Q E s:=by
 have now:Q (.bool r) s:=k s.toks
 obtain⟨Zx,mx,zx,lx,hx⟩:=S.look
 obtain⟨Zy,my,zy,ly,hy⟩:=S.snd.look
 have rd:(plain 8 x&&plain 8 y)=true->E2 fun as bs=>A4 (Reads s.heap a (oO x) as) (SeqAt.shaped (oO x)=true) (Reads s.heap b (oO y) bs) (SeqAt.shaped (oO y)=true):=fun c=>by
  refine cz c fun c1 c2=>?_
  obtain⟨as,ra,la,da⟩:=cD 8 x c1 zx lx hx
  obtain⟨bs,rb,lb,db⟩:=cD 8 y c2 zy ly hy
  exact⟨as,bs,ra,jg la da,rb,jg lb db⟩
 have is:isNone y=true->b=.none:=fun c=>by
  rcases y with _|_<;>first|exact hy|exact bp c
 have num:∀{f:Int->Int->Bool},((j9 x y).map fun q=>(true,f q.1 q.2))=some (true,r)->E4 fun i j t u=>A3 (a=.int i t) (b=.int j u) (r=f i j):=by
  intro f e
  refine bY e fun q hq e2=>?_
  obtain⟨rfl,rfl⟩:=iK hq
  obtain⟨t,rfl⟩:=hx
  obtain⟨u,rfl⟩:=hy
  exact⟨_,_,t,u,rfl,rfl,(Prod.mk.inj e2).2.symm⟩
 rcases op with _|_|_|_|_|_|_|_|_|_
 ·obtain⟨c,rfl⟩:=Prod.mk.inj (Option.some.inj e)
  obtain⟨as,bs,ra,sa,rb,sb⟩:=rd c
  exact eq_dataH ra rb sa sb FM (by rw[r7];exact now)
 ·obtain⟨c,rfl⟩:=Prod.mk.inj (Option.some.inj e)
  obtain⟨as,bs,ra,sa,rb,sb⟩:=rd c
  exact ne_dataH ra rb sa sb FM (by rw[r7];exact now)
 ·obtain⟨i,j,t,u,rfl,rfl,rfl⟩:=num (f:=fun a b=>decide (a<b)) e;exact lt_int now
 ·obtain⟨i,j,t,u,rfl,rfl,rfl⟩:=num (f:=fun a b=>decide (a<=b)) e;exact le_int now
 ·obtain⟨i,j,t,u,rfl,rfl,rfl⟩:=num (f:=fun a b=>decide (b<a)) e;exact gt_int now
 ·obtain⟨i,j,t,u,rfl,rfl,rfl⟩:=num (f:=fun a b=>decide (b<=a)) e;exact ge_int now
 ·obtain⟨c,rfl⟩:=Prod.mk.inj (Option.some.inj e)
  rw[is c]
  exact is_none (by rw[qa ox hx];exact now)
 ·obtain⟨c,rfl⟩:=Prod.mk.inj (Option.some.inj e)
  rw[is c]
  exact isNot_none (by rw[qa ox hx];exact now)
 ·exact qb (ng:=false) e S k
 ·obtain⟨⟨g,r'⟩,hq,e⟩:=map_eq_some_iff.mp e
  cases e
  exact qb (ng:=true) hq S k
end
section
variable {A B C D:a7}
theorem fY:cM (sp A (sp B (sp C D))) (sp C (sp A (sp B D))):=aj (al ag aC) aC
end
section
variable {G:Wld} {b₀ h:Heap} {R:a7} {x y:PV} {u a b:Value} {l m:List PV} {vs us:List Value}
theorem St.put {v:PV} (S:St b₀ R h) (H:∀Z m,ca G v u Z m):St b₀ (sp (aH G v u) R) h:=S.imp fun Z m r=>⟨fun zz=>none,m,aE,ay,le_refl m,H _ _,r⟩
theorem k7 (s:l.all aL=true):∀{us:List Value} {Z m:PH} (n:PH),bT G l us Z m->bT G l us Z n:=by
 induction l with
 | nil=>exact fun zz H=>H
 | cons p ps ih=>
  rintro zz Z m n ⟨u,r,e,x,y,zz,zz,zz,h,k⟩
  exact⟨u,r,e,fun zz=>none,n,aE,ay,le_refl n,d8 (all_cons s).1 _ h,ih (all_cons s).2 n k⟩
theorem wZ (s:l.all aL=true):cM (aq G l vs) (sp (aq G l vs) (aq G l vs)):=fun zz m H=>⟨fun zz=>none,m,aE,ay,le_refl m,k7 s _ H,H⟩
theorem tr (s:l.all bS=true) (t:m.all bS=true):(l++m).all bS=true:=by rw[all_append,s,t];rfl
theorem eR:∀{l:List PV},l.all aL=true->l.all bS=true
 | [],_=>rfl
 | _::_,s=>List.all_cons.trans (and_eq_true_iff.mpr ⟨or_eq_true_iff.mpr (.inl (all_cons s).1),eR (all_cons s).2⟩)
set_option tactic.hygienic true in
theorem ig (e:litems x=some l):∃q,af x=.fz (.lst q)∧q.map af=l:=by
 rcases x with _|_<;>first|exact no e|exact bp e|(cases e;done)|skip
 ·rename_i q
  exact⟨q,rfl,Option.some.inj e⟩
 ·rename_i v
  rcases v with _|_<;>first|exact⟨_,rfl,Option.some.inj e⟩|exact no e
theorem St.items (e:litems x=some l) (S:St b₀ (sp (aH G x a) R) h):E3 fun ad vs k=>A6 (a=.ref ad) (h.get? ad=some (aX vs k)) (vs.size=l.length) (l.length<=gf) (l.all aL=true) (St b₀ (sp (aq G l vs.toList) R) h):=by
 obtain⟨q,eq,rfl⟩:=ig e
 have S:=S.shr (o6 (by rw[eq];rfl))
 rw[eq]at S
 obtain⟨Z,m,⟨zz,zz,zz,zz,l2,⟨x2,l3,ad,vs,k,rfl,hc,ho,zz,zz,zz,l4,l5,hp,hs⟩,r⟩,r1,r2,r3⟩:=S
 exact⟨ad,vs,k,rfl,r2 _ _ (l3 _ _ (l4 _ _ hp)),(bN hs).trans (length_map af).symm,(length_map af).symm▸hc,er ho,Z,m,⟨fun zz=>none,m,aE,ay,le_refl m,fe (le_trans l5 l3) ho hs _,R.mono (le_refl Z) l2 r⟩,r1,r2,r3⟩
theorem St.newL {vs:Array Value} {k:Nat} (S:St b₀ (sp (aq G l vs.toList) R) h) (hc:l.length<=gf) (ho:l.all bS=true):St b₀ (sp (aH G (.lst l) (.ref h.objs.size)) R) (h.push (aX vs k)):=
 (S.push (aX vs k) rfl).imp (aj a8 (al (fun Z m H=>⟨_,vs,k,rfl,hc,ho,H⟩) ag))
theorem St.newT {vs:Array Value} {k:Nat} (S:St b₀ (sp (aq G l vs.toList) R) h) (hc:l.length<=gf) (ho:l.all aL=true):St b₀ (sp (aH G (.tup l) (.ref h.objs.size)) R) (h.push (ej vs k)):=by
 obtain⟨Z,m,⟨x,y,d,l1,l2,q,x2,y2,d2,l3,l4,o,r⟩,r1,r2,r3⟩:=S.push (ej vs k) rfl
 have za:=(r3 _ _ (l1 _ _ q)).2
 have le:Z.le ((PH.one h.objs.size (ej vs k)).un Z):=jd (ei za)
 refine⟨_,y2,⟨fun zz=>none,y2,aE,ay,le_refl _,⟨_,vs,k,rfl,hc,ho,pV (b8 _ _),k7 ho _ (ci le l (le_refl _) o)⟩,R.mono le (le_refl _) r⟩,fun a o e=>le a o (r1 a o e),jP (fun a o e=>?_) r2,fun a o e=>?_⟩
 ·by_cases c:a=h.objs.size
  ·subst c;rw[b8]at e;cases e;exact(r3 _ _ (l1 _ _ q)).1
  ·rw[dN c]at e;exact no e
 ·have:=r3 a o (l2 a o (l4 a o e))
  refine⟨this.1,un_none.mpr ⟨dN fun c=>?_,this.2⟩⟩
  subst c
  exact nomatch (l4 _ _ e).symm.trans (jQ d q)
theorem St.tup (S:St b₀ (sp (aH G (.tup l) a) R) h):E3 fun ad vs k=>A6 (a=.ref ad) (h.get? ad=some (ej vs k)) (vs.size=l.length) (l.length<=gf) (l.all aL=true) (St b₀ (sp (aq G l vs.toList) R) h):=by
 obtain⟨Z,m,⟨zz,zz,zz,zz,l2,⟨ad,vs,k,rfl,hc,ho,hp,hs⟩,r⟩,r1,r2,r3⟩:=S
 exact⟨ad,vs,k,rfl,r2 _ _ hp,bN hs,hc,ho,Z,m,⟨fun zz=>none,m,aE,ay,le_refl m,hs,R.mono (le_refl Z) l2 r⟩,r1,r2,r3⟩
inductive FN (op:Operator) (x:PV) (y:PV) (v:PV):Prop
 | tup (l:List PV) (m:List PV) (o:op=.Add) (e:x=.tup l) (f:y=.tup m) (g:(!l.isEmpty&&!m.isEmpty&&blt (l.length+m.length) 1000)=true) (h:v=.tup (l++m))
 | lst (l:List PV) (m:List PV) (o:op=.Add) (e:litems x=some l) (f:litems y=some m) (h:v=.lst (l++m))
 | mul (n:Int) (l:List PV) (o:op=.Mult) (e:y=.int n) (f:litems x=some l) (g:small n=true) (h:v=.lst (replicate n.toNat l).flatten)
theorem w3 {op:Operator} {v:PV} (e:Fv op x y=some v):FN op x y v:=by
 have two:((litems x).bind fun l=>(litems y).map fun m=>.lst (l++m))=some v->FN .Add x y v:=fun e=>by
  refine aJ e fun l hl e=>?_
  refine bY e fun m hm e=>?_
  exact .lst l m rfl hl hm e.symm
 rcases op with _|_<;>first|exact no e|exact bp e|(cases e;done)|skip
 ·have e:(match mI x with
   | some x=>(mI y).bind fun y=>if(!x.isEmpty&&!y.isEmpty&&blt (x.length+y.length) 1000)=true then some (.tup (x++y))else none
   | none=>(litems x).bind fun l=>(litems y).map fun m=>.lst (l++m))=some v:=e
  rcases q:mI x with _|l<;>rw[q]at e
  ·exact two e
  ·refine aJ e fun m hm e=>?_
   obtain⟨c,rfl⟩:=br e
   exact .tup l m rfl (kU q) (kU hm) c rfl
 ·refine aJ e fun n hn e=>?_
  refine aJ e fun l hl e=>?_
  obtain⟨c,rfl⟩:=br e
  exact .mul n l rfl (d9 hn) hl c rfl
theorem St.cat {vs us:Array Value} (S:St b₀ (sp (aq G m us.toList) (sp (aq G l vs.toList) R)) h):St b₀ (sp (aq G (l++m) (vs++us).toList) R) h:=by
 rw[toList_append]
 exact S.imp (aj aC (aj a8 (al cB ag)))
theorem m8 {α:Type} (vs:Array α):∀(k:Nat) (acc:Array α),(foldl (fun x1 x2=>x1++x2) acc (replicate k vs)).toList=acc.toList++(replicate k vs.toList).flatten
 | 0,acc=>(append_nil _).symm
 | k+1,acc=>by
  rw[replicate_succ,foldl_cons,m8 vs k,replicate_succ,flatten_cons,toList_append,append_assoc]
theorem qc (s:l.all aL=true):∀k,cM (aq G l us) (aq G (replicate k l).flatten (replicate k us).flatten)
 | 0=>fun zz zz zz=>rfl
 | k+1=>by
  rw[replicate_succ,replicate_succ,flatten_cons,flatten_cons]
  exact aj (wZ s) (aj (al ag (qc s k)) cB)
theorem tu (s:l.all aL=true):∀k,(replicate k l).flatten.all aL=true
 | 0=>rfl
 | k+1=>by rw[replicate_succ,flatten_cons,all_append,s,tu s k];rfl
theorem sf {m:Nat} (h:m<2 ^ 62):m.log2+1<=64:=by
 by_cases h0:m=0
 ·subst h0;decide
 ·have:m.log2<62:=(Nat.log2_lt h0).mpr h
  exact(ba 0x40221100413e220027) this
theorem ff:∀{a:Int},small a=true->-(2 ^ 62)<a∧a<2 ^ 62
 | .ofNat n,h=>by
  have:=blt_eq.mp h
  show -(2 ^ 62)<(n:Int)∧(n:Int)<2 ^ 62
  lia
 | .negSucc n,h=>by
  have:=blt_eq.mp h
  lia
theorem si {a:Int} (h:small a=true):Builtin.Int.intBits a<=64:=by
 have:=ff h
 unfold Builtin.Int.intBits
 split
 ·decide
 ·exact sf (by lia)
end
section
variable {G:bB} {R:a7} {x y v:PV} {a b:Value} {s:Shared} {A:Around} {E:Value->Shared->Prop}
def Gives (G:bB) (R:a7) (s:Shared) (v:PV) (Q:Value->Shared->Prop):Prop:=∀u h k,bS v=true->St G.b₀ (sp (aH G.toWld v u) R) h->Q u {s with heap:=h,toks:=k}
theorem Gives.int {i:Int} {t k:Tok} {Q:Value->Shared->Prop} (g:Gives G R s (.int i) Q) (S:St G.b₀ R s.heap):Q (.int i t) {s with toks:=k}:=g _ s.heap k rfl (S.put fun zz zz=>⟨t,rfl⟩)
theorem sj {op:Operator} {i j:Int} {t u:Tok} (e:Fw op i j=some v) (S:St G.b₀ R s.heap) {Q:Value->Shared->Prop} (g:Gives G R s v Q):wpAny (model G.prog G.w) A (binaryOp op (.int i t) (.int j u)) Q E s:=by
 rcases op with _|_<;>first|exact no e|exact bp e|(cases e;done)|skip
 ·cases e;exact PySem.P.add_int (g.int S)
 ·cases e;exact PySem.P.sub_int (g.int S)
 ·by_cases c:(small i&&small j)=true
  ·cases (if_pos c).symm.trans e
   exact PySem.P.mul_int (g.int S) (IntMulOk.of_left (si (bA c).1))
  ·cases (if_neg c).symm.trans e
 ·by_cases c:decide (0<j)=true
  ·cases (if_pos c).symm.trans e
   have c:=of_decide_eq_true c
   exact mod_int' (by exact(pM 0x10067000157) c) (by rw[Int.fmod_eq_emod_of_nonneg _ (by exact(pM 0x14000157) c)];exact g.int S)
  ·cases (if_neg c).symm.trans e
 ·by_cases c:(decide (0<j)&&decide (j<1073741824))=true
  ·cases (if_pos c).symm.trans e
   have c:=(bA c).imp of_decide_eq_true of_decide_eq_true
   exact floordiv_int (by exact(pM 0x1006740000000820050001587) c) (by rw[Int.fdiv_eq_ediv_of_nonneg _ (by exact(pM 0x1440000000820050001587) c)];exact g.int S) (.inl (PyProof.noPylong_small (by lia)))
  ·cases (if_neg c).symm.trans e
theorem uV {op:Operator} (e:bin op x y=some v) (o:Iv v=true) (S:St G.b₀ (sp (aH G.toWld x a) (sp (aH G.toWld y b) R)) s.heap) {Q:Value->Shared->Prop} (g:Gives G R s v Q):wpAny (model G.prog G.w) A (binaryOp op a b) Q E s:=by
 unfold bin at e
 cases hn:j9 x y with
 | some q=>
  rw[hn]at e
  obtain⟨rfl,rfl⟩:=iK hn
  obtain⟨zz,zz,zz,zz,t,rfl⟩:=S.look
  obtain⟨zz,zz,zz,zz,u,rfl⟩:=S.snd.look
  exact sj e S.snd.snd g
 | none=>
 rw[hn]at e
 rcases w3 e with⟨l,m,rfl,rfl,rfl,c,rfl⟩|⟨l,m,rfl,hl,hm,rfl⟩|⟨n,l,rfl,rfl,hl,hs,rfl⟩
 ·obtain⟨ad,vs,i,rfl,ha,lx,zz,ox,S1⟩:=S.tup
  obtain⟨bd,us,j,rfl,hb,ly,zz,oy,S2⟩:=(S1.imp aC).tup
  refine cz c fun c c3=>?_
  refine cz c fun c1 c2=>?_
  have c3:l.length+m.length<1000:=le_of_ble_eq_true c3
  refine PySem.P.add_tuple ha hb (by rw[dg lx];simpa using c1) (by rw[dg ly];simpa using c2) ?_ (by simp only[sizeLine];exact(b6 0x1000000722000413e8323010427302037100037) lx ly c3)
  exact g _ _ s.toks rfl (S2.cat.newT (by simp only[length_append,gf];exact(az 0x100000621000413e8321000427) c3) (by rw[all_append,ox,oy];rfl))
 ·have hlim:(l++m).length<Fu:=le_of_ble_eq_true o
  obtain⟨ad,vs,i,rfl,ha,lx,zz,ox,S1⟩:=S.items hl
  obtain⟨bd,us,j,rfl,hb,ly,zz,oy,S2⟩:=(S1.imp aC).items hm
  simp only[Fu,length_append]at hlim
  refine PySem.P.add_list ha hb (g _ _ s.toks rfl (S2.cat.newL (by simp only[length_append,gf];exact(az 0x10000062100041f4240521000427) hlim) (eR (by rw[all_append,ox,oy];rfl)))) (by simp only[sizeLine];exact(b6 0x100000072200041f4240523010427302037100037) lx ly hlim)
 ·have hlim:(replicate n.toNat l).flatten.length<Fu:=le_of_ble_eq_true o
  obtain⟨zz,zz,zz,zz,u,rfl⟩:=S.snd.look
  obtain⟨ad,vs,kk,rfl,ha,lx,zz,ox,S1⟩:=S.items hl
  have hn:=ff hs
  have hl2:(replicate n.toNat l).flatten.length=n.toNat*l.length:=by
   rw[List.length_flatten,List.map_replicate,List.sum_replicate_nat]
  rw[hl2]at hlim
  simp only[Fu]at hlim
  have c3:vs.size*n.toNat<1000000:=by rw[lx,Nat.mul_comm];exact hlim
  refine wpAny_binaryOp_repeat_ref (T:="list") (U:="int") (by decide) ⟨_,ha,rfl⟩ (fun s'=>typeIs_int s' n u) noFill_list_mul PySem.F.fills_int_mul PySem.F.slot_int_rmul repeat_list PySem.F.slot_int_index.lookup
   (call_meets PySem.F.slot_int_rmul (typeIs_int s n u) PySem.F.entry_int_rmul (PySem.F.args_int_rmul_2 _ _) (int___rmul___int_list n u ad vs kk)
    ⟨ha,rfl,⟨_,ha,rfl⟩,call_meets PySem.F.slot_list_mul ⟨_,ha,rfl⟩ PySem.F.entry_list_mul (PySem.F.args_list_mul_2 _ _)
     (AutoListH.list___mul___list_int_3 ad vs kk n u (by simp[Builtin.List.listFitsIndex];lia) (by lia) (by simp[Builtin.List.listTooLong,sizeLine];exact(ba 0x100000072001f4240520027) c3))
     ⟨ha,?_⟩⟩)
  refine g _ _ s.toks rfl (St.newL ?_ (by rw[hl2];simp only[gf];exact(ba 0x10000062001f4240520027) hlim) (eR (tu ox _)))
  have S:=((S1.imp (al (qc ox n.toNat) ag)).imp aC).snd
  rw[m8,nil_append]
  by_cases hem:vs.isEmpty=true
  ·have hv:vs.toList=[]:=by simpa [Array.isEmpty] using hem
   rw[if_pos hem]
   have:∀k:Nat,(replicate k ([]:List Value)).flatten=[]:=fun k=>by induction k<;>simp_all [replicate_succ]
   rw[hv,this]at S
   exact S
  ·rw[if_neg hem]
   exact S
end
theorem dy {e:Expr} {env:PySem.Env} (h:jM e=true) (rest:List Expr):starEach (e::rest) env=(false,eval e env)::starEach rest env:=by
 rcases e with _|_<;>first|rfl|exact bp h
theorem m9 {e:Expr} {op:CmpOp} (h:jM e=true):behindInMarks op e=false:=by
 rcases e with _|_<;>first|rfl|exact bp h
theorem w4 {e:Expr} {env:PySem.Env} (h:jM e=true) (x:Value):foldedSetIterable e env x=pure x:=by
 rcases e with _|_<;>first|rfl|exact bp h
theorem St.vlen {G:Wld} {b₀ h:Heap} {l:List PV} {vs:List Value} {R:a7} (S:St b₀ (sp (aq G l vs) R) h):vs.length=l.length:=by
 obtain⟨zz,zz,⟨zz,zz,zz,zz,zz,H,zz⟩,zz⟩:=S
 exact bQ H
def SL {G:bB} (X:Amb G) (n:Nat) (t:Sem (List Value)) (f:M (List PV)):Prop:=
 ∀(s:Shared) (ρ:Env) (us:List Value) (P:List PV->Env->Prop) (R:a7) (Q:List Value->Shared->Prop) (E:Value->Shared->Prop),f ρ P->St G.b₀ (sp (au X ρ us) R) s.heap ->
  (∀l ρ' vs h k,l.length=n->l.all bS=true->P l ρ'->St G.b₀ (sp (aq G.toWld l vs) (sp (au X ρ' us) R)) h->Q vs {s with heap:=h,toks:=k})->wpAny (model G.prog G.w) X.A t Q E s
section
variable {G:bB} {X:Amb G} {r:Ev}
noncomputable abbrev mK {G:bB} (X:Amb G) (r:Ev):Prop:=(∀e,SE X (eval e X.env) (r.e X.c e))∧∀e,ST X (isTrue e X.env (eval e X.env)) (r.t X.c e)
theorem sr (H:∀e,SE X (eval e X.env) (r.e X.c e)) {pos:Pos}:∀es,es.all jM=true->SL X es.length (spliced (backTo pos (starEach es X.env))) (CW r X.c es)
 | [],_,s,ρ,us,P,R,Q,E,h,S,k=>wpAny_items_nil (k [] ρ [] s.heap s.toks rfl rfl h (S.imp fun Z m a=>⟨fun zz=>none,m,aE,ay,le_refl m,rfl,a⟩))
 | e::es,c,s,ρ,us,P,R,Q,E,h,S,k=>by
  refine cz (List.all_cons.symm.trans c) fun c1 c2=>?_
  refine wpAny_items_cons (H e s ρ us _ R _ E h S fun v ρ₁ u h₁ k₁ ov hv S₁=>?_) (dy c1 es)
  refine sr H es c2 {s with heap:=h₁,toks:=k₁} ρ₁ us _ (sp (aH G.toWld v u) R) _ E hv (S₁.imp aC) fun l ρ₂ vs h₂ k₂ ln ol hl S₂=>?_
  exact k (v::l) ρ₂ (u::vs) h₂ k₂ (congrArg Nat.succ ln) (List.all_cons.trans (by rw[ov,ol];rfl)) hl (S₂.imp (aj fY (aj a8 (al (fun Z m a=>⟨u,vs,rfl,a⟩) ag))))
theorem c5 {es:List Expr} (c:gX es=true):es.length<20∧es.all jM=true:=(bA c).imp le_of_ble_eq_true id
theorem tv (H:∀e,SE X (eval e X.env) (r.e X.c e)) {pos:Pos} {es:List Expr}:SL X es.length (spliced (backTo pos (starEach es X.env))) (mJ r X.c es):=fun s ρ us P R Q E h S k=>by
 refine bH h fun c h=>?_
 exact sr H es (c5 c).2 s ρ us P R Q E h S k
theorem ss {a b:Expr} (H:∀e,SE X (eval e X.env) (r.e X.c e)) {s:Shared} {ρ:Env} {us:List Value} {P:PV->PV->Env->Prop} {R:a7} {op:Value->Value->Shared->Prop} {E:Value->Shared->Prop} (h:r.e X.c a ρ fun x ρ=>r.e X.c b ρ fun y ρ=>P x y ρ) (S:St G.b₀ (sp (au X ρ us) R) s.heap)
  (k:∀x y ρ' u w h k,bS x=true->bS y=true->P x y ρ'->St G.b₀ (sp (aH G.toWld x u) (sp (aH G.toWld y w) (sp (au X ρ' us) R))) h->op u w {s with heap:=h,toks:=k}):
  wpAny (model G.prog G.w) X.A (eval a X.env) (fun u s₁=>wpAny (model G.prog G.w) X.A (eval b X.env) (fun w s₂=>op u w s₂) E s₁) E s:=
 H a s ρ us _ R _ E h S fun x ρ₁ u h₁ k₁ ox hx S₁=>H b {s with heap:=h₁,toks:=k₁} ρ₁ us _ (sp (aH G.toWld x u) R) _ E hx (S₁.imp aC) fun y ρ₂ w h₂ k₂ oy hy S₂=>k x y ρ₂ u w h₂ k₂ ox oy hy (S₂.imp fY)
theorem C5 (H:∀e,SE X (eval e X.env) (r.e X.c e)) {a b:Expr} {op:Operator} {pos:Pos}:SE X (eval (.BinOp a op b pos) X.env) fun ρ P=>r.e X.c a ρ fun x ρ=>r.e X.c b ρ fun y ρ=>aP (bin op x y) fun v=>bK (Iv v) (P v ρ):=by
 intro s ρ us P R Q E h S k
 refine wpAny_BinOp (ss H h S fun x y ρ' u w h' k' zz zz hp S'=>?_)
 refine eQ hp fun v hv hp=>?_
 refine bH hp fun o hp=>?_
 exact uV (s:={s with heap:=h',toks:=k'}) hv o S' fun u' h'' k'' ov S''=>k v ρ' u' h'' k'' ov hp S''
theorem C6 (H:∀e,SE X (eval e X.env) (r.e X.c e)) {es:List Expr} {j:Nat} {pos:Pos}:SE X (eval (.Tuple es j pos) X.env) fun ρ P=>mJ r X.c es ρ fun l ρ=>P (.tup (l.map af)) ρ:=by
 intro s ρ us P R Q E h S k
 have c:=(c5 (bL h).1).1
 refine wpAny_Tuple (tv H s ρ us _ R _ E h S fun l ρ' vs h' k' ln ol hl S'=>⟨by rw[S'.vlen];simp only[sizeLine];exact(az 0x10000007210100103714220027) c ln,?_⟩)
 exact k _ ρ' _ _ k' rfl hl ((S'.shrs ol).newT (vs:=vs.toArray) (k:=0) (by simp only[length_map,gf];exact(az 0x1000006210100103714220027) c ln) (er ol))
theorem C7 (H:∀e,SE X (eval e X.env) (r.e X.c e)) {es:List Expr} {pos:Pos}:SE X (eval (.List es pos) X.env) fun ρ P=>mJ r X.c es ρ fun l ρ=>P (.lst l) ρ:=by
 intro s ρ us P R Q E h S k
 have c:=(c5 (bL h).1).1
 refine wpAny_List (tv H s ρ us _ R _ E h S fun l ρ' vs h' k' ln ol hl S'=>⟨by rw[S'.vlen];simp only[sizeLine];exact(az 0x10000007210100103714220027) c ln,?_⟩)
 exact k _ ρ' _ _ k' rfl hl (S'.newL (vs:=vs.toArray) (k:=0) (by simp only[gf];exact(az 0x1000006210100103714220027) c ln) ol)
theorem C8 {i:Int} {j:_} {pos:Pos}:SE X (eval (.Constant (.int i) j pos) X.env) fun ρ P=>P (.int i) ρ:=fun s ρ us P R Q E h S k=>wpAny_Constant_int (k _ ρ _ s.heap _ rfl h (S.put fun zz zz=>⟨_,rfl⟩))
theorem zU {b:Bool} {j:_} {pos:Pos}:SE X (eval (.Constant (.bool b) j pos) X.env) fun ρ P=>P (.bool b) ρ:=fun s ρ us P R Q E h S k=>wpAny_Constant_bool (k _ ρ _ s.heap s.toks rfl h (S.put fun zz zz=>rfl))
theorem zV {j:_} {pos:Pos}:SE X (eval (.Constant .none j pos) X.env) fun ρ P=>P .none ρ:=fun s ρ us P R Q E h S k=>wpAny_Constant_none (k _ ρ _ s.heap s.toks rfl h (S.put fun zz zz=>rfl))
theorem C9 {x:Str} {j:_} {pos:Pos}:SE X (eval (.Constant (.str x) j pos) X.env) fun ρ P=>bK (EU x) (P (.str x) ρ):=fun s ρ us P R Q E h S k=>wpAny_Constant_str (k (.str x) ρ _ s.heap _ rfl (bL h).2 (S.put fun zz zz=>⟨⟨_,rfl⟩,(bL h).1⟩))
theorem Da {i:Int} {j:_} {pos pos':Pos}:SE X (eval (.UnaryOp .USub (.Constant (.int i) j pos') pos) X.env) fun ρ P=>P (.int (-i)) ρ:=fun s ρ us P R Q E h S k=>wpAny_UnaryOp (wpAny_Constant_int (PySem.P.neg_int (k _ ρ _ s.heap _ rfl h (S.put fun zz zz=>⟨_,rfl⟩))))
theorem Db (H:∀e,SE X (eval e X.env) (r.e X.c e)) {a:Expr} {pos:Pos}:SE X (eval (.UnaryOp .Not a pos) X.env) fun ρ P=>r.e X.c a ρ fun x ρ=>aP (kI x) fun b=>P (.bool (!b)) ρ:=fun s ρ us P R Q E h S k=>
 wpAny_UnaryOp (H a s ρ us _ R _ E h S fun x ρ₁ u h₁ k₁ zz hx S₁=>by
  refine eQ hx fun b hb hx=>?_
  exact not_value (dZ (s:={s with heap:=h₁,toks:=k₁}) hb S₁ fun tk=>k _ ρ₁ _ h₁ tk rfl hx (S₁.snd.put fun zz zz=>rfl)))
theorem Dc (H:mK X r) {t a b:Expr} {pos:Pos}:SE X (eval (.IfExp t a b pos) X.env) fun ρ P=>r.t X.c t ρ fun q ρ=>if q then r.e X.c a ρ P else r.e X.c b ρ P:=fun s ρ us P R Q E h S k=>
 wpAny_IfExp (H.2 t s ρ us _ R _ E h S fun q ρ₁ h₁ k₁ hq S₁=>by
  cases q
  ·exact H.1 b {s with heap:=h₁,toks:=k₁} ρ₁ us P R Q E hq S₁ k
  ·exact H.1 a {s with heap:=h₁,toks:=k₁} ρ₁ us P R Q E hq S₁ k)
theorem w5 (H:∀e,SE X (eval e X.env) (r.e X.c e)) {pos:Pos}:∀es,SE X (eval (.BoolOp .And es pos) X.env) (ww r X.c es)
 | [],_,_,_,_,_,_,_,h,_,_=>h.elim
 | [e],s,ρ,us,P,R,Q,E,h,S,k=>H e s ρ us P R Q E h S k
 | e::e'::es,s,ρ,us,P,R,Q,E,h,S,k=>BoolOp_and (H e s ρ us _ R _ E h S fun x ρ₁ u h₁ k₁ ox hx S₁=>by
  refine eQ hx fun b hb hx=>?_
  refine dZ (s:={s with heap:=h₁,toks:=k₁}) hb S₁ fun tk=>?_
  cases b
  ·exact k x ρ₁ u h₁ tk ox hx S₁
  ·exact w5 H (e'::es) {s with heap:=h₁,toks:=tk} ρ₁ us P R Q E hx S₁.snd k)
theorem B6 (H:∀e,SE X (eval e X.env) (r.e X.c e)) {pos:Pos}:∀es,SE X (eval (.BoolOp .Or es pos) X.env) (CX r X.c es)
 | [],_,_,_,_,_,_,_,h,_,_=>h.elim
 | [e],s,ρ,us,P,R,Q,E,h,S,k=>H e s ρ us P R Q E h S k
 | e::e'::es,s,ρ,us,P,R,Q,E,h,S,k=>BoolOp_or (H e s ρ us _ R _ E h S fun x ρ₁ u h₁ k₁ ox hx S₁=>by
  refine eQ hx fun b hb hx=>?_
  refine dZ (s:={s with heap:=h₁,toks:=k₁}) hb S₁ fun tk=>?_
  cases b
  ·exact B6 H (e'::es) {s with heap:=h₁,toks:=tk} ρ₁ us P R Q E hx S₁.snd k
  ·exact k x ρ₁ u h₁ tk ox hx S₁)
theorem w6 (H:∀e,ST X (isTrue e X.env (eval e X.env)) (r.t X.c e)) {pos:Pos} {whole:Sem Value}:∀es,ST X (isTrue (.BoolOp .And es pos) X.env whole) (rT r X.c es)
 | [],s,ρ,us,P,R,Q,E,h,S,k=>isTrue_and_nil (k true ρ s.heap s.toks h S)
 | e::es,s,ρ,us,P,R,Q,E,h,S,k=>isTrue_and (H e s ρ us _ R _ E h S fun b ρ₁ h₁ k₁ hb S₁=>by
  cases b
  ·exact k false ρ₁ h₁ k₁ hb S₁
  ·exact w6 H es {s with heap:=h₁,toks:=k₁} ρ₁ us P R Q E hb S₁ k)
theorem B7 (H:∀e,ST X (isTrue e X.env (eval e X.env)) (r.t X.c e)) {pos:Pos} {whole:Sem Value}:∀es,ST X (isTrue (.BoolOp .Or es pos) X.env whole) (Iy r X.c es)
 | [],s,ρ,us,P,R,Q,E,h,S,k=>isTrue_or_nil (k false ρ s.heap s.toks h S)
 | e::es,s,ρ,us,P,R,Q,E,h,S,k=>isTrue_or (H e s ρ us _ R _ E h S fun b ρ₁ h₁ k₁ hb S₁=>by
  cases b
  ·exact B7 H es {s with heap:=h₁,toks:=k₁} ρ₁ us P R Q E hb S₁ k
  ·exact k true ρ₁ h₁ k₁ hb S₁)
theorem Dd (H:∀e,ST X (isTrue e X.env (eval e X.env)) (r.t X.c e)) {a:Expr} {pos:Pos} {whole:Sem Value}:ST X (isTrue (.UnaryOp .Not a pos) X.env whole) fun ρ P=>r.t X.c a ρ fun b ρ=>P (!b) ρ:=fun s ρ us P R Q E h S k=>
 wpAny_isTrue_Not (H a s ρ us _ R _ E h S fun b ρ₁ h₁ k₁ hb S₁=>k (!b) ρ₁ h₁ k₁ hb S₁)
theorem De (H:∀e,ST X (isTrue e X.env (eval e X.env)) (r.t X.c e)) {t a b:Expr} {pos:Pos} {whole:Sem Value}:ST X (isTrue (.IfExp t a b pos) X.env whole) fun ρ P=>r.t X.c t ρ fun q ρ=>if q then r.t X.c a ρ P else r.t X.c b ρ P:=fun s ρ us P R Q E h S k=>
 isTrue_IfExp (H t s ρ us _ R _ E h S fun q ρ₁ h₁ k₁ hq S₁=>by
  cases q
  ·exact H b {s with heap:=h₁,toks:=k₁} ρ₁ us P R Q E hq S₁ k
  ·exact H a {s with heap:=h₁,toks:=k₁} ρ₁ us P R Q E hq S₁ k)
theorem Df {e:Expr} {f:M PV} (H:SE X (eval e X.env) f) (he:∀whole:Sem Value,isTrue e X.env whole=(do let v ←whole;standAt e.pos;holding [v] (truthy v))):ST X (isTrue e X.env (eval e X.env)) fun ρ P=>f ρ fun v ρ=>aP (kI v) fun b=>P b ρ:=fun s ρ us P R Q E h S k=>
 isTrue_plain (H s ρ us _ R _ E h S fun v ρ₁ u h₁ k₁ zz hv S₁=>by
  refine eQ hv fun b hb hv=>?_
  exact dZ (s:={s with heap:=h₁,toks:=k₁}) hb S₁ fun tk=>k b ρ₁ h₁ tk hv S₁.snd) (he _)
end
theorem k8 {c:bF} {e:Expr} {ρ:Env} {q:f8×PV} (h:kJ c e ρ=some q):A3 (ja c.names 5 e=some q.1) (oJ q.1 ρ=some q.2) (jJ q.2=true):=by
 refine aJ h fun p hp h=>?_
 refine aJ h fun v hv h=>?_
 by_cases c:jJ v=true
 ·cases (if_pos c).symm.trans h
  exact⟨hp,hv,c⟩
 ·cases (if_neg c).symm.trans h
theorem na {v:PV} {l:List PV} (h:s9 v=some l):v=.lst l:=by
 rcases v with _|_<;>first|exact no h|(cases h;rfl)
theorem jh {v:PV} {l:Nat×List Str×List PV} (h:mW v=some l):v=.obj l.1 l.2.1 l.2.2:=by
 rcases v with _|_<;>first|exact no h|(cases h;rfl)
theorem k9 {α:Type} {f:PV->Option α} {g:α->PV} (hf:∀{v l},f v=some l->v=g l) {c:bF} {e:Expr} {ρ:Env} {q:f8×α} (h:((kJ c e ρ).bind fun q=>(f q.2).map fun l=>(q.1,l))=some q):ja c.names 5 e=some q.1∧oJ q.1 ρ=some (g q.2):=by
 refine aJ h fun p hp h=>?_
 refine bY h fun l hl e_2=>?_
 subst e_2
 have:=k8 hp
 exact⟨this.1,hf hl▸this.2⟩
theorem iL {c:bF} {e:Expr} {ρ:Env} {q:f8×List PV} (h:ib c e ρ=some q):ja c.names 5 e=some q.1∧oJ q.1 ρ=some (.lst q.2):=k9 na h
theorem qd {c:bF} {e:Expr} {ρ:Env} {q:f8×List Str×List PV} (h:wx c e ρ=some q):ja c.names 5 e=some q.1∧oJ q.1 ρ=some (.dct q.2.1 q.2.2):=k9 je h
theorem qe {c:bF} {e:Expr} {ρ:Env} {q:f8×Nat×List Str×List PV} (h:zI c e ρ=some q):ja c.names 5 e=some q.1∧oJ q.1 ρ=some (.obj q.2.1 q.2.2.1 q.2.2.2):=k9 jh h
set_option tactic.hygienic true in
theorem uW {e:Expr} (h:pR e=true):∃p,e=.List [] p:=by
 rcases e with _|_<;>first|exact no h|exact bp h|(cases h;done)|skip
 ·rename_i es p
  rcases es with _|⟨_,_⟩
  ·exact⟨p,rfl⟩
  ·exact bp h
section
variable {G:bB} {X:Amb G} {r:Ev}
theorem dh {p:f8} {ρ:Env} {us:List Value} {q:PV} {u:Value} {R:a7}:cM (sp (aH G.toWld q u) (sp (foc X p ρ us q u) R)) (sp (au X ρ us) R):=aj a8 (al (cP (.inl ⟨rfl,rfl⟩)) ag)
theorem zW {op:CmpOp} {l:List PV} {u:Value} {R:a7} {s:Shared} {E Q:Value->Shared->Prop} {b:Bool} {d:Addr} (S:St G.b₀ (sp (aH G.toWld (.lst l) u) R) s.heap) (hd:s.heap.get? d=some (aX #[] 0)) (h:(op=.Eq∧b=l.isEmpty)∨(op=.NotEq∧l.all (plain 7)=true∧b=!l.isEmpty))
  (k:Q (.bool b) s):wpAny (model G.prog G.w) X.A (compareOp op u (.ref d)) Q E s:=by
 obtain⟨Z,m,hz,hm,H⟩:=S.look
 rcases h with⟨rfl,rfl⟩|⟨rfl,hp,rfl⟩
 ·obtain⟨a,vs,c,rfl,zz,zz,zz,zz,zz,l1,zz,ha,ho⟩:=H
  have ha:=hm _ _ (l1 _ _ ha)
  have hs:=bN ho
  have hu:=FM (X:=X)
  rcases l with _|⟨x,r⟩
  ·have h0:vs.size=0:=hs
   refine PySem.P.eq_list (e:=fun zz=>true) ha hd h0 (fun j h1=>absurd h1 (by exact(az 0x1027010037) h0)) (by exact(az 0x1000210402200427) hu) ?_
   rw[h0]
   exact k
  ·refine PySem.P.eq_list_lengths ha hd ?_ (by exact(az 0x1000210402200427) hu) k
   rw[hs]
   rfl
 ·obtain⟨as,ra,la,da⟩:=cD 8 (.lst l) hp hz hm H
  refine ne_dataH ra (db:=.list []) (.list hd rfl rfl .nil) (jg la da) rfl FM ?_
  have:PyData.eqv (oO (.lst l)) (.list [])=l.isEmpty:=by rcases l with _|_<;>rfl
  rw[this]
  exact k
theorem FO (H:∀e,SE X (eval e X.env) (r.e X.c e)) {a b:Expr} {op:CmpOp} {s:Shared} {ρ:Env} {us:List Value} {P:Bool->Env->Prop} {R:a7} {C E:Value->Shared->Prop} (h:oX r X.c a op b ρ P) (S:St G.b₀ (sp (au X ρ us) R) s.heap)
  (k:∀q ρ' h k,P q ρ'->St G.b₀ (sp (au X ρ' us) R) h->C (.bool q) {s with heap:=h,toks:=k}):
  behindInMarks op b=false∧wpAny (model G.prog G.w) X.A (eval a X.env) (fun u s₁=>wpAny (model G.prog G.w) X.A (eval b X.env) (fun w s₂=>wpAny (model G.prog G.w) X.A (compareOp op u w) C E s₂) E s₁) E s:=by
 unfold oX at h
 cases hq:(if pR b then ib X.c a ρ else none)with
 | some q=>
  rw[hq]at h
  obtain⟨hb,hq⟩:pR b=true∧ib X.c a ρ=some q:=by
   by_cases c:pR b=true
   ·exact⟨c,(if_pos c).symm.trans hq⟩
   ·cases (if_neg c).symm.trans hq
  obtain⟨p,rfl⟩:=uW hb
  obtain⟨h1,h2⟩:=iL hq
  refine⟨rfl,cj h1 h2 rfl S fun u tk S' zz=>wpAny_List (wpAny_items_nil ⟨by decide,?_⟩)⟩
  have S2:=S'.push (aX #[] 0) rfl
  have:∃b',P b' ρ∧((op=.Eq∧b'=q.2.isEmpty)∨(op=.NotEq∧q.2.all (plain 7)=true∧b'=!q.2.isEmpty)):=by
   cases op with
   | Eq=>exact⟨_,h,.inl ⟨rfl,rfl⟩⟩
   | NotEq=>exact⟨_,(bL h).2,.inr ⟨rfl,(bL h).1,rfl⟩⟩
   | _=>exact h.elim
  obtain⟨b',hb',hc⟩:=this
  exact zW (s:={s with heap:=s.heap.push (aX #[] 0),toks:=tk}) (S2.imp aC) S2.at hc (k b' ρ _ _ hb' (S2.snd.imp dh))
 | none=>
  rw[hq]at h
  refine bH h fun c h=>?_
  refine⟨m9 c,H a s ρ us _ R _ E h S fun x ρ₁ u h₁ k₁ ox hx S₁=>?_⟩
  cases hd:(if ta op then wx X.c b ρ₁ else none)with
  | some q=>
   rw[hd]at hx
   obtain⟨_,hd⟩:ta op=true∧wx X.c b ρ₁=some q:=by
    by_cases c:ta op=true
    ·exact⟨c,(if_pos c).symm.trans hd⟩
    ·cases (if_neg c).symm.trans hd
   obtain⟨h1,h2⟩:=qd hd
   obtain⟨⟨g,r'⟩,hc,hx⟩:=aY hx
   refine bH hx fun e_0 hx=>?_
   subst e_0
   refine cj (s:={s with heap:=h₁,toks:=k₁}) (R:=sp (aH G.toWld x u) R) h1 h2 rfl (S₁.imp aC) fun w tk S' zz=>?_
   exact gG (s:={s with heap:=h₁,toks:=tk}) hc ox (S'.imp (aj (al ag aC) aC)) fun tk'=>k r' ρ₁ h₁ tk' hx ((S'.imp dh).imp aC).snd
  | none=>
   rw[hd]at hx
   refine H b {s with heap:=h₁,toks:=k₁} ρ₁ us _ (sp (aH G.toWld x u) R) _ E hx (S₁.imp aC) fun y ρ₂ w h₂ k₂ oy hy S₂=>?_
   obtain⟨⟨g,r'⟩,hc,hy⟩:=aY hy
   refine bH hy fun e_0 hy=>?_
   subst e_0
   exact gG (s:={s with heap:=h₂,toks:=k₂}) hc ox (S₂.imp fY) fun tk'=>k r' ρ₂ h₂ tk' hy (S₂.imp fY).snd.snd
theorem FP (H:∀e,SE X (eval e X.env) (r.e X.c e)) {a b d:Expr} {o1 o2:CmpOp} {s:Shared} {ρ:Env} {us:List Value} {P:Bool->Env->Prop} {R:a7} {C E:Value->Shared->Prop} {F:Value->Shared->Prop} (h:pS r X.c a [o1,o2] [b,d] ρ P) (S:St G.b₀ (sp (au X ρ us) R) s.heap)
  (k:∀q ρ' h k,P q ρ'->St G.b₀ (sp (au X ρ' us) R) h->C (.bool q) {s with heap:=h,toks:=k}∧F (.bool q) {s with heap:=h,toks:=k}):
  lastMarks [o1,o2] [b,d]=false∧wpAny (model G.prog G.w) X.A (eval a X.env) (fun u s₁=>wpAny (model G.prog G.w) X.A (eval b X.env) (fun w s₂=>wpAny (model G.prog G.w) X.A (compareOp o1 u w) (fun c s₃=>∃q,c=.bool q ∧
   (if q then wpAny (model G.prog G.w) X.A (eval d X.env) (fun z s₄=>wpAny (model G.prog G.w) X.A (compareOp o2 w z) C E s₄) E s₃ else F c s₃)) E s₂) E s₁) E s:=by
 refine bH h fun c h=>?_
 refine cz c fun zz c=>?_
 refine⟨m9 c,ss H h S fun x y ρ' u w h' k' ox oy hp S'=>?_⟩
 obtain⟨⟨g,r'⟩,hc,hp⟩:=aY hp
 refine bH hp fun e_0 hp=>?_
 subst e_0
 refine gG (s:={s with heap:=h',toks:=k'}) hc ox S' fun tk=>⟨r',rfl,?_⟩
 rcases r' with _|_
 ·exact(k false ρ' h' tk hp S'.snd.snd).2
 ·refine H d {s with heap:=h',toks:=tk} ρ' us _ (sp (aH G.toWld y w) R) _ E hp ((S'.snd).imp aC) fun z ρ₃ v h₃ k₃ oz hz S₃=>?_
  obtain⟨⟨g,r'⟩,hc,hz⟩:=aY hz
  refine bH hz fun e_0 hz=>?_
  subst e_0
  exact gG (s:={s with heap:=h₃,toks:=k₃}) hc oy (S₃.imp fY) fun tk'=>(k r' ρ₃ h₃ tk' hz (S₃.imp fY).snd.snd).1
theorem dz {M:Model} {A:Around} {b:Bool} {Q:Bool->Shared->Prop} {E:Value->Shared->Prop} {s:Shared} (h:Q b s):wpAny M A (truthy (.bool b)) Q E s:=fun zz zz zz=>h
theorem Dg (H:∀e,SE X (eval e X.env) (r.e X.c e)) {a:Expr} {ops:List CmpOp} {bs:List Expr} {pos:Pos}:SE X (eval (.Compare a ops bs pos) X.env) fun ρ P=>pS r X.c a ops bs ρ fun b ρ=>P (.bool b) ρ:=by
 intro s ρ us P R Q E h S k
 have dY:∀q ρ' h' k',P (.bool q) ρ'->St G.b₀ (sp (au X ρ' us) R) h'->Q (.bool q) {s with heap:=h',toks:=k'}:=fun q ρ' h' k' hp S'=>k _ ρ' _ h' k' rfl hp (S'.put fun zz zz=>rfl)
 match ops,bs,h with
 | [op],[b],h=>
  have:=FO (C:=Q) (E:=E) H (show oX r X.c a op b ρ fun b ρ=>P (.bool b) ρ from h) S dY
  exact wpAny_Compare1 this.2 this.1
 | [o1,o2],[b,d],h=>
  have:=FP (C:=Q) (F:=Q) (E:=E) H h S fun q ρ' h' k' hp S'=>⟨dY q ρ' h' k' hp S',dY q ρ' h' k' hp S'⟩
  refine Compare_chain (wpAny_mono this.2 (fun u s₁ h₁=>chain_link (wpAny_mono h₁ (fun w s₂ h₂=>wpAny_mono h₂ (fun c s₃ h₃=>?_) fun zz zz x=>x) fun zz zz x=>x)) fun zz zz x=>x) this.1
  obtain⟨q,rfl,h₃⟩:=h₃
  refine dz ?_
  cases q
  ·exact h₃
  ·exact chain_last h₃
theorem Dh (H:∀e,SE X (eval e X.env) (r.e X.c e)) {a:Expr} {ops:List CmpOp} {bs:List Expr} {pos:Pos} {whole:Sem Value}:ST X (isTrue (.Compare a ops bs pos) X.env whole) (pS r X.c a ops bs):=by
 intro s ρ us P R Q E h S k
 match ops,bs,h with
 | [op],[b],h=>
  have:=FO (E:=E) (C:=fun c s₃=>wpAny (model G.prog G.w) X.A (truthy c) Q E s₃) H h S fun q ρ' h' k' hp S'=>dz (k q ρ' h' k' hp S')
  exact wpAny_isTrue_Compare1 this.2 this.1
 | [o1,o2],[b,d],h=>
  have:=FP (C:=fun c s₃=>wpAny (model G.prog G.w) X.A (truthy c) Q E s₃) (F:=fun c s₃=>∀q,c=.bool q->Q q s₃) (E:=E) H h S fun q ρ' h' k' hp S'=>⟨dz (k q ρ' h' k' hp S'),fun q' e=>by cases e;exact k q ρ' h' k' hp S'⟩
  refine isTrue_chain (wpAny_mono this.2 (fun u s₁ h₁=>test_link (wpAny_mono h₁ (fun w s₂ h₂=>wpAny_mono h₂ (fun c s₃ h₃=>?_) fun zz zz x=>x) fun zz zz x=>x)) fun zz zz x=>x) this.1
  obtain⟨q,rfl,h₃⟩:=h₃
  refine dz ?_
  cases q
  ·exact h₃ _ rfl
  ·exact test_last h₃
end
set_option tactic.hygienic true in
theorem bW {i:Int} {m j:Nat} (h:bg i m=some j):A5 (seqIndex? i m=some j) (j<m) (-(m:Int)<=i) (i<m) ((0<=i∧j=i.toNat)∨(i<0∧j=(i+m).toNat)):=by
 unfold bg at h
 unfold seqIndex?
 split at h
 ·rename_i h0
  have h0:=of_decide_eq_true h0
  split at h
  ·rename_i h1
   have h1:=of_decide_eq_true h1
   cases h
   have:¬ i<0:=by exact(pM 0x10057000147) h0
   simp only[this,if_false]
   exact⟨by simp[h0,h1],by exact(mE 0x32001005770030057) h1 this,by exact(mE 0x10039400100577) this,by exact(mE 0x30050030057) h1,.inl (by simp[h0])⟩
  ·exact no h
 ·rename_i h0
  have h0:¬ 0<=i:=fun q=>h0 (decide_eq_true q)
  split at h
  ·rename_i h1
   have h1:=of_decide_eq_true h1
   cases h
   have:i<0:=by exact(pM 0x100500001477) h0
   simp only[this,if_true]
   exact⟨by simp;exact(mE 0x3003004500300401480100570030040147) h1 this,by exact(mE 0x3004320100570030040147) h1 this,by exact(mE 0x1003940030040147) h1,by exact(mE 0x3005010057) this,.inr (by simp[this])⟩
  ·exact no h
theorem dB {f:PV->Bool}:∀{l:List PV} {i:Nat},l.all f=true->i<l.length->f (aK l i)=true
 | [],_,_,h=>absurd h (not_lt_zero _)
 | _::_,0,a,_=>(all_cons a).1
 | _::r,_+1,a,h=>dB (l:=r) (all_cons a).2 (lt_of_succ_lt_succ h)
theorem ji {v:PV} {l:List PV} (h:items v=some l):v=.tup l∨litems v=some l:=by
 cases v with
 | tup q=>cases h;exact .inl rfl
 | _=>exact .inr h
inductive FQ (v i q:PV):Prop
 | str (k s j) (e:i=.int k) (f:v=.str s) (g:(jO s).length<1000) (h:bg k (jO s).length=some j) (w:aK (jO s) j=q)
 | lst (k l j) (e:i=.int k) (f:items v=some l) (g:bg k l.length=some j) (h:aK l j=q)
 | dct (x ks vs) (e:i=.str x) (f:un v=.dct ks vs) (g:kH (af (cu x ks vs))=some q)
theorem su {v i q:PV} (h:aw v i=some q):FQ v i q:=by
 have two:∀{k},(items v).bind (fun l=>(bg k l.length).map (aK l))=some q->FQ v (.int k) q:=fun{k} h=>by
  refine aJ h fun l hl h=>?_
  refine bY h fun j hj h=>?_
  exact .lst k l j rfl hl hj h
 unfold aw at h
 rcases e:jK i with _|k<;>rw[e]at h
 ·refine aJ h fun x hx h=>aJ h fun d hd h=>?_
  exact .dct x _ _ (gh hx) (je hd) h
 ·cases d9 e
  rcases e2:rS v with _|s<;>rw[e2]at h
  ·exact two h
  ·obtain⟨c,h⟩:=et h
   exact bY h fun j hj h=>.str k s j rfl (gh e2) (le_of_ble_eq_true c) hj h
theorem uX {s:Str}:(jO s).length=s.cps.size:=length_map _
theorem w7 {s:Str} {j:Nat} (h:j<s.cps.size):aK (jO s) j=.str ⟨#[s.cps[j]]⟩:=by
 have:∀{l:List Nat} {j:Nat} (h:j<l.length),aK (l.map fun c=>PV.str ⟨#[c]⟩) j=.str ⟨#[l[j]]⟩:=by
  intro l
  induction l with
  | nil=>exact fun h=>absurd h (not_lt_zero _)
  | cons a r ih=>
   intro j h
   rcases j with _|j
   ·rfl
   ·exact ih (lt_of_succ_lt_succ h)
 exact this h
section
variable {G:Wld} {b₀ h:Heap} {R:a7} {l:List PV} {us:List Value}
theorem ld (s:l.all aL=true):∀{i:Nat} {us:List Value} {Z m:PH},i<l.length->bT G l us Z m->∃w,us[i]?=some w∧∀n,ca G (aK l i) w Z n:=by
 induction l with
 | nil=>exact fun h=>absurd h (not_lt_zero _)
 | cons p ps ih=>
  rintro i zz Z m hi ⟨u,r,rfl,x,y,zz,zz,zz,h,k⟩
  rcases i with _|i
  ·exact⟨u,rfl,fun n=>d8 (all_cons s).1 n h⟩
  ·exact ih (all_cons s).2 (lt_of_succ_lt_succ hi) k
theorem St.get (s:l.all aL=true) {i:Nat} (hi:i<l.length) (S:St b₀ (sp (aq G l us) R) h):∃w,us[i]?=some w∧St b₀ (sp (aH G (aK l i) w) R) h:=by
 obtain⟨Z,m,⟨x,y,d,l1,l2,o,r⟩,rr⟩:=S
 obtain⟨w,hw,o⟩:=ld s hi o
 exact⟨w,hw,Z,m,⟨x,y,d,l1,l2,o x,r⟩,rr⟩
end
section
variable {G:bB} {R:a7} {x y v:PV} {a b:Value} {s:Shared} {A:Around} {E:Value->Shared->Prop}
theorem d0 {v:PV} (h:bS v=true):mH v=true:=by
 rcases v with _|_<;>first|rfl|cases h|exact(Bool.or_false _).symm.trans h
set_option tactic.hygienic true in
theorem w8 {v:PV} {ks:List Str} {vs:List PV} (h:un v=.dct ks vs) (o:bS v=true):af v=.fz (.dct ks vs):=by
 rcases v with _|_<;>first|exact no h|exact bp h|(cases h;done)|skip
 ·rename_i _ _
  exact congrArg PV.fz h
 ·rename_i q
  exact congrArg PV.fz h
theorem jj {ve sl:Expr} {ad:Addr} {vs:Array Value} {q k j:Nat} {i:Int} {t:Tok} {w:Value} (ha:s.heap.get? ad=some (aX vs q)) (hk:vs.size=k) (hc:k<=gf) (hj:bg i k=some j) (hw:vs.toList[j]?=some w) {Q:Value->Shared->Prop} (h:Q w s):wpAny (model G.prog G.w) A (subscriptTail ve sl (.ref ad) (.int i t)) Q E s:=by
 obtain⟨zz,hlt,lo,hi,hcase⟩:=bW hj
 have hL:s.heap.IsList ad vs:=⟨_,ha,rfl,_,rfl⟩
 rw[getElem?_toList]at hw
 simp only[gf]at hc
 refine cC hL.typeIs slot_list_getitem.lookup ?_
 rcases hcase with⟨h0,rfl⟩|⟨h0,rfl⟩
 ·exact wpAny_getItem_list hL h0 (by lia) hw h
 ·exact wpAny_getItem_list_neg hL h0 (by rw[hk];exact lo) (by lia) (by rw[hk];exact hw) h
theorem sx {ve sl:Expr} (e:aw x y=some v) (ox:bS x=true) (S:St G.b₀ (sp (aH G.toWld x a) (sp (aH G.toWld y b) R)) s.heap) {Q:Value->Shared->Prop} (g:Gives G R s v Q):wpAny (model G.prog G.w) A (subscriptTail ve sl a b) Q E s:=by
 rcases su e with⟨i,z,j,rfl,rfl,hb,hj,rfl⟩|⟨i,l,j,rfl,hl,hj,rfl⟩|⟨z,ks,vs,rfl,hu,ho⟩
 ·obtain⟨zz,zz,zz,zz,⟨t,rfl⟩,hz⟩:=S.look
  obtain⟨zz,zz,zz,zz,u,rfl⟩:=S.snd.look
  rw[uX]at hj hb
  obtain⟨hs,hlt,lo,hi,zz⟩:=bW hj
  have hz2:EU ⟨#[z.cps[j]]⟩=true:=List.all_cons.trans (and_eq_true_iff.mpr ⟨all_eq_true.mp hz _ (Array.mem_toList_iff.mpr (Array.getElem_mem hlt)),rfl⟩)
  refine cC (typeIs_str s _ t) slot_str_getitem.lookup (PyProof.Rows.getItem_str (c:=z.cps[j]) ?_ ?_ ?_)
  ·simp only[Bool.or_eq_false_iff,decide_eq_false_iff_not];lia
  ·show(seqIndex? i z.cps.size).bind _=_
   rw[hs]
   exact Array.getElem?_eq_getElem hlt
  ·rw[w7 hlt]at g
   exact g _ s.heap _ rfl (S.snd.snd.put fun zz zz=>⟨⟨_,rfl⟩,hz2⟩)
 ·obtain⟨zz,zz,zz,zz,u,rfl⟩:=S.snd.look
  have hlt:=(bW hj).2
  rcases ji hl with rfl|hl
  ·obtain⟨ad,vs,q,rfl,ha,hk,hc,hs,S1⟩:=S.tup
   obtain⟨w,hw,S⟩:=S1.get hs hlt
   obtain⟨hq,zz,lo,hi,zz⟩:=bW hj
   have hT:IsTup s.heap ad vs:=⟨_,ha,rfl,_,rfl⟩
   rw[getElem?_toList]at hw
   simp only[gf]at hc
   exact cC hT.typeIs slot_tuple_getitem.lookup (PyProof.Rows.getItem_tuple hT (by lia) (by lia) (by rw[hk];exact hq) hw (g w s.heap s.toks (or_eq_true_iff.mpr (.inl (dB hs hlt))) (S.imp aC).snd))
  ·obtain⟨ad,vs,q,rfl,ha,hk,hc,hs,S1⟩:=S.items hl
   obtain⟨w,hw,S⟩:=S1.get hs hlt
   exact jj ha hk hc hj hw (g w s.heap s.toks (or_eq_true_iff.mpr (.inl (dB hs hlt))) (S.imp aC).snd)
 ·obtain⟨hs,rfl⟩:=gj ho
  obtain⟨zz,zz,zz,zz,⟨u,rfl⟩,zz⟩:=S.snd.look
  have S:=S.shr ox
  rw[w8 hu ox]at S
  have hk:gK (.key z) (.fz (.dct ks vs))=some (af (cu z ks vs)):=by
   show(iG (cu z ks vs)).bind _=_
   unfold iG
   rw[if_pos (d0 (o6 hs))]
   exact if_pos hs
  obtain⟨w,⟨ad,o,kvs,rfl,ha,⟨es,ep,hd⟩,sys,hv⟩,S⟩:=S.own_kid hk
  have hD:s.heap.DictOf (strKind G.prog G.w) ad kvs:=⟨o,es,ep,ha,hd⟩
  exact cC hD.mapOf.typeIs slot_dict_getitem.lookup (wpAny_getItem_of (strKind_is G.prog G.w _ u) hD.mapOf hv (g w s.heap _ (or_eq_true_iff.mpr (.inl hs)) (S.imp (al ag (aj iI iI)))))
end
theorem sy (items:Array Value) (lo hi:Option Int):(slicePick items lo hi none).toList=(items.toList.take (match hi with|some i=>be i items.size|none=>items.size)).drop (match lo with|some i=>be i items.size|none=>0):=by
 rw[kms_pick_eq,List.drop_take]
 unfold kms_pick
 rw[length_toList]
 have cl:∀(i:Int) (n:Nat),be i n=if i<0 then(i+n).toNat else min i.toNat n:=fun i n=>by
  unfold be
  simp only[decide_eq_true_eq]
 have e1:kms_lo lo items.size=(match lo with|some i=>be i items.size|none=>0):=by
  rcases lo with _|i
  ·rfl
  ·simp only[kms_lo,cl];split;exact(mE 0x300430100930053010057) (by assumption);exact(mE 0x360000363)
 have e2:kms_hi hi items.size=(match hi with|some i=>be i items.size|none=>items.size):=by
  rcases hi with _|i
  ·rfl
  ·simp only[kms_hi,cl];split;exact(mE 0x300430100930053010057) (by assumption);exact(mE 0x360000363)
 rw[e1,e2]
theorem Di {α:Type} (f:α->Prop):True:=trivial
section
variable {G:Wld} {l:List PV}
theorem nb:∀{l:List PV} {us:List Value} (i:Nat),cM (aq G l us) (aq G (l.take i) (us.take i))
 | [],_,i=>fun zz zz H=>by cases (show _=[]from H);rw[List.take_nil,List.take_nil];rfl
 | _::_,_,0=>fun zz zz zz=>rfl
 | p::ps,_,i+1=>by
  rintro Z m ⟨u,r,rfl,H⟩
  exact⟨u,r.take i,rfl,(al (A:=aH G p u) (B:=aq G ps r) ag (nb i)) Z m H⟩
theorem gH:∀{l:List PV} {us:List Value} (i:Nat),cM (aq G l us) (aq G (l.drop i) (us.drop i))
 | [],_,i=>fun zz zz H=>by cases (show _=[]from H);rw[drop_nil,drop_nil];rfl
 | _::_,_,0=>ag
 | p::ps,_,i+1=>by
  rintro Z m ⟨u,r,rfl,H⟩
  exact(aj (iI (A:=aH G p u) (B:=aq G ps r)) (gH i)) Z m H
theorem lh:∀{l:List PV} {us:List Value},cM (aq G l us) (aq G l.reverse us.reverse)
 | [],_=>fun zz zz H=>by cases (show _=[]from H);rfl
 | p::ps,_=>by
  rintro Z m ⟨u,r,rfl,H⟩
  rw[reverse_cons,reverse_cons]
  exact(aj (al (A:=aH G p u) (B:=aq G ps r) dw lh) (aj rZ cB)) Z m H
end
section
variable {G:bB} {X:Amb G} {r:Ev}
theorem zX (H:∀e,SE X (eval e X.env) (r.e X.c e)) {b:Expr} {f:Str} {pos:Pos} (hb:∀x,attributeBase b f X.env x=x):SE X (eval (.Attribute b f pos) X.env) fun ρ P=>r.e X.c b ρ fun x ρ=>aP (s7 f x) fun v=>P v ρ:=by
 intro s ρ us P R Q E h S k
 refine m6 hb s Q E (H b s ρ us _ R _ E h S fun x ρ₁ u h₁ k₁ ox hx S₁=>⟨G.X.keeps S₁.base,?_⟩)
 refine eQ hx fun v hv hx=>?_
 obtain⟨w,st,S₂⟩:=(S₁.shr ox).own_kid hv
 have sv:aL v=true:=by
  unfold s7 at hv
  have o:=gg ox
  cases e:af x<;>rw[e]at hv o<;>first|(cases hv;done)|(cases o;done)|skip
  refine aJ hv fun zz zz hv=>?_
  exact(gj hv).2▸(gj hv).1
 have ov:bS v=true:=or_eq_true_iff.mpr (.inl sv)
 exact⟨w,st,S₂.handed ov,fun tk=>k v ρ₁ w h₁ tk ov hx (S₂.imp (al ag iI))⟩
theorem B8 (H:∀e,SE X (eval e X.env) (r.e X.c e)) {o:Option Expr} {s:Shared} {ρ:Env} {us:List Value} {P:Option Int->Env->Prop} {R:a7} {Q E:Value->Shared->Prop} (h:Fz r X.c o ρ P) (S:St G.b₀ (sp (au X ρ us) R) s.heap)
  (k:∀i ρ' v h k,P i ρ'->IsPart v i->St G.b₀ (sp (au X ρ' us) R) h->Q v {s with heap:=h,toks:=k}):wpAny (model G.prog G.w) X.A (evalPart o X.env) Q E s:=by
 rcases o with _|e
 ·rw[evalPart_none];exact wpAny_pure (k none ρ _ s.heap s.toks h .none S)
 ·rw[evalPart_some]
  refine H e s ρ us _ R _ E h S fun x ρ₁ u h₁ k₁ zz hx S₁=>?_
  cases x with
  | int i=>
   obtain⟨zz,zz,zz,zz,t,rfl⟩:=S₁.look
   exact k (some i) ρ₁ _ h₁ k₁ hx (.int i t) S₁.snd
  | _=>exact hx.elim
theorem Dj (H:∀e,SE X (eval e X.env) (r.e X.c e)) {b:Expr} {lo hi:Option Expr} {pos pos':Pos}:SE X (eval (.Subscript b (.Slice lo hi none pos') pos) X.env) fun ρ P=>r.e X.c b ρ fun x ρ=>Fz r X.c lo ρ fun i ρ=>Fz r X.c hi ρ fun j ρ=>aP (litems x) fun l=>P (.lst (cut l i j)) ρ:=by
 intro s ρ us P R Q E h S k
 refine Subscript_ (H b s ρ us _ R _ E h S fun x ρ₁ u h₁ k₁ ox hx S₁=>wpAny_Slice ?_)
 refine B8 (s:={s with heap:=h₁,toks:=k₁}) (R:=sp (aH G.toWld x u) R) H hx (S₁.imp aC) fun i ρ₂ vl h₂ k₂ hi pl S₂=>?_
 refine B8 (s:={s with heap:=h₂,toks:=k₂}) (R:=sp (aH G.toWld x u) R) H hi S₂ fun j ρ₃ vu h₃ k₃ hj pu S₃=>?_
 rw[evalPart_none]
 refine wpAny_pure ?_
 refine eQ hj fun l hl hj=>?_
 obtain⟨ad,vs,kk,rfl,ha,hsz,hc,hs,S₄⟩:=(S₃.imp aC).items hl
 have S₅:=S₄.up (h':=h₃.push {cls:=.type "slice",data:=.fields #[vl,vu,.none]}) fun zz zz e=>Heap.get?_push_of_some _ e
 have hL:(h₃.push {cls:=.type "slice",data:=.fields #[vl,vu,.none]}).IsList ad vs:=⟨_,Heap.get?_push_of_some _ ha,rfl,_,rfl⟩
 simp only[gf]at hc
 refine cC (s:={s with heap:=h₃.push {cls:=.type "slice",data:=.fields #[vl,vu,.none]},toks:=k₃}) hL.typeIs slot_list_getitem.lookup (wpAny_getItem_list_slice hL (Heap.IsSliceOf.new ..) pl pu .none (by simp) ?_ (by rw[hsz];simp only[sizeLine];exact(ba 0x100000072001100000620017) hc))
 refine k _ ρ₃ _ _ _ rfl hj (St.newL (vs:=slicePick vs i j none) (k:=0) ?_ ?_ ?_)
 ·rw[sy,hsz]
  exact S₅.imp (al (aj (nb _) (gH _)) ag)
 ·unfold cut
  simp only[length_drop,length_take,gf];exact(aQ 0x10000062200010651100000620017) hc
 ·refine all_eq_true.mpr fun v hv=>?_
  exact or_eq_true_iff.mpr (.inl (all_eq_true.mp hs v (List.mem_of_mem_take (List.mem_of_mem_drop hv))))
theorem Dl (H:∀e,SE X (eval e X.env) (r.e X.c e)) {b st:Expr} {pos pos':Pos} (hst:j8 st=true):SE X (eval (.Subscript b (.Slice none none (some st) pos') pos) X.env) fun ρ P=>r.e X.c b ρ fun x ρ=>aP (litems x) fun l=>P (.lst l.reverse) ρ:=by
 intro s ρ us P R Q E h S k
 obtain⟨j,p1,p2,rfl⟩:=pY hst
 refine Subscript_ (H b s ρ us _ R _ E h S fun x ρ₁ u h₁ k₁ ox hx S₁=>wpAny_Slice ?_)
 rw[evalPart_none,evalPart_some]
 refine wpAny_pure (wpAny_pure (wpAny_UnaryOp (wpAny_Constant_int (PySem.P.neg_int ?_))))
 refine eQ hx fun l hl hx=>?_
 obtain⟨ad,vs,kk,rfl,ha,hsz,hc,hs,S₄⟩:=S₁.items hl
 have S₅:=S₄.up (h':=h₁.push {cls:=.type "slice",data:=.fields #[.none,.none,.int (-1) (k₁+1)]}) fun zz zz e=>Heap.get?_push_of_some _ e
 have hL:(h₁.push {cls:=.type "slice",data:=.fields #[.none,.none,.int (-1) (k₁+1)]}).IsList ad vs:=⟨_,Heap.get?_push_of_some _ ha,rfl,_,rfl⟩
 simp only[gf]at hc
 refine cC (s:={s with heap:=h₁.push {cls:=.type "slice",data:=.fields #[.none,.none,.int (-1) (k₁+1)]},toks:=k₁+1+1}) hL.typeIs slot_list_getitem.lookup (wpAny_getItem_list_slice hL (Heap.IsSliceOf.new ..) .none .none (.int (-1) (k₁+1)) (by simp) ?_ (by rw[hsz];simp only[sizeLine];exact(ba 0x100000072001100000620017) hc))
 refine k _ ρ₁ _ _ _ rfl hx (St.newL (vs:=slicePick vs none none (some (-1))) (k:=0) ?_ ?_ ?_)
 ·rw[krv_pick]
  exact S₅.imp (al lh ag)
 ·rw[List.length_reverse];simp only[gf];exact(ba 0x10000062001100000620017) hc
 ·exact List.all_reverse.trans (eR hs)
end
theorem sz {v:PV} {b:Bool} (h:oV v=some b):v=.bool b:=by
 rcases v with _|_<;>first|exact no h|(cases h;rfl)
theorem qf {e:Expr} (h:s8 e=true) {env:PySem.Env} (whole:Sem Value):isTrue e env whole=(do let v ←whole;standAt e.pos;holding [v] (truthy v)):=by
 rcases e with _|_<;>first|rfl|exact bp h
section
variable {G:bB} {X:Amb G} {r:Ev} {ρ:Env}
def SP {G:bB} (X:Amb G) (e:Expr) (ρ:Env) (v:PV):Prop:=∀(s:Shared) (us:List Value) (R:a7) (Z m:PH) (Q E:Value->Shared->Prop),(sp (au X ρ us) R).p Z m->Sat G.b₀ Z m s.heap ->
 (∀u tk,aL v=true->(∀n,ca G.toWld v u Z n)->Q u {s with toks:=tk})->wpAny (model G.prog G.w) X.A (eval e X.env) Q E s
theorem Dm {a b:Expr} {op:Operator} {pos:Pos} {x y:PV} {q:Int×Int} {v:PV} (hq:j9 x y=some q) (h:Ix op q=some v) (ha:SP X a ρ x) (hb:SP X b ρ y):SP X (.BinOp a op b pos) ρ v:=by
 obtain⟨rfl,rfl⟩:=iK hq
 refine fun s us R Z m Q E S T k=>wpAny_BinOp (ha s us R Z m _ E S T fun u tk zz hu=>hb {s with toks:=tk} us R Z m _ E S T fun w tk' zz hw=>?_)
 obtain⟨t,rfl⟩:=hu m
 obtain⟨t',rfl⟩:=hw m
 rcases op with _|_<;>first|exact no h|exact bp h|(cases h;done)|skip
 ·cases h;exact PySem.P.add_int (k _ _ rfl fun zz=>⟨_,rfl⟩)
 ·cases h;exact PySem.P.sub_int (k _ _ rfl fun zz=>⟨_,rfl⟩)
theorem Dn {b i:Expr} {pos:Pos} {x:PV} {k:Int} {l:List PV} {j:Nat} (hl:litems x=some l) (hj:bg k l.length=some j) (hb:SP X b ρ x) (hi:SP X i ρ (.int k)):SP X (.Subscript b i pos) ρ (aK l j):=by
 obtain⟨q,eq,rfl⟩:=ig hl
 have hlt:=(bW hj).2
 refine fun s us R Z m Q E S T kk=>Subscript_ (hb s us R Z m _ E S T fun u tk hs hu=>hi {s with toks:=tk} us R Z m _ E S T fun w tk' zz hw=>?_)
 rw[wO hs]at eq
 subst eq
 obtain⟨t,rfl⟩:=hw m
 obtain⟨x,lx,ad,vs,q',rfl,hc,ho,y,z,zz,l1,l2,hp,hs⟩:=hu m
 have hsz:=bN hs
 obtain⟨w,hw,o⟩:=ld (er ho) hlt (fe (le_trans l2 lx) ho hs m)
 rw[length_map]at hj
 exact jj (s:={s with toks:=tk'}) (T.2 _ _ (lx _ _ (l1 _ _ hp))) hsz hc hj hw (kk w tk' (dB (er ho) hlt) o)
theorem Do {t a b:Expr} {pos:Pos} {q:Bool} {v:PV} (c:s8 t=true) (ht:SP X t ρ (.bool q)) (hr:SP X (if q then a else b) ρ v):SP X (.IfExp t a b pos) ρ v:=by
 refine fun s us R Z m Q E S T k=>wpAny_IfExp (isTrue_plain (ht s us R Z m _ E S T fun u tk zz hu=>?_) (qf c _))
 cases (show u=_ from hu m)
 refine dz ?_
 cases q
 ·exact hr {s with toks:=tk} us R Z m Q E S T k
 ·exact hr {s with toks:=tk} us R Z m Q E S T k
set_option tactic.hygienic true in
theorem Dp {f:Expr->Env->Option PV} (H:∀{e v},f e ρ=some v->SP X e ρ v) {e:Expr} {v:PV} (h:KK f e ρ=some v):SP X e ρ v:=by
 rcases e with _|_<;>first|exact no h|exact bp h|(cases h;done)|skip
 ·rename_i a op b pos
  refine aJ h fun x hx h=>?_
  refine aJ h fun y hy h=>?_
  refine aJ h fun q hq h=>?_
  exact Dm hq h (H hx) (H hy)
 ·rename_i t a b pos
  by_cases c:s8 t=true
  ·refine aJ (((if_pos c).symm.trans h)) fun x hx h=>?_
   refine aJ h fun q hq h=>?_
   cases sz hq
   exact Do c (H hx) (by cases q<;>exact H h)
  ·cases (if_neg c).symm.trans h
 ·rename_i c j p
  rcases c with _|_<;>cases h
  exact fun s us R Z m Q E S T k=>wpAny_Constant_int (k _ _ rfl fun zz=>⟨_,rfl⟩)
 ·rename_i b i pos
  refine aJ h fun x hx h=>?_
  refine aJ h fun y hy h=>?_
  refine aJ h fun k hk h=>?_
  refine aJ h fun l hl h=>?_
  refine bY h fun j hj e_2=>?_
  subst e_2
  cases d9 hk
  exact Dn hl hj (H hx) (H hy)
theorem li:∀{n:Nat} {e:Expr} {v:PV},zH X.c n e ρ=some v->SP X e ρ v
 | 0,_,_,h=>nomatch h
 | n+1,e,v,h=>by
  change fX (ja X.c.names 5 e) _ _=_ at h
  cases hp:ja X.c.names 5 e with
  | some p=>
   rw[hp]at h
   refine aJ h fun q hq h=>?_
   obtain⟨c,rfl⟩:=gj h
   exact fun s us R Z m Q E S T k=>(ie hp).1 s ρ us _ R Z m Q E hq (or_eq_true_iff.mpr (.inl c)) S T fun u tk S zz=>by
    obtain⟨zz,zz,zz,zz,zz,o,zz⟩:=S
    exact k u tk c fun n=>d8 c n o
  | none=>
   rw[hp]at h
   exact Dp li h
end
theorem uY (s:Expr):mY s=.no∨(E3 fun lo hi p=>s=.Slice lo hi none p)∨(E2 fun st p=>s=.Slice none none (some st) p∧j8 st=true)∨mY s=.i s:=by
 rcases q:wE s with _|⟨lo,hi,st,p⟩
 ·exact .inr (.inr (.inr (by unfold mY;rw[q])))
 ·cases uQ q
  rcases st with _|st
  ·exact .inr (.inl ⟨lo,hi,p,rfl⟩)
  ·by_cases c:(lo.isNone&&hi.isNone&&j8 st)=true
   ·refine cz c fun c c3=>cz c fun c1 c2=>?_
    rcases lo with _|_
    ·rcases hi with _|_
     ·exact .inr (.inr (.inl ⟨st,p,rfl,c3⟩))
     ·exact bp c2
    ·exact bp c1
   ·exact .inl (if_neg c)
section
variable {G:Wld} {b₀ h:Heap} {R:a7}
theorem w9 {l:List PV}:∀{i:Nat} {us:List Value} {Z m:PH},i<l.length->bT G l us Z m->E2 fun w n=>us[i]?=some w∧ca G (aK l i) w Z n:=by
 induction l with
 | nil=>exact fun h=>absurd h (not_lt_zero _)
 | cons p ps ih=>
  rintro i zz Z m hi ⟨u,r,rfl,x,y,zz,zz,zz,h,k⟩
  rcases i with _|i
  ·exact⟨u,x,rfl,h⟩
  ·exact ih (lt_of_succ_lt_succ hi) k
set_option tactic.hygienic true in
theorem nf {q y v:PV} (h:fR q y=some v):(E3 fun l k j=>A4 (q=.lst l) (y=.int k) (bg k l.length=some j) (aK l j=v))∨(E3 fun ks vs x=>A3 (q=.dct ks vs) (y=.str x) (cu x ks vs=v)):=by
 rcases q with _|_<;>first|exact no h|skip
 ·rename_i l
  exact aJ h fun k hk h=>bY h fun j hj h=>.inl ⟨l,k,j,rfl,d9 hk,hj,h⟩
 ·rename_i ks vs
  exact bY h fun x hx h=>.inr ⟨ks,vs,x,rfl,gh hx,h⟩
end
section
variable {G:bB} {X:Amb G} {r:Ev}
theorem jS {q y v:PV} {a b:Value} {R:a7} {Z m n:PH} {s:Shared} {ve sl:Expr} {Q E:Value->Shared->Prop} (e:fR q y=some v) (c:aL v=true) (S:(sp (aH G.toWld q a) R).p Z m) (T:Sat G.b₀ Z m s.heap) (hy:ca G.toWld y b Z n)
  (k:∀w tk,(∀n,ca G.toWld v w Z n)->Q w {s with toks:=tk}):wpAny (model G.prog G.w) X.A (subscriptTail ve sl a b) Q E s:=by
 rcases nf e with⟨l,i,j,rfl,rfl,hj,rfl⟩|⟨ks,vs,x,rfl,rfl,rfl⟩
 ·obtain⟨x,zz,zz,l1,zz,⟨ad,vs,q,rfl,hc,zz,y,z,zz,l2,zz,hp,hs⟩,zz⟩:=S
  obtain⟨t,rfl⟩:=hy
  obtain⟨w,n,hw,o⟩:=w9 (bW hj).2 hs
  exact jj (T.3 _ _ (l1 _ _ (l2 _ _ hp))).1 (bN hs) hc hj hw (k w s.toks fun n=>d8 c n o)
 ·obtain⟨⟨t,rfl⟩,zz⟩:=hy
  have hk:gK (.key x) (.dct ks vs)=some (cu x ks vs):=if_pos (d0 (or_eq_true_iff.mpr (.inl c)))
  obtain⟨w,⟨ad,o,kvs,rfl,ha,⟨es,ep,hd⟩,sys,hv⟩,zz,zz,zz,zz,zz,o,zz⟩:=zO hk S T
  have hD:s.heap.DictOf (strKind G.prog G.w) ad kvs:=⟨_,es,ep,ha,hd⟩
  exact cC hD.mapOf.typeIs slot_dict_getitem.lookup (wpAny_getItem_of (strKind_is G.prog G.w _ t) hD.mapOf hv (k w _ fun n=>d8 c n o))
theorem Dq (H:∀e,SE X (eval e X.env) (r.e X.c e)) {b st:Expr} {pos:Pos}:SE X (eval (.Subscript b st pos) X.env) (kK r X.c b st):=by
 intro s ρ us P R Q E h S k
 rcases uY st with e|⟨lo,hi,p,rfl⟩|⟨st,p,rfl,c⟩|e
 ·unfold kK at h
  rw[e]at h
  exact h.elim
 ·exact Dj H s ρ us P R Q E h S k
 ·unfold kK at h
  rw[show mY (.Slice none none (some st) p)=.rev from if_pos c]at h
  exact Dl H c s ρ us P R Q E h S k
 ·unfold kK at h
  rw[e]at h
  change (match kJ X.c b ρ with
   | some q=>if q.1.2.isEmpty then r.e X.c st ρ fun k ρ=>aP (fR (aK ρ q.1.1) k) fun v=>bK (aL v) (P v ρ)
    else aP (zH X.c 8 st ρ) fun k=>aP (fR q.2 k) fun v=>bK (aL v) (P v ρ)
   | none=>r.e X.c b ρ fun x ρ=>r.e X.c st ρ fun k ρ=>aP (aw x k) fun v=>P v ρ)at h
  cases hm:kJ X.c b ρ with
  | none=>
   rw[hm]at h
   refine Subscript_ (ss H h S fun x y ρ' u w h' k' ox oy hp S'=>?_)
   refine eQ hp fun v hv hp=>?_
   exact sx (s:={s with heap:=h',toks:=k'}) hv ox S' fun w' h'' k'' ov S''=>k v ρ' w' h'' k'' ov hp S''
  | some q=>
   rw[hm]at h
   obtain⟨h1,h2,h3⟩:=k8 hm
   have oq:bS q.2=true:=or_eq_true_iff.mpr (.inr h3)
   obtain⟨⟨i,pth⟩,t⟩:=q
   rcases pth with _|⟨p0,pth⟩
   ·refine Subscript_ (cj h1 h2 oq S fun u tk S' hu=>?_)
    refine H st {s with toks:=tk} ρ us _ R _ E h (S'.imp dh) fun y ρ₁ w h₁ k₁ oy hy S₁=>?_
    refine eQ hy fun v hv hy=>?_
    refine bH hy fun c hy=>?_
    have iv:oJ (i,[]) ρ₁=some (aK ρ₁ i):=by
     rcases nf hv with⟨_,_,_,e,_⟩|⟨_,_,_,e,_⟩<;>exact if_pos (by rw[e];rfl)
    obtain⟨Z,m,⟨x1,y1,d,l1,l2,ow,S₂⟩,T⟩:=S₁
    obtain⟨u',S₃,hu'⟩:=zP iv ((sp (au X ρ₁ us) R).mono (le_refl Z) l2 S₂) T
    have:u'=u:=Option.some.inj ((hu' rfl).symm.trans (hu rfl))
    subst this
    exact jS (s:={s with heap:=h₁,toks:=k₁}) hv c S₃ T ow fun w' tk' o=>k v ρ₁ w' h₁ tk' (or_eq_true_iff.mpr (.inl c)) hy ⟨Z,m,⟨fun zz=>none,m,aE,ay,le_refl m,o _,(sp (au X ρ₁ us) R).mono (le_refl Z) l2 S₂⟩,T⟩
   ·refine eQ h fun y hy h=>?_
    refine eQ h fun v hv h=>?_
    refine bH h fun c h=>?_
    obtain⟨Z,m,S,T⟩:=S
    refine Subscript_ ((ie h1).1 s ρ us _ R Z m _ E h2 oq S T fun u tk S' zz=>li hy {s with toks:=tk} us R Z m _ E S T fun w tk' zz ow=>?_)
    exact jS (s:={s with toks:=tk'}) hv c S' T (ow m) fun w' tk'' o=>k v ρ w' s.heap tk'' (or_eq_true_iff.mpr (.inl c)) h ⟨Z,m,⟨fun zz=>none,m,aE,ay,le_refl m,o _,S⟩,T⟩
end
noncomputable def BI.val:BI->Value
 | .len=>.builtin "len"
 | .lst=>.type "list"
 | .max=>.builtin "max"
 | .sorted=>.builtin "sorted"
 | .sum=>.builtin "sum"
 | .int=>.type "int"
 | .isi=>.builtin "isinstance"
 | .range=>.type "range"
 | .enum=>.type "enumerate"
 | .zip=>.type "zip"
 | .bool=>.type "bool"
structure GlobOk (G:bB):Prop where
 v:∀x p,G.T.glob x=some (.v p)->A3 (bk x=true) (aL p=true) (∃u,G.mg x=some u∧∀n,ca G.toWld p u G.b₀.get? n)
 b:∀x f,G.T.glob x=some (.bi f)->A3 (bk x=true) (G.mg x=none) (bootBuiltins x=some f.val)
 f:∀x k,G.T.glob x=some (.fn k)->bk x=true∧G.mg x=some (.ref (G.ad k))
 c:∀x k,G.T.glob x=some (.cls k)->bk x=true∧G.mg x=some (.ref (G.cls k))
theorem cb {T:Tab} {c:bF} {x:Str} {g:GV} (h:cZ T c x=some g):bD x c.sc=some .globalImplicit∧T.glob x=some g:=by
 unfold cZ at h
 cases e:ix x c.names with
 | some _=>rw[e]at h;exact no h
 | none=>
  rw[e]at h
  change (match bD x c.sc with|some k=>(match k with|.globalImplicit=>T.glob x|_=>none)|none=>none)=some g at h
  cases e:bD x c.sc with
  | none=>rw[e]at h;exact no h
  | some k=>rw[e]at h;rcases k with _|_<;>first|exact⟨rfl,h⟩|exact no h
section
variable {G:bB} {X:Amb G} {r:Ev} {s:Shared} {Q E:Value->Shared->Prop} {R:a7}
theorem fg {A:Around} {x:Str} {v:Value} {pos:Pos} (hn:bD x X.sc=some .globalImplicit) (B:∀a o,G.b₀.get? a=some o->s.heap.get? a=some o) (hm:G.mg x=some v) (hx:bk x=true) (h:Q v s):wpAny (model G.prog G.w) A (eval (.Name x pos) X.env) Q E s:=
 Calls.Name_function_global X.kind ((X.gl x _ hn).resolve_right fun h=>nomatch h.1) (Calls.loadGlobal_global (env:=X.env) (by rw[X.glo];exact(G.top.keeps B).g) hm h) (iJ hx).1
theorem fh {x:Str} {v:Value} {pos:Pos} (hn:bD x X.sc=some .globalImplicit) (B:∀a o,G.b₀.get? a=some o->s.heap.get? a=some o) (hm:G.mg x=none) (hb:bootBuiltins x=some v) (hx:bk x=true) (h:Q v s):wpAny (model G.prog G.w) X.A (eval (.Name x pos) X.env) Q E s:=
 Calls.Name_function_global X.kind ((X.gl x _ hn).resolve_right fun h=>nomatch h.1) (Calls.loadGlobal_builtin (env:=X.env) (by rw[X.glo];exact(G.top.keeps B).g) hm (by rw[X.bui];exact(G.top.keeps B).b) ((G.top.builtins x (iJ hx).2.2).trans hb) h) (iJ hx).1
theorem zY (O:GlobOk G) {x:Str} {pos:Pos}:SE X (eval (.Name x pos) X.env) fun ρ P=>aP (cZ G.T X.c x) fun g=>match g with
  | .v p=>P p ρ
  | _=>eO:=by
 intro s ρ us P R Q E h S k
 refine eQ h fun g hg h=>?_
 obtain⟨h1,h2⟩:=cb hg
 cases g with
 | v p=>
  obtain⟨o1,o2,u,o3,o4⟩:=O.v x p h2
  obtain⟨Z,m,S,T⟩:=S
  exact fg h1 T.base o3 o1 (k p ρ u s.heap s.toks (or_eq_true_iff.mpr (.inl o2)) h ⟨Z,m,⟨fun zz=>none,m,aE,ay,le_refl m,eo T.1 p (le_refl _) (o4 _),S⟩,T⟩)
 | _=>exact h.elim
-- a call's arguments
theorem bZ {pos:Pos} {env:PySem.Env}:∀{es:List Expr},es.all jM=true->(backTo pos (starEach es env)).any (·.1)=false
 | [],_=>rfl
 | e::es,c=>by
  refine cz (List.all_cons.symm.trans c) fun c1 c2=>?_
  rw[dy c1 es]
  exact(bZ (pos:=pos) c2:_)
theorem bh {pos:Pos} {A:Around} {f:Value} {env:PySem.Env} {es:List Expr} (c:es.all jM=true) {Q:Args->Shared->Prop}
  (h:wpAny (model G.prog G.w) A (spliced (backTo pos (starEach es env))) (fun vs s₁=>Q ⟨vs,[]⟩ s₁) E s):wpAny (model G.prog G.w) A (evalArgs f true (backTo pos (starEach es env)) []) Q E s:=by
 rcases es with _|⟨e,es⟩
 ·unfold evalArgs
  show wpAny (model G.prog G.w) A (spliced (backTo pos (starEach [] env)) >>= _) Q E s
  refine wpAny_bind (wpAny_mono h (fun vs s' h'=>?_) fun zz zz x=>x)
  refine wpAny_holding ?_
  exact wpAny_bind (wpAny_pure (wpAny_bind (wpAny_pure (wpAny_pure h'))))
 ·rw[dy (bA (List.all_cons.symm.trans c)).1 es]at h⊢
  exact PySem.Calls.evalArgs_plain h
def B9 (G:bB) (f:Value) (C:Heap->Prop):Prop:=∀h,C h->∃k,(k=Keeper.frame∨k=Keeper.machine∨k=Keeper.boundFrame)∧Looks (model G.prog G.w) h (keeperOf f) k
theorem km (f:BI):B9 G f.val fun zz=>True:=by
 rcases f with _|_<;>exact fun zz zz=>⟨.machine,.inr (.inl rfl),Looks.of_pure rfl⟩
theorem gn (H:∀e,SE X (eval e X.env) (r.e X.c e)) {pos:Pos} {f:Value} {first:List Value} {C:Heap->Prop} {es:List Expr} {ρ:Env} {us:List Value} {P:List PV->Env->Prop} (hk:B9 G f C) (h:mJ r X.c es ρ P) (S:St G.b₀ (sp (au X ρ us) R) s.heap)
  (k:∀l ρ' vs h k,l.length=es.length->l.all bS=true->P l ρ'->St G.b₀ (sp (aq G.toWld l vs) (sp (au X ρ' us) R)) h->C h∧wpAny (model G.prog G.w) X.A (call f (first++vs)) Q E {s with heap:=h,toks:=k}):
  wpAny (model G.prog G.w) X.A (callWith pos f first (backTo pos (starEach es X.env)) []) Q E s:=by
 have c:=(c5 (bL h).1).2
 exact callWith_of (P:=C) (by rw[bZ c];rfl) hk (bh c (tv H s ρ us _ R _ E h S fun l ρ' vs h' k' ln ol hl S'=>k l ρ' vs h' k' ln ol hl S'))
theorem c6 {x:Str} {np pos:Pos} {es:List Expr} (h:wpAny (model G.prog G.w) X.A (eval (.Name x np) X.env) (fun f s₁=>wpAny (model G.prog G.w) X.A (callWith pos f [] (backTo pos (starEach es X.env)) []) Q E s₁) E s):
  wpAny (model G.prog G.w) X.A (eval (.Call (.Name x np) es [] pos) X.env) Q E s:=by
 rw[arm_eval_Call_Name']
 exact wpAny_bind h
end
theorem cE {h:Heap} {a:Addr} (ha:h.objs.size<=a):h.get? a=none:=by
 cases e:h.get? a with
 | none=>rfl
 | some x=>exact absurd (Heap.lt_size e) (Nat.not_lt.mpr ha)
theorem ck {α:Type} {l:List α} {a:α} (h:one l=some a):l=[a]:=by
 match l,h with
 | [_],h=>cases h;rfl
theorem kn {α:Type} {l:List α} {q:α×α} (h:two l=some q):l=[q.1,q.2]:=by
 match l,h with
 | [_,_],h=>cases h;rfl
section
variable {G:Wld} {b₀ h:Heap} {R:a7} {a:PV} {l:List PV} {us:List Value}
theorem qg (S:St b₀ (sp (aq G [a] us) R) h):∃u,us=[u]∧St b₀ (sp (aH G a u) R) h:=by
 obtain⟨Z,m,⟨x,y,d,l1,l2,⟨u,r,rfl,z,t,zz,l3,zz,o,rfl⟩,rr⟩,T⟩:=S
 exact⟨u,rfl,Z,m,⟨x,y,d,l1,l2,eo (le_refl Z) a l3 o,rr⟩,T⟩
theorem Dr {b:PV} (S:St b₀ (sp (aq G [a,b] us) R) h):E2 fun u w=>us=[u,w]∧St b₀ (sp (aH G a u) (sp (aH G b w) R)) h:=by
 obtain⟨Z,m,⟨x,y,d,l1,l2,⟨u,r,rfl,H⟩,rr⟩,T⟩:=S
 have S:(sp (aH G a u) (sp (aq G [b] r) R)).p Z m:=bM Z m ⟨x,y,d,l1,l2,H,rr⟩
 have S2:St b₀ (sp (aH G a u) (sp (aq G [b] r) R)) h:=⟨Z,m,S,T⟩
 obtain⟨w,rfl,S3⟩:=qg (S2.imp aC)
 exact⟨u,w,rfl,S3.imp aC⟩
theorem FR (e:items a=some l) {u:Value} (S:St b₀ (sp (aH G a u) R) h):E3 fun ad vs k=>A6 (u=.ref ad) (h.get? ad=some (aX vs k)∨h.get? ad=some (ej vs k)) (vs.size=l.length) (l.length<=gf) (l.all aL=true) (St b₀ (sp (aq G l vs.toList) R) h):=by
 rcases ji e with rfl|e
 ·obtain⟨ad,vs,k,h1,h2,h3,h4,h5,h6⟩:=S.tup
  exact⟨ad,vs,k,h1,.inr h2,h3,h4,h5,h6⟩
 ·obtain⟨ad,vs,k,h1,h2,h3,h4,h5,h6⟩:=S.items e
  exact⟨ad,vs,k,h1,.inl h2,h3,h4,h5,h6⟩
theorem ints_of:∀{l:List PV} {vs:List Value} {Z m:PH} {ns:List Int},bT G l vs Z m->eh l=some ns->IntsAre vs ns
 | [],vs,Z,m,ns,H,e=>by cases (show vs=[]from H);cases e;exact .nil
 | q::l,vs,Z,m,ns,H,e=>by
  obtain⟨v,r,rfl,zz,zz,zz,zz,zz,h1,h2⟩:=H
  cases q<;>first|(cases e;done)|skip
  refine bY e fun ms hm e_2=>?_
  subst e_2
  obtain⟨t,rfl⟩:=h1
  exact .cons _ _ (ints_of h2 hm)
theorem nh {Z m:PH}:∀{vs:List Value} {ns:List Int},IntsAre vs ns->bT G (ns.map .int) vs Z m
 | _,_,.nil=>rfl
 | _,_,.cons i t r=>⟨_,_,rfl,fun zz=>none,fun zz=>none,aE,ay,ay,⟨t,rfl⟩,nh r⟩
theorem qh:∀{ns:List Int},(ns.map PV.int).all bS=true
 | []=>rfl
 | _::r=>List.all_cons.trans (qh (ns:=r))
end
theorem jk (x:Int):∀l:List Int,(oP x l).Perm (x::l)
 | []=>.refl _
 | y::r=>by
  rw[wu]
  split
  ·exact .refl _
  ·exact((jk x r).cons y).trans (.swap x y r)
theorem ii:∀l:List Int,(jN l).Perm l
 | []=>.refl _
 | x::r=>(jk x _).trans ((ii r).cons x)
set_option tactic.hygienic true in
theorem jT (x:Int):∀{l:List Int},l.Pairwise (·<=·)->(oP x l).Pairwise (·<=·)
 | [],_=>List.pairwise_singleton _ _
 | y::r,h=>by
  have h':=pairwise_cons.mp h
  rw[wu]
  split
  ·rename_i hxy
   have hxy:=of_decide_eq_true hxy
   refine pairwise_cons.mpr ⟨fun z hz=>?_,h⟩
   rcases mem_cons.mp hz with rfl|hz
   ·exact hxy
   ·exact Int.le_trans hxy (h'.1 z hz)
  ·rename_i hxy
   have hxy:¬ x<=y:=fun q=>hxy (decide_eq_true q)
   refine pairwise_cons.mpr ⟨fun z hz=>?_,jT x h'.2⟩
   rcases mem_cons.mp ((jk x r).mem_iff.mp hz)with rfl|hz
   ·exact(oG 0x10401000477) hxy
   ·exact h'.1 z hz
theorem iM:∀l:List Int,(jN l).Pairwise (·<=·)
 | []=>.nil
 | x::r=>jT x (iM r)
section
variable {G:bB} {X:Amb G} {R:a7} {s:Shared} {E:Value->Shared->Prop} {l:List PV} {v:PV} {vs:List Value}
theorem qi {f:BI} (e:builtin f l=some v) (S:St G.b₀ (sp (aq G.toWld l vs) R) s.heap) {Q:Value->Shared->Prop} (g:Gives G R s v Q):wpAny (model G.prog G.w) X.A (call f.val vs) Q E s:=by
 rcases f with _|_<;>first|exact no e|exact bp e|(cases e;done)|skip
 ·refine aJ e fun a ha e=>?_
  refine bY e fun m hm e_2=>?_
  subst e_2
  cases ck ha
  obtain⟨u,rfl,S1⟩:=qg S
  obtain⟨ad,us,kk,rfl,hh,hsz,hc,zz,S2⟩:=FR hm S1
  simp only[gf]at hc
  have dY:∀{t:Tok} {tk:Nat},Q (.int us.size t) {s with toks:=tk}:=fun{t tk}=>g _ s.heap tk rfl (S2.snd.put fun zz zz=>⟨t,by rw[hsz]⟩)
  rcases hh with hh|hh
  ·exact PySem.Calls.call_len_list ⟨_,hh,rfl,_,rfl⟩ (by lia) dY
  ·exact PyProof.Rows.len_tuple ⟨_,hh,rfl,_,rfl⟩ (by lia) dY
 ·refine aJ e fun a ha e=>?_
  refine bY e fun m hm e_2=>?_
  subst e_2
  cases ck ha
  obtain⟨u,rfl,S1⟩:=qg S
  obtain⟨ad,us,kk,rfl,hh,hsz,hc,hs,S2⟩:=FR hm S1
  have dY:∀(h':Heap) (c':Nat),(∀b o',s.heap.get? b=some o'->h'.get? b=some o')->h'.get? s.heap.objs.size=some (aX us c')->Q (.ref s.heap.objs.size) {s with heap:=h'}:=fun h' c' hk hn=>
   g _ h' s.toks rfl ((S2.new hk (bG _) hn).imp (aj a8 (al (fun Z m H=>⟨_,us,c',rfl,hc,eR hs,H⟩) ag)))
  simp only[gf]at hc
  rcases hh with hh|hh
  ·exact call_list_seq ad (.inl rfl) hh rfl rfl dY (by simp only[sizeLine];exact(az 0x100000072001100000621017100037) hsz hc)
  ·exact call_list_seq ad (.inr rfl) hh rfl rfl dY (by simp only[sizeLine];exact(az 0x100000072001100000621017100037) hsz hc)
 ·refine aJ e fun q hq e=>?_
  refine bY e fun n hn e_2=>?_
  subst e_2
  cases kn hq
  obtain⟨h1,h2⟩:=iK hn
  rw[h1,h2]at S
  obtain⟨u,w,rfl,S1⟩:=Dr S
  obtain⟨zz,zz,zz,zz,t,rfl⟩:=S1.look
  obtain⟨zz,zz,zz,zz,t',rfl⟩:=S1.snd.look
  refine max_two_ints X.hd fun h' tk hk=>?_
  have dY:∀r:Value,(∃t,r=.int (if decide (n.1<n.2)then n.2 else n.1) t)->Q r {s with heap:=h',toks:=tk}:=fun r hr=>g _ h' tk rfl ((S1.snd.snd.up hk).put fun zz zz=>hr)
  by_cases c:n.2>n.1
  ·rw[if_pos c];exact dY _ ⟨t',by rw[if_pos (decide_eq_true c)]⟩
  ·rw[if_neg c];exact dY _ ⟨t,by rw[if_neg fun q=>c (of_decide_eq_true q)]⟩
 ·refine aJ e fun a ha e=>?_
  refine aJ e fun m hm e=>?_
  by_cases c:blt m.length 64=true
  case neg=>cases (if_neg c).symm.trans e
  refine bY (((if_pos c).symm.trans e)) fun ns hns e_2=>?_
  subst e_2
  have c:=le_of_ble_eq_true c
  cases ck ha
  obtain⟨u,rfl,S1⟩:=qg S
  obtain⟨ad,us,kk,rfl,hh,hsz,hc,hs,S2⟩:=S1.items hm
  have hI:IntsAre us.toList ns:=by obtain⟨zz,zz,⟨zz,zz,zz,zz,zz,o,zz⟩,zz⟩:=S2;exact ints_of o hns
  have hlen:us.toList.length=m.length:=hsz
  refine sorted_ints (vs:=us.toList) ⟨_,hh,rfl,kk,by simp⟩ hI (by exact(az 0x402210200103740221100417) c hlen) fun out ns' hO hp hs=>?_
  obtain⟨c',hc'⟩:=sortedAll_at s.heap us.toList out
  have en:ns'=jN ns:=List.Perm.eq_of_pairwise (fun a b zz zz h1 h2=>Int.le_antisymm h1 h2) hs (iM ns) (hp.trans (ii ns).symm)
  subst en
  have hpl:=(ii ns).length_eq
  have hnl:ns.length=m.length:=by rw[←hlen];exact hI.length.symm
  refine g _ _ s.toks rfl ((S2.snd.new (fun b o e=>sortedAll_old e) (cE (le_succ _)) hc').imp (al (fun Z m H=>⟨_,out,c',rfl,by simp only[length_map,gf];exact(aQ 0x1000006210100203720103740221100417) c hpl hnl,qh,m,fun zz=>none,aR aE,le_refl m,ay,H,nh hO⟩) ag))
 ·refine aJ e fun a ha e=>?_
  refine aJ e fun m hm e=>?_
  refine bY e fun ns hns e_2=>?_
  subst e_2
  cases ck ha
  obtain⟨u,rfl,S1⟩:=qg S
  obtain⟨ad,us,kk,rfl,hh,hsz,hc,hs,S2⟩:=S1.items hm
  have hI:IntsAre us.toList ns:=by obtain⟨zz,zz,⟨zz,zz,zz,zz,zz,o,zz⟩,zz⟩:=S2;exact ints_of o hns
  obtain⟨xs,hxs⟩:=hI.allInts.items
  have hl':s.heap.IsList ad (intItems xs):=⟨_,hh,rfl,kk,by rw[←hxs]⟩
  refine sum_intListG X.hd hl' fun h' tk t' hk=>?_
  have e1:ns=xs.toList.map (·.1):=by
   rw[←nums_intItems,←hxs]
   exact(show numsOf us.toList.toArray.toList=ns from hI.numsOf).symm
  have e2:preSum (numAt xs) xs.size=ns.sum:=by
   rw[preSum_eq,take_of_length_le (by simp),e1]
  rw[e2]
  exact g _ h' tk rfl ((S2.snd.up hk).put fun zz zz=>⟨t',rfl⟩)
 ·refine aJ e fun a ha e=>?_
  refine bY e fun i hi e_2=>?_
  subst e_2
  cases ck ha
  obtain⟨u,rfl,S1⟩:=qg S
  cases a with
  | int j=>
   cases hi
   obtain⟨zz,zz,zz,zz,t,rfl⟩:=S1.look
   exact call_int_int (g _ s.heap s.toks rfl (S1.snd.put fun zz zz=>⟨t,rfl⟩))
  | bool b=>
   cases hi
   obtain⟨zz,zz,zz,zz,H⟩:=S1.look
   cases (show u=_ from H)
   exact call_int_bool (g _ s.heap _ rfl (S1.snd.put fun zz zz=>⟨_,rfl⟩))
  | _=>exact no hi
end
def CE {G:bB} (X:Amb G) (t:Sem Value) (f:M PV):Prop:=
 ∀(s:Shared) (ρ:Env) (us:List Value) (P:PV->Env->Prop) (R:a7) (Q E:Value->Shared->Prop),f ρ P->St G.b₀ (sp (au X ρ us) R) s.heap ->
  (∀v ρ' u h k,P v ρ'->St G.b₀ (sp (aH G.toWld v u) (sp (au X ρ' us) R)) h->dY v Q E u {s with heap:=h,toks:=k})->wpAny (model G.prog G.w) X.A t Q E s
theorem fF {v:PV} {Q E:Value->Shared->Prop} (o:bS v=true):dY v Q E=Q:=by
 rcases v with _|_<;>first|rfl|exact bp o
section
variable {G:bB} {X:Amb G} {t:Sem Value} {f:M PV}
theorem SE.ce (H:SE X t f):CE X t f:=fun s ρ us P R Q E h S k=>H s ρ us P R Q E h S fun v ρ' u h' k' ov hp S'=>by
 have:=k v ρ' u h' k' hp S'
 rw[fF ov]at this
 exact this
theorem CE.se (H:CE X t f):SE X t fun ρ P=>f ρ fun v ρ=>bK (bS v) (P v ρ):=fun s ρ us P R Q E h S k=>H s ρ us _ R Q E h S fun v ρ' u h' k' hp S'=>by
 refine bH hp fun ov hp=>?_
 rw[fF ov]
 exact k v ρ' u h' k' ov hp S'
end
theorem lj {i:Int} (h:small i=true):Builtin.Range.rangeFitsLong i=true:=by
 have:=ff h
 unfold Builtin.Range.rangeFitsLong
 simp only[and_eq_true,decide_eq_true_eq]
 lia
theorem zZ {a b:Int}:Builtin.Range.rangeSize a b 1=((b-a).toNat:Int):=by
 rw[rangeSize_one]
 split
 ·exact(oG 0x10533001056100057) (by assumption)
 ·exact(oG 0x1053301601000577) (by assumption)
theorem uZ {a b:Int}:Builtin.Range.rangeSize a b (-1)=((a-b).toNat:Int):=by
 unfold Builtin.Range.rangeSize
 rw[if_neg (by decide)]
 split
 ·simp only[Int.neg_neg,Int.ediv_one];exact(oG 0x10533111100105546100057) (by assumption)
 ·exact(oG 0x1053301601000577) (by assumption)
theorem qj {a b c:Int} {n:Nat} (ha:small a=true) (hb:small b=true) (hc:c=1∨c = -1) (hs:Builtin.Range.rangeSize a b c=n) (hn:n<1000000):Builtin.Range.small a b c=true:=by
 have h2:=lj hb
 have h3:Builtin.Range.rangeFitsLong (n:Int)=true:=by
  unfold Builtin.Range.rangeFitsLong
  simp only[and_eq_true,decide_eq_true_eq]
  lia
 unfold Builtin.Range.small
 rw[hs,lj ha,h2,h3]
 rcases hc with rfl|rfl
 ·rw[if_pos (by decide),show b+(1-1)=b by exact(pM 0x111150046),h2,Bool.or_true];rfl
 ·rw[if_neg (by decide),show b+(-1+1)=b by exact(pM 0x110111940046),h2,Bool.or_true];rfl
set_option tactic.hygienic true in
theorem cH {e:Expr} {q:Expr×List Expr×Pos} (h:fE e=some q):e=.Call q.1 q.2.1 [] q.2.2:=by
 rcases e with _|_<;>first|exact no h|exact bp h|(cases h;done)|skip
 ·rename_i f es kws pos
  rcases kws with _|_<;>cases h;rfl
theorem bX {e:Expr} {x:Str} (h:dM e=some x):∃p,e=.Name x p:=by
 rcases e with _|_<;>cases h
 exact⟨_,rfl⟩
theorem qk {g:GV} {b:BI} (h:CZ g=some b):g=.bi b:=by
 cases g<;>cases h
 rfl
theorem d3 {T:Tab} {c:bF} {e:Expr} {q:BI×List Expr} (h:fa T c e=some q):E3 fun x np pos=>e=.Call (.Name x np) q.2 [] pos∧cZ T c x=some (.bi q.1):=by
 refine aJ h fun w hw h=>?_
 refine aJ h fun x hx h=>?_
 refine aJ h fun g hg h=>?_
 refine bY h fun b hb e_2=>?_
 subst e_2
 obtain⟨p,hp⟩:=bX hx
 exact⟨x,p,w.2.2,hp▸cH hw,qk hb▸hg⟩
theorem jU {T:Tab} {c:bF} {e:Expr} {q:BI×List Expr} (h:kg T c e=some q):fa T c e=some q∧(q.1=.range∨q.1=.enum∨q.1=.zip):=by
 refine aJ h fun w hw h=>?_
 obtain⟨c,rfl⟩:=br h
 exact⟨hw,c⟩
theorem sA {T:Tab} {c:bF} {b:BI} {as bs:List Expr} (h:wB T c b as=some bs):b=.lst∧∃a,as=[a]∧fa T c a=some (.range,bs):=by
 obtain⟨hb,h⟩:=et h
 refine aJ h fun a ha h=>?_
 obtain⟨⟨q,l⟩,hq,h⟩:=bind_eq_some_iff.mp h
 obtain⟨c,rfl⟩:=br h
 exact⟨hb,a,ck ha,(show q=.range from c)▸hq⟩
theorem sB {T:Tab} {c:bF} {b:BI} {as:List Expr} {a:Expr} (h:wC T c b as=some a):b=.isi∧(E2 fun x p=>A3 (as=[a,.Name x p]) (cZ T c x=some (.bi .bool)) (jM a=true)):=by
 obtain⟨hb,h⟩:=et h
 refine aJ h fun q hq h=>?_
 refine aJ h fun x hx h=>?_
 refine aJ h fun g hg h=>?_
 obtain⟨⟨c1,c2⟩,rfl⟩:=br h
 obtain⟨p,hp⟩:=bX hx
 exact⟨hb,x,p,hp▸kn hq,qk c1▸hg,c2⟩
theorem u7 {v:PV} (h:isStr v=true):∃x,v=.str x:=by
 rcases v with _|_<;>first|exact⟨_,rfl⟩|exact bp h
section
variable {G:Wld} {b₀ h:Heap} {R:a7}
theorem lm {Z m:PH} {c:Int}:∀(n:Nat) (a:Int) {vs:List Value},vs.length=n->(∀(j:Nat) (v:Value),vs[j]?=some v->∃t,v=.int (a+(j:Int)*c) t)->bT G (aZ a c n) vs Z m
 | 0,_,_,hl,_=>length_eq_zero_iff.mp hl
 | _+1,_,[],hl,_=>nomatch hl
 | n+1,a,v::vs,hl,H=>by
  obtain⟨t,e⟩:=H 0 v rfl
  refine⟨v,vs,rfl,fun zz=>none,m,aE,ay,le_refl m,⟨t,by rw[e];congr 1;lia⟩,lm n (a+c) (Nat.succ.inj hl) fun j u hu=>?_⟩
  obtain⟨t',e'⟩:=H (j+1) u hu
  exact⟨t',by rw[e'];congr 1;push_cast;rw[add_mul];exact(Fp 0x10200044201181040046)⟩
theorem fG (c:Int):∀(n:Nat) (a:Int),(aZ a c n).length=n
 | 0,_=>rfl
 | n+1,a=>congrArg Nat.succ (fG c n (a+c))
theorem ni (c:Int):∀(n:Nat) (a:Int),(aZ a c n).all aL=true
 | 0,_=>rfl
 | n+1,a=>List.all_cons.trans (ni c n (a+c))
end
section
variable {G:bB} {X:Amb G} {r:Ev} {R:a7} {s:Shared} {Q E:Value->Shared->Prop} {l m:List PV} {vs:List Value}
noncomputable abbrev o8 (a b c:Int) (t u v:Tok):Obj:={cls:=.type "range",data:=.fields #[.int a t,.int b u,.int c v]}
inductive xa (a b c:Int):List Value->Prop
 | one (t) (e:a=0) (f:c=1):xa a b c [.int b t]
 | two (t u) (f:c=1):xa a b c [.int a t,.int b u]
 | three (t u v):xa a b c [.int a t,.int b u,.int c v]
theorem z0 {is:List Int} {a b c:Int} (hI:IntsAre vs is) (h:Fx is=some (a,b,c)):xa a b c vs:=by
 rcases hI with _|⟨i,t,hI⟩
 ·exact no h
 ·rcases hI with _|⟨j,t',hI⟩
  ·cases h;exact .one _ rfl rfl
  ·rcases hI with _|⟨l,t'',hI⟩
   ·cases h;exact .two _ _ rfl
   ·rcases hI with _|⟨_,_,_⟩
    ·cases h;exact .three _ _ _
    ·exact no h
theorem xb {prog:Program} {w:World} {A:Around} {a b c:Int} (H:xa a b c vs) (g1:small a=true) (g2:small b=true) (g:c=1∨c = -1) (k:∀t u v tk,Q (.ref s.heap.objs.size) {s with heap:=s.heap.push (o8 a b c t u v),toks:=tk}):
  wpAny (model prog w) A (call (.type "range") vs) Q E s:=by
 rcases H with⟨t,e,f⟩|⟨t,u,f⟩|⟨t,u,v⟩
 ·subst e f;exact call_range_1 (k _ _ _ _)
 ·subst f;exact call_range_2 (k _ _ _ _)
 ·have g1:=ff g1
  have g2:=ff g2
  exact call_range_3 (by exact(pM 0x10067011190061100697) g) (k _ _ _ _) (.inl (PyProof.noPylong_small (by lia)))
theorem ql {a b c:Int} (g:c=1∨c = -1):Builtin.Range.rangeSize a b c=oQ (a,b,c):=by
 rcases g with rfl|rfl
 ·exact zZ
 ·exact uZ
theorem lp (e:cv l=some m) (S:St G.b₀ (sp (aq G.toWld l vs) R) s.heap)
  (k:∀a b c t u v tk n,m=aZ a c n->n<1000000->Builtin.Range.small a b c=true->Builtin.Range.rangeSize a b c=n->Q (.ref s.heap.objs.size) {s with heap:=s.heap.push (o8 a b c t u v),toks:=tk}):wpAny (model G.prog G.w) X.A (call (.type "range") vs) Q E s:=by
 refine aJ e fun is his e=>aJ e fun q hq e=>?_
 obtain⟨g,e⟩:=br e
 refine cz g fun g g4=>cz g fun g g3=>cz g fun g1 g2=>?_
 have g4:=le_of_ble_eq_true g4
 have g3:=(or_eq_true_iff.mp g3).imp of_decide_eq_true of_decide_eq_true
 have hI:IntsAre vs is:=by obtain⟨zz,zz,⟨zz,zz,zz,zz,zz,o,zz⟩,zz⟩:=S;exact ints_of o his
 exact xb (z0 hI hq) g1 g2 g3 fun t u v tk=>k _ _ _ t u v tk _ e.symm g4 (qj g1 g2 g3 (ql g3) g4) (ql g3)
theorem o9 (O:GlobOk G) (H:∀e,SE X (eval e X.env) (r.e X.c e)) {x:Str} {b:BI} {as:List Expr} {np pos:Pos} (hg:cZ G.T X.c x=some (.bi b)) {ρ:Env} {us:List Value} {P:List PV->Env->Prop} (h:mJ r X.c as ρ P) (S:St G.b₀ (sp (au X ρ us) R) s.heap)
  (k:∀l ρ' vs h k,l.length=as.length->l.all bS=true->P l ρ'->St G.b₀ (sp (aq G.toWld l vs) (sp (au X ρ' us) R)) h->wpAny (model G.prog G.w) X.A (call b.val vs) Q E {s with heap:=h,toks:=k}):
  wpAny (model G.prog G.w) X.A (eval (.Call (.Name x np) as [] pos) X.env) Q E s:=by
 obtain⟨h1,h2⟩:=cb hg
 obtain⟨o1,o2,o3⟩:=O.b x b h2
 exact c6 (fh h1 S.base o2 o3 o1 (gn H (km b) h S fun l ρ' vs h k' ln ol hp S'=>⟨trivial,k l ρ' vs h k' ln ol hp S'⟩))
theorem FS (O:GlobOk G) (H:∀e,SE X (eval e X.env) (r.e X.c e)) {x:Str} {b:BI} {as:List Expr} {np pos:Pos} (hg:cZ G.T X.c x=some (.bi b)):SE X (eval (.Call (.Name x np) as [] pos) X.env) (rW G.T r X.c b as):=by
 intro s ρ us P R Q E h S k
 unfold rW at h
 refine kS h (fun a e1 h7=>?_) fun e1 h7=>?_
 ·clear h
  obtain⟨rfl,y,p,rfl,hy,c⟩:=sB e1
  obtain⟨h1,h2⟩:=cb hg
  obtain⟨o1,o2,o3⟩:=O.b x _ h2
  have c':[a,.Name y p].all jM=true:=by rw[List.all_cons,c];rfl
  refine c6 (fh h1 S.base o2 o3 o1 (callWith_of (P:=fun zz=>True) (by rw[bZ c'];rfl) (km .isi) (bh c' (wpAny_items_cons (H a s ρ us _ R _ E h7 S fun v ρ₁ u h₁ k₁ ov hv S₁=>?_) (dy c _)))))
  refine bH hv fun cs hv=>?_
  obtain⟨z,rfl⟩:=u7 cs
  obtain⟨g1,g2⟩:=cb hy
  obtain⟨q1,q2,q3⟩:=O.b y _ g2
  obtain⟨zz,zz,zz,zz,⟨t,rfl⟩,zz⟩:=S₁.look
  exact wpAny_items_cons (fh (s:={s with heap:=h₁,toks:=k₁}) g1 S₁.base q2 q3 q1 (wpAny_items_nil ⟨trivial,PySem.IsiPair.str_bool (k _ ρ₁ _ h₁ (k₁+1) rfl hv (S₁.snd.put fun zz zz=>rfl))⟩)) rfl
 ·clear h
  refine kS h7 (fun bs e2 h77=>?_) fun e2 h77=>?_
  ·clear h7
   obtain⟨rfl,a,rfl,ha⟩:=sA e2
   obtain⟨y,np',pos',rfl,hy⟩:=d3 ha
   obtain⟨h1,h2⟩:=cb hg
   obtain⟨o1,o2,o3⟩:=O.b x _ h2
   refine c6 (fh h1 S.base o2 o3 o1 (callWith_of (P:=fun zz=>True) rfl (km .lst) (bh rfl (wpAny_items_cons (e:=.Call (.Name y np') bs [] pos') (o9 O H hy h77 S fun l ρ' vs h' k' zz zz hp S'=>?_) rfl))))
   refine eQ hp fun m hm hp=>?_
   refine lp (s:={s with heap:=h',toks:=k'}) hm S' fun a b c t u v tk n em hn hsm hsz=>wpAny_items_nil ⟨trivial,?_⟩
   subst em
   refine call_list_range (s:={s with heap:=h'.push (o8 a b c t u v),toks:=tk}) X.hd (IsRange.new ..) hsm hsz (by exact(ba 0x100000072001f4240520027) hn) fun h'' tk' acc c' hk hS hI=>?_
   refine k _ ρ' _ h'' tk' rfl hp (((S'.snd.up fun b o e=>Heap.get?_push_of_some _ e).new hk (bG _) hS).imp (al (fun Z m H=>⟨_,acc,c',rfl,by rw[fG];simp only[gf];exact(ba 0x10000062001f4240520027) hn,eR (ni c n a),m,fun zz=>none,aR aE,le_refl m,ay,H,lm n a (by rw[length_toList];exact hI.1) fun j w hw=>?_⟩) ag))
   exact hI.2 j w ((getElem?_toList ..).symm.trans hw)
  ·clear h7
   refine o9 O H hg h77 S fun l ρ' vs h' k' zz zz hp S'=>?_
   refine eQ hp fun v hv hp=>?_
   exact qi (s:={s with heap:=h',toks:=k'}) hv S' fun u h'' k'' ov S''=>k v ρ' u h'' k'' ov hp S''
end
theorem lq {e:Expr} (h:tc e=true) (attr:Str) (env:PySem.Env) (w:Sem Value):attributeBase e attr env w=w:=by
 cases e with
 | Call f as kws p=>
  cases f with
  | Name x np=>rcases as with _|_<;>first|(cases h;done)|rfl
  | _=>rfl
 | _=>rfl
theorem tw {b:Expr} {ap p:Pos} (h:zr b ap p=true):tc b=true∧(ap.endLine==p.line)=true:=bA h
theorem few {pos:Pos} {env:PySem.Env} {es:List Expr} (h:gX es=true):
  ((backTo pos (starEach es env)).all (fun x=>!x.1)&&(backToKw pos (keywordEach [] env)).all (fun x=>x.1.isSome)&&decide (es.length+([]:List Keyword).length+(if([]:List Keyword).isEmpty then 0 else 1)<30))=true:=by
 obtain⟨h1,h2⟩:=c5 h
 refine and_eq_true_iff.mpr ⟨and_eq_true_iff.mpr ⟨?_,rfl⟩,decide_eq_true (Nat.lt_trans h1 (by decide))⟩
 refine all_eq_true.mpr fun x hx=>?_
 have:=List.any_eq_false.mp (bZ (pos:=pos) (env:=env) h2) x hx
 cases q:x.1 with
 | true=>exact absurd q this
 | false=>rfl
section
variable {G:Wld} {b₀ h:Heap} {R:a7} {l:List PV} {u:Value}
theorem St.opn (S:St b₀ (sp (aH G (.lst l) u) R) h):E3 fun a vs k=>A6 (u=.ref a) (h.get? a=some (aX vs k)) (vs.size=l.length) (l.length<=gf) (l.all bS=true) (St b₀ (sp (pt a (aX vs k)) (sp (aq G l vs.toList) R)) h):=by
 obtain⟨Z,m,⟨x,y,d,l1,l2,⟨a,vs,k,rfl,hc,ho,H⟩,r⟩,T⟩:=S
 have S2:(sp (pt a (aX vs k)) (sp (aq G l vs.toList) R)).p Z m:=bM Z m ⟨x,y,d,l1,l2,H,r⟩
 have S3:St b₀ _ h:=⟨Z,m,S2,T⟩
 refine⟨a,vs,k,rfl,S3.at,?_,hc,ho,S3⟩
 obtain⟨zz,zz,zz,zz,zz,zz,o⟩:=H
 exact bN o
theorem gI {a:Addr} {vs:Array Value} {k:Nat} (hc:l.length<=gf) (ho:l.all bS=true):cM (sp (pt a (aX vs k)) (sp (aq G l vs.toList) R)) (sp (aH G (.lst l) (.ref a)) R):=aj a8 (al (fun zz zz H=>⟨a,vs,k,rfl,hc,ho,H⟩) ag)
theorem tx {p:PV} {us:List Value} (S:St b₀ (sp (aq G (p::l) us) R) h):E2 fun u r=>us=u::r∧St b₀ (sp (aH G p u) (sp (aq G l r) R)) h:=by
 obtain⟨Z,m,⟨x,y,d,l1,l2,⟨u,r,rfl,H⟩,rr⟩,T⟩:=S
 exact⟨u,r,rfl,Z,m,bM (A:=aH G p u) (B:=aq G l r) Z m ⟨x,y,d,l1,l2,H,rr⟩,T⟩
theorem xc {v:PV} {q:Nat×List Str×List PV} (o:bS v=true) (h:mW (un v)=some q):af v=.fz (.obj q.1 q.2.1 q.2.2):=by
 have:=jh h
 rcases v with _|_<;>first|(cases this;done)|exact congrArg PV.fz this
theorem xd {v:PV} {q:List Str×List PV} (o:bS v=true) (h:mV (un v)=some q):af v=.fz (.dct q.1 q.2):=w8 (je h) o
theorem xe {l:List PV} {q:Str×PV} (h:Fy l=some q):(l=[.str q.1]∧q.2=.none)∨l=[.str q.1,q.2]:=by
 match l,h with
 | [a],h=>obtain⟨x,hx,rfl⟩:=map_eq_some_iff.mp h;exact .inl ⟨by rw[gh hx],rfl⟩
 | [a,d],h=>obtain⟨x,hx,rfl⟩:=map_eq_some_iff.mp h;exact .inr (by rw[gh hx])
end
section
variable {G:bB} {X:Amb G} {r:Ev} {R:a7} {s:Shared} {E:Value->Shared->Prop}
theorem u8 {ks:List Str} {ps l:List PV} {v:PV} {u:Value} {ws:List Value} (e:wv ks ps l=some v) (ol:l.all bS=true) (S:St G.b₀ (sp (aq G.toWld l ws) (sp (aH G.toWld (.fz (.dct ks ps)) u) R)) s.heap) {Q:Value->Shared->Prop} (g:Gives G R s v Q):wpAny (model G.prog G.w) X.A (call (.builtin "dict.get") (u::ws)) Q E s:=by
 obtain⟨⟨x,d⟩,hq,e⟩:=bind_eq_some_iff.mp e
 obtain⟨c,rfl⟩:=br e
 obtain⟨dv,t,hws,od,S1⟩:E2 fun dv t=>A3 (ws=[.str x t]∧dv=.none∨ws=[.str x t,dv]) (bS d=true) (St G.b₀ (sp (aH G.toWld d dv) (sp (aH G.toWld (.fz (.dct ks ps)) u) R)) s.heap):=by
  rcases xe hq with⟨rfl,hd⟩|rfl
  ·obtain⟨w,rfl,S1⟩:=qg S
   obtain⟨zz,zz,zz,zz,⟨t,rfl⟩,zz⟩:=S1.look
   cases (show d=.none from hd)
   exact⟨.none,t,.inl ⟨rfl,rfl⟩,rfl,S1.snd.put fun zz zz=>rfl⟩
  ·obtain⟨w,dv,rfl,S1⟩:=Dr S
   obtain⟨zz,zz,zz,zz,⟨t,rfl⟩,zz⟩:=S1.look
   exact⟨dv,t,.inr rfl,(all_cons (all_cons ol).2).1,S1.snd⟩
 obtain⟨a,o,kvs,rfl,ha,⟨es,ep,hD⟩,sys,dY⟩:E3 fun a o kvs=>A5 (u=.ref a) (s.heap.get? a=some o) (wM G.toWld o kvs) ((a==sysModules)=false) (Q ((valueAt kvs x).getD dv) {s with toks:=s.toks+1}):=by
  by_cases iv:mH (cu x ks ps)=true
  ·obtain⟨j,hj,hg,zz⟩:=kj iv
   have ok:bS (cu x ks ps)=true:=hg▸dB c hj
   have hk:gK (.key x) (.fz (.dct ks ps))=some (af (cu x ks ps)):=by
    show(iG (cu x ks ps)).bind _=_
    rw[show iG (cu x ks ps)=_ from if_pos iv]
    exact if_pos (gg ok)
   obtain⟨w,⟨a,o,kvs,rfl,ha,hD,sys,hv⟩,S2⟩:=S1.snd.own_kid hk
   refine⟨a,o,kvs,rfl,ha,hD,sys,?_⟩
   rw[hv]
   rw[if_pos iv]at g
   exact g w s.heap _ (or_eq_true_iff.mpr (.inl (gg ok))) (S2.imp (al ag iI))
  ·obtain⟨Z,m,hz,hm,y,lz,a,o,us,rfl,hD,sys,hl,y1,y2,zz,l1,zz,ha,ho⟩:=S1.snd.look
   refine⟨a,o,_,rfl,hz _ _ (lz _ _ (l1 _ _ ha)),hD,sys,?_⟩
   have q:=B5 (z:=x) hl (bQ ho) (all_eq_true.mpr fun v hv=>d0 (all_eq_true.mp c v hv))
   rw[eq_false_iff.mpr iv]at q
   rw[Option.isSome_eq_false_iff.mp q |> isNone_iff_eq_none.mp]
   rw[if_neg iv]at g
   exact g dv s.heap _ od (S1.imp (al ag iI))
 have hM:s.heap.DictOf (strKind G.prog G.w) a kvs:=⟨_,es,ep,ha,hD⟩
 rcases hws with⟨rfl,rfl⟩|rfl
 ·exact call_meetsIn PySem.F.slot_dict_get hM.mapOf.typeIs PySem.F.entry_dict_get (PySem.F.args_dict_get_2 _ _) (meets_dict_get (strKind G.prog G.w) a (strKind_is G.prog G.w x t) sys) ⟨_,hM.mapOf,dY⟩
 ·exact call_meetsIn PySem.F.slot_dict_get hM.mapOf.typeIs PySem.F.entry_dict_get (PySem.F.args_dict_get_3 _ _ _) (meets_dict_get_default (strKind G.prog G.w) a (strKind_is G.prog G.w x t) sys dv) ⟨_,hM.mapOf,dY⟩
theorem lr {o:Expr} {name:Str} {id:String} {ap cp:Pos} {es:List Expr} {p:f8} {ρ:Env} {us:List Value} {l:List PV} {Q:Value->Shared->Prop} (hm:zr o ap cp=true) (slot:Slot "list" name id) (hty:typeOf (.builtin id)=pure (.type "method_descriptor"))
  (hs:gX es=true) (hp:ja X.c.names 5 o=some p) (hq:oJ p ρ=some (.lst l)) (S:St G.b₀ (sp (au X ρ us) R) s.heap)
  (k:∀u tk,St G.b₀ (sp (aH G.toWld (.lst l) u) (sp (foc X p ρ us (.lst l) u) R)) s.heap->(p.2=[]->us[p.1]?=some u)->wpAny (model G.prog G.w) X.A (callWith cp (.builtin id) [u] (backTo cp (starEach es X.env)) []) Q E {s with toks:=tk}):
  wpAny (model G.prog G.w) X.A (eval (.Call (.Attribute o name ap) es [] cp) X.env) Q E s:=by
 obtain⟨h1,h2⟩:=tw hm
 refine wpAny_Call_method (lq h1 name X.env _) (few hs) h2 PySem.F.plainAttrs_list slot hty (cj hp hq rfl S fun u tk S' hu=>?_)
 obtain⟨a,vs,c,rfl,ha,zz⟩:=S'.opn
 exact⟨⟨_,ha,rfl⟩,fun b e=>(by cases e;exact⟨_,ha,rfl⟩),k _ tk S' hu⟩
theorem xf {c:bF} {b:Expr} {m:Str} {as:List Expr} {ρ:Env} {q:f8×PV×List PV} (h:CY c b m as ρ=some q):A4 (m=Str.ofString "pop") (∃j p,as=[.Constant (.int 0) j p]) (ib c b ρ=some (q.1,q.2.1::q.2.2)) (rQ q.2.1=true):=by
 obtain⟨h1,h⟩:=et h
 refine aJ h fun e he h=>?_
 obtain⟨h2,h⟩:=et h
 refine aJ h fun w hw h=>?_
 refine aJ h fun t ht h=>?_
 obtain⟨h3,rfl⟩:=br h
 refine⟨strEq_iff.mp h1,?_,?_,h3⟩
 ·obtain⟨j,p,rfl⟩:=tj h2
  exact⟨j,p,ck he⟩
 ·have e:∀{l:List PV},KL l=some t->l=t.1::t.2:=fun{l} h=>by
   rcases l with _|_<;>first|exact no h|(cases h;rfl)
  rw[←e ht]
  exact hw
theorem sC {v:PV} (h:rQ v=true):aL v=true:=by
 rcases v with _|_<;>first|rfl|exact bp h
theorem Dt {b:Expr} {m:Str} {as:List Expr} {ap cp:Pos} {ρ:Env} {q:f8×PV×List PV} {P:PV->Env->Prop} {us:List Value} {Q:Value->Shared->Prop} (hm:zr b ap cp=true) (hq:CY X.c b m as ρ=some q) (h:aP (mC q.1 (.lst q.2.2) ρ) fun ρ=>P q.2.1 ρ) (S:St G.b₀ (sp (au X ρ us) R) s.heap)
  (k:∀v ρ' u h k,bS v=true->P v ρ'->St G.b₀ (sp (aH G.toWld v u) (sp (au X ρ' us) R)) h->Q u {s with heap:=h,toks:=k}):wpAny (model G.prog G.w) X.A (eval (.Call (.Attribute b m ap) as [] cp) X.env) Q E s:=by
 obtain⟨rfl,⟨j,p,rfl⟩,hl,at1⟩:=xf hq
 obtain⟨p,x,l⟩:=q
 obtain⟨h1,h2⟩:=iL hl
 obtain⟨ρ',hρ,h⟩:=aY h
 refine lr hm PySem.F.slot_list_pop PySem.F.type_list_pop rfl h1 h2 S fun u tk S' zz=>?_
 refine callWith_of (P:=fun zz=>True) rfl (fun zz zz=>⟨.machine,.inr (.inl rfl),Looks.of_pure rfl⟩) (bh rfl (wpAny_items_cons (wpAny_Constant_int (wpAny_items_nil ⟨trivial,?_⟩)) rfl))
 obtain⟨a,vs,c,rfl,ha,hsz,hc,ho,S2⟩:=S'.opn
 obtain⟨u0,r,hvs,S3⟩:=tx (S2.imp aC)
 have hsz':vs.size=l.length+1:=hsz
 have hc:l.length+1<=1048576:=hc
 have hv0:vs[0]?=some u0:=by rw[←getElem?_toList,hvs];rfl
 have hidx:seqIndex? 0 vs.size=some 0:=by rw[hsz'];simp[seqIndex?]
 refine call_meets PySem.F.slot_list_pop (s:={s with toks:=tk+1}) ⟨_,ha,rfl⟩ PySem.F.entry_list_pop (PySem.F.args_list_pop_2 _ _) (PySem.MeetsSeq.list_pop_at a vs c 0 tk 0 u0 (by decide) hidx hv0 (Nat.le_trans (by exact(az 0x10000062001100000621110417111040037) hsz' hc:vs.size<=1048576) (by decide))) ⟨ha,?_⟩
 have hn:=PySem.IsL.update (h:=s.heap) (l:=a) (items:=vs) (n:=c) ha (fun xs=>xs.eraseIdxIfInBounds 0)
 have S4:=((S3.imp fY).upd (fun b hb=>Heap.get?_update_other _ _ (Ne.symm hb)) hn).imp aC
 have hlist:(vs.eraseIdxIfInBounds 0).toList=r:=by
  unfold Array.eraseIdxIfInBounds
  rw[dif_pos (by lia),Array.toList_eraseIdx,hvs]
  rfl
 rw[←hlist]at S4
 exact k x ρ' u0 _ _ (or_eq_true_iff.mpr (.inl (sC at1))) h (S4.imp (al ag (aj (gI (Nat.le_of_succ_le hc) (all_cons ho).2) (aj a8 (al (cP (.inr hρ)) ag)))))
theorem Du (H:∀e,SE X (eval e X.env) (r.e X.c e)) {b:Expr} {m:Str} {as:List Expr} {ap cp:Pos} {ρ:Env} {v:PV} {u:Value} {P:PV->Env->Prop} {us:List Value} {Q:Value->Shared->Prop} (hm:BV m=true) (ov:bS v=true)
  (h:aP (mV (un v)) fun q=>mJ r X.c as ρ fun l ρ=>aP (wv q.1 q.2 (l.map af)) fun x=>P x ρ) (S:St G.b₀ (sp (aH G.toWld v u) (sp (au X ρ us) R)) s.heap)
  (k:∀v ρ' u h k,bS v=true->P v ρ'->St G.b₀ (sp (aH G.toWld v u) (sp (au X ρ' us) R)) h->Q u {s with heap:=h,toks:=k}):m=Str.ofString "get"∧gX as=true∧s.TypeIs u "dict"∧(∀a,u=.ref a->∃ob,s.heap.get? a=some ob∧ob.dict=none) ∧
   wpAny (model G.prog G.w) X.A (callWith cp (.builtin "dict.get") [u] (backTo cp (starEach as X.env)) []) Q E s:=by
 obtain⟨⟨ks,ps⟩,hd,h⟩:=aY h
 have S1:=S.shr ov
 rw[xd ov hd]at S1
 obtain⟨Z,n,hz,zz,y,lz,a,o,ws,rfl,⟨es,ep,hD,zz⟩,zz,zz,y1,zz,zz,l1,zz,ha,zz⟩:=S1.look
 have ha:=hz _ _ (lz _ _ (l1 _ _ ha))
 refine⟨strEq_iff.mp hm,(bL h).1,⟨_,ha,hD.1⟩,fun b e=>by cases e;exact⟨_,ha,hD.2.1⟩,?_⟩
 refine gn (C:=fun zz=>True) H (fun zz zz=>⟨.machine,.inr (.inl rfl),Looks.of_pure rfl⟩) h (S1.imp aC) fun l ρ' vs h' k' zz ol hp S'=>⟨trivial,?_⟩
 refine eQ hp fun x hx hp=>?_
 exact u8 (s:={s with heap:=h',toks:=k'}) hx (eR (er ol)) ((S'.shrs ol).imp (al ag aC)) fun w h'' k'' ox S''=>k x ρ' w h'' k'' ox hp S''
end
noncomputable def hp (own:List Addr) (P:Heap->Prop):a7:=⟨fun zz m=>∃x:PH,A3 (x.le m) (∀a ∈ own,∃o,x a=some o) (∀h:Heap,x.le h.get?->P h),fun zz k h=>by
 obtain⟨x,l,r,q⟩:=h
 exact⟨x,le_trans l k,r,q⟩⟩
noncomputable def za (a:Addr) (o:Obj):a7:=⟨fun Z zz=>Z a=some o,fun k zz h=>k a o h⟩
noncomputable def only (own:List Addr) (h:Heap):PH:=fun a=>if a ∈ own then h.get? a else none
theorem jl {own:List Addr} {h:Heap} {a:Addr} (c:a ∉ own):only own h a=none:=if_neg c
section
variable {b₀ h h':Heap} {own:List Addr} {P P':Heap->Prop} {R A:a7}
theorem St.hpAt (S:St b₀ (sp (hp own P) R) h):P h:=by
 obtain⟨Z,m,⟨x,zz,zz,l1,zz,⟨z,l2,zz,p⟩,zz⟩,zz,zz,r3⟩:=S
 exact p h fun a o e=>(r3 a o (l1 a o (l2 a o e))).1
theorem St.zaAt {a:Addr} {o:Obj} (S:St b₀ (sp (za a o) R) h):h.get? a=some o:=by
 obtain⟨zz,zz,⟨zz,zz,zz,zz,zz,e,zz⟩,zz,r2,zz⟩:=S
 exact r2 a o e
theorem FT {Z m:PH} {ne:List Addr} (S:(sp (hp own P) R).p Z m) (T:Sat b₀ Z m h) (k:∀a o,a ∉ own->h.get? a=some o->h'.get? a=some o) (f:∀a ∈ ne,a ∈ own∨h.get? a=none) (e:∀a ∈ ne,∃o,h'.get? a=some o) (p:∀g:Heap,(∀a ∈ ne,g.get? a=h'.get? a)->P' g):
  ∃m',A3 ((sp (hp ne P') R).p Z m') (Sat b₀ Z m' h') (∀a,h.get? a=none->a ∉ ne->Z a=none∧m' a=none):=by
 obtain⟨x,y,d,l1,l2,⟨z,l3,q,zz⟩,r⟩:=S
 obtain⟨r1,r2,r3⟩:=T
 have yo:∀a ∈ own,y a=none:=fun a ha=>by
  obtain⟨o,q⟩:=q a ha
  exact jQ d (l3 a o q)
 have zo:∀a ∈ own,Z a=none:=fun a ha=>by
  obtain⟨o,q⟩:=q a ha
  exact(r3 a o (l1 a o (l3 a o q))).2
 have hn:∀a,h.get? a=none->Z a=none∧m a=none:=fun a ha=>⟨b4 r2 ha,b4 (fun a o e=>(r3 a o e).1) ha⟩
 have nz:∀a ∈ ne,Z a=none∧y a=none:=fun a ha=>(f a ha).elim (fun o=>⟨zo a o,yo a o⟩) fun o=>⟨(hn a o).1,b4 l2 (hn a o).2⟩
 have dj:(only ne h').dj y:=fun a=>by
  by_cases c:a ∈ ne
  ·exact .inr (nz a c).2
  ·exact .inl (jl c)
 refine⟨(only ne h').un y,⟨only ne h',y,dj,kL,jd dj,⟨only ne h',le_refl _,fun a ha=>?_,fun g hg=>p g fun a ha=>?_⟩,r⟩,⟨r1,fun a o w=>k a o (fun c=>?_) (r2 a o w),fun a o w=>?_⟩,fun a ha c=>⟨(hn a ha).1,un_none.mpr ⟨jl c,b4 l2 (hn a ha).2⟩⟩⟩
 ·obtain⟨o,w⟩:=e a ha
  exact⟨o,(if_pos ha).trans w⟩
 ·obtain⟨o,w⟩:=e a ha
  exact(hg a o ((if_pos ha).trans w)).trans w.symm
 ·rw[zo a c]at w;exact no w
 ·by_cases c:a ∈ ne
  ·have:only ne h' a=h'.get? a:=if_pos c
   obtain⟨o',w'⟩:=e a c
   rw[pV (this.trans w')]at w
   cases w
   exact⟨w',(nz a c).1⟩
  ·rw[PH.un,jl c,none_or]at w
   have:=r3 a o (l2 a o w)
   exact⟨k a o (fun c'=>by rw[yo a c']at w;cases w) this.1,this.2⟩
theorem St.chg {ne:List Addr} (S:St b₀ (sp (hp own P) R) h) (k:∀a o,a ∉ own->h.get? a=some o->h'.get? a=some o) (f:∀a ∈ ne,a ∈ own∨h.get? a=none) (e:∀a ∈ ne,∃o,h'.get? a=some o) (p:∀g:Heap,(∀a ∈ ne,g.get? a=h'.get? a)->P' g):St b₀ (sp (hp ne P') R) h':=by
 obtain⟨Z,m,S,T⟩:=S
 obtain⟨m',S,T,zz⟩:=FT S T k f e p
 exact⟨Z,m',S,T⟩
theorem St.hpNew {ne:List Addr} (S:St b₀ R h) (k:∀a o,h.get? a=some o->h'.get? a=some o) (f:∀a ∈ ne,h.get? a=none) (e:∀a ∈ ne,∃o,h'.get? a=some o) (p:∀g:Heap,(∀a ∈ ne,g.get? a=h'.get? a)->P' g):St b₀ (sp (hp ne P') R) h':=
 St.chg (own:=[]) (P:=fun zz=>True) (S.imp fun Z m r=>⟨fun zz=>none,m,aE,ay,le_refl m,⟨fun zz=>none,ay,fun zz h=>(nomatch h),fun zz zz=>trivial⟩,r⟩) (fun a o zz=>k a o) (fun a ha=>.inr (f a ha)) e p
theorem St.chgN {T:Addr} {o:Obj} (S:St b₀ (sp (hp own P) R) h) (k:∀a o,a ∉ own->h.get? a=some o->h'.get? a=some o) (hT:h.get? T=none) (nT:T ∉ own) (eT:h'.get? T=some o) (e:∀a ∈ own,∃o,h'.get? a=some o) (p:∀g:Heap,(∀a ∈ own,g.get? a=h'.get? a)->P' g):St b₀ (sp (pt T o) (sp (hp own P') R)) h':=by
 obtain⟨Z,m,S,t⟩:=S
 obtain⟨m',S,⟨r1,r2,r3⟩,n⟩:=FT S t k (fun a ha=>.inl ha) e p
 obtain⟨n1,n2⟩:=n T hT nT
 refine⟨Z,(PH.one T o).un m',⟨PH.one T o,m',ei n2,kL,jd (ei n2),b8 T o,S⟩,r1,r2,fun a ob w=>?_⟩
 by_cases c:a=T
 ·subst c
  rw[pV (b8 a o)]at w
  cases w
  exact⟨eT,n1⟩
 ·rw[PH.un,dN c,none_or]at w
  exact r3 a ob w
end
section
variable {G:Wld} {b₀ h:Heap} {R:a7} {l:List PV} {x:PV}
theorem St.frzT {a:Addr} {vs:Array Value} {k:Nat} (S:St b₀ (sp (sp (pt a (ej vs k)) (aq G l vs.toList)) R) h) (hc:l.length<=gf) (ho:l.all aL=true):St b₀ (sp (aH G (.tup l) (.ref a)) R) h:=
 S.fzA (A:=sp (pt a (ej vs k)) (aq G l vs.toList)) (C:=aH G (.tup l) (.ref a)) fun Z x H le n=>by
  obtain⟨zz,zz,zz,l1,zz,q,o⟩:=H
  exact⟨a,vs,k,rfl,hc,ho,le _ _ (l1 _ _ q),k7 ho _ o⟩
theorem St.litz {u:Value} (e:Internal.litems x=some l) (S:St b₀ (sp (aH G x u) R) h):E3 fun ad vs k=>A5 (u=.ref ad) (vs.size=l.length) (l.length<=gf) (l.all aL=true) (St b₀ (sp (za ad (aX vs k)) (sp (aq G l vs.toList) R)) h):=by
 obtain⟨q,eq,rfl⟩:=ig e
 have S:=S.shr (o6 (by rw[eq];rfl))
 rw[eq]at S
 obtain⟨Z,m,⟨zz,zz,zz,zz,l2,⟨x2,l3,ad,vs,k,rfl,hc,ho,zz,zz,zz,l4,l5,hp,hs⟩,r⟩,T⟩:=S
 exact⟨ad,vs,k,rfl,(bN hs).trans (length_map af).symm,(length_map af).symm▸hc,er ho,Z,m,⟨fun zz=>none,m,aE,ay,le_refl m,l3 _ _ (l4 _ _ hp),fun zz=>none,m,aE,ay,le_refl m,fe (le_trans l5 l3) ho hs _,R.mono (le_refl Z) l2 r⟩,T⟩
theorem St.seqz {u:Value} (e:Internal.items x=some l) (S:St b₀ (sp (aH G x u) R) h):E3 fun ad vs k=>A5 (u=.ref ad) (vs.size=l.length) (l.length<=gf) (l.all aL=true) (St b₀ (sp (za ad (ej vs k)) (sp (aq G l vs.toList) R)) h∨St b₀ (sp (za ad (aX vs k)) (sp (aq G l vs.toList) R)) h):=by
 rcases ji e with rfl|e
 ·obtain⟨Z,m,⟨zz,zz,zz,zz,l2,⟨ad,vs,k,rfl,hc,ho,hp,hs⟩,r⟩,T⟩:=S
  exact⟨ad,vs,k,rfl,bN hs,hc,ho,.inl ⟨Z,m,⟨fun zz=>none,m,aE,ay,le_refl m,hp,fun zz=>none,m,aE,ay,le_refl m,hs,R.mono (le_refl Z) l2 r⟩,T⟩⟩
 ·obtain⟨ad,vs,k,h1,h2,h3,h4,S⟩:=S.litz e
  exact⟨ad,vs,k,h1,h2,h3,h4,.inr S⟩
end
section
variable {G:Wld} {b₀ h h':Heap} {own:List Addr} {P:Heap->Prop} {H B C R:a7} {l:List PV} {us:List Value}
theorem fi (s:l.all aL=true) {i:Nat} {w:Value} (hi:i<l.length) (hv:us[i]?=some w):cM (aq G l us) (sp (aH G (aK l i) w) (aq G l us)):=by
 intro Z m o
 obtain⟨w',hw,q⟩:=ld s hi o
 cases hv.symm.trans hw
 exact⟨fun zz=>none,m,aE,ay,le_refl m,q _,o⟩
theorem ko (p:cM C (sp B C)):cM (sp H (sp C R)) (sp B (sp (sp H C) R)):=aj a8 (aj (al (aj (al ag p) aC) ag) bM)
theorem St.drop (S:St b₀ (sp (hp own P) R) h) (k:∀a o,a ∉ own->h.get? a=some o->h'.get? a=some o):St b₀ R h':=
 (S.chg (ne:=[]) (P':=fun zz=>True) k (fun zz h=>(nomatch h)) (fun zz h=>(nomatch h)) fun zz zz=>trivial).snd
theorem jm {I:Addr} {o:Obj} (e:h.get? I=some o):∀a ∈ [I],∃o,h.get? a=some o:=fun a ha=>⟨o,by cases mem_singleton.mp ha;exact e⟩
end
noncomputable def tt:a7:=⟨fun zz zz=>True,fun zz zz h=>h⟩
theorem St.tt {b₀ h:Heap} {R:a7} (S:St b₀ R h):St b₀ (sp Internal.tt R) h:=S.imp fun zz m r=>⟨fun zz=>none,m,aE,ay,le_refl m,trivial,r⟩
structure u9 (G:bB) (tgt:Expr) (I:Value) (l:List PV) (F:Nat->a7) (D:a7):Prop where
 rest:∀i,cM (F i) D
 item:∀(A:Around) (i:Nat) (s:Shared) (R:a7) (Q E:Value->Shared->Prop),A.handled=none->i<l.length->St G.b₀ (sp (F i) R) s.heap ->
  (∀v h tk,St G.b₀ (sp (aH G.toWld (aK l i) v) (sp (F (i+1)) R)) h->Q v {s with heap:=h,toks:=tk}) ->
  wpAny (model G.prog G.w) A (pyNext I) (fun r s₁=>match r with
   | none=>False
   | some v=>wpAny (model G.prog G.w) A (letOwnedTupleGo tgt I v) (fun zz s₂=>Q v s₂) E s₁) E s
 done:∀(A:Around) (s:Shared) (R:a7) (Q:Option Value->Shared->Prop) (E:Value->Shared->Prop),A.handled=none->St G.b₀ (sp (F l.length) R) s.heap->(∀h tk,St G.b₀ (sp D R) h->Q none {s with heap:=h,toks:=tk})->wpAny (model G.prog G.w) A (pyNext I) Q E s
 self:∀(A:Around) (i:Nat) (s:Shared) (R:a7) (Q E:Value->Shared->Prop),St G.b₀ (sp (F i) R) s.heap->Q I s->wpAny (model G.prog G.w) A (pyIter I) Q E s
theorem nj {e:Expr} (h:mX e=true):E3 fun es j p=>e=.Tuple es j p:=by
 rcases e with _|_<;>first|exact⟨_,_,_,rfl⟩|exact bp h
section
variable {G:bB} {A:Around} {E:Value->Shared->Prop} {s:Shared}
set_option tactic.hygienic true in
theorem lu {tgt:Expr} {I:Addr} {o:Obj} {T:String} {v:Value} (ht:hH tgt=true) (ho:s.heap.get? I=some o) (hc:o.cls=.type T)
  (hT:(["enumerate", "zip", "dict_itemiterator", "dict_reverseitemiterator", "odict_iterator", "itertools.zip_longest", "itertools.pairwise"].contains T)=false) {Q:Unit->Shared->Prop} (hQ:Q () s):
  wpAny (model G.prog G.w) A (letOwnedTupleGo tgt (.ref I) v) Q E s:=by
 rcases tgt with _|_<;>first|exact no ht|exact bp ht|(cases ht;done)|skip
 ·rename_i x p
  exact wpAny_pure hQ
 ·rename_i es j p
  cases v with
  | ref a=>
   unfold letOwnedTupleGo
   refine wpAny_bind (wpAny_load ho ?_)
   rw[hc]
   cases o.data with
   | fields vs=>
    show wpAny _ _ (if(_&&_)=true then _ else _) _ _ _
    rw[hT,Bool.false_and,if_neg Bool.false_ne_true]
    exact wpAny_pure hQ
   | _=>exact wpAny_pure hQ
  | _=>exact wpAny_pure hQ
theorem qm {tgt:Expr} {I ax:Addr} {vs:Array Value} {k:Nat} {l:List PV} {D:a7} (hD:∀{h:Heap} {B:a7},St G.b₀ (sp D B) h->h.get? ax=some (aX vs k)) (ht:hH tgt=true) (hs:vs.size=l.length) (ho:l.all aL=true):
  u9 G tgt (.ref I) l (fun i=>sp (hp [I] fun h=>h.IsListIter I ax i) (sp D (aq G.toWld l vs.toList))) (sp D (aq G.toWld l vs.toList)) where
 rest:=fun zz=>iI
 item:=fun A i s R Q E hh hi S kk=>by
  have S1:=S.imp bM
  have hL:s.heap.IsList ax vs:=⟨_,hD (S1.snd.imp bM),rfl,_,rfl⟩
  have hv:=List.getElem?_eq_getElem (l:=vs.toList) (i:=i) (by rw[length_toList,hs];exact hi)
  refine wpAny_pyNext_list_item S1.hpAt hL ((getElem?_toList ..).symm.trans hv) fun h' hit hsb=>?_
  obtain⟨o,ho1,hc,zz⟩:=id hit
  refine lu (s:={s with heap:=h'}) ht ho1 hc (by decide) (kk _ h' s.toks ?_)
  exact(S1.chg (fun b o hb e=>hsb.extBut b o (fun q=>hb (mem_singleton.mpr q)) e) (fun a ha=>.inl ha) (jm ho1) (fun g hg=>hit.at fun o x=>(hg I (mem_singleton.mpr rfl)).trans x)).imp (ko (aj (al ag (fi ho hi hv)) aC))
 done:=fun A s R Q E hh S kk=>by
  have S1:=S.imp bM
  have hL:s.heap.IsList ax vs:=⟨_,hD (S1.snd.imp bM),rfl,_,rfl⟩
  exact wpAny_pyNext_list_end hh S1.hpAt hL (Array.getElem?_eq_none (Nat.le_of_eq hs)) fun h' he=>kk h' s.toks (S1.drop fun b o hb e=>he b o (fun q=>hb (mem_singleton.mpr q)) e)
 self:=fun A i s R Q E S hQ=>wpAny_pyIter_listiter (S.imp bM).hpAt hQ
theorem va {tgt:Expr} {I ax:Addr} {vs:Array Value} {k:Nat} {l:List PV} (ht:hH tgt=true) (hs:vs.size=l.length) (ho:l.all aL=true):
  u9 G tgt (.ref I) l (fun i=>sp (hp [I] fun h=>h.IsTupleIter I ax i) (sp (za ax (ej vs k)) (aq G.toWld l vs.toList))) tt where
 rest:=fun zz zz zz zz=>trivial
 item:=fun A i s R Q E hh hi S kk=>by
  have S1:=S.imp bM
  have hL:s.heap.IsTuple ax vs:=⟨_,(S1.snd.imp bM).zaAt,rfl,_,rfl⟩
  have hv:=List.getElem?_eq_getElem (l:=vs.toList) (i:=i) (by rw[length_toList,hs];exact hi)
  refine wpAny_pyNext_tuple_item S1.hpAt hL ((getElem?_toList ..).symm.trans hv) fun h' hit hsb=>?_
  obtain⟨o,ho1,hc,zz⟩:=id hit
  refine lu (s:={s with heap:=h'}) ht ho1 hc (by decide) (kk _ h' s.toks ?_)
  exact(S1.chg (fun b o hb e=>hsb.extBut b o (fun q=>hb (mem_singleton.mpr q)) e) (fun a ha=>.inl ha) (jm ho1) (fun g hg=>hit.at fun o x=>(hg I (mem_singleton.mpr rfl)).trans x)).imp (ko (aj (al ag (fi ho hi hv)) aC))
 done:=fun A s R Q E hh S kk=>by
  have S1:=S.imp bM
  have hL:s.heap.IsTuple ax vs:=⟨_,(S1.snd.imp bM).zaAt,rfl,_,rfl⟩
  exact wpAny_pyNext_tuple_end hh S1.hpAt hL (Array.getElem?_eq_none (Nat.le_of_eq hs)) fun h' he=>kk h' s.toks (S1.drop fun b o hb e=>he b o (fun q=>hb (mem_singleton.mpr q)) e).snd.tt
 self:=fun A i s R Q E S hQ=>wpAny_pyIter_tupleiter (S.imp bM).hpAt hQ
theorem lw (c:Int):∀(n i:Nat) (a:Int),i<n->aK (aZ a c n) i=.int (a+i*c)
 | 0,_,_,h=>absurd h (not_lt_zero _)
 | n+1,0,a,_=>congrArg PV.int (by lia)
 | n+1,i+1,a,h=>(lw c n i (a+c) (lt_of_succ_lt_succ h)).trans (congrArg PV.int (by push_cast;rw[add_mul];exact(Fp 0x10118204004201000446)))
theorem vc {tgt:Expr} {I:Addr} {a c:Int} {n:Nat} (ht:hH tgt=true):
  u9 G tgt (.ref I) (aZ a c n) (fun i=>hp [I] fun h=>IsRangeIter h I (a+(i:Nat)*c) ((n:Int)-(i:Nat)) c) tt where
 rest:=fun zz zz zz zz=>trivial
 item:=fun A i s R Q E hh hi S kk=>by
  rw[fG]at hi
  refine wpAny_pyNext_range_item S.hpAt (by exact(az 0x31035015100027) hi) fun h' hit hsb=>?_
  refine lu (s:={s with heap:=h',toks:=s.toks+1}) ht hit rfl (by decide) (kk _ h' _ ?_)
  rw[lw c n i a hi]
  refine St.put (S.chg (fun b o hb e=>hsb.extBut b o (fun q=>hb (mem_singleton.mpr q)) e) (fun a ha=>.inl ha) (jm hit) (fun g hg=>?_)) fun zz zz=>⟨_,rfl⟩
  have e1:a+((i+1:Nat):Int)*c=a+(i:Int)*c+c:=by push_cast;rw[add_mul,Int.one_mul,Int.add_assoc]
  have e2:(n:Int)-((i+1:Nat):Int)=(n:Int)-(i:Int)-1:=by push_cast;exact(az 0x111030035511103400356)
  rw[e1,e2]
  exact(hg I (mem_singleton.mpr rfl)).trans hit
 done:=fun A s R Q E hh S kk=>by
  rw[fG]at S
  exact wpAny_pyNext_range_end hh S.hpAt (by exact(ba 0x100300354)) fun h' he=>kk h' s.toks (S.drop fun b o hb e=>he b o (fun q=>hb (mem_singleton.mpr q)) e).tt
 self:=fun A i s R Q E S hQ=>wpAny_pyIter_rangeiter S.hpAt hQ
end
theorem jo:∀(l:List PV) (n:Nat),(dT n l).length=l.length
 | [],_=>rfl
 | _::r,n=>congrArg Nat.succ (jo r (n+1))
theorem nk:∀(l:List PV) (i n:Nat),i<l.length->aK (dT n l) i=.tup [.int ((n+i:Nat):Int),aK l i]
 | [],_,_,h=>absurd h (not_lt_zero _)
 | _::_,0,_,_=>rfl
 | _::r,i+1,n,h=>(nk r i (n+1) (lt_of_succ_lt_succ h)).trans (by rw[Nat.succ_add_eq_add_succ];rfl)
theorem lA:∀(l m:List PV),(gb l m).length<=l.length∧(gb l m).length<=m.length∧((gb l m).length=l.length∨(gb l m).length=m.length)
 | [],m=>⟨Nat.le_refl _,zero_le _,.inl rfl⟩
 | _::_,[]=>⟨zero_le _,Nat.le_refl _,.inr rfl⟩
 | _::r,_::t=>(lA r t).imp succ_le_succ fun h=>h.imp succ_le_succ fun h=>h.imp (congrArg Nat.succ) (congrArg Nat.succ)
theorem qn:∀(l m:List PV) (i:Nat),i<(gb l m).length->aK (gb l m) i=.tup [aK l i,aK m i]
 | [],_,_,h=>absurd h (not_lt_zero _)
 | _::_,[],_,h=>absurd h (not_lt_zero _)
 | _::_,_::_,0,_=>rfl
 | _::r,_::t,i+1,h=>qn r t i (lt_of_succ_lt_succ h)
theorem EW {a b c d e:Addr} {φ:Addr->Prop} (h:∀x ∈ [a,b,c,d,e],φ x):A5 (φ a) (φ b) (φ c) (φ d) (φ e):=
 ⟨h _ (.head _),h _ (.tail _ (.head _)),h _ (.tail _ (.tail _ (.head _))),h _ (.tail _ (.tail _ (.tail _ (.head _)))),h _ (.tail _ (.tail _ (.tail _ (.tail _ (.head _)))))⟩
theorem z4 {a b c d e x:Addr} (h:x ∉ [a,b,c,d,e]):A5 (x≠a) (x≠b) (x≠c) (x≠d) (x≠e):=EW (φ:=(x≠·)) fun y hy q=>h (q▸hy)
theorem Ih {z a b d e c:Addr} {φ:Addr->Prop} (hc:c ∈ [z,a,b,d,e]) (f1:φ z) (f2:φ a) (f3:φ b) (f4:φ d) (f5:φ e):φ c:=by
 rcases mem_cons.mp hc with rfl|hc
 ·exact f1
 rcases mem_cons.mp hc with rfl|hc
 ·exact f2
 rcases mem_cons.mp hc with rfl|hc
 ·exact f3
 rcases mem_cons.mp hc with rfl|hc
 ·exact f4
 ·exact mem_singleton.mp hc▸f5
theorem IJ {A B C D:a7}:cM (sp (sp A B) (sp C D)) (sp (sp A C) (sp B D)):=aj bM (aj (al ag aC) a8)
section
variable {G:Wld} {b₀ h:Heap} {R:a7} {p q:PV}
theorem z5 {A:a7} {i j:Int} {t:Tok} (e:i=j):cM A (sp (aH G (.int j) (.int i t)) A):=fun zz m H=>⟨fun zz=>none,m,aE,ay,le_refl m,⟨t,by rw[e]⟩,H⟩
theorem St.pair {T:Addr} {u w:Value} {k:Nat} (S:St b₀ (sp (pt T (ej #[u,w] k)) (sp (sp (aH G p u) (aH G q w)) R)) h) (hp:aL p=true) (hq:aL q=true):St b₀ (sp (aH G (.tup [p,q]) (.ref T)) R) h:=
 St.frzT (vs:=#[u,w]) (k:=k) ((S.imp a8).imp (al (al ag fun Z m H=>⟨u,[w],rfl,(al ag dw) Z m H⟩) ag)) (by decide:2<=1048576) (by rw[List.all_cons,List.all_cons,hp,hq];rfl)
end
section
variable {G:bB}
theorem xg {tgt:Expr} {e it ax:Addr} {vs:Array Value} {k:Nat} {l:List PV} (ht:mX tgt=true) (hei:e≠it) (hs:vs.size=l.length) (ho:l.all aL=true):
  u9 G tgt (.ref e) (dT 0 l) (fun i=>sp (hp [e,it] fun h=>(∃old,IsEnum h e it (i:Nat) old)∧h.IsListIter it ax i) (sp (za ax (aX vs k)) (aq G.toWld l vs.toList))) tt where
 rest:=fun zz zz zz zz=>trivial
 item:=fun A i s R Q E hh hi S kk=>by
  rw[jo]at hi
  obtain⟨es,j,pos,rfl⟩:=nj ht
  have S1:=S.imp bM
  have hL:s.heap.IsList ax vs:=⟨_,(S1.snd.imp bM).zaAt,rfl,_,rfl⟩
  obtain⟨⟨old,p0⟩,p1⟩:=S1.hpAt
  have hv:=List.getElem?_eq_getElem (l:=vs.toList) (i:=i) (by rw[length_toList,hs];exact hi)
  refine wpAny_pyNext_enum_item p0 p1 hL ((getElem?_toList ..).symm.trans hv) hei fun h' heo hit hT hsz hk=>?_
  refine wpAny_letOwnedTupleGo_enum (s:={s with heap:=h',toks:=s.toks+1}) heo fun h₂ he₂ hs₂=>?_
  replace hs₂:Heap.SameBut e h' h₂:=hs₂
  have lt:∀{c o},s.heap.get? c=some o->s.heap.objs.size≠c:=fun x=>Nat.ne_of_gt (Heap.lt_size x)
  have hit₂:=hit.extBut hs₂.extBut (Ne.symm hei)
  obtain⟨o,ho1,zz⟩:=id p1
  obtain⟨o₂,ho₂,zz⟩:=id hit₂
  refine kk _ h₂ _ ?_
  rw[nk l i 0 hi]
  refine St.pair (k:=0) (u:=.int i s.toks) (((S1.chgN (h':=h₂) (T:=s.heap.objs.size) (fun b o hb x=>hs₂.extBut b o (fun q=>hb (by rw[q];exact mem_cons_self)) (hk b o (fun q=>hb (by rw[q];exact mem_cons_self)) (fun q=>hb (by rw[q];exact mem_cons_of_mem _ mem_cons_self)) x)) (bG _) (fun m=>?_) ((hs₂.2 _ (lt p0)).trans hT) (fun a ha=>?_)
   (P':=fun h=>(∃old,IsEnum h e it ((i+1:Nat):Int) old)∧h.IsListIter it ax (i+1)) fun g hg=>⟨⟨_,(hg e mem_cons_self).trans he₂⟩,hit₂.at fun o x=>(hg it (mem_cons_of_mem _ mem_cons_self)).trans x⟩).imp (al ag (ko (aj (al ag (fi ho hi hv)) aC)))).imp (al ag (al (z5 (by rw[Nat.zero_add])) ag))) rfl (dB ho hi)
  ·rcases mem_cons.mp m with q|q
   ·exact lt p0 q
   ·exact lt ho1 (mem_singleton.mp q)
  ·rcases mem_cons.mp ha with rfl|ha
   ·exact⟨_,he₂⟩
   ·cases mem_singleton.mp ha;exact⟨_,ho₂⟩
 done:=fun A s R Q E hh S kk=>by
  rw[jo]at S
  have S1:=S.imp bM
  have hL:s.heap.IsList ax vs:=⟨_,(S1.snd.imp bM).zaAt,rfl,_,rfl⟩
  obtain⟨⟨old,p0⟩,p1⟩:=S1.hpAt
  exact wpAny_pyNext_enum_end hh p0 p1 hL (Array.getElem?_eq_none (Nat.le_of_eq hs)) fun h' he=>kk h' s.toks (S1.drop fun b o hb e=>he b o (fun q=>hb (by rw[q];exact mem_cons_of_mem _ mem_cons_self)) e).snd.tt
 self:=fun A i s R Q E S hQ=>by
  obtain⟨⟨old,p0⟩,zz⟩:=(S.imp bM).hpAt
  exact wpAny_pyIter_enum p0 hQ
theorem z6 {tgt:Expr} {z TI TO i1 i2 l1 l2:Addr} {vs us:Array Value} {k k':Nat} {l m:List PV} (ht:mX tgt=true) (D:ZipApart z TI TO i1 i2 l1 l2) (hs:vs.size=l.length) (ho:l.all aL=true) (hs':us.size=m.length) (ho':m.all aL=true):
  u9 G tgt (.ref z) (gb l m) (fun i=>sp (hp [z,TI,TO,i1,i2] fun h=>A5 (IsZip h z TI TO .none) (IsPair h TI (.ref i1) (.ref i2)) (∃a b,IsPair h TO a b) (h.IsListIter i1 l1 i) (h.IsListIter i2 l2 i))
   (sp (sp (za l1 (aX vs k)) (aq G.toWld l vs.toList)) (sp (za l2 (aX us k')) (aq G.toWld m us.toList)))) Internal.tt where
 rest:=fun zz zz zz zz=>trivial
 item:=fun A i s R Q E hh hi S kk=>by
  obtain⟨es,j,pos,rfl⟩:=nj ht
  obtain⟨n1,n2,zz⟩:=lA l m
  have hx:i<l.length:=lt_of_lt_of_le hi n1
  have hy:i<m.length:=lt_of_lt_of_le hi n2
  have S1:=S.imp bM
  have hL1:s.heap.IsList l1 vs:=⟨_,(show St G.b₀ (sp (za l1 (aX vs k)) (aq G.toWld l vs.toList)) s.heap from S1.snd.fst.fst).zaAt,rfl,_,rfl⟩
  have hL2:s.heap.IsList l2 us:=⟨_,(show St G.b₀ (sp (za l2 (aX us k')) (aq G.toWld m us.toList)) s.heap from S1.snd.fst.snd).zaAt,rfl,_,rfl⟩
  obtain⟨p0,p1,⟨a,b,p2⟩,p3,p4⟩:=S1.hpAt
  have hv:=List.getElem?_eq_getElem (l:=vs.toList) (i:=i) (by rw[length_toList,hs];exact hx)
  have hu:=List.getElem?_eq_getElem (l:=us.toList) (i:=i) (by rw[length_toList,hs'];exact hy)
  refine wpAny_pyNext_zip_item D p0 p1 p2 p3 p4 hL1 hL2 ((getElem?_toList ..).symm.trans hv) ((getElem?_toList ..).symm.trans hu) fun h' a1 a2 a3 a4 a5 a6 hk=>?_
  refine wpAny_letOwnedTupleGo_zip (s:={s with heap:=h'}) a1 fun h₂ hz₂ hs₂=>?_
  replace hs₂:Heap.SameBut z h' h₂:=hs₂
  have lt:∀{c o},s.heap.get? c=some o->s.heap.objs.size≠c:=fun x=>Nat.ne_of_gt (Heap.lt_size x)
  have q1:=hs₂.extBut _ _ D.TIz (hk _ _ D.TIz D.TITO D.TIi1 D.TIi2 p1)
  have q2:=hs₂.extBut _ _ D.TOz a2
  have q3:=a3.extBut hs₂.extBut D.i1z
  have q4:=a4.extBut hs₂.extBut D.i2z
  refine kk _ h₂ s.toks ?_
  rw[qn l m i hi]
  refine St.pair (k:=0) (((S1.chgN (h':=h₂) (T:=s.heap.objs.size) (fun c o hc x=>?_) (bG _) (fun hc=>?_) ((hs₂.2 _ (lt p0)).trans a5) (fun a ha=>?_)
   (P':=fun h=>A5 (IsZip h z TI TO .none) (IsPair h TI (.ref i1) (.ref i2)) (∃a b,IsPair h TO a b) (h.IsListIter i1 l1 (i+1)) (h.IsListIter i2 l2 (i+1))) fun g hg=>?_).imp (al ag (ko (aj (al (aj (al ag (fi ho hx hv)) aC) (aj (al ag (fi ho' hy hu)) aC)) IJ))))) (dB ho hx) (dB ho' hy)
  ·exact hs₂.extBut c o (z4 hc).1 (hk c o (z4 hc).1 (z4 hc).3 (z4 hc).4 (z4 hc).5 x)
  ·obtain⟨o3,ho3,zz⟩:=id p3
   obtain⟨o4,ho4,zz⟩:=id p4
   exact Ih (φ:=fun c=>s.heap.objs.size≠c) hc (lt p0) (lt p1) (lt p2) (lt ho3) (lt ho4) rfl
  ·obtain⟨o3,ho3,zz⟩:=id q3
   obtain⟨o4,ho4,zz⟩:=id q4
   exact Ih (φ:=fun c=>∃o,h₂.get? c=some o) ha ⟨_,hz₂⟩ ⟨_,q1⟩ ⟨_,q2⟩ ⟨_,ho3⟩ ⟨_,ho4⟩
  ·exact⟨(EW hg).1.trans hz₂,(EW hg).2.trans q1,⟨_,_,(EW hg).3.trans q2⟩,q3.at fun o x=>(EW hg).4.trans x,q4.at fun o x=>(EW hg).5.trans x⟩
 done:=fun A s R Q E hh S kk=>by
  obtain⟨n1,n2,n3⟩:=lA l m
  have S1:=S.imp bM
  have hL1:s.heap.IsList l1 vs:=⟨_,(show St G.b₀ (sp (za l1 (aX vs k)) (aq G.toWld l vs.toList)) s.heap from S1.snd.fst.fst).zaAt,rfl,_,rfl⟩
  have hL2:s.heap.IsList l2 us:=⟨_,(show St G.b₀ (sp (za l2 (aX us k')) (aq G.toWld m us.toList)) s.heap from S1.snd.fst.snd).zaAt,rfl,_,rfl⟩
  obtain⟨p0,p1,⟨a,b,p2⟩,p3,p4⟩:=S1.hpAt
  have hend:vs[(gb l m).length]?=none∨us[(gb l m).length]?=none:=n3.imp (fun e=>Array.getElem?_eq_none (by exact(aQ 0x20001102037100037) hs e)) fun e=>Array.getElem?_eq_none (by exact(aQ 0x20001102037100037) hs' e)
  exact wpAny_pyNext_zip_end hh D p0 p1 p2 p3 p4 hL1 hL2 hend fun h' hk=>kk h' s.toks (S1.drop fun c o hc x=>hk c o (z4 hc).1 (z4 hc).3 (z4 hc).4 (z4 hc).5 x).snd.tt
 self:=fun A i s R Q E S hQ=>wpAny_pyIter_zip (S.imp bM).hpAt.1 hQ
end
def Keep {G:bB} (X:Amb G) (us us':List Value):Prop:=us'.length=us.length∧∀i,(X.own<=i∨i ∈ X.pins)->us'[i]?=us[i]?
section
variable {G:bB} {X:Amb G} {ρ ρ':Env} {us us' us'':List Value} {B R:a7} {h h':Heap}
theorem Keep.refl (us:List Value):Keep X us us:=⟨rfl,fun zz zz=>rfl⟩
theorem Keep.trans (k:Keep X us us') (k':Keep X us' us''):Keep X us us'':=⟨k'.1.trans k.1,fun i c=>(k'.2 i c).trans (k.2 i c)⟩
noncomputable def mL (x:PH) (D:Addr) (o:Obj):PH:=fun a=>if a=D then some o else x a
theorem gJ {x:PH} {D:Addr} {o:Obj}:mL x D o D=some o:=if_pos rfl
theorem cG {x:PH} {D a:Addr} {o:Obj} (c:a≠D):mL x D o a=x a:=if_neg c
theorem xh {D:Addr} {o':Obj} (S:St G.b₀ (sp (wP X ρ us) B) h) (k:∀a,a≠D->h'.get? a=h.get? a) (e:h'.get? D=some o') (f:∀x:PH,x.le h.get?->uO X ρ us x->(∃o,x D=some o)∧uO X ρ' us' (mL x D o')):St G.b₀ (sp (wP X ρ' us') B) h':=by
 obtain⟨Z,m,⟨x,y,d,l1,l2,hf,hB⟩,r1,r2,r3⟩:=S
 obtain⟨⟨o,ho⟩,hf'⟩:=f x (fun a ob q=>(r3 a ob (l1 a ob q)).1) hf
 have yD:=jQ d ho
 have zD:=(r3 D o (l1 D o ho)).2
 have dj:(mL x D o').dj y:=fun a=>by
  by_cases c:a=D
  ·exact .inr (c▸yD)
  ·rw[cG c];exact d a
 refine⟨Z,(mL x D o').un y,⟨mL x D o',y,dj,kL,jd dj,hf',hB⟩,r1,fun a ob q=>(k a fun c=>by rw[c,zD]at q;cases q).trans (r2 a ob q),fun a ob q=>?_⟩
 by_cases c:a=D
 ·subst c
  rw[pV gJ]at q
  cases q
  exact⟨e,zD⟩
 ·have:m a=some ob:=by
   rw[PH.un,cG c]at q
   cases w:x a with
   | some o=>rw[w]at q;exact l1 a ob (w.trans q)
   | none=>rw[w]at q;exact l2 a ob q
  exact⟨(k a c).trans (r3 a ob this).1,(r3 a ob this).2⟩
theorem pa {i j:Nat} {u:Value}:(us.set i u)[j]?=if i=j∧j<us.length then some u else us[j]?:=by
 rw[List.getElem?_set]
 by_cases c:i=j
 ·subst c
  by_cases l:i<us.length
  ·rw[if_pos rfl,if_pos l,if_pos ⟨rfl,l⟩]
  ·rw[if_pos rfl,if_neg l,if_neg fun q=>l q.2,List.getElem?_eq_none (Nat.le_of_not_lt l)]
 ·rw[if_neg c,if_neg fun q=>c q.1]
theorem qo {o:Obj} {f:Str->Option Value} {w:Option Value} (h:wa o f) (e:o.data=.cell w):False:=by
 obtain⟨zz,zz,h3,zz⟩:=h
 cases e.symm.trans h3
theorem xi {i:Nat} {nm:Str} {l:Loc} {v:PV} {u:Value} {x:PH} (hv:X.vars[i]?=some (nm,l)) (hi:i<ρ.length) (H:uO X ρ us x) {C:Prop} {j:Nat} {q:Str×Loc} {w:Value} (hq:X.vars[j]?=some q) (hw:(us.set i u)[j]?=some w) (hj:mH (aK (aS ρ i v) j)=true∨j ∈ X.pins)
  (k1:w=u->q.2=l->C) (k2:q.2≠l->LocAt x q.2 w->C):C:=by
 by_cases c:i=j
 ·have this:i<us.length:=by rw[H.l];exact(List.getElem?_eq_some_iff.mp hv).1
  rw[pa,if_pos ⟨c,c▸this⟩]at hw
  exact k1 (Option.some.inj hw).symm (congrArg snd (Option.some.inj ((c▸hq).symm.trans hv)))
 ·rw[pa,if_neg fun q=>c q.1]at hw
  refine k2 (fun e=>c (X.inj i j nm q.1 l hv (by rw[hq,←e]))) (H.v j _ w hq hw (hj.imp_left fun hj=>?_))
  rw[gE hi,if_neg c]at hj
  exact hj
theorem xj {D:Addr} {y:Str} {u:Value} {o':Obj} {x:PH} {w:Value} (new:∀o f,x D=some o->wa o f->wa o' fun z=>if z=y then some u else f z) (nc:∀c oc w,x c=some oc->oc.data=.cell w->c≠D):∀{l:Loc},l≠.loc D y->LocAt x l w->LocAt (mL x D o') l w
 | .loc D2 y2,c2,h=>by
  obtain⟨o2,f2,h1,h2,h3⟩:=h
  by_cases c:D2=D
  ·subst c
   exact⟨o',_,gJ,new o2 f2 h1 h2,(if_neg fun e=>c2 (by rw[e])).trans h3⟩
  ·exact⟨o2,f2,(cG c).trans h1,h2,h3⟩
 | .cel c,_,⟨o2,h1,h2⟩=>⟨o2,(cG (nc c o2 _ h1 h2)).trans h1,h2⟩
theorem xk {D:Addr} {o':Obj} {x:PH} {w:Value} (nd:∀d o f,x d=some o->wa o f->d≠D):∀{l:Loc},l≠.cel D->LocAt x l w->LocAt (mL x D o') l w
 | .loc _ _,_,⟨o2,f2,h1,h2,h3⟩=>⟨o2,f2,(cG (nd _ o2 f2 h1 h2)).trans h1,h2,h3⟩
 | .cel _,c,⟨o2,h1,h2⟩=>⟨o2,(cG fun e=>c (by rw[e])).trans h1,h2⟩
theorem Dv {i:Nat} {nm:Str} {D:Addr} {y:Str} {v:PV} {u:Value} {o':Obj} (hv:X.vars[i]?=some (nm,.loc D y)) (hi:i<ρ.length) (x:PH) (H:uO X ρ us x)
  (new:∀o f,x D=some o->wa o f->wa o' fun z=>if z=y then some u else f z):(∃o,x D=some o)∧uO X (aS ρ i v) (us.set i u) (mL x D o'):=by
 have dD:=X.dict _ (mem_of_getElem? hv) D y rfl
 obtain⟨o,f,ho,hf⟩:=H.d D dD
 have nc:∀c oc w,x c=some oc->oc.data=.cell w->c≠D:=fun c oc w h1 h2 e=>by
  subst e
  cases ho.symm.trans h1
  exact qo hf h2
 refine⟨⟨o,ho⟩,fun D2 hD=>?_,fun c hc=>?_,fun q hq=>?_,fun j q w hq hw hj=>xi hv hi H hq hw hj (fun e1 e2=>?_) (xj new nc),(length_set ..).trans H.l⟩
 ·by_cases c:D2=D
  ·rw[c];exact⟨o',_,gJ,new _ _ ho hf⟩
  ·rw[cG c];exact H.d D2 hD
 ·obtain⟨oc,w,h1,h2⟩:=H.c c hc
  exact⟨oc,w,(cG (nc c oc w h1 h2)).trans h1,h2⟩
 ·obtain⟨sl,h1⟩:=H.o q hq
  exact⟨sl,(cG fun(e:q.1=D)=>(X.off q hq).1 (by rw[e];exact dD)).trans h1⟩
 ·rw[e1,e2];exact⟨o',_,gJ,new _ _ ho hf,if_pos rfl⟩
theorem Dw {i:Nat} {nm:Str} {D:Addr} {v:PV} {u:Value} {o':Obj} (hv:X.vars[i]?=some (nm,.cel D)) (hi:i<ρ.length) (x:PH) (H:uO X ρ us x)
  (new:o'.data=.cell (some u)):(∃o,x D=some o)∧uO X (aS ρ i v) (us.set i u) (mL x D o'):=by
 have hc':=X.cell _ (mem_of_getElem? hv) D rfl
 obtain⟨o,w0,ho,hd⟩:=H.c D hc'
 have nd:∀d o f,x d=some o->wa o f->d≠D:=fun c oc w h1 h2 e=>by
  subst e
  cases ho.symm.trans h1
  exact qo h2 hd
 refine⟨⟨o,ho⟩,fun D2 hD=>?_,fun c hc=>?_,fun q hq=>?_,fun j q w hq hw hj=>xi hv hi H hq hw hj (fun e1 e2=>?_) (xk nd),(length_set ..).trans H.l⟩
 ·obtain⟨o2,f,h1,h2⟩:=H.d D2 hD
  exact⟨o2,f,(cG (nd D2 o2 f h1 h2)).trans h1,h2⟩
 ·by_cases e:c=D
  ·rw[e];exact⟨o',_,gJ,new⟩
  ·rw[cG e];exact H.c c hc
 ·obtain⟨sl,h1⟩:=H.o q hq
  exact⟨sl,(cG fun(e:q.1=D)=>(X.off q hq).2 (by rw[e];exact hc')).trans h1⟩
 ·rw[e1,e2];exact⟨o',gJ,new⟩
theorem lB {v:PV} {u:Value} {i:Nat} (hi:i<ρ.length):cM (sp (aH G.toWld v u) (aq G.toWld ρ us)) (aq G.toWld (aS ρ i v) (us.set i u)):=by
 refine aj (al ag (kh hi)) ?_
 rintro Z m ⟨x,y,d,l1,l2,a,w,zz,b⟩
 exact o5 (F:=fun q:PV×Value=>aH G.toWld q.1 q.2) (G:=fun q=>aq G.toWld (aS ρ i q.1) (us.set i q.2)) (v,u) Z m ⟨x,y,d,l1,l2,a,iI Z y b⟩
theorem vd {i:Nat} {v:PV} (h:du X.c i v ρ=some ρ'):A3 (i<X.own) (i ∉ X.pins) (ρ'=aS ρ i v):=by
 obtain⟨c,rfl⟩:=br h
 refine cz c fun c1 c2=>?_
 refine⟨le_of_ble_eq_true c1,fun m=>?_,rfl⟩
 rw[show X.c.pins.any (beq i)=true from any_eq_true.mpr ⟨i,m,Nat.beq_refl i⟩]at c2
 exact bp c2
theorem tz (S:St G.b₀ (sp (au X ρ us) R) h):us.length=X.vars.length∧ρ.length=us.length:=by
 obtain⟨zz,zz,⟨zz,zz,zz,zz,zz,⟨zz,zz,zz,zz,zz,f,o⟩,zz⟩,zz⟩:=S
 exact⟨f.l,(bQ o).symm⟩
theorem fH {x:Str} {i:Nat} {v:PV} {u:Value} {s:Shared} {Q:Unit->Shared->Prop} {E:Value->Shared->Prop} {A:Around} (hx:ix x X.c.names=some i) (hb:du X.c i v ρ=some ρ') (S:St G.b₀ (sp (aH G.toWld v u) (sp (au X ρ us) R)) s.heap)
  (k:∀h tk,St G.b₀ (sp (au X ρ' (us.set i u)) R) h->Keep X us (us.set i u)->Q () {s with heap:=h,toks:=tk}):wpAny (model G.prog G.w) A (storeName X.env x u) Q E s:=by
 obtain⟨h1,h2,rfl⟩:=vd hb
 obtain⟨l,hl⟩:=r6 (jR hx)
 have at1:=X.at_ i x l hx hl
 obtain⟨e1,e2⟩:=tz S.snd
 have hi:i<ρ.length:=by rw[e2,e1];exact(List.getElem?_eq_some_iff.mp hl).1
 have kp:Keep X us (us.set i u):=⟨length_set ..,fun j hj=>by
  rw[pa,if_neg]
  rintro⟨rfl,zz⟩
  exact hj.elim (fun q=>absurd h1 (Nat.not_lt_of_le q)) h2⟩
 have S1:=S.imp (aj (al ag bM) aC)
 have dY:∀{h' tk},St G.b₀ (sp (wP X (aS ρ i v) (us.set i u)) (sp (aH G.toWld v u) (sp (aq G.toWld ρ us) R))) h'->Q () {s with heap:=h',toks:=tk}:=fun S'=>k _ _ (S'.imp (aj (al ag (aj a8 (al (lB hi) ag))) a8)) kp
 cases l with
 | loc D y=>
  obtain⟨rfl,rfl,hk⟩:=at1
  obtain⟨m,hn⟩:∃m,s.heap.Ns X.env.locals m:=by
   obtain⟨zz,zz,⟨zz,zz,zz,l1,zz,f,zz⟩,zz,zz,r3⟩:=S1
   obtain⟨o,f,ho,es,ep,r⟩:=f.d _ (X.dict _ (mem_of_getElem? hl) _ _ rfl)
   exact⟨f,o,es,ep,(r3 _ _ (l1 _ _ ho)).1,r⟩
  refine wpAny_storeName_local hk hn (fun h' hn' hs=>?_) (by rw[X.kind];rfl)
  obtain⟨o',es',ep',ho',hd',hk',hf'⟩:=hn'
  refine dY (xh S1 hs.2 ho' fun x lx H=>Dv hl hi x H fun o f ho hf=>⟨es',ep',hd',hk',fun z=>(hf' z).trans ?_⟩)
  obtain⟨o2,es,ep,ho2,hd2,zz,hf2⟩:=hn
  obtain⟨es3,ep3,hd3,zz,hf3⟩:=hf
  cases (lx _ _ ho).symm.trans ho2
  cases hd2.symm.trans hd3
  show(if z=y then some u else m z)=if z=y then some u else f z
  rw[←hf2 z,←hf3 z]
 | cel c=>
  have hk:=X.st i x c h1 hl
  obtain⟨hc,zz⟩:=at1
  obtain⟨w,ho⟩:∃w,s.heap.IsCell c w:=by
   obtain⟨zz,zz,⟨zz,zz,zz,l1,zz,f,zz⟩,zz,zz,r3⟩:=S1
   obtain⟨o,w,ho,r⟩:=f.c _ (X.cell _ (mem_of_getElem? hl) _ rfl)
   exact⟨w,o,(r3 _ _ (l1 _ _ ho)).1,r⟩
  refine wpAny_storeName_cell X.kind hk hc ho fun h' hn' hs=>?_
  obtain⟨o',ho',hd'⟩:=hn'
  exact dY (tk:=s.toks) (xh S1 hs.2 ho' fun x zz H=>Dw hl hi x H hd')
end
def z7 (env:PySem.Env) (f:Value->Sem Unit) (x:Str):Prop:=∀(M:Model) (A:Around) (E:Value->Shared->Prop) (s:Shared) (v:Value) (Q:Unit->Shared->Prop),wpAny M A (storeName env x v) Q E s->wpAny M A (f v) Q E s
def ij (env:PySem.Env):List (Value->Sem Unit)->List Str->Prop
 | [],[]=>True
 | f::r,x::q=>z7 env f x∧ij env r q
 | _,_=>False
theorem fJ {env:PySem.Env}:∀{es:List Expr} {xs:List Str},dX es=some xs->A3 (ij env ((assignEach es env).map (·.2)) xs) ((assignEach es env).length=xs.length) ((assignEach es env).findIdx? (·.1)=none)
 | [],_,h=>by cases h;exact⟨trivial,rfl,rfl⟩
 | e::es,xs,h=>by
  refine aJ h fun x hx h=>?_
  refine bY h fun q hq e_2=>?_
  subst e_2
  obtain⟨p,rfl⟩:=bX hx
  obtain⟨h1,h2,h3⟩:=fJ (env:=env) hq
  refine⟨⟨fun M A E s v Q h=>wpAny_assign_Name h,h1⟩,congrArg Nat.succ h2,?_⟩
  show List.findIdx? (·.1) ((false,_)::assignEach es env)=none
  rw[List.findIdx?_cons,h3]
  rfl
section
variable {G:bB} {X:Amb G} {r:Ev} {R:a7} {s:Shared} {E:Value->Shared->Prop} {ρ ρ':Env} {us:List Value}
theorem qp {x:Str} {v:PV} {u:Value} {Q:Unit->Shared->Prop} (hb:gY X.c x v ρ=some ρ') (S:St G.b₀ (sp (aH G.toWld v u) (sp (au X ρ us) R)) s.heap)
  (k:∀us' h tk,Keep X us us'->St G.b₀ (sp (au X ρ' us') R) h->Q () {s with heap:=h,toks:=tk}):wpAny (model G.prog G.w) X.A (storeName X.env x u) Q E s:=by
 refine aJ hb fun i hi hb=>?_
 exact fH hi hb S fun h tk S' kp=>k _ h tk kp S'
theorem iN {Q:Unit->Shared->Prop}:∀{fs:List (Value->Sem Unit)} {xs:List Str} {l:List PV} {vs:List Value} {s:Shared} {ρ:Env} {us:List Value},ij X.env fs xs->b7 X.c xs l ρ=some ρ'->St G.b₀ (sp (aq G.toWld l vs) (sp (au X ρ us) R)) s.heap ->
  (∀us' h tk,Keep X us us'->St G.b₀ (sp (au X ρ' us') R) h->Q () {s with heap:=h,toks:=tk})->wpAny (model G.prog G.w) X.A (assignInOrder fs vs) Q E s
 | [],[],[],vs,s,_,us,_,hb,S,k=>by cases hb;exact wpAny_pure (k us s.heap s.toks (.refl us) S.snd)
 | f::fs,x::xs,q::l,vs,s,ρ,us,st,hb,S,k=>by
  obtain⟨ρ₁,hb,hbs⟩:=bind_eq_some_iff.mp hb
  obtain⟨u,r,rfl,S1⟩:=tx S
  refine wpAny_bind (wpAny_holding (st.1 _ _ _ _ _ _ (qp (s:=s) hb (S1.imp (al ag aC)) fun us₁ h₁ tk₁ k₁ S₁=>?_)))
  exact iN (s:={s with heap:=h₁,toks:=tk₁}) st.2 hbs (S₁.imp aC) fun us' h tk kp S'=>k us' h tk (k₁.trans kp) S'
 | [],[],_::_,_,_,_,_,_,hb,_,_=>nomatch hb
 | _::_,_::_,[],_,_,_,_,_,hb,_,_=>nomatch hb
 | [],_::_,_,_,_,_,_,st,_,_,_=>st.elim
 | _::_,[],_,_,_,_,_,st,_,_,_=>st.elim
set_option tactic.hygienic true in
theorem lC {tgt:Expr} {v:PV} {u:Value} {Q:Unit->Shared->Prop} (hb:cq X.c tgt v ρ=some ρ') (S:St G.b₀ (sp (aH G.toWld v u) (sp (au X ρ us) R)) s.heap)
  (k:∀us' h tk,Keep X us us'->St G.b₀ (sp (au X ρ' us') R) h->Q () {s with heap:=h,toks:=tk}):wpAny (model G.prog G.w) X.A (assign tgt X.env u) Q E s:=by
 rcases tgt with _|_<;>first|exact no hb|exact bp hb|(cases hb;done)|skip
 ·rename_i x p
  exact wpAny_assign_Name (qp hb S k)
 ·rename_i es j p
  refine aJ hb fun xs hx hb=>?_
  refine aJ hb fun l hl hb=>?_
  cases kU hl
  obtain⟨ad,vs,kk,rfl,ha,hsz,zz,zz,S1⟩:=S.tup
  obtain⟨h1,h2,h3⟩:=fJ (env:=X.env) hx
  have hlen:∀{xs:List Str} {l:List PV} {ρ ρ':Env},b7 X.c xs l ρ=some ρ'->xs.length=l.length:=by
   intro xs
   induction xs with
   | nil=>intro l _ _ h;rcases l with _|_<;>first|rfl|exact no h
   | cons x xs ih=>
    intro l zz zz h
    rcases l with _|⟨q,l⟩
    ·exact no h
    ·obtain⟨zz,zz,h⟩:=bind_eq_some_iff.mp h;exact congrArg Nat.succ (ih h)
  refine wpAny_assign_Tuple X.hd ⟨_,ha,rfl,kk,rfl⟩ (by rw[h2,hsz,hlen hb]) h3 fun h' hx=>?_
  exact iN (s:={s with heap:=h'}) h1 hb (S1.up fun b o q=>hx b o (fun e=>by rw[e]at q;exact absurd (Heap.lt_size q) (lt_irrefl _)) q) k
end
section
variable {G:bB} {A:Around} {R:a7} {s:Shared} {Q E:Value->Shared->Prop} {tgt:Expr} {l m:List PV} {vs:List Value}
theorem nw {h h':Heap} {own:List Addr} {P:Heap->Prop} {C B:a7} (S:St G.b₀ (sp C B) h) (k:∀a o,h.get? a=some o->h'.get? a=some o) (f:∀a ∈ own,h.get? a=none) (e:∀a ∈ own,∃o,h'.get? a=some o) (p:∀g:Heap,(∀a ∈ own,g.get? a=h'.get? a)->P g):St G.b₀ (sp (sp (hp own P) C) B) h':=(S.hpNew k f e p).imp a8
theorem KM {h:Heap} {o:Obj} {P:Heap->Prop} {C B:a7} (hf:o.isFreed=false) (S:St G.b₀ (sp C B) h) (p:∀g:Heap,g.get? h.objs.size=some o->P g):St G.b₀ (sp (sp (hp [h.objs.size] P) C) B) (h.push o):=
 nw S (fun zz zz e=>Heap.get?_push_of_some _ e) (fun a ha=>by cases mem_singleton.mp ha;exact bG _) (jm (Heap.get?_push_size _ hf)) fun g hg=>p g ((hg _ (mem_singleton.mpr rfl)).trans (Heap.get?_push_size _ hf))
theorem z8 (ht:mX tgt=true) (hm:oU .enum l=some m) (S₁:St G.b₀ (sp (aq G.toWld l vs) R) s.heap) (k:∀I F D h k,u9 G tgt I m F D->St G.b₀ (sp (F 0) R) h->Q I {s with heap:=h,toks:=k}):
  wpAny (model G.prog G.w) A (call BI.enum.val vs) (fun xv s₁=>wpAny (model G.prog G.w) A (pyIter xv) Q E s₁) E s:=by
 refine aJ ((show(one l).bind _=some m from hm)) fun a ha hm=>bY hm fun y hy e_2=>?_
 subst e_2
 cases ck ha
 obtain⟨u,rfl,S₂⟩:=qg S₁
 obtain⟨ad,ws,kk,rfl,hsz,zz,hs,S₃⟩:=S₂.litz hy
 refine call_enumerate_list ⟨_,S₃.zaAt,rfl,kk,rfl⟩ fun h' he hit zz hk=>wpAny_pyIter_enum (s:={s with heap:=h'}) he ?_
 obtain⟨o,ho,zz⟩:=id hit
 refine k _ _ _ _ s.toks (xg ht (Nat.succ_ne_self _) hsz hs) (nw (S₃.imp a8) hk (fun a ha=>?_) (fun a ha=>?_) fun g hg=>⟨⟨_,(hg _ mem_cons_self).trans he⟩,hit.at fun o x=>(hg _ (mem_cons_of_mem _ mem_cons_self)).trans x⟩)
 ·rcases mem_cons.mp ha with rfl|ha
  ·exact cE (le_succ _)
  ·cases mem_singleton.mp ha;exact bG _
 ·rcases mem_cons.mp ha with rfl|ha
  ·exact⟨_,he⟩
  ·cases mem_singleton.mp ha;exact⟨_,ho⟩
theorem Dx (ht:mX tgt=true) (hm:oU .zip l=some m) (S₁:St G.b₀ (sp (aq G.toWld l vs) R) s.heap) (k:∀I F D h k,u9 G tgt I m F D->St G.b₀ (sp (F 0) R) h->Q I {s with heap:=h,toks:=k}):
  wpAny (model G.prog G.w) A (call BI.zip.val vs) (fun xv s₁=>wpAny (model G.prog G.w) A (pyIter xv) Q E s₁) E s:=by
 refine aJ ((show(two l).bind _=some m from hm)) fun q ha hm=>aJ hm fun y hy hm=>bY hm fun z hz e_2=>?_
 subst e_2
 cases kn ha
 obtain⟨u,w,rfl,S₂⟩:=Dr S₁
 obtain⟨ad,ws,kk,rfl,hsz,zz,hs,S₃⟩:=S₂.litz hy
 obtain⟨ad',ws',kk',rfl,hsz',zz,hs',S₄⟩:=St.litz (R:=sp (sp (za ad (aX ws kk)) (aq G.toWld y ws.toList)) R) hz (S₃.imp (aj a8 (aj aC ag)))
 have S₅:=S₄.imp (aj a8 (aj aC a8))
 have g1:=(show St G.b₀ (sp (za ad (aX ws kk)) (aq G.toWld y ws.toList)) s.heap from S₅.fst.fst).zaAt
 have g2:=S₄.zaAt
 refine call_zip_2 ⟨_,g1,rfl,kk,rfl⟩ ⟨_,g2,rfl,kk',rfl⟩ fun h' hzz hTI hTO hi1 hi2 zz hk=>wpAny_pyIter_zip (s:={s with heap:=h'}) hzz ?_
 have n:∀{d:Addr} {o:Obj},s.heap.get? d=some o->∀c,d≠s.heap.objs.size+c:=fun g c q=>by rw[q,cE (le_add_right _ _)]at g;exact no g
 have D:ZipApart (s.heap.objs.size+4) (s.heap.objs.size+2) (s.heap.objs.size+3) s.heap.objs.size (s.heap.objs.size+1) ad ad':=by
  constructor<;>first|exact n g1 _|exact n g2 _|exact n g1 0|exact n g2 0|(intro q;have q':(_:Nat)=_:=q;lia)
 obtain⟨o1,ho1,zz⟩:=id hi1
 obtain⟨o2,ho2,zz⟩:=id hi2
 refine k _ _ _ _ s.toks (z6 ht D hsz hs hsz' hs') (nw S₅ hk (fun a ha=>Ih (φ:=fun a=>s.heap.get? a=none) ha (cE (le_add_right _ _)) (cE (le_add_right _ _)) (cE (le_add_right _ _)) (bG _) (cE (le_add_right _ _))) (fun a ha=>Ih (φ:=fun a=>∃o,h'.get? a=some o) ha ⟨_,hzz⟩ ⟨_,hTI⟩ ⟨_,hTO⟩ ⟨_,ho1⟩ ⟨_,ho2⟩) fun g hg=>
  ⟨(hg _ (by simp)).trans hzz,(hg _ (by simp)).trans hTI,⟨_,_,(hg _ (by simp)).trans hTO⟩,hi1.at fun o x=>(hg _ (by simp)).trans x,hi2.at fun o x=>(hg _ (by simp)).trans x⟩)
theorem xl {X:Amb G} (ht:hH tgt=true) (hm:oU .range l=some m) (S₁:St G.b₀ (sp (aq G.toWld l vs) R) s.heap) (k:∀I F D h k,u9 G tgt I m F D->St G.b₀ (sp (F 0) R) h->Q I {s with heap:=h,toks:=k}):
  wpAny (model G.prog G.w) X.A (call BI.range.val vs) (fun xv s₁=>wpAny (model G.prog G.w) X.A (pyIter xv) Q E s₁) E s:=by
 refine lp hm S₁ fun a b c t u v tk n em hn hsm hsz=>?_
 subst em
 refine wpAny_pyIter_range (s:={s with heap:=s.heap.push (o8 a b c t u v),toks:=tk}) (IsRange.new ..) hsm ?_
 rw[hsz]
 refine k _ _ _ _ tk (vc ht) (((S₁.snd.up fun zz zz e=>Heap.get?_push_of_some _ e).hpNew (fun zz zz e=>Heap.get?_push_of_some _ e) (fun a ha=>by cases mem_singleton.mp ha;exact bG _) (jm (Heap.get?_push_size _ rfl)) fun g hg=>?_))
 refine((hg _ (mem_singleton.mpr rfl)).trans (Heap.get?_push_size _ rfl)).trans ?_
 rw[Int.natCast_zero,zero_mul,Int.add_zero,Int.sub_zero]
end
section
variable {G:bB} {X:Amb G} {r:Ev} {R:a7} {s:Shared} {E:Value->Shared->Prop} {ρ ρ':Env} {us:List Value}
theorem xm (O:GlobOk G) (H:∀e,SE X (eval e X.env) (r.e X.c e)) {tgt it:Expr} {P:List PV->Env->Prop} {Q:Value->Shared->Prop} (h:wD G.T r X.c tgt it ρ P) (S:St G.b₀ (sp (au X ρ us) R) s.heap)
  (k:∀l ρ' I F D h k,u9 G tgt I l F D->P l ρ'->St G.b₀ (sp (F 0) (sp (au X ρ' us) R)) h->Q I {s with heap:=h,toks:=k}):wpAny (model G.prog G.w) X.A (eval it X.env) (fun xv s₁=>wpAny (model G.prog G.w) X.A (pyIter xv) Q E s₁) E s:=by
 refine bH h fun ht h=>?_
 refine FK h (fun hr h7=>?_) fun q hr h7=>?_
 ·clear h
  refine bH h7 fun zz h7=>H it s ρ us _ R _ E h7 S fun v ρ₁ u h₁ k₁ ov hv S₁=>eQ hv fun l hl hv=>?_
  obtain⟨ad,vs,kk,rfl,hsz,hc,hs,S₂|S₂⟩:=S₁.seqz hl
  ·exact wpAny_pyIter_tuple (s:={s with heap:=h₁,toks:=k₁}) ⟨_,S₂.zaAt,rfl,kk,rfl⟩ (k l ρ₁ _ _ _ _ k₁ (va ht hsz hs) hv (KM rfl (S₂.imp a8) fun g hg=>⟨_,hg,rfl,rfl⟩))
  ·exact wpAny_pyIter_list (s:={s with heap:=h₁,toks:=k₁}) ⟨_,S₂.zaAt,rfl,kk,rfl⟩ (k l ρ₁ _ _ _ _ k₁ (qm St.zaAt ht hsz hs) hv (KM rfl (S₂.imp a8) fun g hg=>⟨_,hg,rfl,rfl⟩))
 ·clear h
  obtain⟨hb,hq⟩:=jU hr
  obtain⟨x,np,pos,rfl,hg⟩:=d3 hb
  refine bH h7 fun c h7=>?_
  obtain⟨b,as⟩:=q
  refine o9 O H hg h7 S fun l ρ₁ vs h₁ k₁ zz ol hl S₁=>eQ hl fun m hm hP=>?_
  have kk:∀I F D h7 k,u9 G tgt I m F D->St G.b₀ (sp (F 0) (sp (au X ρ₁ us) R)) h7->Q I {s with heap:=h7,toks:=k}:=fun I F D h7 k' i S=>k m ρ₁ I F D h7 k' i hP S
  rcases hq with hq|hq|hq<;>cases hq
  ·exact xl (s:={s with heap:=h₁,toks:=k₁}) ht hm S₁ kk
  ·exact z8 (s:={s with heap:=h₁,toks:=k₁}) ((or_eq_true_iff.mp c).resolve_right fun h7=>nomatch h7) hm S₁ kk
  ·exact Dx (s:={s with heap:=h₁,toks:=k₁}) ((or_eq_true_iff.mp c).resolve_right fun h7=>nomatch h7) hm S₁ kk
end
noncomputable def FU:Fl->PV
 | .ret v=>v
 | .exc=>.exc
 | _=>.LZ
def FV (Q:Flow->Shared->Prop) (E:Value->Shared->Prop) (fl:Fl) (u:Value):Shared->Prop:=match fl with
 | .nxt=>Q .next
 | .brk=>Q .brk
 | .cnt=>Q .cont
 | .exc=>E u
 | .ret _=>Q (.ret u)
def SX {G:bB} (X:Amb G) (t:Sem Flow) (f:M Fl):Prop:=
 ∀(s:Shared) (ρ:Env) (us:List Value) (P:Fl->Env->Prop) (R:a7) (Q:Flow->Shared->Prop) (E:Value->Shared->Prop),f ρ P->St G.b₀ (sp (au X ρ us) R) s.heap ->
  (∀fl ρ' us' u h k,P fl ρ'->Keep X us us'->St G.b₀ (sp (aH G.toWld (FU fl) u) (sp (au X ρ' us') R)) h->FV Q E fl u {s with heap:=h,toks:=k})->wpAny (model G.prog G.w) X.A t Q E s
section
variable {G:bB} {X:Amb G} {r:Ev}
theorem St.no {b₀ h:Heap} {R:a7} {u:Value} {G:Wld} (S:St b₀ R h):St b₀ (sp (aH G .LZ u) R) h:=S.put fun zz zz=>trivial
theorem gp {S:Stmt->M Fl} (H:∀st,SX X (exec st X.env) (S st)):∀b,SX X (execs b X.env) (aV S b)
 | [],s,ρ,us,P,R,Q,E,h,T,k=>wpAny_execs_nil (k .nxt ρ us .none s.heap s.toks h (.refl us) T.no)
 | st::b,s,ρ,us,P,R,Q,E,h,T,k=>by
  refine wpAny_execs_cons (H st s ρ us _ R _ E h T fun fl ρ₁ us₁ u h₁ k₁ hp kp T₁=>?_)
  cases fl with
  | nxt=>exact gp H b {s with heap:=h₁,toks:=k₁} ρ₁ us₁ P R Q E hp T₁.snd fun fl ρ₂ us₂ w h₂ k₂ hp₂ kp₂ T₂=>k fl ρ₂ us₂ w h₂ k₂ hp₂ (kp.trans kp₂) T₂
  | _=>exact k _ ρ₁ us₁ u h₁ k₁ hp kp T₁
theorem z9 {pos:Pos}:SX X (exec (.Pass pos) X.env) fun ρ P=>P .nxt ρ:=fun s ρ us P R Q E h T k=>wpAny_Pass (k .nxt ρ us .none s.heap s.toks h (.refl us) T.no)
theorem Dy {pos:Pos}:SX X (exec (.Break pos) X.env) fun ρ P=>P .brk ρ:=fun s ρ us P R Q E h T k=>wpAny_Break (k .brk ρ us .none s.heap s.toks h (.refl us) T.no)
theorem Dz {pos:Pos}:SX X (exec (.Continue pos) X.env) fun ρ P=>P .cnt ρ:=fun s ρ us P R Q E h T k=>wpAny_Continue (k .cnt ρ us .none s.heap s.toks h (.refl us) T.no)
theorem Aa {pos:Pos}:SX X (exec (.Return none pos) X.env) fun ρ P=>P (.ret .none) ρ:=fun s ρ us P R Q E h T k=>wpAny_Return_none (k (.ret .none) ρ us .none s.heap s.toks h (.refl us) (T.put fun zz zz=>rfl))
theorem DA (H:∀e,SE X (eval e X.env) (r.e X.c e)) {e:Expr} {pos:Pos}:SX X (exec (.Return (some e) pos) X.env) fun ρ P=>r.e X.c e ρ fun v ρ=>P (.ret v) ρ:=fun s ρ us P R Q E h T k=>
 wpAny_Return_some (H e s ρ us _ R _ E h T fun v ρ₁ u h₁ k₁ zz hp T₁=>k (.ret v) ρ₁ us u h₁ k₁ hp (.refl us) T₁)
theorem FW (H:∀e,ST X (isTrue e X.env (eval e X.env)) (r.t X.c e)) {f g:M Fl} {t:Expr} {a b:List Stmt} {pos:Pos} (Ha:SX X (execs a X.env) f) (Hb:SX X (execs b X.env) g):SX X (exec (.If t a b pos) X.env) fun ρ P=>r.t X.c t ρ fun q ρ=>if q then f ρ P else g ρ P:=fun s ρ us P R Q E h T k=>
 wpAny_If (H t s ρ us _ R _ E h T fun q ρ₁ h₁ k₁ hq T₁=>by
  cases q
  ·exact Hb {s with heap:=h₁,toks:=k₁} ρ₁ us P R Q E hq T₁ k
  ·exact Ha {s with heap:=h₁,toks:=k₁} ρ₁ us P R Q E hq T₁ k)
theorem DB (H:∀e,ST X (isTrue e X.env (eval e X.env)) (r.t X.c e)) {f:M Fl} {t:Expr} {b:List Stmt} {pos:Pos} (Hb:SX X (execs b X.env) f) (N:Nat):SX X (exec (.While t b [] pos) X.env) (gZ (r.t X.c t) f N):=fun s ρ us P R Q E h T k=>by
 refine wpAny_While (codeAny_whileLoop (fun j s'=>E4 fun ρ₁ us₁ h₁ k₁=>A4 (s'={s with heap:=h₁,toks:=k₁}) (Keep X us us₁) (St G.b₀ (sp (au X ρ₁ us₁) R) h₁) (gZ (r.t X.c t) f j ρ₁ P)) ?_ N ⟨ρ,us,s.heap,s.toks,rfl,.refl us,T,h⟩)
 rintro j zz ⟨ρ₁,us₁,h₁,k₁,rfl,kp,T₁,e⟩
 rcases j with _|j
 ·exact e.elim
 ·refine H t {s with heap:=h₁,toks:=k₁} ρ₁ us₁ _ R _ _ e T₁ fun q ρ₂ h₂ k₂ hq T₂=>?_
  rcases q with _|_
  ·exact wpAny_execs_nil (k .nxt ρ₂ us₁ .none h₂ k₂ hq kp T₂.no)
  ·refine Hb {s with heap:=h₂,toks:=k₂} ρ₂ us₁ _ R _ _ hq T₂ fun fl ρ₃ us₃ u h₃ k₃ hp kp₃ T₃=>?_
   rcases fl with _|_|_|_|v
   ·exact⟨j,lt_succ_self j,ρ₃,us₃,h₃,k₃,rfl,kp.trans kp₃,T₃.snd,hp⟩
   ·exact k .nxt ρ₃ us₃ u h₃ k₃ hp (kp.trans kp₃) T₃
   ·exact⟨j,lt_succ_self j,ρ₃,us₃,h₃,k₃,rfl,kp.trans kp₃,T₃.snd,hp⟩
   ·exact hp.elim
   ·exact k (.ret v) ρ₃ us₃ u h₃ k₃ hp (kp.trans kp₃) T₃
end
theorem nq {v:PV} (h:eP v=true):v=.exc:=by
 rcases v with _|_<;>first|rfl|exact bp h
theorem qq {v:Expr} {tg:Option Expr} {line:Nat} {env:PySem.Env} (h:ic v=false):swapsWith v tg line env=pure false:=by
 rcases v with _|_<;>first|(cases h;done)|rfl
section
variable {G:bB} {X:Amb G} {r:Ev} {f:M PV}
theorem Ab {x:Str} {i:Nat} {s:Shared} {ρ:Env} {us:List Value} {R:a7} {P:Fl->Env->Prop} {v:PV} {u:Value} {Q:Flow->Shared->Prop} {E:Value->Shared->Prop} (hx:ix x X.c.names=some i) (hp:bK (bS v) (aP (du X.c i v ρ) fun ρ=>P .nxt ρ)) (S:St G.b₀ (sp (aH G.toWld v u) (sp (au X ρ us) R)) s.heap)
  (k:∀fl ρ' us' u h k,P fl ρ'->Keep X us us'->St G.b₀ (sp (aH G.toWld (FU fl) u) (sp (au X ρ' us') R)) h->FV Q E fl u {s with heap:=h,toks:=k}):wpAny (model G.prog G.w) X.A (storeName X.env x u) (fun zz=>Q .next) E s:=by
 refine bH hp fun zz hp=>?_
 obtain⟨ρ',hb,hp⟩:=aY hp
 exact fH hx hb S fun h tk S' kp=>k .nxt ρ' _ .none h tk hp kp S'.no
theorem xn {x:Str} {i:Nat} {e:Expr} {p pos:Pos} (H:CE X (eval e X.env) f) (hs:swapsWith e (some (.Name x p)) pos.line X.env=pure false) (hx:ix x X.c.names=some i):
  SX X (exec (.Assign [.Name x p] e pos) X.env) fun ρ P=>f ρ fun v ρ=>if eP v then P .exc ρ else bK (bS v) (aP (du X.c i v ρ) fun ρ=>P .nxt ρ):=by
 intro s ρ us P R Q E h S k
 refine wpAny_Assign_Name (H s ρ us _ R _ E h S fun v ρ₁ u h₁ k₁ hp S₁=>?_) hs
 by_cases c:eP v=true
 ·cases nq c
  exact k .exc ρ₁ us u h₁ k₁ hp (.refl us) S₁
 ·have hp:bK (bS v) (aP (du X.c i v ρ₁) fun ρ=>P .nxt ρ):=by rw[if_neg c]at hp;exact hp
  rw[fF (bL hp).1]
  exact Ab (s:={s with heap:=h₁,toks:=k₁}) hx hp S₁ k
end
section
variable {G:bB} {X:Amb G} {r:Ev} {R:a7} {s:Shared} {E:Value->Shared->Prop} {us:List Value} {ρ ρ':Env} {l x:List PV} {v:PV} {u w:Value} {p:f8}
theorem xo {a:Addr} {vs:Array Value} {k:Nat} {h:Heap} (hl:cA (l++x)=true) (ho:(l++x).all bS=true) (hp:mC p (.lst (l++x)) ρ=some ρ') (S:St G.b₀ (sp (pt a (aX vs k)) (sp (aq G.toWld (l++x) vs.toList) (sp (foc X p ρ us (.lst l) (.ref a)) R))) h):St G.b₀ (sp (au X ρ' us) R) h:=by
 have hl:(l++x).length<1000000:=le_of_ble_eq_true hl
 exact S.imp (aj (gI (by simp only[gf];exact(ba 0x10000062001f4240520027) hl) ho) (aj a8 (al (cP (.inr hp)) ag)))
theorem tA {Q:Value->Shared->Prop} (ov:bS v=true) (hl:cA (l++[v])=true) (S:St G.b₀ (sp (aH G.toWld v w) (sp (aH G.toWld (.lst l) u) R)) s.heap)
  (k:∀h tk,St G.b₀ (sp (aH G.toWld (.lst (l++[v])) u) R) h->Q .none {s with heap:=h,toks:=tk}):wpAny (model G.prog G.w) X.A (call (.builtin "list.append") [u,w]) Q E s:=by
 obtain⟨a,vs,c,rfl,ha,hsz,hc,ho,S1⟩:=(S.imp aC).opn
 have hlim:(l++[v]).length<1000000:=le_of_ble_eq_true hl
 have hlim2:=hlim
 rw[length_append,List.length_singleton]at hlim2
 refine wpAny_list_append_plain ⟨c,ha⟩ (fun h' hpl hsb=>?_) (by rw[hsz];simp only[sizeLine];exact(ba 0x100000072001f4240521100427) hlim2)
 obtain⟨c',hc'⟩:=hpl
 refine k h' _ (((S1.upd hsb.2 hc').imp (al ag (aj a8 (al (C:=aq G.toWld (l++[v]) (vs.push w).toList) ?_ ag)))).imp (gI (by simp only[gf];exact(ba 0x10000062001f4240520027) hlim) (tr ho (List.all_cons.trans (by rw[ov];rfl)))))
 rw[Array.toList_push]
 exact aj (al ag dw) cB
theorem vg {Q:Value->Shared->Prop} (ov:bS v=true) (hl:cA (l++[v])=true) (hp:mC p (.lst (l++[v])) ρ=some ρ') (S:St G.b₀ (sp (aH G.toWld v w) (sp (aH G.toWld (.lst l) u) (sp (foc X p ρ us (.lst l) u) R))) s.heap)
  (k:∀h tk,St G.b₀ (sp (au X ρ' us) R) h->Q .none {s with heap:=h,toks:=tk}):wpAny (model G.prog G.w) X.A (call (.builtin "list.append") [u,w]) Q E s:=
 tA ov hl S fun h tk S'=>k h tk (S'.imp (aj a8 (al (cP (.inr hp)) ag)))
theorem vh {Q:Value->Shared->Prop} (hx:items v=some x) (hl:cA (l++x)=true) (hp:mC p (.lst (l++x)) ρ=some ρ') (S:St G.b₀ (sp (aH G.toWld v w) (sp (aH G.toWld (.lst l) u) (sp (foc X p ρ us (.lst l) u) R))) s.heap)
  (k:∀h tk,St G.b₀ (sp (au X ρ' us) R) h->Q .none {s with heap:=h,toks:=tk}):wpAny (model G.prog G.w) X.A (call (.builtin "list.extend") [u,w]) Q E s:=by
 have hlim:(l++x).length<1000000:=le_of_ble_eq_true hl
 rw[length_append]at hlim
 obtain⟨ad,ws,kk,rfl,zsz,zz,os,T⟩:=S.seqz hx
 have dY:∀{o:Obj},St G.b₀ (sp (za ad o) (sp (aq G.toWld x ws.toList) (sp (aH G.toWld (.lst l) u) (sp (foc X p ρ us (.lst l) u) R)))) s.heap->E3 fun a vs c=>A4 (u=.ref a) (s.heap.get? a=some (aX vs c)) (vs.size=l.length) (Q .none {s with heap:=s.heap.update a (Obj.mapSeq fun x=>x++ws),toks:=s.toks}):=fun T=>by
  obtain⟨a,vs,c,rfl,ha,hsz,hc,ho,S1⟩:=(T.snd.imp aC).opn
  have hn:=PySem.IsL.update (h:=s.heap) (l:=a) (items:=vs) (n:=c) ha (fun x=>x++ws)
  refine⟨a,vs,c,rfl,ha,hsz,k _ _ (xo (vs:=vs++ws) hl (tr ho (eR os)) hp ((S1.upd (fun b hb=>Heap.get?_update_other _ _ (Ne.symm hb)) hn).imp (al ag (aj a8 (al ?_ ag)))))⟩
  rw[toList_append]
  exact cB
 rcases T with T|T
 ·obtain⟨a,vs,c,rfl,ha,hsz,q⟩:=dY T
  have door:¬(!vs.isEmpty&&Builtin.List.listTooLong (vs.size+ws.size))=true:=extend_door (by simp only[sizeLine];exact(b6 0x100000072203041003037102037f4240521000427) hlim zsz hsz)
  exact call_meets PySem.F.slot_list_extend ⟨_,ha,rfl⟩ PySem.F.entry_list_extend (PySem.F.args_list_extend_2 _ _) (AutoSeq1.list_extend_list_tuple_0 a vs c ad ws kk door (by simp only[sizeLine];exact(aQ 0x100000072201002037f4240521000427) hlim hsz) (by simp only[sizeLine];exact(b6 0x111000000724203041003037102037f4240521000427) hlim zsz hsz)) ⟨ha,T.zaAt,q⟩
 ·obtain⟨a,vs,c,rfl,ha,hsz,q⟩:=dY T
  have door:¬(!vs.isEmpty&&Builtin.List.listTooLong (vs.size+ws.size))=true:=extend_door (by simp only[sizeLine];exact(b6 0x100000072203041003037102037f4240521000427) hlim zsz hsz)
  exact call_meets PySem.F.slot_list_extend ⟨_,ha,rfl⟩ PySem.F.entry_list_extend (PySem.F.args_list_extend_2 _ _) (AutoSeq1.list_extend_list_list_0 a vs c ad ws kk door (by simp only[sizeLine];exact(aQ 0x100000072201002037f4240521000427) hlim hsz) (by simp only[sizeLine];exact(b6 0x111000000724203041003037102037f4240521000427) hlim zsz hsz)) ⟨ha,T.zaAt,q⟩
theorem tB (H:∀e,SE X (eval e X.env) (r.e X.c e)) {isE:Bool} {a:Expr} {q:f8×List PV} {P:Fl->Env->Prop} {C:Value->Shared->Prop} (h:if q.1.2.isEmpty then r.e X.c a ρ fun v ρ=>aP (s9 (aK ρ q.1.1)) fun l=>aP (if isE then items v else some [v]) fun x=>bK (cA (l++x)) (P .nxt (aS ρ q.1.1 (.lst (l++x))))
   else bK (!isE) (aP (zH X.c 8 a ρ) fun v=>bK (cA (q.2++[v])) (aP (mC q.1 (.lst (q.2++[v])) ρ) fun ρ=>P .nxt ρ)))
  (S:St G.b₀ (sp (aH G.toWld (.lst q.2) u) (sp (foc X q.1 ρ us (.lst q.2) u) R)) s.heap) (hu:q.1.2=[]->us[q.1.1]?=some u)
  (k:∀v w ρ₁ l x ρ' h tk,bS v=true->(if isE then items v else some [v])=some x->cA (l++x)=true->mC q.1 (.lst (l++x)) ρ₁=some ρ'->P .nxt ρ'->St G.b₀ (sp (aH G.toWld v w) (sp (aH G.toWld (.lst l) u) (sp (foc X q.1 ρ₁ us (.lst l) u) R))) h->C w {s with heap:=h,toks:=tk}):
  wpAny (model G.prog G.w) X.A (eval a X.env) C E s:=by
 obtain⟨⟨i,pth⟩,l⟩:=q
 rcases pth with _|⟨p0,pth⟩
 ·refine H a s ρ us _ R _ E h (S.imp dh) fun v ρ₁ w h₁ k₁ ov hv S₁=>?_
  refine eQ hv fun l₁ hl hv=>?_
  refine eQ hv fun x hx hv=>?_
  refine bH hv fun hL hv=>?_
  have hl:aK ρ₁ i=.lst l₁:=na hl
  have hq:oJ (i,[]) ρ₁=some (.lst l₁):=by
   show iG (aK ρ₁ i)=_
   rw[hl]
   rfl
  obtain⟨u',S₂,hu'⟩:=(S₁.imp aC).foc hq
  cases (hu rfl).symm.trans (hu' rfl)
  exact k v w ρ₁ l₁ x _ h₁ k₁ ov hx hL rfl hv (S₂.imp fY)
 ·refine bH h fun c h=>?_
  refine eQ h fun v hv h=>?_
  refine bH h fun hL h=>?_
  obtain⟨ρ',hp,h⟩:=aY h
  obtain⟨Z,m,S,T⟩:=S
  refine li hv s us R Z m _ E (dh Z m S) T fun w tk so ow=>?_
  exact k v w ρ l [v] ρ' s.heap tk (or_eq_true_iff.mpr (.inl so)) (if_neg fun q=>by rw[q]at c;cases c) hL hp h ⟨Z,m,⟨fun zz=>none,m,aE,ay,le_refl m,ow _,S⟩,T⟩
end
section
variable {G:bB} {X:Amb G} {r:Ev}
theorem DC (H:∀e,SE X (eval e X.env) (r.e X.c e)) {b a:Expr} {m:Str} {isE:Bool} {ap cp pos:Pos} (hm:zr b ap cp=true) (hx:(isE=true∧m=Str.ofString "extend")∨(isE=false∧m=Str.ofString "append")):SX X (exec (.Expr (.Call (.Attribute b m ap) [a] [] cp) pos) X.env) (B0 r X.c b isE a):=by
 intro s ρ us P R Q E h S k
 refine eQ h fun q hq h=>?_
 refine bH h fun hp h=>?_
 obtain⟨h1,h2⟩:=iL hq
 have c:[a].all jM=true:=by rw[List.all_cons,hp];rfl
 have sh:gX [a]=true:=by unfold gX;rw[c];rfl
 refine wpAny_Expr ?_ (by unfold interactive;rw[X.kind];rfl) rfl
 rcases hx with⟨rfl,rfl⟩|⟨rfl,rfl⟩
 ·refine lr hm PySem.F.slot_list_extend PySem.F.type_list_extend sh h1 h2 S fun u tk S' hu=>?_
  refine callWith_of (P:=fun zz=>True) (by rw[bZ c];rfl) (fun zz zz=>⟨.machine,.inr (.inl rfl),Looks.of_pure rfl⟩) (bh c (wpAny_items_cons (tB (s:={s with toks:=tk}) H h S' hu fun v w ρ₁ l x ρ' h' tk' ov hx hL hp hP S₁=>?_) (dy hp _)))
  exact wpAny_items_nil ⟨trivial,vh (s:={s with heap:=h',toks:=tk'}) hx hL hp S₁ fun h'' tk'' S₂=>k .nxt ρ' us .none h'' tk'' hP (.refl us) S₂.no⟩
 ·refine lr hm slot_list_append type_list_append sh h1 h2 S fun u tk S' hu=>?_
  refine callWith_of (P:=fun zz=>True) (by rw[bZ c];rfl) (fun zz zz=>⟨.machine,.inr (.inl rfl),Looks.of_pure rfl⟩) (bh c (wpAny_items_cons (tB (s:={s with toks:=tk}) H h S' hu fun v w ρ₁ l x ρ' h' tk' ov hx hL hp hP S₁=>?_) (dy hp _)))
  cases hx
  exact wpAny_items_nil ⟨trivial,vg (s:={s with heap:=h',toks:=tk'}) ov hL hp S₁ fun h'' tk'' S₂=>k .nxt ρ' us .none h'' tk'' hP (.refl us) S₂.no⟩
end
end
end Mine.Internal
section
open PySem PySem.W PyProof.Rows PySem.Calls Builtin Builtin.ObjectAttr
namespace Mine.Internal
theorem nt {k f:Str} {t:Tok}:(Value.str k t).isStr f=decide (k=f):=by
 by_cases c:k=f
 ·subst c;simp only[Value.isStr,beq_self_eq_true,decide_true]
 ·simp only[Value.isStr,beq_eq_false_iff_ne.mpr c,decide_eq_false c]
section
variable {G:Wld} {f:Str} {hsh:Int} {t:Tok} {v:PV} {u:Value}
theorem qr:∀{ks:List Str} {vs:List PV} {us:List Value} {es:List DictEntry},r0 ks us es->ks.length=vs.length->∃us',r0 (oH f ks) us' (putL f hsh (.str f t) u es)∧cM (sp (aH G v u) (aq G vs us)) (aq G (kvs f v ks vs) us')
 | [],vs,us,es,H,hl=>by
  obtain⟨rfl,rfl⟩:=H
  rcases vs with _|⟨_,_⟩
  ·exact⟨[u],⟨u,[],_,[],rfl,rfl,⟨t,rfl⟩,rfl,rfl,rfl⟩,aj zL dw⟩
  ·cases hl
 | k::ks,vs,us,es,H,hl=>by
  obtain⟨w,r,e,q,rfl,rfl,⟨t',hk⟩,rfl,H⟩:=H
  cases vs with
  | nil=>cases hl
  | cons v0 vs=>
  by_cases c:k=f
  ·have c':aM k f=true:=strEq_iff.mpr c
   refine⟨u::r,?_,?_⟩
   ·rw[show oH f (k::ks)=k::ks from if_pos c',show putL f hsh (.str f t) u (e::q)=⟨e.hash,e.key,u⟩::q from if_pos (by rw[hk,nt];exact decide_eq_true c)]
    exact⟨u,r,_,q,rfl,rfl,⟨t',hk⟩,rfl,H⟩
   ·rw[show kvs f v (k::ks) (v0::vs)=v::vs from if_pos c']
    rintro Z m ⟨x,y,d,l1,l2,a,w,r',e,y1,y2,zz,zz,l3,zz,b⟩
    cases e
    exact⟨u,r,rfl,x,y2,aR (fc (aR d) l3),l1,le_trans l3 l2,a,b⟩
  ·have c':¬ aM k f=true:=fun q=>c (strEq_iff.mp q)
   obtain⟨us',h1,h2⟩:=qr (vs:=vs) H (Nat.succ.inj hl)
   refine⟨e.val::us',?_,?_⟩
   ·rw[show oH f (k::ks)=k::oH f ks from if_neg c',show putL f hsh (.str f t) u (e::q)=e::putL f hsh (.str f t) u q from if_neg (by rw[hk,nt];exact fun q=>c (of_decide_eq_true q))]
    exact⟨e.val,us',e,_,rfl,rfl,⟨t',hk⟩,rfl,h1⟩
   ·rw[show kvs f v (k::ks) (v0::vs)=v0::kvs f v ks vs from if_neg c']
    rintro Z m ⟨x,y,d,l1,l2,a,w,r',e',H'⟩
    cases e'
    exact⟨e.val,us',rfl,(aj aC (al (A:=aH G v0 e.val) (C:=aH G v0 e.val) ag h2)) Z m ⟨x,y,d,l1,l2,a,H'⟩⟩
theorem tC {x:Str}:∀{ks:List Str},x ∈ oH f ks->x=f∨x ∈ ks
 | [],h=>.inl (mem_singleton.mp h)
 | k::ks,h=>by
  by_cases c:aM k f=true
  ·rw[show oH f (k::ks)=k::ks from if_pos c]at h
   exact .inr h
  ·rw[show oH f (k::ks)=k::oH f ks from if_neg c]at h
   rcases mem_cons.mp h with rfl|h
   ·exact .inr mem_cons_self
   ·exact(tC h).imp_right (mem_cons_of_mem _)
theorem qt {x:Str} {l:List Str} (h:rR x l=true):x ∈ l:=by
 obtain⟨y,hy,e⟩:=any_eq_true.mp h
 exact strEq_iff.mp e▸hy
theorem xp {es:List DictEntry} {key:Value}:(putL f hsh key u es).length<=es.length+1:=by
 induction es with
 | nil=>exact Nat.le_refl _
 | cons e r ih=>
  unfold putL
  split
  ·exact le_succ _
  ·exact succ_le_succ ih
end
section
variable {K:Frag} {prog:Program} {w:World} {A:Around} {E:Value->Shared->Prop} {s:Shared} {C a d:Addr} {sl:Array (Option Value)} {es:Array DictEntry} {k:Nat} {fs:List Str}
theorem vj {R:Result->Shared->Prop} {tk:Tok} (X:K.In s.heap) (O:pW K C fs) (h1:s.heap.get? a=some (dQ C d sl)) (h2:s.heap.get? d=some (dP es k)) {f:Str} (hf:f ∈ fs) {v:Value} (hk:es.toList.any (·.refKey)=false) (hz:es.size<=900)
  (h:∀h' k',Heap.SameBut d s.heap h'->h'.get? d=some (dP (putL f (PyData.keyHash w.params f) (.str f s.toks) v es.toList).toArray k')->R (.ok (.ret .none)) {s with heap:=h',toks:=s.toks+1}):
  codeAny (model prog w) A (.call (.builtin "object.__setattr__") ⟨[.ref a,.str f tk,v],[]⟩) R s:=by
 obtain⟨zz,ht⟩:=O.fld f hf
 have I:=kl h1 h2
 have D:s.heap.get? d=some (dictOf es.toList k):=h2
 refine osa_open X I O.over ht fun b=>?_
 obtain⟨cd,hc,hd'⟩:=any_some O.has
 generalize hox:dQ C d sl=ox at h1 I
 have hcl:ox.cls=.ref C:=by rw[←hox]
 have hd:ox.dict=some d:=by rw[←hox]
 obtain⟨oc,odi,oda,osl⟩:=ox
 dsimp only at hcl hd
 subst hcl hd
 refine wpAny_bind (wpAny_pure (wpAny_bind (wpAny_bind (wpAny_loadPart h1 (wpAny_bind ((looks_clsIn X hc).here ?_))))))
 rw[hd']
 refine wpAny_pure (a:=some d) (wpAny_bind (wpAny_pure (wpAny_bind ?_)))
 unfold nsSet
 refine wpAny_bind (wpAny_bind (wpAny_askSetting (wpAny_pure (wpAny_bind (wpAny_mkText (wpAny_bind (wpAny_loadPart D ?_)))))))
 dsimp only [dictOf]
 have nr:(!es.toList.toArray.any (·.key.isStr f)&&es.toList.toArray.any (·.refKey))=false:=by
  have q:es.toList.toArray.any (·.refKey)=false:=by rw[←Array.any_toList];exact hk
  rw[q,Bool.and_false]
 rw[aRefKeyMayBeTheName_at,nr]
 have e:=putName_dict f (PyData.keyHash w.params f) (.str f s.toks) v es.toList k
 refine wpAny_updatePart D ?_
 have D':=Heap.get?_update_self (Obj.putName f (PyData.keyHash w.params f) (.str f s.toks) v) D (by rw[e];rfl)
 rw[e]at D'
 refine wpAny_bind (wpAny_lookBehind D' (pastItsLine_dict (by
  have:=xp (f:=f) (hsh:=PyData.keyHash w.params f) (key:=.str f s.toks) (u:=v) (es:=es.toList)
  have e2:=length_toList (xs:=es)
  rw[List.size_toArray,sizeLine_eq];exact(aQ 0x111000000724101002037112041017384320017) hz this e2)) ?_)
 exact wpAny_pure (h _ _ (Heap.SameBut.update ..) D')
theorem vk (X:K.In s.heap) (O:pW K C fs) (h1:s.heap.get? a=some (dQ C d sl)) (h2:s.heap.get? d=some (dP es k)) {f:Str} (hf:f ∈ fs) {v:Value} (hk:es.toList.any (·.refKey)=false) (hz:es.size<=900) {Q:Unit->Shared->Prop}
  (h:∀h' k',Heap.SameBut d s.heap h'->h'.get? d=some (dP (putL f (PyData.keyHash w.params f) (.str f (s.toks+1)) v es.toList).toArray k')->Q () {s with heap:=h',toks:=s.toks+2}):
  wpAny (model prog w) A (setAttr (.ref a) f v) Q E s:=
 set_plain X (kl h1 h2) O.set (vj (s:={s with toks:=s.toks+1}) X O h1 h2 hf hk hz h)
end
section
variable {G:bB} {X:Amb G} {r:Ev}
theorem Ac (H:∀e,SE X (eval e X.env) (r.e X.c e)) {b e:Expr} {f:Str} {ap pos:Pos} (hs:swapsWith e (some (.Attribute b f ap)) pos.line X.env=pure false):SX X (exec (.Assign [.Attribute b f ap] e pos) X.env) fun ρ P=>r.e X.c e ρ fun v ρ=>aP (zI X.c b ρ) fun q=>aP (G.T.cls q.2.1) fun d=>bK (rR f d.fields&&blt q.2.2.1.length 64) (aP (mC q.1 (.obj q.2.1 (oH f q.2.2.1) (kvs f v q.2.2.1 q.2.2.2)) ρ) fun ρ=>P .nxt ρ):=by
 intro s ρ us P R Q E h S k
 refine plainObj_wpAny_Assign_Attribute (H e s ρ us _ R _ E h S fun v ρ₁ u h₁ k₁ ov hv S₁=>?_) hs
 obtain⟨⟨p,c,ks,vs⟩,hq,hv⟩:=aY hv
 refine eQ hv fun cd hcd hv=>?_
 refine bH hv fun g hv=>?_
 obtain⟨ρ',hp,hv⟩:=aY hv
 obtain⟨h1,h2⟩:=qe hq
 refine cz g fun g1 g2=>?_
 have g2:ks.length<64:=le_of_ble_eq_true g2
 refine cj (s:={s with heap:=h₁,toks:=k₁}) h1 h2 rfl (S₁.imp aC) fun w tk S₂ zz=>?_
 obtain⟨Z,m,⟨x,y,dd,l1,l2,⟨a,d,sl,es,kk,ws,cd',rfl,hcd',hks,hE,HH⟩,B⟩,T⟩:=S₂
 cases hcd.symm.trans hcd'
 have S₃:St G.b₀ (sp (pt a (dQ (G.cls c) d sl)) (sp (pt d (dP es kk)) (sp (aq G.toWld vs ws) (sp (foc X p ρ₁ us (.obj c ks vs) (.ref a)) (sp (aH G.toWld v u) R))))) h₁:=⟨Z,m,(aj bM (al ag bM)) Z m ⟨x,y,dd,l1,l2,HH,B⟩,T⟩
 have hlen:ks.length=vs.length:=by
  obtain⟨zz,zz,zz,zz,zz,zz,zz,zz,zz,zz,zz,zz,ho⟩:=HH
  rw[←(gi (x:=f) hE).3,bQ ho]
 obtain⟨zz,nr,zz,el⟩:=gi (x:=f) hE
 refine vk (s:={s with heap:=h₁,toks:=tk}) (G.X.keeps S₃.base) (G.clsok c cd hcd) S₃.at (S₃.imp aC).at (qt g1) nr (by rw[←length_toList,el];exact le_of_lt (Nat.lt_trans g2 (by decide))) fun h' k' hsb hd'=>?_
 obtain⟨ws',e1,e2⟩:=qr (G:=G.toWld) (f:=f) (hsh:=PyData.keyHash G.w.params f) (t:=tk+1) (v:=v) (u:=u) hE hlen
 have S₄:=((S₃.imp aC).upd hsb.2 hd').imp aC
 refine k .nxt ρ' us .none h' _ hv (.refl us) (St.no (S₄.imp ?_))
 refine aj (al ag (al ag (aj fY (aj a8 (al e2 ag))))) (aj (al ag a8) (aj a8 (aj (al (r5 (es:=(putL f (PyData.keyHash G.w.params f) (.str f (tk+1)) u es.toList).toArray) hcd (fun x hx=>(tC hx).elim (fun e=>e▸qt g1) (hks x)) e1) ag) (aj a8 (al (cP (.inr hp)) ag)))))
end
end Mine.Internal
end
namespace Mine.Internal
section
open PySem PySem.W PyProof.Rows PySem.Calls
theorem qu {x k:Str} {u v:Value} {r:List (Str×Value)} (nd:x ∉ r.map (·.1)):stored ((x,u)::r) k v=if x=k then(x,v)::r else(x,u)::stored r k v:=by
 unfold stored
 by_cases h:x=k
 ·subst h
  simp only[any_cons,decide_true,Bool.true_or,if_true,map_cons,List.cons.injEq,true_and]
  refine(map_congr_left (g:=id) fun kv hkv=>?_).trans (map_id r)
  rw[if_neg fun e=>nd (mem_map.mpr ⟨kv,hkv,e⟩)]
  rfl
 ·simp only[any_cons,h,decide_false,Bool.false_or,if_false,map_cons]
  split<;>simp
section
variable {G:Wld} {f:Str} {v:PV} {u:Value}
theorem lD:∀{ks:List Str} {vs:List PV} {us:List Value},ks.length=vs.length->us.length=vs.length->((ks.zip us).map (·.1)).Nodup->∃us',A3 (stored (ks.zip us) f u=(oH f ks).zip us') ((oH f ks).length=(kvs f v ks vs).length) (cM (sp (aH G v u) (aq G vs us)) (aq G (kvs f v ks vs) us'))
 | [],[],us,_,hu,_=>⟨[u],rfl,rfl,aj zL dw⟩
 | [],_::_,_,hl,_,_=>nomatch hl
 | _::_,[],_,hl,_,_=>nomatch hl
 | _::_,_::_,[],_,hu,_=>nomatch hu
 | k::ks,v0::vs,w::us,hl,hu,nd=>by
  have nd:k ∉ (ks.zip us).map (·.1)∧((ks.zip us).map (·.1)).Nodup:=nodup_cons.mp nd
  rw[zip_cons_cons,qu nd.1]
  by_cases c:k=f
  ·have c':aM k f=true:=strEq_iff.mpr c
   rw[show oH f (k::ks)=k::ks from if_pos c',show kvs f v (k::ks) (v0::vs)=v::vs from if_pos c',if_pos c]
   refine⟨u::us,rfl,hl,?_⟩
   rintro Z m ⟨x,y,d,l1,l2,a,w,r',e,y1,y2,zz,zz,l3,zz,b⟩
   cases e
   exact⟨u,us,rfl,x,y2,aR (fc (aR d) l3),l1,le_trans l3 l2,a,b⟩
  ·have c':¬ aM k f=true:=fun q=>c (strEq_iff.mp q)
   obtain⟨us',h1,h2,h3⟩:=lD (vs:=vs) (us:=us) (Nat.succ.inj hl) (Nat.succ.inj hu) nd.2
   rw[show oH f (k::ks)=k::oH f ks from if_neg c',show kvs f v (k::ks) (v0::vs)=v0::kvs f v ks vs from if_neg c',if_neg c,h1]
   refine⟨w::us',rfl,congrArg Nat.succ h2,?_⟩
   rintro Z m ⟨x,y,d,l1,l2,a,w',r',e,H'⟩
   cases e
   exact⟨w,us',rfl,(aj aC (al (A:=aH G v0 w) (C:=aH G v0 w) ag h3)) Z m ⟨x,y,d,l1,l2,a,H'⟩⟩
end
section
variable {G:bB} {X:Amb G} {s:Shared} {R:a7} {E:Value->Shared->Prop}
inductive IK (o k v q:PV):Prop
 | lst (l i j) (e:o=.lst l) (f:k=.int i) (g:bg i l.length=some j) (h:q=.lst (aS l j v))
 | dct (ks vs x) (e:o=.dct ks vs) (f:k=.str x) (g:ks.length<1000) (h:q=.dct (oH x ks) (kvs x v ks vs))
 | emp (i) (e:o=.dct [] []) (f:k=.int i) (g:q=.LZ)
set_option tactic.hygienic true in
theorem lE {o k v q:PV} (h:cw o k v=some q):IK o k v q:=by
 rcases o with _|_<;>first|exact no h|exact bp h|(cases h;done)|skip
 ·rename_i l
  cases k with
  | int i=>obtain⟨j,hj,rfl⟩:=map_eq_some_iff.mp h;exact .lst l i j rfl rfl hj rfl
  | _=>exact no h
 ·rename_i ks vs
  cases k with
  | str x=>
   obtain⟨c,rfl⟩:=br h
   exact .dct ks vs x rfl rfl (le_of_ble_eq_true c) rfl
  | int i=>
   rcases ks with _|_<;>rcases vs with _|_<;>first|exact no h|exact .emp i rfl rfl (Option.some.inj h).symm
  | _=>exact no h
theorem lF {o k v q:PV} {x iv u:Value} {Q:Unit->Shared->Prop} (h:cw o k v=some q) (ov:bS v=true) (S:St G.b₀ (sp (aH G.toWld k iv) (sp (aH G.toWld v u) (sp (aH G.toWld o x) R))) s.heap)
  (kk:∀h tk,St G.b₀ (sp (aH G.toWld q x) R) h->Q () {s with heap:=h,toks:=tk}):wpAny (model G.prog G.w) X.A (PySem.setItem x iv u) Q E s:=by
 rcases lE h with⟨l,i,j,rfl,rfl,hj,rfl⟩|⟨ks,vs,y,rfl,rfl,hk,rfl⟩|⟨i,rfl,rfl,rfl⟩
 ·obtain⟨zz,zz,zz,zz,t,rfl⟩:=S.look
  obtain⟨a,vs,c,rfl,ha,hsz,hc,ho,S1⟩:=(S.snd.imp aC).opn
  obtain⟨zz,hlt,lo,hi,hcase⟩:=bW hj
  simp only[gf]at hc
  have done:∀j':Nat,j'=j->Q () {s with heap:=s.heap.update a (Obj.mapSeq (·.setIfInBounds j' u))}:=by
   rintro j' rfl
   have hn:=PySem.IsL.update (h:=s.heap) (l:=a) (items:=vs) (n:=c) ha (·.setIfInBounds j' u)
   have S2:=(S1.upd (fun b hb=>Heap.get?_update_other _ _ (Ne.symm hb)) hn).imp (al ag (aj aC (aj a8 (al (lB (G:=G) (ρ:=l) (i:=j') hlt) ag))))
   rw[←Array.toList_setIfInBounds]at S2
   exact kk _ s.toks (S2.imp (gI (by rw[setN_len];exact hc) (kX ho ov)))
  rcases hcase with⟨h0,rfl⟩|⟨h0,rfl⟩
  ·exact ki_setAt (n:=c) ha h0 (by lia) (by exact(H8 0x30051030057100037) hsz hi) (done _ rfl)
  ·exact ki_setBack (n:=c) ha h0 (by exact(H8 0x1003940001103947100037) hsz lo) (by lia) (done _ (by rw[hsz]))
 ·obtain⟨zz,zz,zz,zz,⟨t,rfl⟩,zz⟩:=S.look
  obtain⟨Z,m,⟨x1,y1,d,l1,l2,⟨a,o,us,rfl,⟨es,ep,hD⟩,sys,hl,H⟩,r⟩,T⟩:=S.snd.imp aC
  have S1:St G.b₀ (sp (pt a o) (sp (aq G.toWld vs us) (sp (aH G.toWld v u) R))) s.heap:=⟨Z,m,bM (A:=pt a o) (B:=aq G.toWld vs us) Z m ⟨x1,y1,d,l1,l2,H,r⟩,T⟩
  have hu:us.length=vs.length:=by
   obtain⟨zz,zz,zz,zz,zz,zz,q⟩:=H
   exact bQ q
  obtain⟨us',e1,e2,e3⟩:=lD (G:=G.toWld) (f:=y) (v:=v) (u:=u) hl hu hD.2.2.2.2
  refine wpAny_setItem_pairs (knd:=strKind G.prog G.w) (strKind_is G.prog G.w y t) ⟨_,es,ep,S1.at,hD⟩ (fun h' hD' hsb=>?_) (by rw[List.length_zip];simp only[sizeLine];exact(az 0x1000000721000613e8320027) hk)
  rw[e1]at hD'
  obtain⟨o',es',ep',ho',hd'⟩:=hD'
  have S2:=(S1.upd hsb.2 ho').imp (aj (al ag (aj aC (aj a8 (al e3 ag)))) a8)
  exact kk _ _ (S2.imp (al (fun Z m H=>⟨a,o',us',rfl,⟨es',ep',hd'⟩,sys,e2,H⟩) ag))
 ·obtain⟨zz,zz,zz,zz,t,rfl⟩:=S.look
  obtain⟨Z,m,⟨x1,y1,d,l1,l2,⟨a,o,us,rfl,⟨es,ep,hD⟩,sys,hl,H⟩,r⟩,T⟩:=S.snd.imp aC
  have S1:St G.b₀ (sp (pt a o) (sp (aq G.toWld [] us) (sp (aH G.toWld v u) R))) s.heap:=⟨Z,m,bM (A:=pt a o) (B:=aq G.toWld [] us) Z m ⟨x1,y1,d,l1,l2,H,r⟩,T⟩
  obtain⟨hex,hda,zz,hpr,zz⟩:=hD
  have hes:es=#[]:=by
   cases q:es.toList with
   | nil=>simpa using q
   | cons a r=>rw[q]at hpr;cases hpr
  subst hes
  have hm:s.heap.DictOf (intKind G.prog G.w) a []:=⟨o,#[],ep,S1.at,hex,hda,fun zz h=>by simp at h,.nil,by simp⟩
  refine wpAny_setItem_pairs (knd:=intKind G.prog G.w) (k:=i) (by simp[intKind,Value.isInt]) hm (fun h' hD' hsb=>?_) (by simp)
  obtain⟨o',es',ep',ho',hd'⟩:=hD'
  exact kk _ _ (St.no (S1.upd hsb.2 ho').snd.snd.snd)
end
section
variable {G:bB} {X:Amb G} {r:Ev}
theorem sD {o k v q:PV} (h:cw o k v=some q):mH o=true:=by
 rcases lE h with⟨_,_,_,rfl,_⟩|⟨_,_,_,rfl,_⟩|⟨_,rfl,_⟩<;>rfl
theorem Ad (H:∀e,SE X (eval e X.env) (r.e X.c e)) {b st e:Expr} {ap pos:Pos} (hs:swapsWith e (some (.Subscript b st ap)) pos.line X.env=pure false):SX X (exec (.Assign [.Subscript b st ap] e pos) X.env) fun ρ P=>r.e X.c e ρ fun v ρ=>aP (kJ X.c b ρ) fun q=>if q.1.2.isEmpty then r.e X.c st ρ fun k ρ=>aP (cw (aK ρ q.1.1) k v) fun o=>P .nxt (aS ρ q.1.1 o)
  else aP (zH X.c 8 st ρ) fun k=>aP (cw q.2 k v) fun o=>bK (jJ o) (aP (mC q.1 o ρ) fun ρ=>P .nxt ρ):=by
 intro s ρ us P R Q E h S k
 refine wpAny_Assign_Subscript (H e s ρ us _ R _ E h S fun v ρ₁ u h₁ k₁ ov hv S₁=>?_) hs
 obtain⟨⟨⟨i,pth⟩,o⟩,hq,hv⟩:=aY hv
 obtain⟨h1,h2,h3⟩:=k8 hq
 have oq:bS o=true:=or_eq_true_iff.mpr (.inr h3)
 refine cj (s:={s with heap:=h₁,toks:=k₁}) (R:=sp (aH G.toWld v u) R) h1 h2 oq (S₁.imp aC) fun w tk S₂ hw=>?_
 rcases pth with _|⟨p0,pth⟩
 ·refine H st {s with heap:=h₁,toks:=tk} ρ₁ us _ (sp (aH G.toWld v u) R) _ E hv (S₂.imp dh) fun y ρ₂ iv h₃ k₃ oy hy S₃=>?_
  refine eQ hy fun o' ho' hy=>?_
  have iv2:=sD ho'
  obtain⟨w',S₄,hw'⟩:=(S₃.imp aC).foc (p:=(i,[])) (q:=aK ρ₂ i) (if_pos iv2)
  cases (hw rfl).symm.trans (hw' rfl)
  refine lF (s:={s with heap:=h₃,toks:=k₃}) (R:=sp (foc X (i,[]) ρ₂ us (aK ρ₂ i) w) R) ho' ov (S₄.imp (aj (al ag (aj aC (al ag aC))) (aj aC (al ag aC)))) fun h₅ k₅ S₅=>?_
  exact k .nxt (aS ρ₂ i o') us .none h₅ k₅ hy (.refl us) (St.no (S₅.imp (aj a8 (al (cP (.inr rfl)) ag))))
 ·refine eQ hv fun y hy hv=>?_
  refine eQ hv fun o' ho' hv=>?_
  refine bH hv fun zz hv=>?_
  obtain⟨ρ',hp,hv⟩:=aY hv
  obtain⟨Z,m,S₂,T⟩:=S₂
  refine li hy {s with heap:=h₁,toks:=tk} us (sp (aH G.toWld v u) R) Z m _ E (dh Z m S₂) T fun iv tk' zz ow=>?_
  have S₃:St G.b₀ (sp (aH G.toWld y iv) _) h₁:=⟨Z,m,⟨fun zz=>none,m,aE,ay,le_refl m,ow _,S₂⟩,T⟩
  refine lF (s:={s with heap:=h₁,toks:=tk'}) (R:=sp (foc X (i,p0::pth) ρ₁ us o w) R) ho' ov (S₃.imp (al ag (aj (al ag aC) aC))) fun h₅ k₅ S₅=>?_
  exact k .nxt ρ' us .none h₅ k₅ hv (.refl us) (St.no (S₅.imp (aj a8 (al (cP (.inr hp)) ag))))
end
theorem pb {e:Expr} {es:List Expr} {j:Nat} {tp:Pos} {line:Nat} {env:PySem.Env}:swapsWithSole [.Tuple es j tp] e line env=pure false:=by
 rcases e with _|_<;>rfl
theorem sE {e:Expr} {es:List Expr} {j:Nat} {tp:Pos} {env:PySem.Env} (h:pT e=none):swappedStores [.Tuple es j tp] e env=pure none:=by
 rcases e with _|_<;>first|rfl|cases h
section
variable {G:bB} {X:Amb G} {r:Ev}
theorem Ae (H:∀e,SE X (eval e X.env) (r.e X.c e)) {es:List Expr} {j:Nat} {tp pos:Pos} {e:Expr} {xs:List Str} (hx:dX es=some xs) (he:pT e=none):SX X (exec (.Assign [.Tuple es j tp] e pos) X.env) fun ρ P=>r.e X.c e ρ fun v ρ=>aP (mI v) fun l=>aP (b7 X.c xs l ρ) fun ρ=>P .nxt ρ:=by
 intro s ρ us P R Q E h S k
 refine Assign_Tuple (H e s ρ us _ R _ E h S fun v ρ₁ u h₁ k₁ ov hv S₁=>?_) pb (sE he)
 refine eQ hv fun l hl hv=>?_
 obtain⟨ρ',hb,hv⟩:=aY hv
 refine lC (s:={s with heap:=h₁,toks:=k₁}) (tgt:=.Tuple es j tp) (v:=v) (ρ':=ρ') ?_ S₁ fun us' h₂ k₂ kp S₂=>k .nxt ρ' us' .none h₂ k₂ hv kp S₂.no
 show(dX es).bind _=_
 rw[hx]
 show(mI v).bind _=_
 rw[hl]
 exact hb
end
theorem nu:∀{l:List PV} {i j:Nat} {v w:PV},i≠j->aS (aS l i v) j w=aS (aS l j w) i v
 | [],_,_,_,_,_=>rfl
 | _::_,0,0,_,_,h=>absurd rfl h
 | _::_,0,_+1,_,_,_=>rfl
 | _::_,_+1,0,_,_,_=>rfl
 | x::r,i+1,j+1,_,_,h=>congrArg (x::·) (nu (l:=r) fun e=>h (congrArg Nat.succ e))
theorem FX {x y:Str} {l:List Str} {i j:Nat} (h:x≠y) (hx:ix x l=some i) (hy:ix y l=some j):i≠j:=fun e=>h (Option.some.inj ((jR hx).symm.trans (e▸jR hy)))
section
variable {G:bB} {X:Amb G} {ρ ρ':Env}
theorem nv {x:Str} {v:PV} (h:gY X.c x v ρ=some ρ'):∃i,A3 (ix x X.c.names=some i) (∀w σ,gY X.c x w σ=some (aS σ i w)) (ρ'=aS ρ i v):=by
 refine aJ h fun i hi h=>?_
 obtain⟨c,rfl⟩:=br h
 refine⟨i,hi,fun w σ=>?_,rfl⟩
 show(ix x X.c.names).bind _=_
 rw[hi]
 exact if_pos c
theorem jV {y:Str} {w:PV}:∀{xs:List Str} {l:List PV} {ρ σ:Env},b7 X.c xs l ρ=some σ->b7 X.c (xs++[y]) (l++[w]) ρ=gY X.c y w σ
 | [],[],_,_,h=>by
  cases h
  show(gY X.c y w _).bind _=_
  cases gY X.c y w _<;>rfl
 | x::xs,v::l,_,_,h=>by
  obtain⟨ρ₁,h1,h2⟩:=bind_eq_some_iff.mp h
  show(gY X.c x v _).bind (b7 X.c (xs++[y]) (l++[w]))=_
  rw[h1]
  exact jV h2
 | [],_::_,_,_,h=>nomatch h
 | _::_,[],_,_,h=>nomatch h
theorem jW {y:Str} {w:PV} {i:Nat} (hy:ix y X.c.names=some i):∀{xs:List Str} {l:List PV} {ρ σ:Env},y ∉ xs->b7 X.c xs l (aS ρ i w)=some σ->∃σ',b7 X.c xs l ρ=some σ'∧σ=aS σ' i w
 | [],[],ρ,_,_,h=>⟨ρ,rfl,(Option.some.inj h).symm⟩
 | x::xs,v::l,ρ,σ,hn,h=>by
  obtain⟨ρ₁,h1,h2⟩:=bind_eq_some_iff.mp h
  obtain⟨j,hj,hall,rfl⟩:=nv h1
  rw[nu (FX (fun(e:y=x)=>hn (by rw[e];exact mem_cons_self)) hy hj)]at h2
  obtain⟨σ',h3,h4⟩:=jW hy (fun m=>hn (mem_cons_of_mem _ m)) h2
  refine⟨σ',?_,h4⟩
  show(gY X.c x v ρ).bind _=_
  rw[hall v ρ]
  exact h3
 | [],_::_,_,_,_,h=>nomatch h
 | _::_,[],_,_,_,h=>nomatch h
theorem d4 {x:Str} {r:List Str} (h:bV (x::r)=true):x ∉ r∧bV r=true:=by
 refine cz h fun h1 h2=>?_
 refine⟨fun m=>?_,h2⟩
 rw[show rR x r=true from any_eq_true.mpr ⟨x,m,kW x⟩]at h1
 exact bp h1
theorem lG:∀{xs:List Str} {l:List PV} {ρ ρ':Env},bV xs=true->b7 X.c xs l ρ=some ρ'->b7 X.c xs.reverse l.reverse ρ=some ρ'
 | [],[],_,_,_,h=>h
 | x::xs,v::l,ρ,ρ',d,h=>by
  obtain⟨d1,d2⟩:=d4 d
  obtain⟨ρ₁,h1,h2⟩:=bind_eq_some_iff.mp h
  obtain⟨i,hi,hall,rfl⟩:=nv h1
  obtain⟨σ,h3,rfl⟩:=jW hi d1 h2
  rw[reverse_cons,reverse_cons,jV (lG d2 h3)]
  exact hall v σ
 | [],_::_,_,_,_,h=>nomatch h
 | _::_,[],_,_,_,h=>nomatch h
end
end
end Mine.Internal
section
open PySem PySem.W PyProof.Rows PySem.Calls
set_option backward.match.sparseCases true
namespace Mine.Internal
theorem vm {e:Expr} {vs:List Expr} (h:pT e=some vs):∃j p,e=.Tuple vs j p:=by
 rcases e with _|_<;>cases h
 exact⟨_,_,rfl⟩
theorem lH {f:Expr->Option Str} (hf:∀x p,f (.Name x p)=some x∨f (.Name x p)=none):∀{ts:List Expr} {xs:List Str},dX ts=some xs->(ts.filterMap f).length<=ts.length∧((ts.filterMap f).length=ts.length->ts.filterMap f=xs)
 | [],_,h=>by cases h;exact⟨Nat.le_refl _,fun zz=>rfl⟩
 | e::es,xs,h=>by
  refine aJ h fun x hx h=>?_
  refine bY h fun q hq e_2=>?_
  subst e_2
  obtain⟨p,rfl⟩:=bX hx
  obtain⟨h1,h2⟩:=lH hf hq
  rcases hf x p with g|g
  ·rw[List.filterMap_cons_some g]
   exact⟨succ_le_succ h1,fun e=>congrArg (x::·) (h2 (Nat.succ.inj e))⟩
  ·rw[List.filterMap_cons_none g]
   exact⟨Nat.le_succ_of_le h1,fun e=>absurd h1 (Nat.not_le_of_lt (by rw[e];exact lt_succ_self _))⟩
theorem xq {ts vs:List Expr} {j j':Nat} {tp vp:Pos} {xs:List Str} {env:PySem.Env} (hx:dX ts=some xs) (ho:Ie vs=true):∃sw,swappedStores [.Tuple ts j tp] (.Tuple vs j' vp) env=pure sw∧(sw=none∨sw=some xs):=by
 have ite:∀{c:Prop} [Decidable c] {k:Sem (Option (List Str))},(∃sw,k=pure sw∧(sw=none∨sw=some xs))->∃sw,(if c then pure none else k)=pure sw∧(sw=none∨sw=some xs):=fun{c _ k} h=>by
  by_cases q:c
  ·exact⟨none,if_pos q,.inl rfl⟩
  ·rw[if_neg q];exact h
 refine ite (ite ?_)
 by_cases q:((ts.filterMap fun
  | .Name id pos=>if env.kindOf id==some .local&&pos.line==(ts.head?.map (·.pos.line)).getD 0 then some id else none
  | _=>none).length != ts.length)=true
 ·exact⟨none,if_pos (or_eq_true_iff.mpr (.inl q)),.inl rfl⟩
 ·refine ite ?_
  by_cases c:vs.all (foldedForSure 8)=true
  ·exact⟨none,if_pos c,.inl rfl⟩
  ·have d:¬ vs.all (constantsAlone 8)=true:=fun d=>by
    unfold Ie at ho
    rw[d,eq_false_iff.mpr c]at ho
    exact bp ho
   refine⟨_,(if_neg c).trans (if_neg d),.inr (congrArg some ((lH (fun x p=>?_) hx).2 (Classical.byContradiction fun d=>q (bne_iff_ne.mpr d))))⟩
   dsimp only
   split
   ·exact .inl rfl
   ·exact .inr rfl
theorem lI {env:PySem.Env}:∀{f g:List (Value->Sem Unit)} {a b:List Str},ij env f a->ij env g b->ij env (f++g) (a++b)
 | [],_,[],_,_,H=>H
 | _::_,_,_::_,_,H,H'=>⟨H.1,lI H.2 H'⟩
 | [],_,_::_,_,H,_=>H.elim
 | _::_,_,[],_,H,_=>H.elim
theorem lJ {env:PySem.Env}:∀(xs:List Str),ij env (xs.reverse.map fun n=>bindName env n) xs.reverse
 | []=>trivial
 | x::xs=>by
  rw[reverse_cons,map_append]
  exact lI (lJ xs) ⟨fun M A E s v Q h=>bindName_ h,trivial⟩
theorem lK {c:bF}:∀{xs:List Str} {l:List PV} {ρ ρ':Env},b7 c xs l ρ=some ρ'->xs.length=l.length
 | [],[],_,_,_=>rfl
 | _::_,_::_,_,_,h=>by
  refine aJ h fun zz zz h=>?_
  exact congrArg Nat.succ (lK h)
 | [],_::_,_,_,h=>nomatch h
 | _::_,[],_,_,h=>nomatch h
section
variable {G:bB} {X:Amb G} {r:Ev}
theorem Af (H:∀e,SE X (eval e X.env) (r.e X.c e)) {ts vs:List Expr} {j:Nat} {tp pos:Pos} {e:Expr} {xs:List Str} (hx:dX ts=some xs) (he:pT e=some vs):SX X (exec (.Assign [.Tuple ts j tp] e pos) X.env) fun ρ P=>bK (bV xs&&Ie vs) (mJ r X.c vs ρ fun l ρ=>aP (b7 X.c xs l ρ) fun ρ=>P .nxt ρ):=by
 intro s ρ us P R Q E h S k
 refine bH h fun c h=>?_
 refine cz c fun c1 c2=>?_
 obtain⟨j',vp,rfl⟩:=vm he
 have sh:=(c5 (bL h).1).1
 obtain⟨sw,hw,hsw⟩:=xq (j:=j) (j':=j') (tp:=tp) (vp:=vp) (env:=X.env) hx c2
 -- the tuple is made
 have made:∀{C:Value->Shared->Prop},(∀t l ρ₁ ρ' vs h₁ k₁,h₁.IsTuple t vs.toArray->xs.length=vs.length->b7 X.c xs l ρ₁=some ρ'->P .nxt ρ'->St G.b₀ (sp (aq G.toWld l vs) (sp (au X ρ₁ us) R)) h₁->C (.ref t) {s with heap:=h₁,toks:=k₁}) ->
   wpAny (model G.prog G.w) X.A (eval (.Tuple vs j' vp) X.env) C E s:=fun kk=>by
  refine wpAny_Tuple (tv H s ρ us _ R _ E h S fun l ρ₁ vs h₁ k₁ ln ol hl S₁=>⟨by rw[S₁.vlen];simp only[sizeLine];exact(az 0x10000007210100103714220027) sh ln,?_⟩)
  obtain⟨ρ',hb,hp⟩:=aY hl
  exact kk _ l ρ₁ ρ' vs _ k₁ ⟨_,Heap.get?_push_size _ rfl,rfl,_,rfl⟩ ((lK hb).trans S₁.vlen.symm) hb hp (S₁.up fun zz zz e=>Heap.get?_push_of_some _ e)
 have grow:∀{h₁ h':Heap} {B:a7},Heap.ExtBut h₁.objs.size h₁ h'->St G.b₀ B h₁->St G.b₀ B h':=fun hx S=>S.up fun b o q=>hx b o (fun e=>by rw[e]at q;exact absurd (Heap.lt_size q) (lt_irrefl _)) q
 obtain⟨st1,st2,st3⟩:=fJ (env:=X.env) hx
 rcases hsw with rfl|rfl
 ·refine Assign_Tuple (made fun t l ρ₁ ρ' vs h₁ k₁ ht hl hb hp S₁=>?_) pb hw
  refine wpAny_assign_Tuple X.hd ht (by rw[st2,hl];rfl) st3 fun h' hx'=>?_
  exact iN (s:={s with heap:=h',toks:=k₁}) st1 hb (grow hx' S₁) fun us' h₂ k₂ kp S₂=>k .nxt ρ' us' .none h₂ k₂ hp kp S₂.no
 ·refine Assign_Tuple_swapped (made fun t l ρ₁ ρ' vs h₁ k₁ ht hl hb hp S₁=>?_) pb hw
  rw[show xs.length=vs.toArray.size from hl]
  refine unpackItems_tuple X.hd ht fun h' hx'=>?_
  exact iN (s:={s with heap:=h',toks:=k₁}) (lJ xs) (lG c1 hb) ((grow hx' S₁).imp (al lh ag)) fun us' h₂ k₂ kp S₂=>k .nxt ρ' us' .none h₂ k₂ hp kp S₂.no
end
end Mine.Internal
end
namespace Mine.Internal
section
open PySem PySem.W PyProof.Rows PySem.Calls
def Lh (G:Wld) (a t:Addr) (m:PH):Prop:=
 E5 fun o vs ot ts x=>A9 (m a=some o) (o.cls=.ref G.bad) (o.data=.fields vs) (∃y,vs[0]?=some y) (vs[1]?=some (.ref t)) (m t=some ot) (ot.data=.fields ts) (ts[3]?=some x) (t≠a)
noncomputable def xr (G:Wld) (u:Value):a7:=⟨fun zz m=>E2 fun a t=>u=.ref a∧Lh G a t m,fun zz k h=>by
 obtain⟨a,t,e,o,vs,ot,ts,x,h1,h2,h3,h4,h5,h6,h7,h8,h9⟩:=h
 exact⟨a,t,e,o,vs,ot,ts,x,k _ _ h1,h2,h3,h4,h5,k _ _ h6,h7,h8,h9⟩⟩
theorem xt {G:Wld} {u:Value}:cM (xr G u) (aH G .exc u):=fun zz zz h=>by
 obtain⟨a,t,e,o,vs,ot,ts,x,h1,h2,h3,h4,h5,h6,h7,h8,h9⟩:=h
 exact⟨a,o,vs,e,h1,h2,h3,h4,.inr ⟨t,ot,ts,x,h5,h6,h7,h8,h9⟩⟩
section
variable {G:bB} {X:Amb G} {ρ:Env} {us:List Value} {B R:a7} {h h':Heap} {E:Value->Shared->Prop} {u:Value}
theorem qv {x x':PH} (H:uO X ρ us x) (k:∀b o,b ∈ X.Ds++(X.cs++X.Os.map (·.1))->x b=some o->(∀vs,o.data≠.fields vs)->∃sl,x' b=some {o with slots:=sl}):uO X ρ us x':=by
 have kd:∀D ∈ X.Ds,∀o f,x D=some o->wa o f->∃o,x' D=some o∧wa o f:=fun D hD o f e n=>by
  obtain⟨es,ep,hd,r⟩:=n
  obtain⟨sl,e⟩:=k D o (mem_append_left _ hD) e fun vs q=>by rw[hd]at q;cases q
  exact⟨_,e,es,ep,hd,r⟩
 have kc:∀c ∈ X.cs,∀o w,x c=some o->o.data=.cell w->∃o,x' c=some o∧o.data=.cell w:=fun c hc o w e n=>by
  obtain⟨sl,e⟩:=k c o (mem_append_right _ (mem_append_left _ hc)) e fun vs q=>by rw[n]at q;cases q
  exact⟨_,e,n⟩
 refine⟨fun D hD=>?_,fun c hc=>?_,fun q hq=>?_,fun i v u hv hu hi=>?_,H.l⟩
 ·obtain⟨o,f,e,n⟩:=H.d D hD
  obtain⟨o,e,n⟩:=kd D hD o f e n
  exact⟨o,f,e,n⟩
 ·obtain⟨o,w,e,n⟩:=H.c c hc
  obtain⟨o,e,n⟩:=kc c hc o w e n
  exact⟨o,w,e,n⟩
 ·obtain⟨sl,e⟩:=H.o q hq
  obtain⟨sl,e⟩:=k _ _ (mem_append_right _ (mem_append_right _ (mem_map.mpr ⟨q,hq,rfl⟩))) e (X.odat q hq)
  exact⟨sl,e⟩
 ·have:=H.v i v u hv hu hi
  obtain⟨y,l⟩:=v
  cases l with
  | loc D y=>
   obtain⟨o,f,e,n,g⟩:=this
   obtain⟨o,e,n⟩:=kd D (X.dict _ (mem_of_getElem? hv) D y rfl) o f e n
   exact⟨o,f,e,n,g⟩
  | cel c=>
   obtain⟨o,e,n⟩:=this
   obtain⟨o,e,n⟩:=kc c (X.cell _ (mem_of_getElem? hv) c rfl) o _ e n
   exact⟨o,e,n⟩
theorem lL {A:a7} {s:Shared} {a L:Addr} {oe:Obj} {F:List Addr} {vs:Array Value} {head:Value} {hn:Bool} (S:St G.b₀ (sp A (sp (au X ρ us) R)) s.heap) (hF:∀Z m,A.p Z m->∀b ∈ F,∃o,m b=some o) (ha:a ∈ F)
  (hL:X.top.frame=some L) (he:s.heap.get? a=some oe) (hc:oe.cls=.ref G.bad) (hd:oe.data=.fields vs) (h0:∃y,vs[0]?=some y) (h1:1<vs.size) {Q:Unit->Shared->Prop}
  (k:∀h',St G.b₀ (sp (xr G.toWld (.ref a)) (sp (au X ρ us) R)) h'->Q () {s with heap:=h'}):
  wpAny (model G.prog G.w) X.A (do let x ←frameOf X.top;let pl ←entryPlaceOf L hn;let b ←EntryCells.newEntry head x .none (rawInt L) .none pl;setField (.ref a) 1 b) Q E s:=by
 obtain⟨outer,hfr,hall⟩:=X.fr
 obtain⟨Z,m,⟨x,y,d,l1,l2,xA,z,w,d',l3,l4,⟨fr,ow,d'',l5,l6,xF,xO⟩,xR⟩,r1,r2,r3⟩:=S
 have fat:∀D,(D ∈ X.Ds∨D ∈ X.Os.map (·.1))->∃o,fr D=some o∧∀vs,o.data≠.fields vs:=fun D hD=>by
  rcases hD with hD|hD
  ·obtain⟨o,f,e,es,ep,hd,zz⟩:=xF.d D hD
   exact⟨o,e,fun vs q=>by rw[hd]at q;cases q⟩
  ·obtain⟨q,hq,rfl⟩:=mem_map.mp hD
   obtain⟨sl,e⟩:=xF.o q hq
   exact⟨_,e,X.odat q hq⟩
 have up:∀b o,fr b=some o->m b=some o:=fun b o e=>l2 _ _ (l3 _ _ (l5 _ _ e))
 let N:List Addr:=X.Ds++X.Os.map (·.1)
 have hN:∀{D},D ∈ N->D ∈ X.Ds∨D ∈ X.Os.map (·.1):=fun h=>mem_append.mp h
 have hid:∀{b o},(hideAll s.heap (F++N)).get? b=some o->s.heap.get? b=some o:=fun q=>of_hideAll _ q
 have hidn:∀{b},b ∈ F++N->(hideAll s.heap (F++N)).get? b=none:=fun q=>hideAll_none _ q
 have FF:∀{l:List PySem.Env},(∀e ∈ l,e.scope.kind≠.module∧∃L,e.frame=some L∧(L ∈ X.Ds∨L ∈ X.Os.map (·.1)))->s.heap.FunFrames (hideAll s.heap (F++N)) l:=by
  intro l
  induction l with
  | nil=>exact fun zz=>trivial
  | cons e l ih=>
   intro H
   obtain⟨k1,L',hf,hL'⟩:=H e mem_cons_self
   obtain⟨o,e1,e2⟩:=fat L' hL'
   exact⟨k1,⟨L',o,hf,hidn (mem_append_right _ (mem_append.mpr hL')),(r3 _ _ (up _ _ e1)).1,e2⟩,ih fun e' he'=>H e' (mem_cons_of_mem _ he')⟩
 obtain⟨y0,h0⟩:=h0
 have xF':=hF Z x xA
 refine wpAny_entryW (base:=hideAll s.heap (F++N)) (a0:=y0) hfr (FF hall) hL he (fun b o q=>hid q) (hidn (mem_append_left _ ha)) hd h1 h0 fun h' hN'=>?_
 obtain⟨n1,zz,⟨o',us',t,ot,ts,g1,⟨g2,g3⟩,g4,g5,g6,g7,g8,g9,g10⟩,n4⟩:=hN'
 -- what lies off the exception and the frames stays
 have keep:∀b o,b ∉ F->b ∉ N->s.heap.get? b=some o->h'.get? b=some o:=fun b o c1 c2 e=>n1 b o (hideAll_get _ e fun q=>(mem_append.mp q).elim c1 c2)
 have mF:∀b ∈ F,∃o,m b=some o:=fun b hb=>(xF' b hb).imp fun o e=>l1 _ _ e
 have mN:∀b ∈ N,∃o,m b=some o:=fun b hb=>by
  obtain⟨o,e,zz⟩:=fat b (hN hb)
  exact⟨o,up b o e⟩
 have yF:∀b ∈ F,y b=none:=fun b hb=>by
  obtain⟨o,e⟩:=xF' b hb
  exact jQ d e
 have tN:t ∉ N:=fun c=>by
  obtain⟨o,e,q⟩:=fat t (hN c)
  obtain⟨sl,e⟩:=n4 t o (r3 _ _ (up _ _ e)).1 q
  cases g8.symm.trans e
  exact q ts g9
 have tO:t ∈ F∨s.heap.get? t=none:=by
  by_cases c:t ∈ F
  ·exact .inl c
  ·refine .inr ?_
   cases q:s.heap.get? t with
   | none=>rfl
   | some o=>rw[hideAll_get _ q fun c'=>(mem_append.mp c').elim c tN]at g6;cases g6
 have yt:y t=none:=tO.elim (yF t) fun e=>b4 (le_trans l2 fun b o q=>(r3 b o q).1) e
 have Zt:Z t=none:=tO.elim (fun c=>by
  obtain⟨o,e⟩:=mF t c
  exact(r3 t o e).2) fun e=>b4 r2 e
 have Za:Z a=none:=by
  obtain⟨o,e⟩:=mF a ha
  exact(r3 a o e).2
 let fr':PH:=fun b=>if N.contains b then h'.get? b else fr b
 have fr'0:∀b,y b=none->fr' b=none:=fun b e=>by
  by_cases c:N.contains b=true
  ·obtain⟨o,q,zz⟩:=fat b (hN (contains_iff_mem.mp c))
   rw[l3 _ _ (l5 _ _ q)]at e
   cases e
  ·exact(if_neg c).trans (b4 (le_trans l5 l3) e)
 have wN:∀v:PH,fr.dj v->∀b o,v b=some o->b ∉ N:=fun v dv b o e c=>by
  obtain⟨o',q,zz⟩:=fat b (hN c)
  rw[jQ dv q]at e
  exact no e
 have fdj:∀v:PH,fr.dj v->fr'.dj v:=fun v dv b=>by
  by_cases c:N.contains b=true
  ·obtain⟨o,q,zz⟩:=fat b (hN (contains_iff_mem.mp c))
   exact .inr (jQ dv q)
  ·exact(dv b).imp_left fun e=>(if_neg c).trans e
 have fdw:=fdj w (fc d' l5)
 have dOw:(fr'.un ow).dj w:=ti fdw (fc d' l6)
 have dE:(PH.one a o' |>.un (PH.one t ot)).dj ((fr'.un ow).un w):=ti (ei (un_none.mpr ⟨un_none.mpr ⟨fr'0 a (yF a ha),b4 (le_trans l6 l3) (yF a ha)⟩,b4 l4 (yF a ha)⟩)) (ei (un_none.mpr ⟨un_none.mpr ⟨fr'0 t yt,b4 (le_trans l6 l3) yt⟩,b4 l4 yt⟩))
 have yk:∀b o,b ∉ N->y b=some o->h'.get? b=some o∧Z b=none:=fun b o c e=>by
  have q:=r3 b o (l2 _ _ e)
  exact⟨keep b o (fun c'=>by rw[yF b c']at e;cases e) c q.1,q.2⟩
 refine k h' ⟨Z,(PH.one a o' |>.un (PH.one t ot)).un ((fr'.un ow).un w),⟨_,_,dE,kL,jd dE,⟨a,t,rfl,o',us',ot,ts,_,pV (b8 a o'),g2.trans hc,g4,⟨_,g3⟩,g5,jd (ei (dN (Ne.symm g7))) t ot (b8 t ot),g9,g10,g7⟩,_,w,dOw,kL,jd dOw,⟨fr',ow,fdj ow d'',kL,jd (fdj ow d''),qv xF fun b o zz e q=>?_,xO⟩,xR⟩,r1,fun b o e=>keep b o (fun c=>?_) (fun c=>?_) (r2 b o e),?_⟩
 ·by_cases c:N.contains b=true
  ·obtain⟨sl,w⟩:=n4 b o (r3 _ _ (up _ _ e)).1 q
   exact⟨sl,(if_pos c).trans w⟩
  ·exact⟨o.slots,(if_neg c).trans e⟩
 ·obtain⟨o',e'⟩:=mF b c
  rw[(r3 b o' e').2]at e
  exact no e
 ·obtain⟨o',e'⟩:=mN b c
  rw[(r3 b o' e').2]at e
  exact no e
 ·have le:((PH.one a o' |>.un (PH.one t ot)).un ((fr'.un ow).un w)).le fun b=>if Z b=none then h'.get? b else none:=by
   refine jP (jP ?_ ?_) (jP (jP ?_ ?_) ?_)
   ·intro b o e
    by_cases c:b=a
    ·subst c;rw[b8]at e;cases e;exact(if_pos Za).trans g1
    ·rw[dN c]at e;exact no e
   ·intro b o e
    by_cases c:b=t
    ·subst c;rw[b8]at e;cases e;exact(if_pos Zt).trans g8
    ·rw[dN c]at e;exact no e
   ·intro b o e
    by_cases c:N.contains b=true
    ·obtain⟨o2,q⟩:=mN b (contains_iff_mem.mp c)
     exact(if_pos (r3 _ _ q).2).trans ((if_pos c).symm.trans e)
    ·obtain⟨q1,q2⟩:=yk b o (fun q=>c (contains_iff_mem.mpr q)) (l3 _ _ (l5 _ _ ((if_neg c).symm.trans e)))
     exact(if_pos q2).trans q1
   ·intro b o e
    obtain⟨q1,q2⟩:=yk b o (wN ow d'' b o e) (l3 _ _ (l6 _ _ e))
    exact(if_pos q2).trans q1
   ·intro b o e
    obtain⟨q1,q2⟩:=yk b o (wN w (fc d' l5) b o e) (l4 _ _ e)
    exact(if_pos q2).trans q1
  intro b o e
  have q:=le b o e
  by_cases c:Z b=none
  ·exact⟨(if_pos c).symm.trans q,c⟩
  ·cases (if_neg c).symm.trans q
end
section
variable {G:Wld} {b₀ h h':Heap} {R:a7} {u:Value} {M:Model} {A:Around} {E:Value->Shared->Prop}
theorem sF {a:Addr} {o:Obj} {m:PH} (e:m a=some o):(PH.one a o).le m:=fun b o' q=>by
 by_cases c:b=a
 ·subst c;rw[b8]at q;cases q;exact e
 ·rw[dN c]at q;exact no q
theorem xu {a t:Addr} {o ot:Obj} {Z m:PH} (e:m a=some o) (e':m t=some ot) (n:t≠a):(sp (pt t ot) (pt a o)).p Z m:=
 ⟨PH.one t ot,PH.one a o,ei (dN n),sF e',sF e,b8 t ot,b8 a o⟩
theorem pd {s:Shared} {y:Value} (S:St b₀ (sp (xr G u) R) s.heap) {Q:Unit->Shared->Prop} (k:∀h',St b₀ (sp (xr G u) R) h'->Q () {s with heap:=h'}):
  E7 fun a t o vs ot ts x=>Lb (u=.ref a) (s.heap.get? a=some o) (o.cls=.ref G.bad) (o.data=.fields vs) (∃y,vs[0]?=some y) (vs[1]?=some (.ref t)) (s.heap.get? t=some ot) (ot.data=.fields ts) (ts[3]?=some x) (wpAny M A (setField (.ref t) 3 y) Q E s):=by
 obtain⟨Z,m,⟨x,w,d,l1,l2,⟨a,t,rfl,o,vs,ot,ts,x3,h1,h2,h3,h4,h5,h6,h7,h8,h9⟩,r⟩,T⟩:=S
 have S:St b₀ (sp (pt t ot) (sp (pt a o) R)) s.heap:=⟨Z,m,bM (A:=pt t ot) (B:=pt a o) Z m ⟨x,w,d,l1,l2,xu h1 h6 h9,r⟩,T⟩
 have e1:=S.at
 refine⟨a,t,o,vs,ot,ts,x3,rfl,(S.imp aC).at,h2,h3,h4,h5,e1,h7,h8,wpAny_setField e1 h7 (Array.getElem?_eq_some_iff.mp h8).1 (k _ ?_)⟩
 have e2:=Obj.data_mapFields h7 (·.setIfInBounds 3 y)
 refine(S.upd (fun b hb=>Heap.get?_update_other _ _ (Ne.symm hb)) (Heap.get?_update_self _ e1 (Obj.isFreed_of_fields e2))).imp (aj a8 (al ?_ ag))
 rintro Z m ⟨x,w,zz,l1,l2,p,q⟩
 exact⟨a,t,rfl,o,vs,_,_,y,l2 _ _ q,h2,h3,h4,h5,l1 _ _ p,e2,by rw[Array.getElem?_setIfInBounds_self_of_lt (Array.getElem?_eq_some_iff.mp h8).1],h9⟩
theorem pe {s:Shared} {fl:Option Addr} (S:St b₀ (sp (xr G u) R) s.heap) {Q:Unit->Shared->Prop} (k:∀h',St b₀ (sp (xr G u) R) h'->Q () {s with heap:=h'}):wpAny M A (setFlight u fl) Q E s:=by
 obtain⟨a,t,o,vs,ot,ts,x,rfl,h1,zz,h3,zz,h5,zz,zz,zz,f⟩:=pd (M:=M) (A:=A) (E:=E) (y:=fl.elim .none fun f=>rawInt f) S k
 unfold setFlight
 refine wpAny_bind (wpAny_field h1 h3 h5 ?_)
 rw[if_pos (show(Value.ref t != Value.none)=true from rfl)]
 exact f
theorem Ag {s:Shared} {env:PySem.Env} (S:St b₀ (sp (xr G u) R) s.heap) (k:∀h',St b₀ (sp (xr G u) R) h'->E u {s with heap:=h'}):cameBackBy M A env E u s:=by
 obtain⟨a,t,o,vs,ot,ts,x,rfl,h1,zz,h3,zz,h5,zz⟩:=pd (M:=M) (A:=A) (E:=E) (y:=.none) (Q:=fun zz zz=>True) S fun zz zz=>trivial
 unfold cameBackBy
 refine wpAny_bind (wpAny_field h1 h3 h5 ?_)
 rw[if_neg (show ¬ (Value.ref t==Value.none)=true from fun h=>nomatch h)]
 exact pe S k
end
section
variable {G:bB} {X:Amb G} {ρ:Env} {us:List Value} {R:a7} {E:Value->Shared->Prop} {u:Value} {s:Shared}
theorem pf (ht:X.env=X.top) (S:St G.b₀ (sp (aH G.toWld .exc u) (sp (au X ρ us) R)) s.heap) {Q:Unit->Shared->Prop} (k:∀h',St G.b₀ (sp (xr G.toWld u) (sp (au X ρ us) R)) h'->Q () {s with heap:=h'}):wpAny (model G.prog G.w) X.A (noteFrame u X.env) Q E s:=by
 rw[ht]
 obtain⟨L,hL⟩:∃L,X.top.frame=some L:=by
  obtain⟨zz,zz,hall⟩:=X.fr
  obtain⟨zz,L,hL,zz⟩:=hall X.top mem_cons_self
  exact⟨L,hL⟩
 unfold noteFrame
 rw[hL]
 obtain⟨Z,m,⟨x,y,d,l1,l2,⟨a,o,vs,rfl,h1,h2,h3,h4,h5⟩,r⟩,T⟩:=S
 have ha:=(T.3 a o (l1 a o h1)).1
 rcases h5 with h5|⟨t,ot,ts,x3,h5,h6,h7,h8,h9⟩
 ·refine wpAny_bind (wpAny_field ha h3 h5 ?_)
  rw[if_neg (show ¬ (Value.none != Value.none)=true from fun h=>nomatch h)]
  have S:St G.b₀ (sp (pt a o) (sp (au X ρ us) R)) s.heap:=⟨Z,m,⟨x,y,d,l1,l2,h1,r⟩,T⟩
  exact lL (F:=[a]) S (fun Z m q b hb=>by cases mem_singleton.mp hb;exact⟨o,q⟩) (mem_singleton.mpr rfl) hL ha h2 h3 h4 (Array.getElem?_eq_some_iff.mp h5).1 k
 ·have S:St G.b₀ (sp (xr G.toWld (.ref a)) (sp (au X ρ us) R)) s.heap:=⟨Z,m,⟨x,y,d,l1,l2,⟨a,t,rfl,o,vs,ot,ts,x3,h1,h2,h3,h4,h5,h6,h7,h8,h9⟩,r⟩,T⟩
  refine wpAny_bind (wpAny_field ha h3 h5 ?_)
  rw[if_pos (show(Value.ref t != Value.none)=true from rfl)]
  refine wpAny_bind (wpAny_field (T.3 t ot (l1 t ot h6)).1 h7 h8 ?_)
  by_cases q:(x3==rawInt L)=true
  ·rw[if_pos q]
   exact wpAny_pure (k s.heap S)
  ·rw[if_neg q]
   refine wpAny_bind ?_
   let C:Unit->Shared->Prop:=fun zz s'=>wpAny (model G.prog G.w) X.A (do let x ←frameOf X.top;let pl ←entryPlaceOf L (Value.ref t != Value.none);let b ←EntryCells.newEntry (.ref t) x .none (rawInt L) .none pl;setField (.ref a) 1 b) Q E s'
   have K:∀h',St G.b₀ (sp (xr G.toWld (.ref a)) (sp (au X ρ us) R)) h'->C () {s with heap:=h'}:=fun h' S'=>by
    obtain⟨Z,m,⟨x,y,d,l1,l2,⟨a',t',e,o,vs,ot,ts,x3,h1,h2,h3,h4,h5,h6,h7,h8,h9⟩,r⟩,T⟩:=S'
    cases e
    have S2:St G.b₀ (sp (sp (pt t' ot) (pt a o)) (sp (au X ρ us) R)) h':=⟨Z,m,⟨x,y,d,l1,l2,xu h1 h6 h9,r⟩,T⟩
    refine lL (s:={s with heap:=h'}) (F:=[a,t']) S2 (fun Z m q b hb=>?_) mem_cons_self hL (T.3 a o (l1 a o h1)).1 h2 h3 h4 (Array.getElem?_eq_some_iff.mp h5).1 k
    obtain⟨zz,zz,zz,g1,g2,g3,g4⟩:=q
    rcases mem_cons.mp hb with rfl|hb
    ·exact⟨o,g2 _ _ g4⟩
    ·cases mem_singleton.mp hb;exact⟨ot,g1 _ _ g3⟩
   obtain⟨a',t',o',vs',zz,zz,zz,e,e1,zz,e3,zz,e5,zz,zz,zz,f⟩:=pd (M:=model G.prog G.w) (A:=X.A) (E:=E) (y:=.none) (Q:=C) S K
   cases e
   cases ha.symm.trans e1
   cases h3.symm.trans e3
   cases h5.symm.trans e5
   exact f
theorem xw (ht:X.env=X.top) (S:St G.b₀ (sp (aH G.toWld .exc u) (sp (au X ρ us) R)) s.heap) {Q:Unit->Shared->Prop} (k:∀h',St G.b₀ (sp (aH G.toWld .exc u) (sp (au X ρ us) R)) h'->Q () {s with heap:=h'}):wpAny (model G.prog G.w) X.A (leaving X.env u) Q E s:=by
 unfold leaving
 exact wpAny_bind (pf ht S fun h' S'=>pe (s:={s with heap:=h'}) S' fun h'' S''=>k h'' (S''.imp (al xt ag)))
end
theorem jp:∀{l:List PV} {i:Nat},i<l.length->l.drop i=aK l i::l.drop (i+1)
 | [],_,h=>absurd h (not_lt_zero _)
 | _::_,0,_=>rfl
 | _::r,i+1,h=>jp (l:=r) (lt_of_succ_lt_succ h)
section
variable {G:bB} {X:Amb G} {r:Ev}
theorem qw {tgt:Expr} {I:Value} {l:List PV} {F:Nat->a7} {D R:a7} {f:M Fl} {body:List Stmt} {s:Shared} {ρ:Env} {us:List Value} {P:Fl->Env->Prop} {Q:Flow->Shared->Prop} {E:Value->Shared->Prop} (it:u9 G tgt I l F D) (ht:X.env=X.top) (Hb:SX X (execs body X.env) f)
  (h:a9 (cq X.c tgt) f l ρ P) (S:St G.b₀ (sp (F 0) (sp (au X ρ us) R)) s.heap)
  (k:∀fl ρ' us' u h k,P fl ρ'->Keep X us us'->St G.b₀ (sp (aH G.toWld (FU fl) u) (sp (au X ρ' us') (sp D R))) h->FV Q E fl u {s with heap:=h,toks:=k}):
  codeAny (model G.prog G.w) X.A (.forLoop tgt I body [] X.env) (fun r s'=>match r with|.ok f=>Q f s'|.error e=>cameBackBy (model G.prog G.w) X.A X.env E e s') s:=by
 refine codeAny_forLoop_any (fun j s'=>E5 fun i ρ₁ us₁ h₁ k₁=>A6 (j+i=l.length+1) (i<=l.length) (s'={s with heap:=h₁,toks:=k₁}) (Keep X us us₁) (St G.b₀ (sp (F i) (sp (au X ρ₁ us₁) R)) h₁) (a9 (cq X.c tgt) f (l.drop i) ρ₁ P)) ?_ (l.length+1)
  ⟨0,ρ,us,s.heap,s.toks,rfl,zero_le _,rfl,.refl us,S,h⟩
 rintro j zz ⟨i,ρ₁,us₁,h₁,k₁,hj,hi,rfl,kp,S₁,e⟩
 rcases lt_or_ge i l.length with hi'|hi'
 ·refine wpAny_mono (it.item X.A i _ _ ?Q _ X.hd hi' S₁ ?c) ?r fun zz zz x=>x
  case r=>
   intro r s₄ hr
   rcases r with _|v
   ·exact hr.elim
   ·exact hr
  intro v h₂ k₂ S₂
  rw[jp hi']at e
  obtain⟨ρ₂,hb,e⟩:=aY e
  refine lC (s:={s with heap:=h₂,toks:=k₂}) hb (S₂.imp (al ag aC)) fun us₃ h₃ k₃ kp₃ S₃=>?_
  refine Hb {s with heap:=h₃,toks:=k₃} ρ₂ us₃ _ _ _ _ e S₃ fun fl ρ₄ us₄ u h₄ k₄ hp kp₄ S₄=>?_
  have kp:=(kp.trans kp₃).trans kp₄
  have nx:a9 (cq X.c tgt) f (l.drop (i+1)) ρ₄ P->∃m,m<j∧(E5 fun i ρ₁ us₁ h₁ k₁=>A6 (m+i=l.length+1) (i<=l.length) (({s with heap:=h₄,toks:=k₄}:Shared)={s with heap:=h₁,toks:=k₁}) (Keep X us us₁) (St G.b₀ (sp (F i) (sp (au X ρ₁ us₁) R)) h₁) (a9 (cq X.c tgt) f (l.drop i) ρ₁ P)):=
   fun e=>⟨j-1,by exact(aQ 0x110052201017112041000437) hj hi,i+1,ρ₄,us₄,h₄,k₄,by exact(aQ 0x11204111041100543201017112041000437) hj hi,hi',rfl,kp,S₄.snd.imp aC,e⟩
  have S₅:=S₄.imp (al ag (al ag (al (it.rest _) ag)))
  rcases fl with _|_|_|_|v
  ·exact nx hp
  ·exact k .nxt ρ₄ us₄ u h₄ k₄ hp kp S₅
  ·exact nx hp
  ·exact pf (s:={s with heap:=h₄,toks:=k₄}) ht S₅ fun h' S'=>Ag (s:={s with heap:=h',toks:=k₄}) S' fun h'' S''=>k .exc ρ₄ us₄ u h'' k₄ hp kp (S''.imp (al xt ag))
  ·exact k (.ret v) ρ₄ us₄ u h₄ k₄ hp kp S₅
 ·cases Nat.le_antisymm hi hi'
  rw[List.drop_length]at e
  exact it.done X.A _ _ _ _ X.hd S₁ fun h₂ k₂ S₂=>wpAny_execs_nil (k .nxt ρ₁ us₁ .none h₂ k₂ e kp (St.no (S₂.imp aC)))
theorem Ah (O:GlobOk G) (H:∀e,SE X (eval e X.env) (r.e X.c e)) (ht:X.env=X.top) {tgt it:Expr} {body:List Stmt} {f:M Fl} {pos:Pos} (hf:∀x,foldedSetIterable it X.env x=pure x) (Hb:SX X (execs body X.env) f):
  SX X (exec (.For tgt it body [] pos) X.env) fun ρ P=>wD G.T r X.c tgt it ρ fun l ρ=>a9 (cq X.c tgt) f l ρ P:=fun s ρ us P R Q E h S k=>
 wpAny_For (xm O H h S fun l ρ' I F D h₁ k₁ it hp S₁=>qw (s:={s with heap:=h₁,toks:=k₁}) it ht Hb hp S₁ fun fl ρ₂ us₂ u h₂ k₂ hp kp S₂=>k fl ρ₂ us₂ u h₂ k₂ hp kp (S₂.imp (al ag (al ag iI)))) hf
end
noncomputable def Amb.pin {G:bB} (X:Amb G) (i:Nat):Amb G:={X with pins:=i::X.pins}
section
variable {G:bB} {X:Amb G} {r:Ev} {ρ ρ':Env} {us us':List Value} {R:a7} {i:Nat}
theorem tD (hi:mH (aK ρ i)=true):cM (au X ρ us) (au (X.pin i) ρ us):=
 al (A:=wP X ρ us) (C:=wP (X.pin i) ρ us) (fun Z m H=>⟨H.d,H.c,H.o,fun j v u hv hu hj=>H.v j v u hv hu (hj.elim .inl fun hj=>(mem_cons.mp hj).elim (fun e=>.inl (by rw[e];exact hi)) .inr),H.l⟩) ag
theorem ny:cM (au (X.pin i) ρ us) (au X ρ us):=
 al (A:=wP (X.pin i) ρ us) (C:=wP X ρ us) (fun Z m H=>⟨H.d,H.c,H.o,fun j v u hv hu hj=>H.v j v u hv hu (hj.imp_right (mem_cons_of_mem i)),H.l⟩) ag
theorem tE {v:PV} {u:Value} (hp:i ∈ X.pins) (hu:us[i]?=some u) (hi:i<ρ.length):cM (sp (aH G.toWld v u) (au X ρ us)) (au X (aS ρ i v) us):=by
 refine aj aC (al (fun Z m H=>⟨H.d,H.c,H.o,fun j w z hw hz hj=>H.v j w z hw hz ?_,H.l⟩) ?_)
 ·rcases hj with hj|hj
  ·rw[gE hi]at hj
   by_cases c:i=j
   ·exact .inr (c▸hp)
   ·exact .inl (by rw[if_neg c]at hj;exact hj)
  ·exact .inr hj
 ·have:=lB (G:=G) (ρ:=ρ) (us:=us) (v:=v) (u:=u) hi
  rw[pZ hu]at this
  exact this
theorem pg {q:PV} {u:Value}:cM (sp (aH G.toWld q u) (sp (foc X (i,[]) ρ us q u) R)) (sp (aH G.toWld q u) (sp (au X (aS ρ i .LZ) us) R)):=
 al ag (al (aj (B:=sp (aH G.toWld .LZ u) (foc X (i,[]) ρ us q u)) (fun Z m h=>⟨fun zz=>none,m,aE,ay,le_refl m,trivial,h⟩) (cP (p:=(i,[])) (q':=.LZ) (.inr rfl))) ag)
theorem Ai (ht:X.env=X.top) {tgt it:Expr} {body:List Stmt} {f:M Fl} {pos:Pos} {l:List PV} (hq:ib X.c it ρ=some ((i,[]),l)) (Hb:SX (X.pin i) (execs body X.env) f) {s:Shared} {P:Fl->Env->Prop} {Q:Flow->Shared->Prop} {E:Value->Shared->Prop}
  (h:bK (hH tgt&&l.all aL) (a9 (cq (wJ i X.c) tgt) f l (aS ρ i .LZ) fun fl ρ=>match fl,aK ρ i with
   | .nxt,.LZ=>P .nxt (aS ρ i (.lst l))
   | _,_=>eO)) (S:St G.b₀ (sp (au X ρ us) R) s.heap)
  (k:∀fl ρ' us' u h k,P fl ρ'->Keep X us us'->St G.b₀ (sp (aH G.toWld (FU fl) u) (sp (au X ρ' us') R)) h->FV Q E fl u {s with heap:=h,toks:=k}):wpAny (model G.prog G.w) X.A (exec (.For tgt it body [] pos) X.env) Q E s:=by
 refine bH h fun c h=>?_
 refine cz c fun hT c=>?_
 obtain⟨h1,h2⟩:=iL hq
 have hf:∀x,foldedSetIterable it X.env x=pure x:=by
  cases it with
  | Set _ _ _=>exact no h1
  | _=>exact fun zz=>rfl
 have iv:aK ρ i=.lst l:=(gF h2).2.symm
 refine wpAny_For (cj (X:=X.pin i) h1 h2 rfl (S.imp (al (tD (by rw[iv];rfl)) ag)) fun u tk S₁ hu=>?_) hf
 obtain⟨a,vs,kk,rfl,ha,hsz,hc,ho,S₂⟩:=(S₁.imp pg).opn
 refine wpAny_pyIter_list (s:={s with toks:=tk}) ⟨_,ha,rfl,kk,rfl⟩ ?_
 have S₃:=S₂.hpNew (h':=s.heap.push {cls:=.type "list_iterator",data:=.fields #[.ref a,.int 0 0]}) (ne:=[s.heap.objs.size]) (P':=fun h=>h.IsListIter s.heap.objs.size a 0) (fun zz zz e=>Heap.get?_push_of_some _ e) (fun b hb=>by cases mem_singleton.mp hb;exact bG _) (jm (Heap.get?_push_size _ rfl)) fun g hg=>⟨_,(hg _ (mem_singleton.mpr rfl)).trans (Heap.get?_push_size _ rfl),rfl,rfl⟩
 refine qw (X:=X.pin i) (s:={s with toks:=tk,heap:=_}) (R:=R) (qm (D:=pt a (aX vs kk)) St.at hT hsz c) ht Hb h (S₃.imp (aj (al ag a8) a8)) fun fl ρ₁ us₁ u h₁ k₁ hp kp S₄=>?_
 have e:fl=.nxt∧aK ρ₁ i=.LZ∧P .nxt (aS ρ₁ i (.lst l)):=by
  rcases fl with _|_<;>first|exact hp.elim|skip
  cases q:aK ρ₁ i<;>rw[q]at hp<;>first|exact hp.elim|exact⟨rfl,rfl,hp⟩
 obtain⟨rfl,zz,hp⟩:=e
 obtain⟨e1,e2⟩:=tz S₄.snd
 have hu1:us₁[i]?=some (.ref a):=(kp.2 i (.inr mem_cons_self)).trans (hu rfl)
 have hi:i<ρ₁.length:=by rw[e2];exact(List.getElem?_eq_some_iff.mp hu1).1
 refine k .nxt _ us₁ u h₁ k₁ hp ⟨kp.1,fun j hj=>kp.2 j (hj.imp_right (mem_cons_of_mem i))⟩ (S₄.imp (al ag ?_))
 exact aj aC (aj (al (aj (B:=aH G.toWld (.lst l) (.ref a)) (fun Z m H=>⟨a,vs,kk,rfl,hc,ho,H⟩) ag) ag) (aj (B:=sp (aH G.toWld (.lst l) (.ref a)) (sp (au (X.pin i) ρ₁ us₁) R)) ag (aj a8 (al (aj (tE (X:=X.pin i) mem_cons_self hu1 hi) ny) ag))))
end
theorem alook_eq {α:Type} {x:Str}:∀{l:List (Str×α)},bD x l=l.lookup x
 | []=>rfl
 | (y,a)::r=>by
  rw[lookup_cons]
  by_cases c:y=x
  ·rw[show(x==y)=true from beq_iff_eq.mpr c.symm]
   exact if_pos (strEq_iff.mpr c)
  ·rw[show(x==y)=false from beq_eq_false_iff_ne.mpr (Ne.symm c)]
   exact(if_neg fun h=>c (strEq_iff.mp h)).trans alook_eq
theorem fK {env:PySem.Env} {x:Str} {k:NameKind}:∀{names:List (Str×NameKind)},names.lookup x=some k ->
  (names.map fun(n,k)=>if(k==NameKind.free&&env.scope.kind==.function&&env.kindOf n==some .cell)then(n,NameKind.cell)else(n,k)).lookup x=some k∨(k=.free∧(names.map fun(n,k)=>if(k==NameKind.free&&env.scope.kind==.function&&env.kindOf n==some .cell)then(n,NameKind.cell)else(n,k)).lookup x=some .cell)
 | [],h=>nomatch h
 | (n,k')::r,h=>by
  rw[map_cons]
  rw[lookup_cons]at h
  by_cases c:(k'==NameKind.free&&env.scope.kind==.function&&env.kindOf n==some .cell)=true
  ·have e:k'=.free:=beq_iff_eq.mp (bA (bA c).1).1
   rw[show(match (n,k')with|(n,k)=>if(k==NameKind.free&&env.scope.kind==.function&&env.kindOf n==some .cell)=true then(n,NameKind.cell)else(n,k))=(n,.cell)from if_pos c,lookup_cons]
   cases q:x==n with
   | true=>rw[q]at h;cases h;exact .inr ⟨e,rfl⟩
   | false=>rw[q]at h;exact fK h
  ·rw[show(match (n,k')with|(n,k)=>if(k==NameKind.free&&env.scope.kind==.function&&env.kindOf n==some .cell)=true then(n,NameKind.cell)else(n,k))=(n,k')from if_neg c,lookup_cons]
   cases q:x==n with
   | true=>rw[q]at h;cases h;exact .inl rfl
   | false=>rw[q]at h;exact fK h
theorem xx {x:Str}:∀{a b:List Str} {i:Nat},ix x (a++b)=some i->ix x a=some i∨∃j,ix x b=some j∧i=j+a.length
 | [],_,i,h=>.inr ⟨i,h,rfl⟩
 | y::a,b,i,h=>by
  by_cases c:(aM y x&&CT y)=true
  ·exact .inl ((if_pos c).trans ((if_pos c).symm.trans h))
  ·refine bY (((if_neg c).symm.trans h)) fun j g e_2=>?_
   subst e_2
   rcases xx g with g1|⟨k,g1,rfl⟩
   ·exact .inl ((if_neg c).trans (by rw[g1];rfl))
   ·exact .inr ⟨k,g1,rfl⟩
theorem qx {scope:Scope} {y:Str} (h:CT (cO scope y)=true):cO scope y=y∧bD y scope.names=some .free:=by
 unfold cO at h⊢
 cases q:bD y scope.names with
 | none=>rw[q]at h;exact bp h
 | some k=>rw[q]at h;rcases k with _|_<;>first|exact⟨rfl,rfl⟩|exact bp h
theorem tF {scope:Scope} {x:Str}:∀{l:List Str} {i:Nat},ix x (l.map (cO scope))=some i->ix x l=some i∧bD x scope.names=some .free
 | [],_,h=>nomatch h
 | y::l,i,h=>by
  by_cases c:(aM (cO scope y) x&&CT (cO scope y))=true
  ·refine cz c fun c1 c2=>?_
   obtain⟨e1,e2⟩:=qx c2
   rw[e1]at c
   have c1:=strEq_iff.mp c1
   rw[e1]at c1
   exact⟨(if_pos c).trans ((if_pos (by rw[e1];exact c)).symm.trans h),c1▸e2⟩
  ·refine bY (((if_neg c).symm.trans h)) fun j g e_2=>?_
   subst e_2
   obtain⟨h1,h2⟩:=tF g
   refine⟨(if_neg fun d=>c ?_).trans (by rw[h1];rfl),h2⟩
   refine cz d fun d1 d2=>?_
   rw[show cO scope y=y by rw[strEq_iff.mp d1];unfold cO;rw[h2]]
   exact d
noncomputable def ph (cells:List (Str×Addr)):List (Str×NameKind)->List (Str×Addr)->List (Str×Addr)
 | [],acc=>acc
 | (n,k)::r,acc=>ph cells r (if k==.free then(n,(cells.lookup n).getD 0)::acc else acc)
theorem xy {cells acc:List (Str×Addr)} {n:Str} {k:NameKind} {r:List (Str×NameKind)}:ph cells ((n,k)::r) acc=ph cells r (if k==.free then(n,(cells.lookup n).getD 0)::acc else acc):=rfl
theorem ik {env:PySem.Env}:∀{names:List (Str×NameKind)} {acc:List (Str×Addr)},(∀x,(x,NameKind.free) ∈ names->∃c,env.cells.lookup x=some c) ->
  (forIn names acc fun(x:Str×NameKind) (cs:List (Str×Addr))=>(if(x.2==.free)=true then do let a ←cellOf env x.1;pure (ForInStep.yield ((x.1,a)::cs))else pure (ForInStep.yield cs):Sem (ForInStep (List (Str×Addr)))))=pure (ph env.cells names acc)
 | [],acc,_=>rfl
 | (n,k)::r,acc,H=>by
  rw[forIn_cons]
  have hr:=fun x hx=>H x (mem_cons_of_mem _ hx)
  rw[xy]
  by_cases hk:(k==.free)=true
  ·cases beq_iff_eq.mp hk
   obtain⟨c,hc⟩:=H n mem_cons_self
   rw[if_pos hk,if_pos hk,hc]
   unfold cellOf
   rw[hc]
   exact ik hr
  ·rw[if_neg hk,if_neg hk]
   exact ik hr
theorem mM {scope:Scope} {env:PySem.Env} (H:∀x,(x,NameKind.free) ∈ scope.names->∃c,env.cells.lookup x=some c):closureFor scope env=pure (ph env.cells scope.names []):=by
 unfold closureFor
 refine Eq.trans ?_ (congrArg (· >>= pure) (ik (acc:=[]) H))
 rfl
theorem qy {cells:List (Str×Addr)} {x:Str} {c:Addr} (hx:cells.lookup x=some c):∀{names:List (Str×NameKind)} {acc:List (Str×Addr)},((x,NameKind.free) ∈ names∨acc.lookup x=some c)->(ph cells names acc).lookup x=some c
 | [],acc,h=>h.resolve_left fun h=>nomatch h
 | (n,k)::r,acc,h=>by
  rw[xy]
  refine qy hx ?_
  have keep:∀{acc:List (Str×Addr)},acc.lookup x=some c->((n,(cells.lookup n).getD 0)::acc).lookup x=some c:=fun h=>by
   rw[lookup_cons]
   cases q:x==n with
   | true=>rw[←beq_iff_eq.mp q,hx];rfl
   | false=>exact h
  rcases h with h|h
  ·rcases mem_cons.mp h with e|h
   ·cases e
    refine .inr ?_
    rw[if_pos (show(NameKind.free==.free)=true from rfl),lookup_cons,show(x==x)=true from beq_iff_eq.mpr rfl,hx]
    rfl
   ·exact .inl h
  ·refine .inr ?_
   by_cases q:(k==.free)=true
   ·rw[if_pos q];exact keep h
   ·rw[if_neg q];exact h
theorem pi:∀{l:List Str} {i j:Nat} {x:Str},bV l=true->l[i]?=some x->l[j]?=some x->i=j
 | [],_,_,_,_,h,_=>nomatch h
 | y::l,i,j,x,d,hi,hj=>by
  obtain⟨d1,d2⟩:=d4 d
  rcases i with _|i
  ·cases hi
   rcases j with _|j
   ·rfl
   ·exact absurd (mem_of_getElem? (show l[j]?=some _ from hj)) d1
  ·rcases j with _|j
   ·cases hj;exact absurd (mem_of_getElem? (show l[i]?=some _ from hi)) d1
   ·exact congrArg Nat.succ (pi d2 hi hj)
theorem Aj {scope:Scope} {x:Str} (h:x ∈ bU scope):(x,NameKind.local) ∈ scope.names:=by
 obtain⟨⟨y,k⟩,hm,e⟩:=mem_filterMap.mp h
 cases k with
 | «local»=>
  by_cases c:aM y (Str.ofString ".0")=true
  ·cases (if_pos c).symm.trans e
  ·cases (if_neg c).symm.trans e;exact hm
 | _=>exact no e
structure qz {G:bB} (X:Amb G) (scope:Scope) (C:Addr) (cenv:PySem.Env):Prop where
 ok:zK scope X.c=true
 nD:C ∉ X.Ds
 nc:C ∉ X.cs
 nO:∀q ∈ X.Os,q.1≠C
 sc:cenv.scope=relabel scope X.env
 lc:cenv.locals=C
 gl:cenv.globals=X.env.globals
 cl:cenv.cells=ph X.env.cells scope.names []
 bu:cenv.builtins=X.env.builtins
noncomputable def fj {G:bB} (X:Amb G) (scope:Scope) (C:Addr):List (Str×Loc):=(bU scope).map (fun x=>(x,Loc.loc C x))++X.vars.map fun v=>(cO scope v.1,v.2)
section
variable {G:bB} {X:Amb G} {scope:Scope} {C:Addr} {cenv:PySem.Env}
theorem gq {c:bF} (h:zK scope c=true):A6 (scope.kind=.function) (bV (bU scope)=true) (∀x ∈ bU scope,bk x=true) (∀y ∈ scope.names,y.2=.local->scope.names.lookup y.1=some .local) (∀y ∈ scope.names,y.2≠.cell)
  (∀x,(x,NameKind.free) ∈ scope.names->(∃i,ix x c.names=some i)∧(bD x c.sc=some .cell∨bD x c.sc=some .free)):=by
 refine cz h fun h h4=>?_
 refine cz h fun h h3=>?_
 refine cz h fun h1 h2=>?_
 have h4:=all_eq_true.mp h4
 refine⟨?_,h2,all_eq_true.mp h3,fun y hy e=>?_,fun y hy e=>?_,fun x hx=>?_⟩
 ·generalize scope.kind=k at h1
  rcases k with _|_<;>first|rfl|exact bp h1
 ·have q:=h4 y hy
  obtain⟨y,k⟩:=y
  cases (show k=_ from e)
  rw[←alook_eq]
  change Id _ (bD y scope.names)=true at q
  cases w:bD y scope.names with
  | none=>rw[w]at q;exact bp q
  | some k=>rw[w]at q;rcases k with _|_<;>first|rfl|exact bp q
 ·have q:=h4 y hy
  obtain⟨y,k⟩:=y
  cases (show k=_ from e)
  exact bp q
 ·refine cz (h4 _ hx) fun q1 q2=>?_
  refine⟨Option.isSome_iff_exists.mp q1,?_⟩
  change Id _ (bD x c.sc)=true at q2
  cases w:bD x c.sc with
  | none=>rw[w]at q2;exact bp q2
  | some k=>rw[w]at q2;rcases k with _|_<;>first|exact .inl rfl|exact .inr rfl|exact bp q2
theorem nA {x:Str} {i:Nat} {l:Loc} (hi:ix x X.names=some i) (hv:X.vars[i]?=some (x,l)) (hk:bD x X.sc=some .cell∨bD x X.sc=some .free):∃c,l=.cel c∧X.env.cells.lookup x=some c:=by
 have A:=X.at_ i x l hi hv
 cases l with
 | cel c=>exact⟨c,rfl,A.1⟩
 | loc D y=>
  obtain⟨zz,zz,e⟩:=A
  rcases hk with h|h<;>rcases X.gl x _ h with g|g
  ·cases e.symm.trans g
  ·cases g.1
  ·cases e.symm.trans g
  ·cases e.symm.trans g.2
theorem gr {i:Nat} {v:Str×Loc} (h:(fj X scope C)[i]?=some v):(i<(bU scope).length∧(bU scope)[i]?=some v.1∧v.2=.loc C v.1)∨((bU scope).length<=i∧∃w,X.vars[i-(bU scope).length]?=some w∧v=(cO scope w.1,w.2)):=by
 unfold fj at h
 rcases lt_or_ge i (bU scope).length with c|c
 ·rw[getElem?_append_left (by rw[length_map];exact c),getElem?_map]at h
  refine bY h fun x hx e_2=>?_
  subst e_2
  exact .inl ⟨c,hx,rfl⟩
 ·rw[getElem?_append_right (by rw[length_map];exact c),getElem?_map,length_map]at h
  refine bY h fun w hw e_2=>?_
  subst e_2
  exact .inr ⟨c,w,hw,rfl⟩
theorem jX:(fj X scope C).map (·.1)=bU scope++X.names.map (cO scope):=by
 unfold fj Amb.names
 rw[map_append,map_map,map_map,map_map]
 exact congrArg (·++_) (map_id _)
theorem xz (H:qz X scope C cenv) {i:Nat} {x:Str} {l:Loc} (hi:ix x ((fj X scope C).map (·.1))=some i) (hv:(fj X scope C)[i]?=some (x,l)):At cenv x l:=by
 obtain⟨k1,k2,k3,k4,k5,k6⟩:=gq H.ok
 rw[jX]at hi
 have kind:∀{k},scope.names.lookup x=some k->cenv.kindOf x=some k∨(k=.free∧cenv.kindOf x=some .cell):=fun h=>by
  unfold Env.kindOf
  rw[H.sc]
  exact fK h
 rcases gr hv with⟨zz,h1,h2⟩|⟨h1,w,h2,h3⟩
 ·cases (show l=.loc C x from h2)
  exact⟨H.lc.symm,rfl,(kind (k4 _ (Aj (mem_of_getElem? h1)) rfl)).resolve_right fun h=>nomatch h.1⟩
 ·cases h3
  rcases xx hi with h|⟨j,h,rfl⟩
  ·exact absurd (List.getElem?_eq_some_iff.mp (jR h)).1 (Nat.not_lt_of_le h1)
  ·obtain⟨g1,g2⟩:=tF h
   rw[add_sub_cancel]at h2
   obtain⟨y,l⟩:=w
   have e:cO scope y=y:=by
    have:=jR g1
    unfold Amb.names at this
    rw[getElem?_map,h2]at this
    exact(Option.some.inj this).symm
   rw[show cO scope (y,l).1=y from e]at g1 g2 kind⊢
   rw[alook_eq]at g2
   have mem:(y,NameKind.free) ∈ scope.names:=by
    have:∀{l:List (Str×NameKind)},l.lookup y=some .free->(y,NameKind.free) ∈ l:=by
     intro l
     induction l with
     | nil=>exact fun h=>nomatch h
     | cons a r ih=>
      obtain⟨n,k⟩:=a
      intro h
      rw[lookup_cons]at h
      cases q:y==n with
      | true=>rw[q]at h;cases h;rw[beq_iff_eq.mp q];exact mem_cons_self
      | false=>rw[q]at h;exact mem_cons_of_mem _ (ih h)
    exact this g2
   obtain⟨c,rfl,hc⟩:=nA g1 h2 (k6 y mem).2
   refine⟨?_,(kind g2).elim .inr fun h=>.inl h.2⟩
   rw[H.cl]
   exact qy hc (.inl mem)
noncomputable def jq (X:Amb G) (H:qz X scope C cenv):Amb G where
 env:=cenv
 vars:=fj X scope C
 Ds:=C::X.Ds
 cs:=X.cs
 Os:=X.Os
 pins:=X.pins.map (·+(bU scope).length)
 sc:=scope.names
 own:=(bU scope).length
 A:=X.A
 n:=X.n
 top:=X.top
 kind:=by rw[H.sc];exact(gq H.ok).1
 glo:=H.gl.trans X.glo
 bui:=H.bu.trans X.bui
 at_:=fun i x l hi hv=>xz H hi hv
 gl:=fun x k h=>by
  rw[alook_eq]at h
  unfold Env.kindOf
  rw[H.sc]
  exact fK h
 st:=fun i x c hi hv=>by
  rcases gr hv with⟨zz,zz,h⟩|⟨h,zz⟩
  ·cases h
  ·exact absurd hi (Nat.not_lt_of_le h)
 okn:=fun v hv=>by
  rcases mem_append.mp hv with h|h
  ·obtain⟨x,hx,rfl⟩:=mem_map.mp h
   exact(gq H.ok).3 x hx
  ·obtain⟨w,hw,rfl⟩:=mem_map.mp h
   by_cases c:CT (cO scope w.1)=true
   ·rw[show cO scope w.1=w.1 from(qx c).1]
    exact X.okn w hw
   ·show bk (cO scope w.1)=true
    unfold cO at c⊢
    cases q:bD w.1 scope.names with
    | none=>rfl
    | some k=>rcases k with _|_<;>first|rfl|exact X.okn w hw
 inj:=fun i j x y l hi hj=>by
  rcases gr hi with⟨_,h1,h2⟩|⟨h0,w,h1,h2⟩<;>rcases gr hj with⟨zz,g1,g2⟩|⟨g0,z,g1,g2⟩
  ·cases (show l=.loc C x from h2)
   cases (show Loc.loc C x=Loc.loc C y from g2)
   exact pi (gq H.ok).2 h1 g1
  ·cases (show l=.loc C x from h2)
   obtain⟨z1,z2⟩:=z
   cases (show z2=.loc C x from(congrArg snd g2).symm)
   exact absurd (X.dict (z1,.loc C x) (mem_of_getElem? g1) C x rfl) H.nD
  ·cases (show l=.loc C y from g2)
   obtain⟨w1,w2⟩:=w
   cases (show w2=.loc C y from(congrArg snd h2).symm)
   exact absurd (X.dict (w1,.loc C y) (mem_of_getElem? h1) C y rfl) H.nD
  ·cases h2
   obtain⟨z1,z2⟩:=z
   cases g2
   have:=X.inj _ _ w.1 z1 w.2 h1 g1
   exact(aQ 0x20103002050010537200017100017) h0 g0 this
 dict:=fun v hv D x e=>by
  rcases mem_append.mp hv with h|h
  ·obtain⟨x,hx,rfl⟩:=mem_map.mp h
   cases e
   exact mem_cons_self
  ·obtain⟨w,hw,rfl⟩:=mem_map.mp h
   exact mem_cons_of_mem _ (X.dict w hw D x e)
 cell:=fun v hv c e=>by
  rcases mem_append.mp hv with h|h
  ·obtain⟨x,hx,rfl⟩:=mem_map.mp h
   cases e
  ·obtain⟨w,hw,rfl⟩:=mem_map.mp h
   exact X.cell w hw c e
 off:=fun q hq=>⟨fun h=>(mem_cons.mp h).elim (H.nO q hq) (X.off q hq).1,(X.off q hq).2⟩
 odat:=X.odat
 hd:=X.hd
 dp:=X.dp
 un:=X.un
 fr:=by
  obtain⟨outer,h1,h2⟩:=X.fr
  refine⟨outer,h1,fun e he=>?_⟩
  obtain⟨k,L,hL,h⟩:=h2 e he
  exact⟨k,L,hL,h.imp_left (mem_cons_of_mem _)⟩
theorem xB (H:qz X scope C cenv):(jq X H).c=rX scope X.c:=by
 unfold Amb.c Amb.names rX
 exact congrArg (fun l=>(⟨l,_,_,_⟩:bF)) jX
end
theorem qA {b:List PV}:∀{a:List PV} {j:Nat},aK (a++b) (j+a.length)=aK b j
 | [],_=>rfl
 | _::a,j=>qA (a:=a)
theorem nB:∀{n:Nat} {l:List PV} {j:Nat},aK (l.drop n) j=aK l (j+n)
 | 0,_,_=>rfl
 | n+1,[],j=>by rw[drop_nil];cases j<;>rfl
 | n+1,_::l,j=>nB (n:=n) (l:=l)
theorem qB {α:Type} {b:List PV}:∀{a:List α} {j:Nat},j<a.length->aK (a.map (fun zz=>PV.LZ)++b) j=.LZ
 | [],_,h=>absurd h (not_lt_zero _)
 | _::_,0,_=>rfl
 | _::a,j+1,h=>qB (a:=a) (lt_of_succ_lt_succ h)
theorem qC {α:Type} {G:Wld} {ρ:Env} {us:List Value}:∀(a:List α),cM (aq G ρ us) (aq G (a.map (fun zz=>PV.LZ)++ρ) (a.map (fun zz=>Value.none)++us))
 | [],_,_,h=>h
 | _::a,Z,m,h=>⟨.none,_,rfl,fun zz=>none,m,aE,ay,le_refl m,trivial,qC a Z m h⟩
noncomputable abbrev IL (C:Addr):a7:=hp [C] fun h=>∃m,h.Ns C m
section
variable {G:bB} {X:Amb G} {scope:Scope} {C:Addr} {cenv:PySem.Env} {ρ:Env} {us:List Value} {R:a7} {h h':Heap}
theorem DD (H:qz X scope C cenv) {o:Obj} {f:Str->Option Value} (hf:wa o f):cM (sp (pt C o) (au X ρ us)) (au (jq X H) ((bU scope).map (fun zz=>PV.LZ)++ρ) ((bU scope).map (fun zz=>Value.none)++us)):=by
 refine aj a8 (al ?_ (qC _))
 rintro Z m ⟨x,y,zz,l1,l2,a,F⟩
 have F:=F.le l2
 refine⟨fun D hD=>(mem_cons.mp hD).elim (fun e=>⟨o,f,by rw[e];exact l1 _ _ a,hf⟩) (F.d D),F.c,F.o,fun i v u hv hu hi=>?_,?_⟩
 ·rcases gr hv with⟨h1,zz,zz⟩|⟨h1,w,h2,rfl⟩
  ·rcases hi with hi|hi
   ·rw[qB h1]at hi;exact bp hi
   ·obtain⟨j,zz,e⟩:=mem_map.mp hi
    have e:j+(bU scope).length=i:=e
    lia
  ·obtain⟨j,rfl⟩:∃j,i=j+(bU scope).length:=⟨i-(bU scope).length,(Nat.sub_add_cancel h1).symm⟩
   rw[add_sub_cancel]at h2
   rw[getElem?_append_right (by rw[length_map];exact h1),length_map,add_sub_cancel]at hu
   refine F.v j w u h2 hu (hi.imp (fun hi=>?_) fun hi=>?_)
   ·have:=qA (a:=(bU scope).map fun zz=>PV.LZ) (b:=ρ) (j:=j)
    rw[length_map]at this
    exact this▸hi
   ·obtain⟨j',hj,e⟩:=mem_map.mp hi
    have e:j'+(bU scope).length=j+(bU scope).length:=e
    cases Nat.add_right_cancel e
    exact hj
 ·rw[length_append,length_map,F.l]
  show _=(fj X scope C).length
  unfold fj
  rw[length_append,length_map,length_map]
theorem Ak (H:qz X scope C cenv):cM (au (jq X H) ρ us) (sp (IL C) (au X (ρ.drop (bU scope).length) (us.drop (bU scope).length))):=by
 refine aj (al (D:=aq G.toWld (ρ.drop (bU scope).length) (us.drop (bU scope).length)) (C:=sp (IL C) (wP X (ρ.drop (bU scope).length) (us.drop (bU scope).length))) ?_ (gH _)) bM
 intro Z m F
 obtain⟨o,f,e,hf⟩:=F.d C mem_cons_self
 have at':∀{a o},a≠C->m a=some o->(if a=C then none else m a)=some o:=fun h e=>(if_neg h).trans e
 refine⟨PH.one C o,fun a=>if a=C then none else m a,fun a=>?_,sF e,fun a ob q=>?_,⟨PH.one C o,le_refl _,fun a ha=>?_,fun g lg=>?_⟩,fun D hD=>?_,fun c hc=>?_,fun q hq=>?_,fun i v u hv hu hi=>?_,?_⟩
 ·by_cases c:a=C
  ·exact .inr (if_pos c)
  ·exact .inl (dN c)
 ·by_cases c:a=C
  ·cases (if_pos c).symm.trans q
  ·exact(if_neg c).symm.trans q
 ·cases mem_singleton.mp ha
  exact⟨o,b8 C o⟩
 ·obtain⟨es,ep,h1,h2,h3⟩:=hf
  exact⟨f,o,es,ep,lg _ _ (b8 C o),h1,h2,h3⟩
 ·obtain⟨o,f,e,hf⟩:=F.d D (mem_cons_of_mem _ hD)
  exact⟨o,f,at' (fun(q:D=C)=>H.nD (by rw[←q];exact hD)) e,hf⟩
 ·obtain⟨o,w,e,hf⟩:=F.c c hc
  exact⟨o,w,at' (fun(q:c=C)=>H.nc (by rw[←q];exact hc)) e,hf⟩
 ·obtain⟨sl,e⟩:=F.o q hq
  exact⟨sl,at' (H.nO q hq) e⟩
 ·have hv':(fj X scope C)[i+(bU scope).length]?=some (cO scope v.1,v.2):=by
   unfold fj
   rw[getElem?_append_right (by rw[length_map];exact Nat.le_add_left _ _),length_map,add_sub_cancel,getElem?_map,hv]
   rfl
  rw[getElem?_drop,add_comm]at hu
  rw[nB]at hi
  have L:=F.v _ _ u hv' hu (hi.imp_right fun h=>mem_map.mpr ⟨i,h,rfl⟩)
  obtain⟨y,l⟩:=v
  cases l with
  | loc D x=>
   obtain⟨o,f,e,r,r2⟩:=L
   exact⟨o,f,at' (fun(q:D=C)=>H.nD (by rw[←q];exact X.dict _ (mem_of_getElem? hv) D x rfl)) e,r,r2⟩
  | cel c=>
   obtain⟨o,e,r⟩:=L
   exact⟨o,at' (fun(q:c=C)=>H.nc (by rw[←q];exact X.cell _ (mem_of_getElem? hv) c rfl)) e,r⟩
 ·rw[length_drop,F.l]
  show(fj X scope C).length-_=_
  unfold fj
  rw[length_append,length_map,length_map,add_sub_cancel_left]
end
noncomputable def sG (ifs:List Expr) (env:PySem.Env):Sem Bool:=forIn ifs true fun c r=>if r=true then do let ok ←isTrue c env (eval c env);pure (ForInStep.yield ok)else pure (ForInStep.yield r)
theorem nE {env:PySem.Env}:∀{ifs:List Expr},(forIn ifs false fun c r=>if r=true then do let ok ←isTrue c env (eval c env);pure (ForInStep.yield ok)else pure (ForInStep.yield r):Sem Bool)=pure false
 | []=>rfl
 | c::cs=>by
  rw[forIn_cons]
  exact nE (ifs:=cs)
theorem xC {G:bB} {X:Amb G} {r:Ev} (H:∀e,ST X (isTrue e X.env (eval e X.env)) (r.t X.c e)):∀es,ST X (sG es X.env) (rT r X.c es)
 | [],s,ρ,us,P,R,Q,E,h,S,k=>wpAny_pure (k true ρ s.heap s.toks h S)
 | e::es,s,ρ,us,P,R,Q,E,h,S,k=>by
  unfold sG
  rw[forIn_cons,if_pos rfl]
  refine wpAny_bind (wpAny_bind (H e s ρ us _ R _ E h S fun b ρ₁ h₁ k₁ hb S₁=>wpAny_pure ?_))
  rcases b with _|_
  ·show wpAny _ _ (forIn es false _) _ _ _
   rw[nE]
   exact wpAny_pure (k false ρ₁ h₁ k₁ hb S₁)
  ·exact xC H es {s with heap:=h₁,toks:=k₁} ρ₁ us P R Q E hb S₁ k
section
variable {M:Model} {A:Around} {s:Shared} {Q:Fin->Shared->Prop} {E:Value->Shared->Prop} {elt target iter:Expr} {ifs:List Expr} {gens:List Comprehension} {d:Nat} {scope:Scope} {pos:Pos} {it acc:Value} {env:PySem.Env}
def Ca (M:Model) (A:Around) (E:Value->Shared->Prop) (elt:Expr) (gens:List Comprehension) (scope:Scope) (pos:Pos) (d:Nat) (acc:Value) (env:PySem.Env) (Q:Shared->Prop) (s:Shared):Option Comprehension->Prop
 | none=>wpAny M A (eval elt env) (fun x s₅=>wpAny M A (call (.builtin "list.append") [acc,x]) (fun zz s₆=>Q s₆) E s₅) E s
 | some g=>g.is_async=0∧(∀x,foldedSetIterable g.iter env x=pure x)∧wpAny M A (eval g.iter env) (fun x s₅=>wpAny M A (pyIter x) (fun i s₆=>wpAny M A (runOwn (.compStart (.ListComp elt gens scope pos) (d+1) i acc env) env) (fun zz s₇=>Q s₇) E s₆) E s₅) E s
theorem tG {more:Option Comprehension} (hg:gens[d]?=some ⟨target,iter,ifs,0⟩) (hn:gens[d+1]?=more)
  (h:wpAny M A (pyNext it) (fun r s₁=>match r with
   | none=>Q (.done .next) s₁
   | some v=>wpAny M A (letOwnedTupleGo target it v) (fun zz s₂=>wpAny M A (assign target env v) (fun zz s₃=>wpAny M A (sG ifs env) (fun ok s₄=>match ok with
    | false=>Q (.again (.compLoop (.ListComp elt gens scope pos) d it acc env)) s₄
    | true=>Ca M A E elt gens scope pos d acc env (fun s=>Q (.again (.compLoop (.ListComp elt gens scope pos) d it acc env)) s) s₄ more) E s₃) E s₂) E s₁) E s):
  wpAny M A (compTurn (.ListComp elt gens scope pos) d it acc env) Q E s:=by
 unfold compTurn
 simp only[hg,hn,bne_self_eq_false,Bool.false_eq_true,if_false]
 refine wpAny_bind (wpAny_standAt (wpAny_bind (wpAny_mono h (fun r s₁ h₁=>?_) fun zz zz x=>x)))
 rcases r with _|v
 ·exact wpAny_pure h₁
 ·refine wpAny_bind (wpAny_mono h₁ (fun zz s₂ h₂=>wpAny_bind (wpAny_mono h₂ (fun zz s₃ h₃=>wpAny_bind (wpAny_mono h₃ (fun ok s₄ h₄=>?_) fun zz zz x=>x)) fun zz zz x=>x)) fun zz zz x=>x)
  rcases ok with _|_
  ·rw[if_neg Bool.false_ne_true]
   exact wpAny_pure h₄
  ·rw[if_pos rfl]
   rcases more with _|g
   ·exact wpAny_bind (wpAny_bind (wpAny_mono h₄ (fun x s₅ h₅=>wpAny_bind (wpAny_mono h₅ (fun zz s₆ h₆=>wpAny_pure (wpAny_pure h₆)) fun zz zz x=>x)) fun zz zz x=>x))
   ·obtain⟨ga,hs,h₄⟩:=h₄
    dsimp only
    rw[ga]
    refine wpAny_bind (wpAny_mono h₄ (fun x s₅ h₅=>wpAny_bind (wpAny_standAt (wpAny_bind ?_))) fun zz zz x=>x)
    rw[hs]
    refine wpAny_pure (wpAny_bind (wpAny_holding (wpAny_mono h₅ (fun i s₆ h₆=>wpAny_bind (wpAny_mono h₆ (fun zz s₇ h₇=>wpAny_pure h₇) fun zz zz x=>x)) fun zz zz x=>x)))
end
section
variable {prog:Program} {w:World} {A:Around} {s:Shared} {elt target iter:Expr} {ifs:List Expr} {gens:List Comprehension} {d:Nat} {scope:Scope} {pos:Pos} {it acc:Value} {env:PySem.Env} {R:Result->Shared->Prop}
theorem qD (hg:gens[d]?=some ⟨target,iter,ifs,0⟩)
  (h0:codeAny (model prog w) A (.compLoop (.ListComp elt gens scope pos) d it acc env) R s)
  (h:wpAny (model prog w) A (pyIter it) (fun it' s'=>codeAny (model prog w) A (.compLoop (.ListComp elt gens scope pos) d it' acc env) R s') (notedBy (model prog w) A env fun x s'=>R (.error x) s') s):
  codeAny (model prog w) A (.compStart (.ListComp elt gens scope pos) d it acc env) R s:=by
 refine codeAny_of_tree ?_
 show wpAny _ _ ((compStart (.ListComp elt gens scope pos) d it acc env).onRaise (fun x=>do noteFrame x env;standAt theWindowsPlace)) _ _ s
 refine wpAny_notedAt ?_
 unfold compStart
 rw[show clausesOf (.ListComp elt gens scope pos)=gens from rfl,hg]
 simp only[Option.elim_some,bne_self_eq_false,Bool.false_eq_true,if_false]
 refine wpAny_bind (wpAny_askSetting (wpAny_ite ?_))
 split
 ·exact wpAny_pure (And.intro rfl h0)
 ·exact wpAny_bind (wpAny_rule (wpAny_bind (wpAny_standAt (wpAny_bind (wpAny_mono h (fun it' s' h'=>wpAny_pure (And.intro rfl h')) fun zz zz x=>x)))))
end
def Al (A B:Around):Prop:=A4 (B.handled=none) (B.depth=A.depth) (B.units=A.units) (B.frames=A.frames)
noncomputable def Amb.at {G:bB} (X:Amb G) (A:Around) (h:Al X.A A):Amb G:={X with
 A:=A,hd:=h.1,dp:=by rw[h.2];exact X.dp,un:=by rw[h.3];exact X.un,fr:=by rw[h.4];exact X.fr}
theorem fL {A:Around} {elt:Expr} {gens:List Comprehension} {scope:Scope} {pos:Pos} {d:Nat} {it acc:Value} {env:PySem.Env} (h:A.handled=none):Al A (A.under (.compLoop (.ListComp elt gens scope pos) d it acc env)):=⟨h,rfl,rfl,rfl⟩
theorem vn (A:Around) (h:A.handled=none):Al A (A.mark none):=⟨h,rfl,rfl,rfl⟩
theorem gu {g:Comprehension} (h:g.is_async=0):g=⟨g.target,g.iter,g.ifs,0⟩:=by cases g;cases h;rfl
theorem sH {T:Tab} {r:Ev} {c:bF} {t e:Expr} {ρ:Env} {P:List PV->Env->Prop} (h:wD T r c t e ρ P) {env:PySem.Env}:∀x,foldedSetIterable e env x=pure x:=by
 refine bH h fun zz h=>?_
 cases hr:kg T c e with
 | none=>rw[hr]at h;exact w4 (bL h).1
 | some q=>
  obtain⟨x,np,pos,rfl,zz⟩:=d3 (jU hr).1
  exact fun zz=>rfl
section
variable {G:bB} {r:Ev} {elt:Expr} {gens:List Comprehension} {scope:Scope} {pos:Pos}
noncomputable abbrev nF (T:Tab) (r:Ev) (c:bF) (elt:Expr) (g:Comprehension) (gs:List Comprehension) (a:List PV):M (List PV):=fun ρ P=>rT r c g.ifs ρ fun b ρ=>if b then Ic T r c elt gs a ρ P else P a ρ
theorem qE {gs:List Comprehension} {g:Comprehension} {d:Nat} {more:Option Comprehension} (hd:gens[d]?=some g) (hn:gens[d+1]?=more) (ga:g.is_async=0) (X:Amb G) (H:∀A h,mK (X.at A h) r) {l a:List PV} {s:Shared} {ρ:Env} {us:List Value} {P:List PV->Env->Prop} {R D:a7} {I acc:Value} {F:Nat->a7} {Res:Result->Shared->Prop}
  (it:u9 G g.target I l F D) (h:cK (cq X.c g.target) (nF G.T r X.c elt g gs) l a ρ P) (S:St G.b₀ (sp (F 0) (sp (aH G.toWld (.lst a) acc) (sp (au X ρ us) R))) s.heap)
  (hB:∀{a:List PV} {s:Shared} {ρ:Env} {us:List Value} {P:List PV->Env->Prop} {R:a7} {Q:Shared->Prop} {E:Value->Shared->Prop},Ic G.T r X.c elt gs a ρ P->St G.b₀ (sp (aH G.toWld (.lst a) acc) (sp (au X ρ us) R)) s.heap ->
   (∀a' ρ' us' h tk,P a' ρ'->Keep X us us'->St G.b₀ (sp (aH G.toWld (.lst a') acc) (sp (au X ρ' us') R)) h->Q {s with heap:=h,toks:=tk})->Ca (model G.prog G.w) (X.A.under (.compLoop (.ListComp elt gens scope pos) d I acc X.env)) E elt gens scope pos d acc X.env Q s more)
  (k:∀a' ρ' us' h tk,P a' ρ'->Keep X us us'->St G.b₀ (sp (aH G.toWld (.lst a') acc) (sp (au X ρ' us') R)) h->Res (.ok .next) {s with heap:=h,toks:=tk}):codeAny (model G.prog G.w) X.A (.compLoop (.ListComp elt gens scope pos) d I acc X.env) Res s:=by
 have hg:gens[d]?=some ⟨g.target,g.iter,g.ifs,0⟩:=by rw[hd,←gu ga]
 refine codeAny_loop rfl (fun j s'=>E6 fun i a₁ ρ₁ us₁ h₁ k₁=>A6 (j+i=l.length+1) (i<=l.length) (s'={s with heap:=h₁,toks:=k₁}) (Keep X us us₁) (St G.b₀ (sp (F i) (sp (aH G.toWld (.lst a₁) acc) (sp (au X ρ₁ us₁) R))) h₁) (cK (cq X.c g.target) (nF G.T r X.c elt g gs) (l.drop i) a₁ ρ₁ P)) ?_ (l.length+1)
  ⟨0,a,ρ,us,s.heap,s.toks,rfl,zero_le _,rfl,.refl us,S,h⟩
 rintro j zz ⟨i,a₁,ρ₁,us₁,h₁,k₁,hj,hi,rfl,kp,S₁,e⟩
 show wpAny _ _ ((compTurn (.ListComp elt gens scope pos) d I acc X.env).onRaise (fun x=>do noteFrame x X.env;theTreesLotGoes x)) _ _ _
 refine wpAny_noted ?_
 have sm:=fL (elt:=elt) (gens:=gens) (scope:=scope) (pos:=pos) (d:=d) (it:=I) (acc:=acc) (env:=X.env) X.hd
 obtain⟨H1,H2⟩:=H _ sm
 rcases lt_or_ge i l.length with hi'|hi'
 ·rw[jp hi']at e
  obtain⟨ρ₂,hb,e⟩:=aY e
  refine tG hg hn (wpAny_mono (it.item _ i _ _ ?Q _ X.hd hi' S₁ ?c) ?r fun zz zz x=>x)
  case r=>
   intro r s₄ hr
   rcases r with _|v
   ·exact hr.elim
   ·exact hr
  intro v h₂ k₂ S₂
  have nx:∀{a' ρ' us' h' tk},cK (cq X.c g.target) (nF G.T r X.c elt g gs) (l.drop (i+1)) a' ρ' P->Keep X us us'->St G.b₀ (sp (aH G.toWld (.lst a') acc) (sp (au X ρ' us') (sp (F (i+1)) R))) h' ->
    ∃m,m<j∧(E6 fun i a₁ ρ₁ us₁ h₁ k₁=>A6 (m+i=l.length+1) (i<=l.length) (({s with heap:=h',toks:=tk}:Shared)={s with heap:=h₁,toks:=k₁}) (Keep X us us₁) (St G.b₀ (sp (F i) (sp (aH G.toWld (.lst a₁) acc) (sp (au X ρ₁ us₁) R))) h₁) (cK (cq X.c g.target) (nF G.T r X.c elt g gs) (l.drop i) a₁ ρ₁ P)):=
   fun e kp S=>⟨j-1,by exact(aQ 0x110052201017112041000437) hj hi,i+1,_,_,_,_,_,by exact(aQ 0x11204111041100543201017112041000437) hj hi,hi',rfl,kp,S.imp fY,e⟩
  refine lC (X:=X.at _ sm) (s:={s with heap:=h₂,toks:=k₂}) hb (S₂.imp (al ag fY)) fun us₃ h₃ k₃ kp₃ S₃=>?_
  refine xC H2 g.ifs {s with heap:=h₃,toks:=k₃} ρ₂ us₃ _ _ _ _ e S₃ fun b ρ₄ h₄ k₄ hb S₄=>?_
  have S₅:St G.b₀ (sp (aH G.toWld (.lst a₁) acc) (sp (au X ρ₄ us₃) (sp (F (i+1)) R))) h₄:=S₄.imp fY
  rcases b with _|_
  ·exact⟨rfl,nx hb (kp.trans kp₃) S₅⟩
  ·exact hB (s:={s with heap:=h₄,toks:=k₄}) hb S₅ fun a' ρ' us' h' tk hp kp' S'=>⟨rfl,nx hp ((kp.trans kp₃).trans kp') S'⟩
 ·cases Nat.le_antisymm hi hi'
  rw[List.drop_length]at e
  exact tG hg hn (it.done _ _ _ _ _ X.hd S₁ fun h₂ k₂ S₂=>k a₁ ρ₁ us₁ h₂ k₂ e kp (S₂.snd))
end
theorem lM {α:Type} {l r:List α} {d:Nat} {x:α} (h:l.drop d=x::r):A3 (l[d]?=some x) (l.drop (d+1)=r) (l[d+1]?=r.head?):=by
 have h1:l.drop (d+1)=r:=by rw[←drop_drop,h];rfl
 exact⟨by rw[←List.head?_drop,h];rfl,h1,by rw[←List.head?_drop,h1]⟩
section
variable {G:bB} {r:Ev} {elt:Expr} {gens:List Comprehension} {scope:Scope} {pos:Pos}
theorem vo (O:GlobOk G):∀(gs:List Comprehension) (g:Comprehension) (d:Nat),gens.drop d=g::gs->g.is_async=0->∀(X:Amb G),(∀A h,mK (X.at A h) r)->∀{l a:List PV} {s:Shared} {ρ:Env} {us:List Value} {P:List PV->Env->Prop} {R D:a7} {I acc:Value} {F:Nat->a7} {Res:Result->Shared->Prop},
  u9 G g.target I l F D->cK (cq X.c g.target) (nF G.T r X.c elt g gs) l a ρ P->St G.b₀ (sp (F 0) (sp (aH G.toWld (.lst a) acc) (sp (au X ρ us) R))) s.heap ->
  (∀a' ρ' us' h tk,P a' ρ'->Keep X us us'->St G.b₀ (sp (aH G.toWld (.lst a') acc) (sp (au X ρ' us') R)) h->Res (.ok .next) {s with heap:=h,toks:=tk})->codeAny (model G.prog G.w) X.A (.compLoop (.ListComp elt gens scope pos) d I acc X.env) Res s:=by
 intro gs
 induction gs with
 | nil=>
  intro g d hd ga X H l a s ρ us P R D I acc F Res it h S k
  obtain⟨h1,h2,h3⟩:=lM hd
  refine qE h1 h3 ga X H it h S (fun{a s ρ us P R Q E} hb S₁ kk=>?_) k
  obtain⟨H1,zz⟩:=H _ (fL (elt:=elt) (gens:=gens) (scope:=scope) (pos:=pos) (d:=d) (it:=I) (acc:=acc) (env:=X.env) X.hd)
  refine H1 elt s ρ us _ _ _ E hb (S₁.imp aC) fun v ρ' u h' tk ov hp S₂=>?_
  refine bH hp fun c hp=>?_
  exact tA (X:=X.at _ (fL X.hd)) (s:={s with heap:=h',toks:=tk}) ov c (S₂.imp (al ag aC)) fun h'' tk' S₃=>kk _ ρ' us h'' tk' hp (.refl us) S₃
 | cons g' gs ih=>
  intro g d hd ga X H l a s ρ us P R D I acc F Res it h S k
  obtain⟨h1,h2,h3⟩:=lM hd
  refine qE h1 h3 ga X H it h S (fun{a s ρ us P R Q E} hb S₁ kk=>?_) k
  have sm:=fL (elt:=elt) (gens:=gens) (scope:=scope) (pos:=pos) (d:=d) (it:=I) (acc:=acc) (env:=X.env) X.hd
  obtain⟨H1,zz⟩:=H _ sm
  refine bH hb fun ga' hb=>?_
  have ga':g'.is_async=0:=beq_iff_eq.mp ga'
  refine⟨ga',sH hb,xm (X:=X.at _ sm) O H1 hb (S₁.imp aC) fun l' ρ' I' F' D' h' tk it' hp S₂=>wpAny_runOwn ?_⟩
  have sm2:Al (X.A.under (.compLoop (.ListComp elt gens scope pos) d I acc X.env)) ((X.A.under (.compLoop (.ListComp elt gens scope pos) d I acc X.env)).mark none):=vn _ X.hd
  have S₃:=S₂.imp (al ag aC)
  have hg':gens[d+1]?=some ⟨g'.target,g'.iter,g'.ifs,0⟩:=by rw[h3,←gu ga'];rfl
  have run:∀{Res:Result->Shared->Prop},(∀s',Q s'->Res (.ok .next) s')->codeAny (model G.prog G.w) ((X.at _ sm).at _ sm2).A (.compLoop (.ListComp elt gens scope pos) (d+1) I' acc X.env) Res {s with heap:=h',toks:=tk}:=fun q=>
   ih g' (d+1) h2 ga' ((X.at _ sm).at _ sm2) (fun A h=>H A ⟨h.1,h.2,h.3,h.4⟩) it' hp S₃ fun a' ρ'' us' h'' tk' hq kq S₄=>q _ (kk a' ρ'' us' h'' tk' hq kq S₄)
  exact qD hg' (run fun s' q=>q) (it'.self _ 0 _ _ _ _ S₃ (run fun s' q=>q))
end
section
variable {G:bB} {X:Amb G} {r:Ev}
theorem vq {scope:Scope} {C:Addr} {cenv:PySem.Env} {H:qz X scope C cenv} {us us':List Value} (kp:Keep (jq X H) ((bU scope).map (fun zz=>Value.none)++us) us'):us'.drop (bU scope).length=us:=by
 refine ext_getElem? fun i=>?_
 have e:us'[(bU scope).length+i]?=_:=kp.2 _ (.inl (le_add_right _ _))
 rw[getElem?_drop,e,getElem?_append_right (by rw[length_map];exact le_add_right _ _),length_map,add_sub_cancel_left]
theorem nG (O:GlobOk G) (HN:∀Y:Amb G,Y.n=X.n->mK Y r) {elt:Expr} {g:Comprehension} {gs:List Comprehension} {scope:Scope} {pos pos':Pos} {use:Option (Value->Sem Unit)} {ρ:Env} {us:List Value} {P:PV->Env->Prop} {R:a7} {s:Shared} {E Q:Value->Shared->Prop}
  (h:bK (g.is_async==0&&zK scope X.c) (wD G.T r X.c g.target g.iter ρ fun l ρ=>cK (cq (rX scope X.c) g.target) (nF G.T r (rX scope X.c) elt g gs) l [] ((bU scope).map (fun zz=>.LZ)++ρ) fun l ρ=>P (.lst l) (ρ.drop (bU scope).length))) (S:St G.b₀ (sp (au X ρ us) R) s.heap)
  (k:∀l ρ' acc C h tk,P (.lst l) ρ'->St G.b₀ (sp (IL C) (sp (aH G.toWld (.lst l) acc) (sp (au X ρ' us) R))) h->compPost (model G.prog G.w) X.A E use Q acc C (.ok .next) {s with heap:=h,toks:=tk}):
  g.is_async=0∧wpAny (model G.prog G.w) X.A (comprehension (.ListComp elt (g::gs) scope pos) scope X.env pos' (newList []) false (eval g.iter X.env) use) Q E s:=by
 refine bH h fun c h=>?_
 refine cz c fun c1 c2=>?_
 have ga:g.is_async=0:=beq_iff_eq.mp c1
 obtain⟨k1,zz,zz,k4,k5,k6⟩:=gq c2
 refine⟨ga,?_⟩
 refine wpAny_comprehension_free (cl:=ph X.env.cells scope.names []) rfl (sH h) (mM fun x hx=>?_) k1 k4 ?_
 ·obtain⟨⟨i,hi⟩,hk⟩:=k6 x hx
  obtain⟨l,hl⟩:=r6 (jR hi)
  obtain⟨c,zz,hc⟩:=nA hi hl hk
  exact⟨c,hc⟩
 refine xm O (HN X rfl).1 h S fun l ρ₁ I F D h₁ tk₁ it hp S₁=>?_
 refine wpAny_newObj_type (wpAny_newFunctionEnv k5 (by intro y hy;simp at hy) (fun h₂ hns hsb=>?_) k1)
 dsimp only at hns hsb⊢
 have S₂:St G.b₀ (sp (aH G.toWld (.lst []) (.ref h₁.objs.size)) (sp (F 0) (sp (au X ρ₁ us) R))) (h₁.push {cls:=.type "list",dict:=none,data:=.seq ([]:List Value).toArray}):=
  (S₁.imp (B:=sp (aq G.toWld [] (#[]:Array Value).toList) _) (fun Z m h=>⟨fun zz=>none,m,aE,ay,le_refl m,rfl,h⟩)).newL (vs:=#[]) (k:=0) (zero_le _) rfl
 generalize h₁.push {cls:=.type "list",dict:=none,data:=.seq ([]:List Value).toArray}=H2 at S₂ hns hsb⊢
 generalize Value.ref h₁.objs.size=acc at S₂⊢
 have nC:H2.get? H2.objs.size=none:=bG _
 generalize hC:H2.objs.size=C at *
 obtain⟨o,es,ep,ho,ho2,ho3,zz⟩:=hns
 have S₃:=S₂.new (h':=h₂) (fun b ob q=>hsb.extBut b ob (fun e=>by rw[e,nC]at q;cases q) (Heap.get?_push_of_some _ q)) nC ho
 have fr:uO X ρ₁ us H2.get?:=by
  obtain⟨zz,zz,⟨zz,zz,zz,zz,l2,zz,zz,zz,zz,zz,l4,zz,zz,zz,zz,l5,zz,⟨zz,zz,zz,l6,zz,F,zz⟩,zz⟩,zz,zz,r3⟩:=S₂
  exact F.le fun a ob q=>(r3 a ob (l2 _ _ (l4 _ _ (l5 _ _ (l6 _ _ q))))).1
 have HC:∀{cenv:PySem.Env},cenv.scope=relabel scope X.env->cenv.locals=C->cenv.globals=X.env.globals->cenv.cells=ph X.env.cells scope.names []->cenv.builtins=X.env.builtins->qz X scope C cenv:=fun h1 h2 h3 h4 h5=>
  ⟨c2,fun m=>(by obtain⟨zz,zz,q,zz⟩:=fr.d C m;rw[nC]at q;cases q),fun m=>(by obtain⟨_,_,q,_⟩:=fr.c C m;rw[nC]at q;cases q),fun p hp e=>(by obtain⟨_,q⟩:=fr.o p hp;rw[e,nC]at q;cases q),h1,h2,h3,h4,h5⟩
 have S₄:St G.b₀ (sp (F 0) (sp (aH G.toWld (.lst []) acc) (sp (pt C o) (sp (au X ρ₁ us) R)))) h₂:=S₃.imp (aj fY (al ag aC))
 have run:∀{cenv:PySem.Env} {tk:Nat},qz X scope C cenv->codeAny (model G.prog G.w) X.A (.compLoop (.ListComp elt (g::gs) scope pos) 0 I acc cenv) (compPost (model G.prog G.w) X.A E use Q acc C) {s with heap:=h₂,toks:=tk}:=fun{cenv tk} H=>by
  rw[←xB H]at hp
  refine vo (s:={s with heap:=h₂,toks:=tk}) O gs g 0 rfl ga (jq X H) (fun A h=>HN ((jq X H).at A h) rfl) it hp (S₄.imp (al ag (al ag (aj a8 (al (DD H ⟨es,ep,ho2,ho3,fun zz=>rfl⟩) ag))))) fun a' ρ' us' h' tk' hP kp S₅=>?_
  refine k a' _ acc C h' tk' hP ((S₅.imp (aj (al ag (aj (al (Ak H) ag) bM)) aC)).imp ?_)
  rw[vq kp]
  exact ag
 exact qD (congrArg some (gu ga)) (run (HC rfl rfl rfl rfl rfl)) (it.self _ 0 _ _ _ _ S₄ (run (HC rfl rfl rfl rfl rfl)))
theorem Am (O:GlobOk G) (HN:∀Y:Amb G,Y.n=X.n->mK Y r) {elt:Expr} {gens:List Comprehension} {scope:Scope} {pos:Pos}:SE X (eval (.ListComp elt gens scope pos) X.env) (rY G.T r X.c elt gens scope):=by
 intro s ρ us P R Q E h S k
 rcases gens with _|⟨g,gs⟩
 ·exact h.elim
 ·obtain⟨ga,H⟩:=nG (pos:=pos) (pos':=firstIterPos (g::gs) pos) (use:=none) (E:=E) (Q:=Q) O HN h S fun l ρ' acc C h' tk hp S'=>by
   obtain⟨m,hm⟩:=S'.hpAt
   exact⟨m,hm,fun h'' hs=>k _ ρ' acc h'' tk rfl hp (S'.drop fun b o hb e=>(hs.2 b fun q=>hb (mem_singleton.mpr q)).trans e)⟩
  have e:firstAsync (g::gs)=false∧firstIter (g::gs) X.env=eval g.iter X.env:=by rw[gu ga];exact⟨rfl,rfl⟩
  rw[eval_ListComp,e.1,e.2]
  exact H
end
def xD (T:Tab) (r r':Ev):Prop:=∀c e ρ P,ic e=true->r.e c e ρ P->E4 fun elt gens scope pos=>e=.ListComp elt gens scope pos∧rY T r' c elt gens scope ρ P
section
variable {G:bB} {X:Amb G} {r r':Ev}
theorem qF {T:Tab} {c:bF} {e:Expr} (h:ic e=true):fE e=none∧BY T c e=none:=by
 rcases e with _|_<;>first|exact⟨rfl,rfl⟩|exact bp h
theorem An (O:GlobOk G) (HN:∀Y:Amb G,Y.n=X.n->mK Y r') (hd:xD G.T r r') {x:Str} {i:Nat} {e:Expr} {p pos:Pos} (hc:ic e=true) (hs:swapsWith e (some (.Name x p)) pos.line X.env=pure true) (hx:ix x X.c.names=some i):
  SX X (exec (.Assign [.Name x p] e pos) X.env) fun ρ P=>r.e X.c e ρ fun v ρ=>if eP v then P .exc ρ else bK (bS v) (aP (du X.c i v ρ) fun ρ=>P .nxt ρ):=by
 intro s ρ us P R Q E h S k
 obtain⟨elt,gens,scope,cpos,rfl,h2⟩:=hd _ _ _ _ hc h
 rcases gens with _|⟨g,gs⟩
 ·exact h2.elim
 ·obtain⟨ga,H⟩:=nG (P:=fun v ρ=>if eP v=true then P .exc ρ else bK (bS v) (aP (du X.c i v ρ) fun ρ=>P .nxt ρ)) (pos:=cpos) (pos':=firstIterPos (g::gs) cpos) (use:=some (assign (.Name x p) X.env)) (E:=E) (Q:=fun zz s'=>Q .next s') O HN h2 S fun l ρ' acc C h' tk hp S'=>by
   refine bH ((show bK true (aP (du X.c i (.lst l) ρ') fun ρ=>P .nxt ρ)from hp)) fun zz hp=>?_
   obtain⟨ρ'',hb,hp⟩:=aY hp
   refine wpAny_assign_Name (fH (s:={s with heap:=h',toks:=tk}) hx hb (S'.imp (aj aC (al ag aC))) fun h'' tk' S'' kp=>?_)
   have S3:=S''.imp aC
   obtain⟨m,hm⟩:=S3.hpAt
   exact⟨m,hm,fun h3 hs=>k .nxt ρ'' _ .none h3 tk' hp kp (St.no (S3.drop fun b o hb e=>(hs.2 b fun q=>hb (mem_singleton.mpr q)).trans e))⟩
  have e:evalThenUse (.ListComp elt (g::gs) scope cpos) X.env (assign (.Name x p) X.env)=(do let _ ←comprehension (.ListComp elt (g::gs) scope cpos) scope X.env (firstIterPos (g::gs) cpos) (newList []) false (eval g.iter X.env) (some (assign (.Name x p) X.env))):=by
   rw[gu ga]
   rfl
  rw[exec_Assign_Name_used _ _ _ _ hs,e]
  exact wpAny_bind (wpAny_standAt (wpAny_bind (wpAny_bind (wpAny_mono H (fun zz s' hq=>wpAny_pure (wpAny_pure hq)) fun zz zz x=>x))))
end
def DfltAre (h:Heap) (d:Value) (dv:List Value):Prop:=(d=.none∧dv=[])∨(E4 fun T o items n=>A4 (d=.ref T) (h.get? T=some o) (o.data=.seq items n) (items.toList=dv))
theorem DfltAre.keeps {h h':Heap} {d:Value} {dv:List Value} (k:∀a o,h.get? a=some o->h'.get? a=some o) (H:DfltAre h d dv):DfltAre h' d dv:=
 H.imp_right fun⟨T,o,items,n,e,ho,r,q⟩=>⟨T,o,items,n,e,k _ _ ho,r,q⟩
noncomputable def qG:List (Str×Value)->List (Str×Value)->List (Str×Value)
 | [],sl=>sl
 | (n,d)::r,sl=>qG r (if(sl.lookup n).isNone=true then sl++[(n,d)]else sl)
theorem xE {n:Str} {d:Value} {r sl:List (Str×Value)}:qG ((n,d)::r) sl=qG r (if(sl.lookup n).isNone=true then sl++[(n,d)]else sl):=rfl
theorem il:∀(l sl:List (Str×Value)),(forIn l sl fun(x:Str×Value) (r:List (Str×Value))=>if(List.lookup x.1 r).isNone=true then(pure (ForInStep.yield (r++[(x.1,x.2)])):Sem (ForInStep (List (Str×Value))))else pure (ForInStep.yield r))=pure (qG l sl)
 | [],sl=>rfl
 | (n,d)::r,sl=>by
  rw[forIn_cons]
  rw[xE]
  by_cases h:(List.lookup n sl).isNone=true
  ·rw[if_pos h,if_pos h]
   exact il r _
  ·rw[if_neg h,if_neg h]
   exact il r _
theorem jY {n x:Str} {d:Value}:∀{sl:List (Str×Value)},(sl++[(n,d)]).lookup x=(sl.lookup x).or (if x==n then some d else none)
 | []=>by
  rw[nil_append,lookup_cons]
  cases x==n<;>rfl
 | (k,v)::sl=>by
  rw[List.cons_append,lookup_cons,lookup_cons]
  cases x==k with
  | true=>rfl
  | false=>exact jY
theorem gv {x:Str}:∀{l sl:List (Str×Value)},(qG l sl).lookup x=(sl.lookup x).or (l.lookup x)
 | [],sl=>(or_none).symm
 | (n,d)::r,sl=>by
  rw[xE]
  rw[lookup_cons]
  cases h:List.lookup n sl with
  | none=>
   rw[if_pos (show(Option.none:Option Value).isNone=true from rfl),gv,jY,Option.or_assoc]
   cases q:x==n<;>rfl
  | some v=>
   rw[if_neg (show ¬ (some v).isNone=true from fun h=>nomatch h),gv]
   cases q:x==n with
   | true=>rw[beq_iff_eq.mp q,h];rfl
   | false=>rfl
theorem fM {n:Str}:∀{ns:List Str} {vs:List Value} {i:Nat},ns.Nodup->ns[i]?=some n->(ns.zip vs).lookup n=vs[i]?
 | [],_,_,_,h=>nomatch h
 | _::_,[],_,_,_=>rfl
 | a::ns,v::vs,i,nd,h=>by
  rw[zip_cons_cons,lookup_cons]
  obtain⟨n1,n2⟩:=nodup_cons.mp nd
  rcases i with _|i
  ·rw[show(n==a)=true from beq_iff_eq.mpr (Option.some.inj h).symm];rfl
  ·have h:ns[i]?=some n:=h
   rw[show(n==a)=false from beq_eq_false_iff_ne.mpr fun e=>n1 (e▸mem_of_getElem? h)]
   exact fM n2 h
theorem xG {g:Str->Option Value}:∀{ns:List Str} {vs:List Value},vs.length=ns.length->(∀(i:Nat) n,ns[i]?=some n->g n=vs[i]?)->ns.filterMap (fun n=>(g n).map (n,·))=ns.zip vs
 | [],[],_,_=>rfl
 | a::ns,v::vs,hl,h=>by
  rw[List.filterMap_cons,h 0 a rfl]
  exact congrArg ((a,v)::·) (xG (Nat.succ.inj hl) fun i n hi=>h (i+1) n hi)
 | [],_::_,h,_=>nomatch h
 | _::_,[],h,_=>nomatch h
theorem wn {α:Type} {M:Model} {A:Around} {c:Prop} [Decidable c] {a b:Sem α} {Q:α->Shared->Prop} {E:Value->Shared->Prop} {s:Shared} (h:¬c) (H:wpAny M A b Q E s):wpAny M A (if c then a else b) Q E s:=by rw[if_neg h];exact H
theorem wf {M:Model} {A:Around} {l sl:List (Str×Value)} {Q:List (Str×Value)->Shared->Prop} {E:Value->Shared->Prop} {s:Shared} (h:Q (qG l sl) s):
  wpAny M A (forIn l sl fun(x:Str×Value) (r:List (Str×Value))=>if(List.lookup x.1 r).isNone=true then(pure (ForInStep.yield (r++[(x.1,x.2)])):Sem (ForInStep (List (Str×Value))))else pure (ForInStep.yield r)) Q E s:=by rw[il];exact wpAny_pure h
theorem DE {ns:List Str} {vals:List Value} {k:Nat} (nd:ns.Nodup) (h:k<=vals.length):¬(!((ns.take k).filter fun n=>((ns.zip vals).lookup n).isNone).isEmpty)=true:=by
 rw[Bool.not_eq_true',Bool.not_eq_false,List.isEmpty_iff,filter_eq_nil_iff]
 intro n hn
 obtain⟨i,hi⟩:=List.mem_iff_getElem?.mp hn
 rw[List.getElem?_take]at hi
 by_cases c:i<k
 ·rw[if_pos c]at hi
  rw[fM nd hi,List.getElem?_eq_getElem (lt_of_lt_of_le c h)]
  exact fun h=>nomatch h
 ·rw[if_neg c]at hi
  exact no hi
theorem Ao {n:Str} {ns:List Str} {vals dv:List Value} {i:Nat} (nd:ns.Nodup) (h1:vals.length<=ns.length) (h2:ns.length<=vals.length+dv.length) (h3:dv.length<=ns.length) (hi:ns[i]?=some n):
  (qG ((ns.drop (ns.length-dv.length)).zip dv) (ns.zip vals)).lookup n=(vals++dv.drop (dv.length+vals.length-ns.length))[i]?:=by
 have hlt:=(List.getElem?_eq_some_iff.mp hi).1
 rw[gv,fM nd hi]
 rcases lt_or_ge i vals.length with c|c
 ·rw[getElem?_append_left c,List.getElem?_eq_getElem c]
  rfl
 ·have hi':(ns.drop (ns.length-dv.length))[i-(ns.length-dv.length)]?=some n:=by
   rw[getElem?_drop,show ns.length-dv.length+(i-(ns.length-dv.length))=i by exact(b6 0x30200053052000543301017201040017) h2 c]
   exact hi
  rw[getElem?_append_right c,List.getElem?_eq_none c,fM (nd.sublist (List.drop_sublist _ _)) hi',getElem?_drop,none_or]
  congr 1
  exact(b6 0x10305001020454200053053301017002017201040017) h2 h3 c
theorem DfltAre.get {s:Shared} {d:Value} {dv:List Value} {C:Prop} (hd:DfltAre s.heap d dv) (k:∀x:Option (Array Value),(x.getD #[]).toList=dv->(∀(M:Model) (A:Around) (E:Value->Shared->Prop) (Q:Option (Array Value)->Shared->Prop),Q x s->wpAny M A (seqItems? d) Q E s)->C):C:=
 hd.elim (fun e=>k none e.2.symm fun _ _ _ _ h=>e.1▸wpAny_pure h) fun⟨_,_,_,_,e,ho,hdt,q⟩=>k (some _) q fun _ _ _ _ h=>e▸wpAny_seqItems ho hdt h
theorem vw {ns:List Str} {vals dv:List Value} (nd:ns.Nodup) (h2:ns.length<=vals.length+dv.length) (h3:dv.length<=ns.length):
  ¬(!((ns.take (ns.length-(dv.drop (dv.length-ns.length)).length)).filter fun n=>((ns.zip vals).lookup n).isNone).isEmpty)=true:=by
 rw[Nat.sub_eq_zero_of_le h3]
 exact DE nd (Nat.sub_le_of_le_add h2)
theorem DF {ns:List Str} {vals dv:List Value} (nd:ns.Nodup) (h1:vals.length<=ns.length) (h2:ns.length<=vals.length+dv.length) (h3:dv.length<=ns.length):
  (ns++[]).filterMap (fun n=>((qG ((ns.drop (ns.length-(dv.drop (dv.length-ns.length)).length)).zip (dv.drop (dv.length-ns.length))) (ns.zip vals)).lookup n).map (n,·))=ns.zip (vals++dv.drop (dv.length+vals.length-ns.length)):=by
 rw[append_nil,Nat.sub_eq_zero_of_le h3]
 exact xG (by rw[length_append,length_drop];exact(aQ 0x10100020452050043200041017100017) h1 h2) fun i n hi=>Ao nd h1 h2 h3 hi
theorem sI {s:Shared} {f g:Str} {ar:List PySem.Arg} {kd:List (Option Expr)} {df:List Expr} {by_:FuncBody} {sc:Scope} {gl:Addr} {cl:List (Str×Addr)} {d kw do_ pm co ct:Value} {an:Option Addr} {bu:Addr} {vals dv:List Value} (nd:(ar.map (·.arg)).Nodup)
  (h1:vals.length<=(ar.map (·.arg)).length) (h2:(ar.map (·.arg)).length<=vals.length+dv.length) (h3:dv.length<=(ar.map (·.arg)).length) (hd:DfltAre s.heap d dv):BindsTo s ⟨f,g,⟨[],ar,none,[],kd,none,df⟩,by_,sc,gl,cl,d,kw,do_,pm,an,co,ct,bu⟩ ⟨vals,[]⟩ ((ar.map (·.arg)).zip (vals++dv.drop (dv.length+vals.length-(ar.map (·.arg)).length))):=
 hd.get fun x e k M A E Q hq=>by
 subst e
 exact wpAny_bind (wpAny_pure (wpAny_bind (k _ _ _ _ (wn (fun h=>Nat.not_lt.mpr h1 (of_decide_eq_true (bA h).1)) (wn (vw nd h2 h3) (wpAny_bind (wf (wpAny_bind (wpAny_pure (wn (fun h=>nomatch h)
  (wpAny_pure ((congrArg (Q · s) (DF nd h1 h2 h3)).mpr hq))))))))))))
inductive pj:PySem.Arguments->Prop
 | mk (ar kd df):pj ⟨[],ar,none,[],kd,none,df⟩
theorem xH {p:PySem.Arguments} (h1:p.posonlyargs=[]) (h2:p.kwonlyargs=[]) (h3:p.vararg=none) (h4:p.kwarg=none):pj p:=by
 rcases p;cases h1;cases h2;cases h3;cases h4;exact .mk _ _ _
theorem qH {s:Shared} {fd:FuncData} {vals dv:List Value} {ns:List Str} (hp:pj fd.params) (hns:fd.params.args.map (·.arg)=ns) (nd:ns.Nodup)
  (h1:vals.length<=ns.length) (h2:ns.length<=vals.length+dv.length) (h3:dv.length<=ns.length) (hd:DfltAre s.heap fd.defaults dv):BindsTo s fd ⟨vals,[]⟩ (ns.zip (vals++dv.drop (dv.length+vals.length-ns.length))):=by
 subst hns
 rcases fd with⟨_,_,p⟩
 cases hp
 exact sI nd h1 h2 h3 hd
structure xI (G:bB) (k:Nat) (d:uM) (fd:FuncData):Prop where
 at_:E3 fun oc od osl=>G.K.lookup (G.ad k)=some ⟨oc,od,.func fd,osl⟩
 code:codeIn G.K fd.code fd.qualname=true
 body:fd.body=.stmts d.body
 clo:fd.closure=[]
 glo:fd.globals=mainGlobals
 bui:fd.builtins=builtinsNs
 co:fd.scope.isCoroutine=false
 gen:fd.scope.isGenerator=false
 kind:fd.scope.kind=.function
 par:pj fd.params
 ns:fd.params.args.map (·.arg)=d.names.take d.np
 sc:fd.scope.names=d.sc
 len:d.np<=d.names.length
 dup:bV d.names=true
 kinds:∀x ∈ d.names,bk x=true∧(d.sc.lookup x=some .local∨d.sc.lookup x=some .cell)
 dflt:∃dv,DfltAre G.b₀ fd.defaults dv∧bT G.toWld d.dfl dv G.b₀.get? fun zz=>none
 few:d.dfl.length<=d.np
 io:d.io=true->d.dfl.length<d.np
noncomputable def tH (Os:List (Addr×Obj)):a7:=⟨fun zz m=>∀q ∈ Os,∃sl,m q.1=some {q.2 with slots:=sl},fun zz k h q hq=>(h q hq).imp fun zz e=>k _ _ e⟩
structure tI (A:Around) (Os:List (Addr×Obj)) (n:Nat):Prop where
 hd:A.handled=none
 dp:A.depth+4*n+2<=900
 un:A.units+16*n+290<=9000
 fr:∃l,A.frames=some l∧∀e ∈ l,e.scope.kind≠.module∧∃L,e.frame=some L∧L ∈ Os.map (·.1)
 dat:∀q ∈ Os,∀vs,q.2.data≠.fields vs
theorem ed:∀{l:List Str},bV l=true->l.Nodup
 | [],_=>List.nodup_nil
 | _::_,h=>nodup_cons.mpr ⟨(d4 h).1,ed (d4 h).2⟩
theorem jr:∀(names:List (Str×NameKind)) (n:Nat) (acc:List (Str×Addr)) {x:Str},((∃c,acc.lookup x=some c)∨names.lookup x=some .cell)->∃c,(cellsFrom n names acc).lookup x=some c
 | [],n,acc,x,h=>h.resolve_right fun h=>nomatch h
 | (a,k)::r,n,acc,x,h=>by
  unfold cellsFrom
  rw[lookup_cons]at h
  by_cases hk:(k==NameKind.cell)=true
  ·rw[if_pos hk]
   refine jr r _ _ ?_
   rw[lookup_cons]
   cases q:x==a with
   | true=>exact .inl ⟨n,rfl⟩
   | false=>rw[q]at h;exact h
  ·rw[if_neg hk]
   refine jr r _ _ ?_
   cases q:x==a with
   | true=>
    rw[q]at h
    exact h.imp_right fun h=>absurd (by rw[Option.some.inj h];rfl) hk
   | false=>rw[q]at h;exact h
theorem nH {kindOf:Str->Option NameKind}:∀{l:List (Str×Value)} {m:Str->Option Value} {x:Str},x ∉ l.map (·.1)->bindL kindOf l m x=m x∧bindC kindOf l m x=m x
 | [],_,_,_=>⟨rfl,rfl⟩
 | (n,v)::r,m,x,h=>by
  have h1:x≠n:=fun e=>h (by rw[e];exact mem_cons_self)
  have h2:=fun m'=>nH (kindOf:=kindOf) (l:=r) (m:=m') (x:=x) fun m=>h (mem_cons_of_mem _ m)
  unfold bindL bindC
  rw[(h2 _).1,(h2 _).2]
  by_cases c:kindOf n=some .local
  ·rw[if_pos c,if_pos c];exact⟨if_neg h1,rfl⟩
  ·rw[if_neg c,if_neg c];exact⟨rfl,if_neg h1⟩
theorem gw {kindOf:Str->Option NameKind}:∀{l:List (Str×Value)} {m:Str->Option Value} {x:Str} {v:Value},(l.map (·.1)).Nodup->(x,v) ∈ l->(kindOf x=some .local->bindL kindOf l m x=some v)∧(kindOf x≠some .local->bindC kindOf l m x=some v)
 | [],_,_,_,_,h=>absurd h not_mem_nil
 | (n,u)::r,m,x,v,nd,h=>by
  obtain⟨nd1,nd2⟩:=nodup_cons.mp nd
  unfold bindL bindC
  rcases mem_cons.mp h with e|h
  ·cases e
   have h2:=fun m'=>nH (kindOf:=kindOf) (l:=r) (m:=m') nd1
   rw[(h2 _).1,(h2 _).2]
   exact⟨fun c=>by rw[if_pos c];exact if_pos rfl,fun c=>by rw[if_neg c];exact if_pos rfl⟩
  ·exact⟨fun c=>(gw nd2 h).1 c,fun c=>(gw nd2 h).2 c⟩
noncomputable def hJ (env:PySem.Env) (x:Str):Loc:=match env.kindOf x with
 | some .cell=>(match env.cells.lookup x with
  | some c=>.cel c
  | none=>.loc env.locals x)
 | _=>.loc env.locals x
theorem ew {env:PySem.Env} {x:Str} (h:env.kindOf x=some .local∨(env.kindOf x=some .cell∧∃c,env.cells.lookup x=some c)):At env x (hJ env x)∧((env.kindOf x=some .local∧hJ env x=.loc env.locals x)∨(∃c,A3 (env.cells.lookup x=some c) (env.kindOf x=some .cell) (hJ env x=.cel c))):=by
 unfold hJ
 rcases h with h|⟨h,c,hc⟩
 ·rw[h];exact⟨⟨rfl,rfl,h⟩,.inl ⟨rfl,rfl⟩⟩
 ·rw[h,hc];exact⟨⟨hc,.inl h⟩,.inr ⟨c,rfl,rfl,rfl⟩⟩
structure EX (d:uM) (Os:List (Addr×Obj)) (A:Around) (n:Nat) (env:PySem.Env):Prop where
 kind:env.scope.kind=.function
 glo:env.globals=mainGlobals
 bui:env.builtins=builtinsNs
 sc:env.scope.names=d.sc
 dup:bV d.names=true
 okn:∀x ∈ d.names,bk x=true
 loc:∀x ∈ d.names,env.kindOf x=some .local∨(env.kindOf x=some .cell∧∃c,env.cells.lookup x=some c)
 apart:env.cells.Pairwise fun x y=>x.2≠y.2
 nL:∀q ∈ Os,q.1≠env.locals
 nc:∀q ∈ Os,∀y,env.cells.lookup y≠some q.1
 fr:env.frame=some env.locals
 room:tI A Os (n+1)
section
variable {G:bB} {d:uM} {Os:List (Addr×Obj)} {A:Around} {n:Nat} {env:PySem.Env}
theorem qI {i:Nat} {x:Str} {l:Loc} (h:(d.names.map fun x=>(x,hJ env x))[i]?=some (x,l)):d.names[i]?=some x∧l=hJ env x:=by
 rw[getElem?_map]at h
 refine bY h fun y h1 e=>?_
 cases e
 exact⟨h1,rfl⟩
noncomputable def fS (G:bB) (H:EX d Os A n env):Amb G where
 env:=env
 vars:=d.names.map fun x=>(x,hJ env x)
 Ds:=[env.locals]
 cs:=d.names.filterMap fun x=>env.cells.lookup x
 Os:=Os
 pins:=if d.io then[0]else[]
 sc:=d.sc
 own:=d.names.length
 A:=A.deeper env
 n:=n
 top:=env
 kind:=H.kind
 glo:=H.glo
 bui:=H.bui
 at_:=fun i x l zz h=>by
  obtain⟨h1,rfl⟩:=qI h
  exact(ew (H.loc x (mem_of_getElem? h1))).1
 gl:=fun x k h=>by
  rw[alook_eq]at h
  exact .inl (by unfold Env.kindOf;rw[H.sc];exact h)
 st:=fun i x c zz h=>by
  obtain⟨h1,h2⟩:=qI h
  rcases(ew (H.loc x (mem_of_getElem? h1))).2 with⟨zz,e⟩|⟨c',zz,hk,zz⟩
  ·cases h2.trans e
  ·exact hk
 okn:=fun v hv=>by
  obtain⟨x,hx,rfl⟩:=mem_map.mp hv
  exact H.okn x hx
 inj:=fun i j x y l hi hj=>by
  obtain⟨h1,h2⟩:=qI hi
  obtain⟨g1,g2⟩:=qI hj
  have e:x=y:=by
   have e:=h2.symm.trans g2
   rcases(ew (H.loc x (mem_of_getElem? h1))).2 with⟨_,e1⟩|⟨c,hc,_,e1⟩<;>rcases(ew (H.loc y (mem_of_getElem? g1))).2 with⟨zz,e2⟩|⟨c',hc',zz,e2⟩
   ·cases e1.symm.trans (e.trans e2);rfl
   ·cases e1.symm.trans (e.trans e2)
   ·cases e1.symm.trans (e.trans e2)
   ·cases e1.symm.trans (e.trans e2);exact name_of_addr H.apart (mem_of_lookup hc) (mem_of_lookup hc')
  exact pi H.dup h1 (e▸g1)
 dict:=fun v hv D x e=>by
  obtain⟨y,hy,rfl⟩:=mem_map.mp hv
  rcases(ew (H.loc y hy)).2 with⟨zz,e1⟩|⟨c,zz,zz,e1⟩
  ·cases e1.symm.trans e;exact mem_singleton.mpr rfl
  ·cases e1.symm.trans e
 cell:=fun v hv c e=>by
  obtain⟨y,hy,rfl⟩:=mem_map.mp hv
  rcases(ew (H.loc y hy)).2 with⟨zz,e1⟩|⟨c,hc,zz,e1⟩
  ·cases e1.symm.trans e
  ·cases e1.symm.trans e;exact mem_filterMap.mpr ⟨y,hy,hc⟩
 off:=fun q hq=>⟨fun h=>H.nL q hq (mem_singleton.mp h),fun h=>by
  obtain⟨y,zz,hy⟩:=mem_filterMap.mp h
  exact H.nc q hq y hy⟩
 odat:=H.room.dat
 hd:=H.room.hd
 dp:=by have:=H.room.dp;exact show A.depth+1+4*n+4<=900 from(az 0x38432411041811004441384322111104418004417) this
 un:=by have:=H.room.un;exact show A.units+3+16*n+300<=9000 from(az 0x23284212c32101022831004441232842122321110410228004417) this
 fr:=by
  obtain⟨l,h1,h2⟩:=H.room.fr
  refine⟨l,Around.frames_deeper h1,fun e he=>?_⟩
  rcases mem_cons.mp he with rfl|he
  ·exact⟨by rw[H.kind];decide,_,H.fr,.inl (mem_singleton.mpr rfl)⟩
  ·obtain⟨k,L,hL,h⟩:=h2 e he
   exact⟨k,L,hL,.inr h⟩
theorem Ap (H:EX d Os A n env):(fS G H).c=⟨d.names,if d.io then[0]else[],d.sc,d.names.length⟩:=by
 unfold Amb.c Amb.names
 refine congrArg (fun l=>(⟨l,_,_,_⟩:bF)) ?_
 show(d.names.map fun x=>(x,hJ env x)).map (·.1)=_
 rw[map_map]
 exact map_id _
end
theorem qJ:∀(k i:Nat),aK (replicate k .LZ) i=.LZ
 | 0,i=>by rcases i with _|_<;>rfl
 | k+1,0=>rfl
 | k+1,i+1=>qJ k i
theorem qK:∀(l:List PV) (k i:Nat),aK (l++replicate k .LZ) i=aK l i
 | [],k,i=>by rw[nil_append,qJ];rcases i with _|_<;>rfl
 | _::_,k,0=>rfl
 | _::r,k,i+1=>qK r k i
theorem xJ {G:Wld} {l:List PV} {us:List Value}:∀k,cM (aq G l us) (aq G (l++replicate k .LZ) (us++replicate k .none)):=fun k Z m H=>by
 have rep:∀k,bT G (replicate k .LZ) (replicate k .none) Z fun zz=>none:=fun k=>by
  induction k with
  | zero=>rfl
  | succ k ih=>exact⟨.none,_,rfl,fun zz=>none,fun zz=>none,aE,ay,ay,trivial,ih⟩
 exact cB Z m ⟨m,fun zz=>none,aR aE,le_refl m,ay,H,rep k⟩
section
variable {G:bB} {X:Amb G} {ρ:Env} {us:List Value} {R B:a7} {h:Heap}
theorem FY (S:St G.b₀ (sp (wP X ρ us) B) h):∃Os:List (Addr×Obj),A5 (∀q ∈ Os,∀vs,q.2.data≠.fields vs) (∀L,(L ∈ X.Ds∨L ∈ X.Os.map (·.1))->L ∈ Os.map (·.1)) (∀q ∈ Os,h.get? q.1=some q.2) (St G.b₀ (sp (tH Os) B) h) (cM (tH Os) (wP X ρ us)):=by
 obtain⟨Z,m,⟨x,y,d,l1,l2,F,b⟩,T⟩:=S
 let as:=X.Ds++(X.cs++X.Os.map (·.1))
 have at_:∀a ∈ as,∃o,x a=some o∧∀vs,o.data≠.fields vs:=fun a ha=>by
  rcases mem_append.mp ha with ha|ha
  ·obtain⟨o,f,e,es,ep,hd,zz⟩:=F.d a ha
   exact⟨o,e,fun vs q=>by rw[hd]at q;cases q⟩
  rcases mem_append.mp ha with ha|ha
  ·obtain⟨o,w,e,hd⟩:=F.c a ha
   exact⟨o,e,fun vs q=>by rw[hd]at q;cases q⟩
  ·obtain⟨q,hq,rfl⟩:=mem_map.mp ha
   obtain⟨sl,e⟩:=F.o q hq
   exact⟨_,e,X.odat q hq⟩
 let Os:=as.filterMap fun a=>(x a).map (a,·)
 have os:∀q ∈ Os,q.1 ∈ as∧x q.1=some q.2:=fun q hq=>by
  obtain⟨a,ha,e⟩:=mem_filterMap.mp hq
  refine bY e fun o e1 e_2=>?_
  subst e_2
  exact⟨ha,e1⟩
 have inOs:∀a ∈ as,∃o,(a,o) ∈ Os∧x a=some o:=fun a ha=>by
  obtain⟨o,e,zz⟩:=at_ a ha
  exact⟨o,mem_filterMap.mpr ⟨a,ha,by rw[e];rfl⟩,e⟩
 refine⟨Os,fun q hq vs=>?_,fun L hL=>?_,fun q hq=>(T.3 _ _ (l1 _ _ (os q hq).2)).1,⟨Z,m,⟨x,y,d,l1,l2,fun q hq=>⟨q.2.slots,(os q hq).2⟩,b⟩,T⟩,fun Z' m' H=>?_⟩
 ·obtain⟨h1,h2⟩:=os q hq
  obtain⟨o,e,n⟩:=at_ _ h1
  cases h2.symm.trans e
  exact n vs
 ·obtain⟨o,ho,zz⟩:=inOs L (hL.elim (fun h=>mem_append_left _ h) fun h=>mem_append_right _ (mem_append_right _ h))
  exact mem_map.mpr ⟨_,ho,rfl⟩
 ·refine qv F fun a o ha e zz=>?_
  obtain⟨o',h1,h2⟩:=inOs a ha
  cases e.symm.trans h2
  exact H _ h1
end
section
variable {G:bB} {d:uM} {Os:List (Addr×Obj)} {A:Around} {n:Nat} {env:PySem.Env} {R:a7} {s s₁:Shared} {vs:List PV} {us:List Value}
theorem xK (H:EX d Os A n env) (hlen:vs.length=d.np) (hnp:d.np<=d.names.length) (hio:d.io=true->0<d.np) (S:St G.b₀ (sp (aq G.toWld vs us) (sp (tH Os) R)) s.heap) (hL:s.heap.objs.size<=env.locals)
  (x:InCallC s env.locals (bindL env.kindOf ((d.names.take d.np).zip us) fun zz=>none) env.cells (bindC env.kindOf ((d.names.take d.np).zip us) fun zz=>none) s₁):
  St G.b₀ (sp (au (fS G H) (vs++replicate (d.names.length-vs.length) .LZ) (us++replicate (d.names.length-vs.length) .none)) R) s₁.heap:=by
 have ul:=S.vlen
 have xz:∀c ∈ (fS G H).cs,∃y,env.cells.lookup y=some c:=fun c hc=>by
  obtain⟨y,zz,hy⟩:=mem_filterMap.mp hc
  exact⟨y,hy⟩
 have S1:=S.hpNew (h':=s₁.heap) (ne:=env.locals::(fS G H).cs) (P':=fun zz=>True) x.toInCall.keep (fun a ha=>?_) (fun a ha=>?_) fun zz zz=>trivial
 rotate_left
 ·rcases mem_cons.mp ha with rfl|ha
  ·exact cE hL
  ·obtain⟨y,hy⟩:=xz a ha
   exact cE (le_of_lt (lt_of_le_of_lt hL (x.above y a (mem_of_lookup hy))))
 ·rcases mem_cons.mp ha with rfl|ha
  ·obtain⟨o,zz,zz,ho,zz⟩:=x.toInCall.ns;exact⟨o,ho⟩
  ·obtain⟨y,hy⟩:=xz a ha
   obtain⟨o,ho,zz⟩:=x.cell y a hy
   exact⟨o,ho⟩
 obtain⟨Z,m,⟨x1,x4,d1,l1,l2,⟨x2,x3,d2,l3,l4,⟨z1,z2,zz,k1,k2,⟨z,lz,zat,zz⟩,os⟩,ow⟩,r⟩,T⟩:=S1.imp (aj (al ag aC) (aj a8 a8))
 have real:∀a ∈ env.locals::(fS G H).cs,∀o,s₁.heap.get? a=some o->x2 a=some o:=fun a ha o e=>by
  obtain⟨o',e'⟩:=zat a ha
  have e':=k1 _ _ (lz _ _ e')
  cases e.symm.trans (T.3 _ _ (l1 _ _ (l3 _ _ e'))).1
  exact e'
 obtain⟨oL,es,ep,hoL,hdL,hkL,hfL⟩:=x.toInCall.ns
 have eL:=real _ mem_cons_self _ hoL
 refine⟨Z,m,⟨x1,x4,d1,l1,l2,⟨x2,x3,d2,l3,l4,⟨fun D hD=>?_,fun c hc=>?_,fun q hq=>?_,fun i v u hv hu hi=>?_,?_⟩,xJ _ Z x3 ow⟩,r⟩,T⟩
 ·cases mem_singleton.mp hD
  exact⟨oL,_,eL,es,ep,hdL,hkL,hfL⟩
 ·obtain⟨y,hy⟩:=xz c hc
  obtain⟨o,ho,hd⟩:=x.cell y c hy
  exact⟨o,_,real c (mem_cons_of_mem _ hc) _ ho,hd⟩
 ·obtain⟨sl,e⟩:=os q hq
  exact⟨sl,k2 _ _ e⟩
 ·have hlt:i<vs.length:=by
   rcases hi with hi|hi
   ·rw[qK]at hi;exact ki hi
   ·have hi:i ∈ (if d.io then[0]else[]:List Nat):=hi
    by_cases c:d.io=true
    ·rw[if_pos c]at hi;cases mem_singleton.mp hi;rw[hlen];exact hio c
    ·rw[if_neg c]at hi;cases hi
  obtain⟨y,l⟩:=v
  obtain⟨h1,rfl⟩:=qI hv
  rw[getElem?_append_left (by rw[ul];exact hlt)]at hu
  have hz:(y,u) ∈ (d.names.take d.np).zip us:=by
   have:((d.names.take d.np).zip us)[i]?=some (y,u):=List.getElem?_zip_eq_some.mpr ⟨by rw[List.getElem?_take,if_pos (hlen▸hlt)];exact h1,hu⟩
   exact mem_of_getElem? this
  have nd:(((d.names.take d.np).zip us).map (·.1)).Nodup:=by
   rw[List.map_fst_zip (by rw[length_take,ul];exact(aQ 0x201061100037) hlen)]
   exact(ed H.dup).sublist (List.take_sublist _ _)
  obtain⟨b1,b2⟩:=gw (kindOf:=env.kindOf) (m:=fun zz=>none) nd hz
  rcases(ew (H.loc y (mem_of_getElem? h1))).2 with⟨hk,e1⟩|⟨c,hc,hk,e1⟩
  ·show LocAt x2 (hJ env y) u
   rw[e1]
   exact⟨oL,_,eL,⟨es,ep,hdL,hkL,hfL⟩,b1 hk⟩
  ·show LocAt x2 (hJ env y) u
   rw[e1]
   obtain⟨o,ho,hd⟩:=x.cell y c hc
   exact⟨o,real c (mem_cons_of_mem _ (mem_filterMap.mpr ⟨y,mem_of_getElem? h1,hc⟩)) _ ho,hd.trans (by rw[b2 (by rw[hk];exact fun h=>nomatch h)])⟩
 ·rw[length_append,length_replicate,ul]
  show _=(d.names.map _).length
  rw[length_map]
  exact(aQ 0x20002050043201017100037) hlen hnp
theorem tJ (H:EX d Os A n env) {ρ:Env} {ws:List Value} {u:Value} (hu:d.io=true->ws[0]?=some u):cM (au (fS G H) ρ ws) (sp (aH G.toWld (pU d ρ) u) (tH Os)):=by
 refine aj (al (C:=tH Os) (fun Z m F=>F.o) ?_) rZ
 intro Z m ow
 unfold pU
 by_cases c:d.io=true
 ·rw[if_pos c]
  rcases ρ with _|⟨p,ρ⟩
  ·exact trivial
  ·obtain⟨w,r,rfl,y,z,zz,l1,zz,a,zz⟩:=ow
   cases hu c
   exact eo (le_refl Z) p l1 a
 ·rw[if_neg c]
  exact trivial
noncomputable def xL (v:PV) (u:Value):Result:=match v with
 | .exc=>.error u
 | _=>.ok (.ret u)
def bO (G:bB) (n:Nat) (Φ:Calls) (k:Nat):Prop:=
 ∀(vs:List PV) (us:List Value) (P:PV->PV->Prop) (A:Around) (s:Shared) (Os:List (Addr×Obj)) (R:a7) (C:Result->Shared->Prop),
  Φ k vs P->tI A Os n->St G.b₀ (sp (aq G.toWld vs us) (sp (tH Os) R)) s.heap ->
  (∀v o u h tk,P v o->St G.b₀ (sp (aH G.toWld v u) (sp (aH G.toWld o (us.headD .none)) (sp (tH Os) R))) h->C (xL v u) {s with heap:=h,toks:=tk}) ->
  codeAny (model G.prog G.w) A (.call (.ref (G.ad k)) ⟨us,[]⟩) C s
end
section
variable {G:bB} {d:uM} {fd:FuncData} {n k:Nat}
theorem xM {b₀ h:Heap} {G:Wld} {vs dfl:List PV} {us dv:List Value} {R:a7} (H:bT G dfl dv b₀.get? fun zz=>none) (j:Nat) (S:St b₀ (sp (aq G vs us) R) h):St b₀ (sp (aq G (vs++dfl.drop j) (us++dv.drop j)) R) h:=by
 obtain⟨Z,m,⟨x,y,d,l1,l2,a,r⟩,T⟩:=S
 exact⟨Z,m,⟨x,y,d,l1,l2,cB Z x ⟨x,fun zz=>none,aR aE,le_refl x,ay,a,gH j Z _ (ci T.1 _ (le_refl _) H)⟩,r⟩,T⟩
theorem Aq {Φ:Calls} (F:xI G k d fd) (B:∀Os A env (H:EX d Os A n env),SX (fS G H) (execs d.body env) (aV (ex G.T Φ (ev G.T Φ 30) 12 (fS G H).c) d.body)) {Ψ:Calls} (hΨ:∀vs P,Ψ k vs P->FI G.T Φ d vs P):bO G (n+1) Ψ k:=by
 intro vs us P A s Os R C h room S kr
 refine eQ (hΨ vs P h) fun vs' hw h=>?_
 obtain⟨c,rfl⟩:=br hw
 refine cz c fun c1 c2=>?_
 have c1:vs.length<=d.np:=le_of_ble_eq_true c1
 have c2:d.np<=vs.length+d.dfl.length:=le_of_ble_eq_true c2
 obtain⟨oc,od,osl,hat⟩:=F.at_
 obtain⟨dv,hdv,hod⟩:=F.dflt
 have kb:=S.base
 have ul:=S.vlen
 have dl:dv.length=d.dfl.length:=bQ hod
 have few:=F.few
 have len:=F.len
 have nsl:(d.names.take d.np).length=d.np:=by rw[length_take];exact(az 0x100063100017) len
 have bt:=qH (s:=s) (vals:=us) F.par F.ns ((ed F.dup).sublist (List.take_sublist _ _)) (by exact(b6 0x30201103037002037100017) c1 ul nsl) (by exact(H9 0x40304501005037204037103037201040017) c2 ul dl nsl) (by exact(b6 0x30001203037201017100037) dl few nsl) (hdv.keeps kb)
 rw[nsl,dl,ul]at bt
 have S1:=xM hod (d.dfl.length+vs.length-d.np) S
 have plen:(vs++d.dfl.drop (d.dfl.length+vs.length-d.np)).length=d.np:=by rw[length_append,length_drop];exact(aQ 0x10100020452050043200041017100017) c1 c2
 have hio:d.io=true->0<d.np:=fun c=>lt_of_le_of_lt (zero_le _) (F.io c)
 have hd0:d.io=true->(us++dv.drop (d.dfl.length+vs.length-d.np))[0]?=some (us.headD .none):=fun c=>by
  have:=F.io c
  rcases us with _|⟨u,us⟩
  ·have ul:0=vs.length:=ul;lia
  ·rfl
 generalize vs++d.dfl.drop (d.dfl.length+vs.length-d.np)=ws at h S1 plen
 generalize us++dv.drop (d.dfl.length+vs.length-d.np)=zs at S1 bt hd0
 refine codeAny_call_function (by have:=room.dp;exact show A.depth<1000 from(az 0x3e832002384322111104418004417) this) (kb _ _ (G.X _ _ hat)) rfl F.co F.gen F.body (codeRec_of (fun zz zz q=>kb _ _ (G.X _ _ q)) F.code) ?_
 refine bt _ _ _ _ ?_
 rw[F.clo]
 have kinds:∀x ∈ d.names,fd.scope.names.lookup x=some .local∨(fd.scope.names.lookup x=some .cell∧∃c,(cellsFrom (s.heap.objs.size+1) fd.scope.names []).lookup x=some c):=fun x hx=>by
  rcases(F.kinds x hx).2 with q|q
  ·exact .inl (by rw[F.sc];exact q)
  ·exact .inr ⟨by rw[F.sc];exact q,jr _ _ _ (.inr (by rw[F.sc];exact q))⟩
 refine wpAny_newFunctionEnv_cells F.kind (fun x hx=>(kinds x.1 (List.mem_of_mem_take (of_mem_zip hx).1)).imp id fun q=>⟨q.1,Option.isSome_iff_exists.mpr q.2⟩) fun env he s₁ x=>?_
 refine⟨(G.top.keeps kb).nolimit.keeps x.toInCall.keep,codeAny_func ?_⟩
 have hL:env.locals=s.heap.objs.size:=by rw[he];rfl
 have osat:∀q ∈ Os,∃o,s.heap.get? q.1=some o:=fun q hq=>by
  obtain⟨zz,zz,⟨zz,zz,zz,zz,l2,zz,zz,zz,zz,l3,zz,os,zz⟩,zz,zz,r3⟩:=S
  obtain⟨sl,e⟩:=os q hq
  exact⟨_,(r3 _ _ (l2 _ _ (l3 _ _ e))).1⟩
 have H:EX d Os A n env:=⟨by rw[he];exact F.kind,by rw[he];exact F.glo,by rw[he];exact F.bui,by rw[he];exact F.sc,F.dup,fun x hx=>(F.kinds x hx).1,fun x hx=>by rw[he];exact kinds x hx,x.apart,
  fun q hq e=>(by obtain⟨o,w⟩:=osat q hq;rw[e,hL,bG]at w;cases w),fun q hq y e=>(by obtain⟨o,w⟩:=osat q hq;rw[cE (by rw[←hL];exact le_of_lt (x.above y _ (mem_of_lookup e)))]at w;cases w),by rw[he];rfl,room⟩
 have S2:=xK H plen len hio S1 (Nat.le_of_eq hL.symm) x
 rw[←Ap H]at h
 obtain⟨h1,tk1,hs⟩:=x.toInCall.same
 refine B Os A env H s₁ _ _ _ R _ _ h S2 fun fl ρ' ws' u h' tk hp kp S3=>?_
 have hu:d.io=true->ws'[0]?=some (us.headD .none):=fun c=>by
  have e:ws'[0]?=_:=kp.2 0 (.inr (by show 0 ∈ (if d.io then[0]else[]:List Nat);rw[if_pos c];exact mem_singleton.mpr rfl))
  rw[e,getElem?_append_left (by rw[S1.vlen,plen];exact hio c)]
  exact hd0 c
 have dY:∀{v:PV} {u:Value} {o:PV},P v o->St G.b₀ (sp (aH G.toWld v u) (sp (aH G.toWld o (us.headD .none)) (sp (tH Os) R))) h'->C (xL v u) {s₁ with heap:=h',toks:=tk}:=fun hp S=>by
  subst hs
  exact kr _ _ _ _ tk hp S
 have out:∀{B:a7},cM (sp B (sp (au (fS G H) ρ' ws') R)) (sp B (sp (aH G.toWld (pU d ρ') (us.headD .none)) (sp (tH Os) R))):=al ag (aj (al (tJ H hu) ag) bM)
 rcases fl with _|_|_|_|v
 ·exact dY (v:=.none) hp ((S3.snd.put (v:=.none) (u:=.none) fun zz zz=>rfl).imp out)
 ·exact hp.elim
 ·exact hp.elim
 ·refine bH hp fun c hp=>?_
  refine xw (X:=fS G H) (s:={s₁ with heap:=h',toks:=tk}) rfl S3 fun h'' S4=>?_
  subst hs
  have:=kr .exc .LZ u h'' tk hp (S4.imp (al ag (aj (al (aj (tJ H hu) iI) ag) fun Z m w=>⟨fun zz=>none,m,aE,ay,le_refl m,trivial,w⟩)))
  exact this
 ·refine bH hp fun c hp=>?_
  have e:∀u,xL v u=.ok (.ret u):=fun u=>by rcases v with _|_<;>first|rfl|exact bp c
  have:=dY hp (S3.imp out)
  rw[e]at this
  exact this
end
structure cX (G:bB):Prop extends GlobOk G where
 fk:∀x k,G.T.glob x=some (.fn k)->keepIn G.K (.ref (G.ad k))=true
 meth:∀c m k,G.T.meth c m=some k->A5 (plainGet G.K (G.cls c) "x" = true) (findIn G.K (.ref (G.cls c)) m=some (some (.ref (G.ad k)))) (typeIn G.K (.ref (G.ad k))=some (.type "function")) (keepIn G.K (.ref (G.ad k))=true) (∀cd,G.T.cls c=some cd->m ∉ cd.fields)
 new:∀c cd,G.T.cls c=some cd->A4 (makesIn G.K (G.cls c)=true) (findIn G.K (.ref (G.cls c)) "__init__" = some (some (.ref (G.ad cd.init)))) (typeIn G.K (.ref (G.ad cd.init))=some (.type "function")) (keepIn G.K (.ref (G.cls c))=true)
section
variable {G:bB} {X:Amb G} {r:Ev} {Φ:Calls} {k:Nat} {vs l:List PV} {ws us:List Value} {ρ:Env} {R:a7} {s:Shared} {Q E:Value->Shared->Prop}
theorem xN {A:a7} {h:Heap} (S:St G.b₀ (sp A (sp (au X ρ us) R)) h):E2 fun Os R'=>A4 (tI X.A Os X.n) (∀{C vs},tI (X.A.under (.builtin "type.__call__" ⟨.ref C::vs,[]⟩)) Os X.n) (St G.b₀ (sp A (sp (tH Os) R')) h) (∀B h,St G.b₀ (sp B (sp (tH Os) R')) h->St G.b₀ (sp B (sp (au X ρ us) R)) h):=by
 obtain⟨Os,h1,h2,zz,S',h4⟩:=FY (S.imp (aj aC bM))
 have fr:∃l,X.A.frames=some l∧∀e ∈ l,e.scope.kind≠.module∧∃L,e.frame=some L∧L ∈ Os.map (·.1):=by
  obtain⟨outer,q1,q2⟩:=X.fr
  exact⟨_,q1,fun e he=>⟨(q2 e he).1,(q2 e he).2.imp fun L h=>⟨h.1,h2 L h.2⟩⟩⟩
 have dp:=X.dp
 have un:=X.un
 refine⟨Os,_,⟨X.hd,by exact(az 0x38432211041800441384324110418004417) dp,by exact(az 0x2328421223210102280044123284212c321010228004417) un,fr,h1⟩,⟨X.hd,by exact show X.A.depth+1+4*X.n+2<=900 from(az 0x38432211041811004441384324110418004417) dp,by exact show X.A.units+1+16*X.n+290<=9000 from(az 0x2328421223210102281100444123284212c321010228004417) un,fr,h1⟩,S'.imp (aj (al ag aC) aC),fun B h S=>S.imp (al ag (aj (al h4 ag) a8))⟩
theorem pk {P:PV->PV->Prop} (C:bO G X.n Φ k) (h:Φ k vs P) (S:St G.b₀ (sp (aq G.toWld vs ws) (sp (au X ρ us) R)) s.heap)
  (kk:∀v o u h tk,P v o->St G.b₀ (sp (aH G.toWld v u) (sp (aH G.toWld o (ws.headD .none)) (sp (au X ρ us) R))) h->dY v Q E u {s with heap:=h,toks:=tk}):wpAny (model G.prog G.w) X.A (call (.ref (G.ad k)) ws) Q E s:=by
 obtain⟨Os,R',h1,zz,h2,h3⟩:=xN S
 refine wpAny_call (C vs ws P X.A s Os R' _ h h1 h2 fun v o u h' tk hp S'=>?_)
 have:=kk v o u h' tk hp ((h3 _ _ (S'.imp a8)).imp bM)
 rcases v with _|_<;>exact this
theorem nI:∀{l:List PV} {i:Nat} {v w:PV},aS (aS l i v) i w=aS l i w
 | [],_,_,_=>rfl
 | _::_,0,_,_=>rfl
 | x::_,_+1,_,_=>congrArg (x::·) nI
theorem FZ {P:PV->Env->Prop} {i:Nat} {u:Value} (C:bO G X.n Φ k) (hu:us[i]?=some u) (ol:l.all bS=true) (h:bK (jJ (aK ρ i)) (Φ k (aK ρ i::l.map af) fun v o=>bK (jJ o) (P v (aS ρ i o)))) (S:St G.b₀ (sp (aq G.toWld l ws) (sp (au X ρ us) R)) s.heap)
  (kk:∀v ρ' w h tk,P v ρ'->St G.b₀ (sp (aH G.toWld v w) (sp (au X ρ' us) R)) h->dY v Q E w {s with heap:=h,toks:=tk}):wpAny (model G.prog G.w) X.A (call (.ref (G.ad k)) (u::ws)) Q E s:=by
 refine bH h fun c h=>?_
 have iv:mH (aK ρ i)=true:=d0 (or_eq_true_iff.mpr (.inr c))
 have S1:=(S.shrs ol).imp (al ag (al (tD iv) ag))
 obtain⟨u',S2,hu'⟩:=(S1.imp aC).foc (X:=X.pin i) (p:=(i,[])) (q:=aK ρ i) (if_pos iv)
 cases hu.symm.trans (hu' rfl)
 have S3:=S2.imp pg
 have S4:St G.b₀ (sp (aq G.toWld (aK ρ i::l.map af) (u::ws)) (sp (au (X.pin i) (aS ρ i .LZ) us) R)) s.heap:=S3.imp (aj (al ag aC) (aj a8 (al (fun Z m H=>⟨u,ws,rfl,H⟩) ag)))
 have hi:i<(aS ρ i .LZ).length:=by rw[setN_len];exact ki iv
 refine pk (X:=X.pin i) C h S4 fun v o w h' tk hp S5=>?_
 refine bH hp fun zz hp=>?_
 refine kk v _ w h' tk hp (S5.imp (al ag (aj a8 (al (aj (tE (X:=X.pin i) mem_cons_self hu hi) ?_) ag))))
 rw[nI]
 exact ny
end
section
variable {G:bB} {X:Amb G} {r:Ev} {Φ:Calls} {R:a7} {s:Shared} {ρ:Env} {us:List Value} {Q E:Value->Shared->Prop} {P:PV->Env->Prop}
theorem EY (S:St G.b₀ R s.heap):G.K.In s.heap:=fun b o q=>S.base b o (G.X b o q)
theorem F2 (C:∀k,bO G X.n Φ k) (H:∀e,SE X (eval e X.env) (r.e X.c e)) {k:Nat} {as:List Expr} {pos:Pos} {v0:List PV} {w0:List Value} (hk:keepIn G.K (.ref (G.ad k))=true) (h:wy G.T Φ r X.c k v0 as ρ P) (S:St G.b₀ (sp (aq G.toWld v0 w0) (sp (au X ρ us) R)) s.heap)
  (kk:∀v ρ' u h k,P v ρ'->St G.b₀ (sp (aH G.toWld v u) (sp (au X ρ' us) R)) h->dY v Q E u {s with heap:=h,toks:=k}):wpAny (model G.prog G.w) X.A (callWith pos (.ref (G.ad k)) w0 (backTo pos (starEach as X.env)) []) Q E s:=by
 refine bH h fun zz h=>?_
 refine gn (C:=G.K.In) H (fun h X=>keeps_K hk h X) h (S.imp aC) fun l ρ' vs h' tk zz ol hp S'=>⟨EY (s:={s with heap:=h',toks:=tk}) S',?_⟩
 refine pk (s:={s with heap:=h',toks:=tk}) (C k) hp (((S'.shrs ol).imp (aj fY (aj a8 (al cB ag))))) fun v o u h'' tk' hv S''=>kk v ρ' u h'' tk' hv (S''.imp (al ag iI))
theorem F3 (C:∀k,bO G X.n Φ k) (H:∀e,SE X (eval e X.env) (r.e X.c e)) {k i:Nat} {as:List Expr} {pos:Pos} {u:Value} (hu:us[i]?=some u) (h:mJ r X.c as ρ fun vs ρ'=>bK (jJ (aK ρ' i)) (Φ k (aK ρ' i::vs.map af) fun v o=>bK (jJ o) (P v (aS ρ' i o)))) (S:St G.b₀ (sp (au X ρ us) R) s.heap)
  (kk:∀v ρ' w h tk,P v ρ'->St G.b₀ (sp (aH G.toWld v w) (sp (au X ρ' us) R)) h->dY v Q E w {s with heap:=h,toks:=tk}):as.all jM=true∧wpAny (model G.prog G.w) X.A (spliced (backTo pos (starEach as X.env))) (fun vs s₁=>G.K.In s₁.heap∧wpAny (model G.prog G.w) X.A (call (.ref (G.ad k)) (u::vs)) Q E s₁) E s:=by
 refine bH h fun c h=>?_
 have c:=(c5 c).2
 exact⟨c,sr H as c s ρ us _ R _ E h S fun l ρ' vs h' tk zz ol hp S'=>⟨EY (s:={s with heap:=h',toks:=tk}) S',FZ (s:={s with heap:=h',toks:=tk}) (C k) hu ol hp S' kk⟩⟩
theorem Ar {names:List Str} {a:Expr} {p:f8} (h:ja names 1 a=some p):(∃y q,a=.Name y q)∧p.2=[]:=by
 cases a with
 | Name y q=>obtain⟨i,zz,rfl⟩:=map_eq_some_iff.mp h;exact⟨⟨y,q,rfl⟩,rfl⟩
 | Attribute b f q=>exact no h
 | Subscript b st q=>
  change (match jL st with|some k=>none|none=>if j8 st then none else none)=some p at h
  cases q:jL st with
  | some k=>rw[q]at h;exact no h
  | none=>
   rw[q]at h
   by_cases c:j8 st=true
   ·cases (if_pos c).symm.trans h
   ·cases (if_neg c).symm.trans h
 | _=>exact no h
theorem F4 (O:cX G) (C:∀k,bO G X.n Φ k) (H:∀e,SE X (eval e X.env) (r.e X.c e)) {x:Str} {k:Nat} {as:List Expr} {np pos:Pos} (hg:cZ G.T X.c x=some (.fn k)):CE X (eval (.Call (.Name x np) as [] pos) X.env) (rV G.T Φ r X.c k as):=by
 intro s ρ us P R Q E h S kk
 obtain⟨h1,h2⟩:=cb hg
 obtain⟨o1,o2⟩:=O.f x k h2
 have hk:=O.fk x k h2
 refine c6 (fg h1 S.base o2 o1 ?_)
 unfold rV at h
 by_cases c:G.T.isIo k=true
 ·rw[if_pos c]at h
  cases as with
  | nil=>exact h.elim
  | cons a as=>
   change (match ja X.c.names 1 a with|some (i,_)=>rU Φ r X.c k i as ρ P|none=>eO)at h
   cases q:ja X.c.names 1 a with
   | none=>rw[q]at h;exact h.elim
   | some p=>
    rw[q]at h
    obtain⟨⟨y,yp,rfl⟩,e⟩:=Ar q
    obtain⟨i,pth⟩:=p
    cases (show pth=[]from e)
    refine bH h fun c h=>?_
    have okq:bS (aK ρ i)=true:=or_eq_true_iff.mpr (.inr c)
    have go:=fun u tk (hu:us[i]?=some u) S'=>F3 (s:={s with toks:=tk}) (pos:=pos) C H hu h S' kk
    have cc:(Expr.Name y yp::as).all jM=true:=by
     obtain⟨u,zz,hu⟩:=S.foc (p:=(i,[])) (q:=aK ρ i) (if_pos (d0 okq))
     exact List.all_cons.trans (go u s.toks (hu rfl) S).1
    refine callWith_of (P:=G.K.In) (by rw[bZ cc];rfl) (fun h X=>keeps_K hk h X) (bh cc (wpAny_items_cons (cj q (if_pos (d0 okq)) okq S fun u tk S' hu=>?_) rfl))
    exact(go u tk (hu rfl) (S'.imp dh)).2
 ·rw[if_neg c]at h
  exact F2 C H hk h (S.imp fun Z m h=>⟨fun zz=>none,m,aE,ay,le_refl m,rfl,h⟩) kk
theorem DG (O:cX G) (C:∀k,bO G X.n Φ k) (H:∀e,SE X (eval e X.env) (r.e X.c e)) {x:Str} {k:Nat} {as:List Expr} {np pos:Pos} (hg:cZ G.T X.c x=some (.cls k)):CE X (eval (.Call (.Name x np) as [] pos) X.env) (FA G.T Φ r X.c k as):=by
 intro s ρ us P R Q E h S kk
 obtain⟨h1,h2⟩:=cb hg
 obtain⟨o1,o2⟩:=O.c x k h2
 refine eQ h fun cd hcd h=>?_
 obtain⟨n1,n2,n3,n4⟩:=O.new k cd hcd
 refine c6 (fg h1 S.base o2 o1 ?_)
 refine gn (C:=G.K.In) H (fun h X=>keeps_K n4 h X) h S fun l ρ' vs h' tk zz ol hp S'=>?_
 have X₁:G.K.In h':=EY (s:={s with heap:=h',toks:=tk}) S'
 refine⟨X₁,wpAny_call (make_core (makes_of X₁ n1) (looks_findIn X₁ n2) (fun self=>bind_fn X₁ self n3) (.inl rfl) ?_)⟩
 have S1:=((S'.shrs ol).push emptyDict rfl).push (instObj (G.cls k) h'.objs.size) rfl
 rw[Heap.size_push]at S1
 have S2:St G.b₀ (sp (aq G.toWld (.obj k [] []::l.map af) (.ref (h'.objs.size+1)::vs)) (sp (au X ρ' us) R)) _:=S1.imp (aj a8 (aj (al (A:=sp (pt (h'.objs.size+1) (instObj (G.cls k) h'.objs.size)) (pt h'.objs.size emptyDict)) (C:=aH G.toWld (.obj k [] []) (.ref (h'.objs.size+1))) (fun Z m H=>?_) ag) (aj a8 (al (fun Z m H=>⟨_,vs,rfl,H⟩) ag))))
 rotate_left
 ·obtain⟨x,y,d,l1,l2,a,b⟩:=H
  exact⟨h'.objs.size+1,h'.objs.size,#[],#[],0,[],cd,rfl,hcd,fun x hx=>(nomatch hx),⟨rfl,rfl⟩,x,y,d,l1,l2,a,y,fun zz=>none,aR aE,le_refl y,ay,b,rfl⟩
 obtain⟨Os,R',zz,room,S3,back⟩:=xN S2
 refine C cd.init _ _ _ _ ⟨_,s.gens,s.drawn,tk,s.os⟩ Os R' _ hp room S3 fun v o u h'' tk' hv S4=>?_
 refine bH hv fun c hv2=>?_
 refine cz c fun c1 c2=>?_
 have e:v=.none:=by rcases v with _|_<;>first|rfl|exact bp c1
 subst e
 obtain⟨zz,zz,zz,zz,e⟩:=S4.look
 cases (show u=.none from e)
 have:=kk o ρ' (.ref (h'.objs.size+1)) h'' tk' hv2 (back _ _ S4.snd)
 rw[fF (or_eq_true_iff.mpr (.inr c2))]at this
 exact⟨rfl,this⟩
end
section
variable {G:bB} {X:Amb G} {r:Ev} {Φ:Calls} {R:a7} {s:Shared} {ρ:Env} {us:List Value} {Q E:Value->Shared->Prop} {P:PV->Env->Prop}
def Cb (G:bB) (A:Around) (E:Value->Shared->Prop) (u:Value) (m:Str) (f:Value) (s:Shared):Prop:=∀(pl:Sem Bool) (Q:Value×List Value->Shared->Prop),Q (f,[u]) s->wpAny (model G.prog G.w) A (getMethod u m pl) Q E s
theorem js {b:Expr} {m:Str} {as:List Expr} {ap cp:Pos} (hm:zr b ap cp=true) (h:wpAny (model G.prog G.w) X.A (eval b X.env) (fun u s₁=>gX as=true∧∃f,Cb G X.A E u m f s₁∧wpAny (model G.prog G.w) X.A (callWith cp f [u] (backTo cp (starEach as X.env)) []) Q E s₁) E s):
  wpAny (model G.prog G.w) X.A (eval (.Call (.Attribute b m ap) as [] cp) X.env) Q E s:=by
 obtain⟨h1,h2⟩:=tw hm
 rw[arm_eval_Call,lq h1]
 refine wpAny_bind (wpAny_mono h (fun u s₁ h₁=>wpAny_bind (wpAny_standAt ?_)) fun zz zz x=>x)
 obtain⟨sh,f,hf,hc⟩:=h₁
 have hform:methodCallForm (as.length+([]:List Keyword).length) (backTo cp (starEach as X.env)) (backToKw cp (keywordEach [] X.env))=true:=few sh
 have hpos:methodCallPos true b X.env ap cp=pure cp:=by unfold methodCallPos;simp[h2]
 unfold methodCall
 rw[hform]
 exact wpAny_bind (wpAny_holding (hf _ _ (wpAny_bind (wpAny_of_eq hpos hc))))
set_option tactic.hygienic true in
theorem im (O:cX G) {A:Around} {v:PV} {u:Value} {m:Str} {k:Nat} {q:Nat×List Str×List PV} (hq:mW (un v)=some q) (hm:G.T.meth q.1 m=some k) (S:St G.b₀ (sp (aH G.toWld v u) R) s.heap):Cb G A E u m (.ref (G.ad k)) s:=by
 intro pl Q hQ
 obtain⟨m1,m2,m3,m4,m5⟩:=O.meth _ _ _ hm
 obtain⟨Z,n,lz,ln,ow⟩:=S.look
 obtain⟨a,d,sl,es,kk,ws,cd,rfl,hcd,hks,hE,ha,hd⟩:E7 fun a d sl es kk ws cd=>A6 (u=.ref a) (G.T.cls q.1=some cd) (∀x ∈ q.2.1,x ∈ cd.fields) (r0 q.2.1 ws es.toList) (s.heap.get? a=some (dQ (G.cls q.1) d sl)) (s.heap.get? d=some (dP es kk)):=by
  have e:=jh hq
  rcases v with _|_<;>first|exact no e|exact bp e|(cases e;done)|skip
  ·rename_i c ks l
   cases e
   obtain⟨a,d,sl,es,kk,ws,cd,h1,h2,h3,h4,x,y,zz,l1,l2,ha,x',zz,zz,l3,zz,hd,zz⟩:=ow
   exact⟨a,d,sl,es,kk,ws,cd,h1,h2,h3,h4,ln _ _ (l1 _ _ ha),ln _ _ (l2 _ _ (l3 _ _ hd))⟩
  ·rename_i w
   cases (show w=_ from e)
   obtain⟨z,l0,a,d,sl,es,kk,ws,cd,h1,h2,h3,h4,x,y,zz,l1,l2,ha,x',zz,zz,l3,zz,hd,zz⟩:=ow
   exact⟨a,d,sl,es,kk,ws,cd,h1,h2,h3,h4,lz _ _ (l0 _ _ (l1 _ _ ha)),lz _ _ (l0 _ _ (l2 _ _ (l3 _ _ hd)))⟩
 refine method_fn (EY S) (kl ha hd) (plainGet_of m1).1 (plainGet_of m1).2 m2 m3 ?_ hQ
 show(lookIn m (dictOf es.toList kk)).map _=_
 rw[lookIn_dict,(gi hE).1,valueAt_none_of_not_mem]
 ·rfl
 ·intro h
  obtain⟨⟨y,w⟩,hy,e⟩:=mem_map.mp h
  exact m5 cd hcd (hks m (e▸(of_mem_zip hy).1))
theorem As (O:cX G) (C:∀k,bO G X.n Φ k) (H:∀e,SE X (eval e X.env) (r.e X.c e)) {b:Expr} {m:Str} {as:List Expr} {ap cp:Pos}:CE X (eval (.Call (.Attribute b m ap) as [] cp) X.env) fun ρ P=>bK (zr b ap cp) (wA G.T Φ r X.c b m as ρ P):=by
 intro s ρ us P R Q E h S kk
 refine bH h fun hm h=>?_
 unfold wA at h
 refine kS h (fun q e1 h7=>?_) fun e1 h7=>?_
 ·clear h
  refine aJ e1 fun w hw e1=>?_
  obtain⟨c,e1⟩:=et e1
  refine bY e1 fun k hk e_2=>?_
  subst e_2
  obtain⟨hk,zz⟩:=Option.filter_eq_some_iff.mp hk
  obtain⟨⟨i,pth⟩,cl,ks,vs⟩:=w
  cases List.isEmpty_iff.mp c
  obtain⟨h1,h2⟩:=qe hw
  refine bH h7 fun zz h7=>?_
  refine js hm (cj h1 h2 rfl S fun u tk S' hu=>?_)
  have go:=F3 (s:={s with toks:=tk}) (pos:=cp) C H (hu rfl) h7 (S'.imp dh) kk
  have sh:gX as=true:=(bL h7).1
  exact⟨sh,_,im (s:={s with toks:=tk}) O (v:=.obj cl ks vs) rfl hk S',callWith_of (P:=G.K.In) (by rw[bZ go.1];rfl) (fun h7 X=>keeps_K (O.meth _ _ _ hk).4 h7 X) (bh go.1 go.2)⟩
 ·clear h
  refine kS h7 (fun q e2 h77=>?_) fun e2 h77=>?_
  ·clear h7
   exact Dt hm e2 h77 S fun v ρ' u h' tk ov hp S'=>by
    have:=kk v ρ' u h' tk hp S'
    rw[fF ov]at this
    exact this
  ·clear h7
   refine js hm (H b s ρ us _ R _ E h77 S fun v ρ' u h' tk ov hv S'=>?_)
   unfold BW at hv
   refine kS hv (fun q e3 hv7=>?_) fun e3 hv7=>?_
   ·clear hv
    refine eQ hv7 fun k hk hv7=>?_
    have S2:=(S'.shr ov).imp (al (C:=aq G.toWld [.fz (.obj q.1 q.2.1 q.2.2)] [u]) (by rw[xc ov e3];exact dw) ag)
    have sh:gX as=true:=(bL (bL hv7).2).1
    exact⟨sh,_,im (s:={s with heap:=h',toks:=tk}) O e3 hk S',F2 (s:={s with heap:=h',toks:=tk}) C H (O.meth _ _ _ hk).4 hv7 S2 kk⟩
   ·clear hv
    refine bH hv7 fun g hv7=>?_
    obtain⟨rfl,sh,hT,hd,hc⟩:=Du (b:=b) (s:={s with heap:=h',toks:=tk}) (cp:=cp) (ap:=ap) H g ov hv7 S' fun v ρ' u h' tk ov hp S'=>by
     have:=kk v ρ' u h' tk hp S'
     rw[fF ov]at this
     exact this
    exact⟨sh,_,fun pl Q hQ=>getMethod_builtin hT PySem.F.plainAttrs_dict PySem.F.slot_dict_get PySem.F.type_dict_get hd hQ,hc⟩
end
section
variable {G:bB} {X:Amb G} {r:Ev}
theorem ip {key:Option Expr} {keys:List (Option Expr)} {xs:List Str} (h:ia (key::keys)=some xs):E4 fun x j p q=>A3 (key=some (.Constant (.str x) j p)) (ia keys=some q) (xs=x::q):=by
 refine aJ h fun e he h1=>?_
 refine aJ h1 fun x hx h2=>?_
 refine bY h2 fun q hq e_2=>?_
 subst e_2
 cases he
 obtain⟨j,p,rfl⟩:=m0 hx
 exact⟨x,j,p,q,rfl,hq,rfl⟩
theorem lN:∀{keys:List (Option Expr)} {xs:List Str},ia keys=some xs->keys.all (·.isSome)=true∧keys.length=xs.length
 | [],_,h=>by cases h;exact⟨rfl,rfl⟩
 | _::_,_,h=>by
  obtain⟨x,j,p,q,rfl,hq,rfl⟩:=ip h
  obtain⟨h1,h2⟩:=lN hq
  exact⟨h1,congrArg Nat.succ h2⟩
theorem qL (H:∀e,SE X (eval e X.env) (r.e X.c e)) {pos:Pos}:∀{keys:List (Option Expr)} {xs:List Str} {es:List Expr},ia keys=some xs->xs.length=es.length ->
  ∀{s:Shared} {ρ:Env} {us:List Value} {P:List PV->Env->Prop} {R:a7} {Q:List (Value×Value)->Shared->Prop} {E:Value->Shared->Prop},BU r X.c es ρ P->St G.b₀ (sp (au X ρ us) R) s.heap ->
  (∀l ρ' ps h tk,l.length=xs.length->P l ρ'->St G.b₀ (sp (aq G.toWld l (ps.map (·.2))) (sp (au X ρ' us) R)) h->allStrKeys ps=true->strPairs ps=xs.zip (ps.map (·.2))->Q ps {s with heap:=h,toks:=tk}) ->
  wpAny (model G.prog G.w) X.A (evalPairs (pairTrees keys es X.env pos)) Q E s
 | [],xs,es,hk,hl,s,ρ,us,P,R,Q,E,h,S,k=>by
  cases hk
  cases length_eq_zero_iff.mp hl.symm
  exact pairTrees_nil_walk (k [] ρ [] s.heap s.toks rfl h (S.imp fun Z m a=>⟨fun zz=>none,m,aE,ay,le_refl m,rfl,a⟩) rfl rfl)
 | _::keys,xs,[],hk,hl,_,_,_,_,_,_,_,_,_,_=>by
  obtain⟨zz,zz,zz,zz,zz,zz,rfl⟩:=ip hk
  cases hl
 | _::keys,xs,e::es,hk,hl,s,ρ,us,P,R,Q,E,h,S,k=>by
  obtain⟨x,j,p,q,rfl,hq,rfl⟩:=ip hk
  refine pairTrees_cons_walk (wpAny_Constant_str ?_)
  have rest:∀{v:PV} {u:Value} {ρ₁:Env} {h₁:Heap} {tk₁:Nat},BU r X.c es ρ₁ (fun l ρ=>P (v::l) ρ)->St G.b₀ (sp (aH G.toWld v u) (sp (au X ρ₁ us) R)) h₁->wpAny (model G.prog G.w) X.A (evalPairs (pairTrees keys es X.env pos)) (fun ps s₂=>Q ((.str x s.toks,u)::ps) s₂) E {s with heap:=h₁,toks:=tk₁}:=fun{v u ρ₁ h₁ tk₁} hp S₁=>
   qL H hq (Nat.succ.inj hl) (s:={s with heap:=h₁,toks:=tk₁}) hp (S₁.imp aC) fun l ρ₂ ps h₂ tk₂ ln hP S₂ hs hz=>k (v::l) ρ₂ (_::ps) h₂ tk₂ (congrArg Nat.succ ln) hP (S₂.imp (aj fY (aj a8 (al (fun Z m a=>⟨u,_,rfl,a⟩) ag)))) hs (congrArg ((x,u)::·) hz)
  have h:(match dM e with
   | some x=>aP (ix x X.c.names) fun i=>bK (bS (aK ρ i)) (BU r X.c es (aS ρ i .LZ) fun l ρ'=>P (aK ρ i::l) ρ')
   | none=>bK (jM e) (r.e X.c e ρ fun v ρ=>BU r X.c es ρ fun l ρ=>P (v::l) ρ)):=h
  cases hn:dM e with
  | some y=>
   rw[hn]at h
   refine eQ h fun i hi h1=>?_
   refine bH h1 fun ok h2=>?_
   obtain⟨yp,rfl⟩:=bX hn
   have hp:ja X.names 5 (.Name y yp)=some (i,[]):=by show(ix y X.names).map _=_;rw[show ix y X.names=some i from hi];rfl
   exact cj (s:={s with toks:=s.toks+1}) hp (if_pos (d0 ok)) ok S fun u tk S' zz=>rest h2 (S'.imp pg)
  | none=>
   rw[hn]at h
   refine bH h fun zz h=>?_
   exact H e {s with toks:=s.toks+1} ρ us _ R _ E h S fun v ρ₁ u h₁ k₁ zz hp S₁=>rest hp S₁
theorem DH (H:∀e,SE X (eval e X.env) (r.e X.c e)) {keys:List (Option Expr)} {es:List Expr} {pos:Pos}:SE X (eval (.Dict keys es pos) X.env) fun ρ P=>aP (ia keys) fun ks=>bK (bV ks&&ble ks.length 15&&beq ks.length es.length) (BU r X.c es ρ fun l ρ=>P (.dct ks l) ρ):=by
 intro s ρ us P R Q E h S k
 refine eQ h fun xs hk h1=>?_
 refine bH h1 fun c h2=>?_
 refine cz c fun c0 c3=>?_
 refine cz c0 fun c1 c2=>?_
 have c3:=Nat.eq_of_beq_eq_true c3
 obtain⟨k1,k2⟩:=lN hk
 have sys:(s.heap.objs.size==sysModules)=false:=by
  obtain⟨o,ho⟩:=G.sys
  have:=Heap.lt_size (S.base _ _ ho)
  exact beq_eq_false_iff_ne.mpr fun e=>by rw[e]at this;exact lt_irrefl _ this
 obtain⟨o,es0,ep0,ho,hd⟩:=Heap.DictOf.new (knd:=strKind G.prog G.w) s.heap
 have S1:=S.new (h':=s.heap.push {cls:=.type "dict",data:=.dict #[]}) (fun zz zz e=>Heap.get?_push_of_some _ e) (bG _) ho
 have dY:∀{ρ' l us' o' h' tk},xs.length=l.length->P (.dct xs l) ρ'->wM G.toWld o' (xs.zip us')->St G.b₀ (sp (pt s.heap.objs.size o') (sp (aq G.toWld l us') (sp (au X ρ' us) R))) h'->Q (.ref s.heap.objs.size) {s with heap:=h',toks:=tk}:=fun{ρ' l us' o' h' tk} hl hp hD S2=>
  k (.dct xs l) ρ' _ h' tk rfl hp (S2.imp (aj a8 (al (fun Z m H=>⟨_,o',us',rfl,hD,sys,hl,H⟩) ag)))
 rcases keys with _|⟨key,keys⟩
 ·cases hk
  cases length_eq_zero_iff.mp c3.symm
  exact wpAny_Dict_empty (dY (l:=[]) (us':=[]) (tk:=s.toks) rfl h2 ⟨es0,ep0,hd⟩ (S1.imp (al ag fun Z m a=>⟨fun zz=>none,m,aE,ay,le_refl m,rfl,a⟩)))
 ·refine wpAny_Dict_walk (knd:=strKind G.prog G.w) k1 (k2.trans c3) (by simp) (by rw[k2];exact le_of_ble_eq_true c2) ?_
  refine qL H hk c3 (s:={s with heap:=s.heap.push {cls:=.type "dict",data:=.dict #[]}}) h2 (S1.imp aC) fun l ρ' ps h' tk ln hp S2 hs hz=>?_
  have S3:=S2.imp fY
  have kz:(strPairs ps).map (·.1)=xs:=by
   have:(ps.map (·.2)).length=l.length:=S2.vlen
   rw[hz,List.map_fst_zip (by exact(aQ 0x20101002037100037) ln this)]
  refine display_done_str hs (by rw[kz];exact ed c1) ⟨o,es0,ep0,(S3.imp aC).imp aC |>.at,hd⟩ fun h'' hD hsb=>?_
  obtain⟨o',es',ep',ho',hd'⟩:=hD
  exact dY ln.symm hp ⟨es',ep',by rw[←hz];exact hd'⟩ ((S3.imp (aj aC aC)).upd hsb.2 ho')
end
section
variable {G:bB} {X:Amb G} {r:Ev} {Φ:Calls}
theorem kt (O:cX G) (C:∀k,bO G X.n Φ k) (H:∀e,SE X (eval e X.env) (r.e X.c e)) {f:Expr} {as:List Expr} {p:Pos}:CE X (eval (.Call f as [] p) X.env) (jc G.T Φ r X.c p f as):=by
 intro s ρ us P R Q E h S k
 cases f with
 | Name x np=>
  refine eQ h fun g hg h=>?_
  rcases g with _|j|j|b
  ·exact h.elim
  ·exact F4 O C H hg s ρ us P R Q E h S k
  ·exact DG O C H hg s ρ us P R Q E h S k
  ·exact(FS O.toGlobOk H hg).ce s ρ us P R Q E h S k
 | Attribute b m ap=>exact As O C H s ρ us P R Q E h S k
 | _=>exact h.elim
theorem xP (O:cX G) (C:∀k,bO G X.n Φ k) (H:mK X r) (HN:∀Y:Amb G,Y.n=X.n->mK Y r) {e:Expr}:SE X (eval e X.env) (wF G.T Φ r X.c e):=by
 intro s ρ us P R Q E h S k
 cases e with
 | Constant c j p=>
  cases c with
  | none=>exact zV s ρ us P R Q E h S k
  | bool b=>exact zU s ρ us P R Q E h S k
  | int i=>exact C8 s ρ us P R Q E h S k
  | str x=>exact C9 s ρ us P R Q E h S k
  | _=>exact h.elim
 | Name x p=>exact zY O.toGlobOk s ρ us P R Q E h S k
 | UnaryOp op a p=>
  cases op with
  | Not=>exact Db H.1 s ρ us P R Q E h S k
  | USub=>
   cases a with
   | Constant c j q=>
    cases c with
    | int i=>exact Da s ρ us P R Q E h S k
    | _=>exact h.elim
   | _=>exact h.elim
  | _=>exact h.elim
 | Attribute b f p=>
  refine bH h fun c h=>?_
  exact zX H.1 (lq c f X.env) s ρ us P R Q E h S k
 | Subscript b st p=>exact Dq H.1 s ρ us P R Q E h S k
 | Tuple es j p=>exact C6 H.1 s ρ us P R Q E h S k
 | List es p=>exact C7 H.1 s ρ us P R Q E h S k
 | Dict ks es p=>exact DH H.1 s ρ us P R Q E h S k
 | BinOp a op b p=>exact C5 H.1 s ρ us P R Q E h S k
 | BoolOp op es p=>
  rcases op with _|_
  ·exact w5 H.1 es s ρ us P R Q E h S k
  ·exact B6 H.1 es s ρ us P R Q E h S k
 | Compare a ops bs p=>exact Dg H.1 s ρ us P R Q E h S k
 | IfExp t a b p=>exact Dc H s ρ us P R Q E h S k
 | Call f as kws p=>
  rcases kws with _|⟨_,_⟩
  ·exact(kt O C H.1).se s ρ us P R Q E h S k
  ·exact h.elim
 | ListComp elt gs scope p=>exact Am O.toGlobOk HN s ρ us P R Q E h S k
 | _=>exact h.elim
theorem xQ (H:mK X r) {e:Expr}:ST X (isTrue e X.env (eval e X.env)) (BX r X.c e):=by
 intro s ρ us P R Q E h S k
 cases e with
 | UnaryOp op a p=>
  cases op with
  | Not=>exact Dd H.2 s ρ us P R Q E h S k
  | _=>exact h.elim
 | BoolOp op es p=>
  rcases op with _|_
  ·exact w6 H.2 es s ρ us P R Q E h S k
  ·exact B7 H.2 es s ρ us P R Q E h S k
 | IfExp t a b p=>exact De H.2 s ρ us P R Q E h S k
 | Compare a ops bs p=>exact Dh H.1 s ρ us P R Q E h S k
 | _=>exact Df (H.1 _) (fun zz=>rfl) s ρ us P R Q E h S k
end
theorem lO {G:bB} (O:cX G) {Φ:Calls} {n:Nat} (C:∀k,bO G n Φ k):∀(f:Nat) (X:Amb G),X.n=n->mK X (ev G.T Φ f)
 | 0,_,_=>⟨fun zz zz zz zz zz zz zz zz h=>h.elim,fun zz zz zz zz zz zz zz zz h=>h.elim⟩
 | f+1,X,e=>by
  subst e
  have H:=lO O C f
  refine⟨fun ex s ρ us P R Q E h S k=>?_,fun ex=>xQ (H X rfl)⟩
  change fX (ja X.c.names 5 ex) (fun p=>Ib p ρ P) (wF G.T Φ (ev G.T Φ f) X.c ex ρ P)at h
  refine kS h (fun p q h7=>?_) fun q h7=>?_
  ·clear h
   exact wY q s ρ us P R Q E h7 S k
  ·clear h
   exact xP O C (H X rfl) H s ρ us P R Q E h7 S k
set_option tactic.hygienic true in
theorem Au {T:Tab} {Φ:Calls} {f:Nat}:xD T (ev T Φ (f+1)) (ev T Φ f):=fun c e ρ P hc h=>by
 rcases e with _|_<;>first|exact no hc|exact bp hc|(cases hc;done)|skip
 ·rename_i elt gs scope p
  exact⟨elt,gs,scope,p,rfl,h⟩
 ·rename_i _ _ _ _
  exact h.elim
 ·rename_i _ _ _ _ _
  exact h.elim
section
variable {G:bB} {X:Amb G} {r:Ev} {Φ:Calls}
theorem xS (O:cX G) (C:∀k,bO G X.n Φ k) (H:∀e,SE X (eval e X.env) (r.e X.c e)) {e:Expr}:CE X (eval e X.env) (EV G.T Φ r X.c e):=by
 intro s ρ us P R Q E h S k
 unfold EV at h
 refine kS h (fun q e1 h7=>?_) fun e1 h7=>?_
 ·clear h
  refine aJ e1 fun w hw g1=>?_
  refine aJ g1 fun t ht g2=>?_
  obtain⟨⟨c1,c2⟩,g3⟩:=et g2
  refine bY g3 fun z hz e_2=>?_
  subst e_2
  obtain⟨x,np,pos,rfl,hg⟩:=d3 hw
  obtain⟨h1,h2⟩:=cb hg
  rw[c1]at h2
  obtain⟨o1,o2,o3⟩:=O.b x _ h2
  rw[kn ht,cH hz]
  have c:[t.1,Expr.Call z.1 z.2.1 [] z.2.2].all jM=true:=by rw[List.all_cons,c2];rfl
  refine c6 (fh h1 S.base o2 o3 o1 (callWith_of (P:=fun zz=>True) (by rw[bZ c];rfl) (km .max) (bh c (wpAny_items_cons (H t.1 s ρ us _ R _ E h7 S fun v ρ₁ u h₁ k₁ ov hv S₁=>?_) (dy c2 _)))))
  refine wpAny_items_cons (kt O C H {s with heap:=h₁,toks:=k₁} ρ₁ us _ (sp (aH G.toWld v u) R) _ E hv (S₁.imp aC) fun y ρ₂ w' h₂ k₂ hy S₂=>?_) rfl
  by_cases cy:eP y=true
  ·cases nq cy
   exact k .exc ρ₂ w' h₂ k₂ hy (S₂.imp (al ag (al ag iI)))
  ·rw[if_neg cy]at hy
   refine eQ hy fun m hm hy=>?_
   have fy:dY y (fun w s=>wpAny (model G.prog G.w) X.A (spliced (backTo pos (starEach [] X.env))) (fun vs s₁=>(fun zz=>True) s₁.heap∧wpAny (model G.prog G.w) X.A (call BI.max.val ([]++(u::w::vs))) Q E s₁) E s) E=fun w s=>wpAny (model G.prog G.w) X.A (spliced (backTo pos (starEach [] X.env))) (fun vs s₁=>(fun zz=>True) s₁.heap∧wpAny (model G.prog G.w) X.A (call BI.max.val ([]++(u::w::vs))) Q E s₁) E s:=by
    rcases y with _|_<;>first|rfl|exact absurd rfl cy
   refine Eq.mpr (congrFun (congrFun fy w') _) (wpAny_items_nil ⟨trivial,?_⟩)
   refine qi (s:={s with heap:=h₂,toks:=k₂}) (f:=.max) (l:=[v,y]) hm (S₂.imp (aj fY (aj (al dw (al dw ag)) (aj a8 (al cB ag))))) fun w h' k' ov S'=>?_
   have:=k m ρ₂ w h' k' hy S'
   rw[fF ov]at this
   exact this
 ·clear h
  refine kS h7 (fun q e2 h77=>?_) fun e2 h77=>?_
  ·clear h7
   rw[cH e2]
   exact kt O C H s ρ us P R Q E h77 S k
  ·clear h7
   exact(H e).ce s ρ us P R Q E h77 S k
end
section
variable {G:bB} {X:Amb G} {r:Ev} {Φ:Calls}
set_option tactic.hygienic true in
theorem Av {e:Expr} {ρ:Env} {us:List Value} {R:a7} {s:Shared} {P:Fl->Env->Prop} {Q:Flow->Shared->Prop} {E:Value->Shared->Prop} {pos:Pos} {q:f8×List Str×List PV×Str} (hq:te X.c e ρ=some q)
  (h:∀w,aP (mC q.1 (.dct q.2.1 (kvs q.2.2.2 (.pin w .LZ) q.2.1 q.2.2.1)) ρ) fun ρ=>P (.ret (.pin w (cu q.2.2.2 q.2.1 q.2.2.1))) ρ) (S:St G.b₀ (sp (au X ρ us) R) s.heap)
  (k:∀fl ρ' us' u h k,P fl ρ'->Keep X us us'->St G.b₀ (sp (aH G.toWld (FU fl) u) (sp (au X ρ' us') R)) h->FV Q E fl u {s with heap:=h,toks:=k}):wpAny (model G.prog G.w) X.A (exec (.Return (some e) pos) X.env) Q E s:=by
 rcases e with _|_<;>first|exact no hq|exact bp hq|(cases hq;done)|skip
 ·rename_i b st sp'
  obtain⟨⟨p,ks,vs⟩,hm,h1⟩:=bind_eq_some_iff.mp hq
  refine aJ h1 fun kv hk h2=>?_
  cases kv with
  | str y=>
   obtain⟨c,rfl⟩:=br h2
   obtain⟨m1,m2⟩:=qd hm
   have gk:gK (.key y) (.dct ks vs)=some (cu y ks vs):=if_pos (d0 (or_eq_true_iff.mpr (.inr c)))
   refine wpAny_Return_some (Subscript_ (cj m1 m2 rfl S fun u tk S₁ zz=>?_))
   obtain⟨Z,m,S₂,T⟩:=S₁
   refine li hk {s with toks:=tk} us R Z m _ E (dh Z m S₂) T fun iv tk' zz ow=>?_
   obtain⟨⟨t,rfl⟩,zz⟩:=ow m
   obtain⟨w,⟨a,o,kv,rfl,ha,hD,zz,hv⟩,S₃⟩:=St.own_kid gk (⟨Z,m,S₂,T⟩:St G.b₀ _ s.heap)
   obtain⟨ρ',hp,hP⟩:=aY (h w)
   obtain⟨es,ep,hE⟩:=hD
   have hM:({s with toks:=tk'}:Shared).heap.DictOf (strKind G.prog G.w) a kv:=⟨_,es,ep,ha,hE⟩
   refine cC (s:={s with toks:=tk'}) hM.mapOf.typeIs slot_dict_getitem.lookup (wpAny_getItem_of (strKind_is G.prog G.w y t) hM.mapOf hv ?_)
   refine k _ ρ' us w s.heap _ hP (.refl us) (S₃.imp (al (C:=aH G.toWld (.pin w (cu y ks vs)) w) (fun Z m H=>⟨rfl,H⟩) (aj a8 (al ?_ ag))))
   refine aj (al (C:=aH G.toWld (.dct ks (kvs y (.pin w .LZ) ks vs)) (.ref a)) ?_ ag) (cP (.inr hp))
   intro Z m W
   have sk:sK (.key y) (.dct ks vs) (.pin w .LZ)=some (.dct ks (kvs y (.pin w .LZ) ks vs)):=if_pos (d0 (or_eq_true_iff.mpr (.inr c)))
   exact W (.pin w .LZ,.dct ks (kvs y (.pin w .LZ) ks vs)) Z (fun zz=>none) m (le_refl Z) aE ay (le_refl m) ⟨.inr sk,rfl,trivial⟩
  | _=>exact no h2
theorem vx {v:PV} {q:Value×PV} (h:td v=some q):v=.pin q.1 q.2:=by
 rcases v with _|_<;>cases h
 rfl
theorem qM {G:Wld} {o:PV} {w:Value}:∀{vs:List PV} {q:Value×List PV},uN o vs=some q->vs.length=q.2.length∧∀{us:List Value},q.1=w->cM (sp (aH G o w) (aq G vs us)) (aq G q.2 us)
 | [],_,h=>nomatch h
 | x::vs,q,h=>by
  have step:((uN o vs).map fun q=>(q.1,x::q.2))=some q->(x::vs).length=q.2.length∧∀{us:List Value},q.1=w->cM (sp (aH G o w) (aq G (x::vs) us)) (aq G q.2 us):=fun h=>by
   refine bY h fun q' hq e_2=>?_
   subst e_2
   obtain⟨f1,f2⟩:=qM (w:=w) hq
   refine⟨congrArg Nat.succ f1,fun e=>?_⟩
   rintro Z m ⟨y,z,d,l1,l2,a,u,r,rfl,H⟩
   exact⟨u,r,rfl,(aj aC (al (A:=aH G x u) (C:=aH G x u) ag (f2 e))) Z m ⟨y,z,d,l1,l2,a,H⟩⟩
  by_cases c:∃u,x=.pin u .LZ
  ·obtain⟨u,rfl⟩:=c
   cases h
   refine⟨rfl,fun e=>?_⟩
   rintro Z m ⟨y,z,d,l1,l2,a,u',r,rfl,z1,z2,zz,l3,l4,⟨e',zz⟩,b⟩
   cases (show u=w from e)
   subst e'
   exact⟨_,r,rfl,y,z2,aR (fc (aR d) l4),l1,le_trans l4 l2,a,b⟩
  ·refine step ?_
   cases x with
   | pin a b=>rcases b with _|_<;>first|exact absurd ⟨a,rfl⟩ c|exact h
   | _=>exact h
theorem xT {G:Wld} {ks:List Str} {vs:List PV} {q:Value×List PV} {o:PV} {w d:Value} (hf:uN o vs=some q) (e1:q.1=w):cM (sp (aH G o w) (aH G (.dct ks vs) d)) (aH G (.dct ks q.2) d):=by
 rintro Z m ⟨y,z,d,l1,l2,a,⟨ad,ob,us,h1,h2,h3,h4,h5⟩⟩
 obtain⟨f1,f2⟩:=qM (G:=G) (w:=w) hf
 exact⟨ad,ob,us,h1,h2,h3,h4.trans f1,(aj aC (al ag (f2 e1))) Z m ((⟨y,z,d,l1,l2,a,h5⟩:(sp (aH G o w) (sp (pt ad ob) (aq G vs us))).p Z m))⟩
theorem F5 {p:f8} {o:PV} {w:Value} {ρ:Env} {k:Env->Prop} {C:Prop} (h:tb p o w ρ k) (K:∀{ks vs q ρ'},oJ p ρ=some (.dct ks vs)->uN o vs=some q->q.1=w->mC p (.dct ks q.2) ρ=some ρ'->k ρ'->C):C:=by
 unfold tb at h
 rcases e:oJ p ρ with _|d
 ·rw[e]at h;exact h.elim
 ·rw[e]at h
  rcases d<;>first|exact h.elim|skip
  obtain⟨q,hf,e1,h⟩:=aY h
  obtain⟨ρ',hP,h⟩:=aY h
  exact K e hf e1 hP h
theorem vA {e:Expr} {q:(Expr×Str)×List Expr×Expr×List Expr×Pos} (h:wI e=some q):E2 fun p p'=>e=.Call (.Attribute (.Call q.2.2.1 q.2.2.2.1 [] q.2.2.2.2) q.1.2 p) q.2.1 [] p'∧zr (.Call q.2.2.1 q.2.2.2.1 [] q.2.2.2.2) p p'=true:=by
 refine aJ h fun w hw g1=>?_
 refine aJ g1 fun t ht g2=>?_
 refine aJ g2 fun z hz g3=>?_
 obtain⟨c,rfl⟩:=br g3
 have ea:w.1=.Attribute t.1 t.2.1 t.2.2:=by
  generalize w.1=e0 at ht
  cases e0<;>cases ht
  rfl
 rw[cH hz]at ea c
 exact⟨t.2.2,w.2.2,ea▸cH hw,c⟩
theorem IM {c:bF} {v:PV} {rc:Option Nat} {m:Str} {as:List Expr} {ρ:Env} {P:PV->Env->Prop} {C:Prop} (h:aP (td v) fun w=>aP rc fun i=>oZ G.T Φ r c i w.1 w.2 m as ρ P)
  (K:∀w cl ks vs i j,v=.pin w (.obj cl ks vs)->G.T.meth cl m=some j->(bK (G.T.isIo j) (mJ r c as ρ fun vs' ρ=>Φ j (.obj cl ks vs::vs'.map af) fun v o=>bK (jJ o) (tb (i,[.at G.T.ali]) o w ρ fun ρ=>P v ρ)))->C):C:=by
 obtain⟨⟨w,t⟩,hp,g⟩:=aY h
 refine eQ g fun i zz g1=>?_
 cases vx hp
 rcases t<;>first|exact g1.elim|skip
 exact eQ (o:=G.T.meth _ m) g1 fun j hj g2=>K w _ _ _ i j rfl hj g2
theorem DI (O:cX G) (C:∀k,bO G X.n Φ k) (H:∀e,SE X (eval e X.env) (r.e X.c e)) {e:Expr} {q:(Expr×Str)×List Expr×Expr×List Expr×Pos} (hq:wI e=some q) {pos:Pos}:SX X (exec (.Expr e pos) X.env) fun ρ P=>jc G.T Φ r X.c q.2.2.2.2 q.2.2.1 q.2.2.2.1 ρ fun v ρ=>aP (td v) fun w=>aP (wz X.c q.1.1) fun i=>oZ G.T Φ r X.c i w.1 w.2 q.1.2 q.2.1 ρ fun v ρ=>bK (isNone v) (P .nxt ρ):=by
 obtain⟨p1,p2,rfl,c⟩:=vA hq
 intro s ρ us P R Q E h S k
 refine wpAny_Expr (js c (kt O C H s ρ us _ R _ E h S fun v ρ₁ u h₁ k₁ hv S₁=>IM hv fun w1 cl ks vs i j ev hj hv3=>?_)) (by unfold interactive;rw[X.kind];rfl) rfl
 subst ev
 have hv4:=(bL hv3).2
 have eu:u=w1:=by
  obtain⟨zz,zz,zz,zz,e,zz⟩:=S₁.look
  exact e
 subst eu
 have S₂:St G.b₀ (sp (aH G.toWld (.obj cl ks vs) u) (sp (au X ρ₁ us) R)) h₁:=S₁.imp (al (fun Z m H=>H.2) ag)
 refine⟨(bL hv4).1,_,im (s:={s with heap:=h₁,toks:=k₁}) O (v:=.obj cl ks vs) rfl hj S₂,?_⟩
 refine gn (s:={s with heap:=h₁,toks:=k₁}) (C:=G.K.In) H (fun h X=>keeps_K (O.meth _ _ _ hj).4 h X) hv4 (S₂.imp aC) fun l ρ₂ ws h₂ k₂ zz ol hl S₃=>⟨EY (s:={s with heap:=h₂,toks:=k₂}) S₃,?_⟩
 refine pk (s:={s with heap:=h₂,toks:=k₂}) (C j) hl ((S₃.shrs ol).imp (aj fY (aj a8 (al (fun Z m H=>⟨u,ws,rfl,H⟩) ag)))) fun v o w' h₃ k₃ hvo S₅=>bH hvo fun co hvo1=>F5 hvo1 fun hpl hf e1 hP hvo3=>?_
 obtain⟨c4,hvo4⟩:=bL hvo3
 obtain⟨zz,zz,zz,zz,e⟩:=S₅.look
 obtain⟨uD,S₆,zz⟩:=(S₅.imp (aj iI aC)).foc hpl
 have e0:v=.none:=by rcases v with _|_<;>first|rfl|exact bp c4
 subst e0
 cases (show w'=.none from e)
 exact k .nxt _ us .none h₃ k₃ hvo4 (.refl us) (St.no (S₆.imp (aj (al ag aC) (aj aC (aj a8 (aj (al (xT hf e1) ag) (aj a8 (al (cP (.inr hP)) ag))))))))
end
end
end Mine.Internal
section
namespace Mine.Internal
open PySem
open Sem (wp)
section
variable {prog:Program} {w:World} {A:Around} {R:Result->Shared->Prop} {h:Heap} {g:Array GenState} {d:Drawn} {t:Nat} {os:OsState}
variable {nm q:Str} {C N:Addr} {bs bm:List Value} {hdct:Bool} {sn:List Str} {sub:List Value} {ab:Bool} {col:Option Bool} {dd:Option Addr} {k0 k1 k2 k3 k5:Option Value} {Bn newId inN:String} {bmN:List Value}
theorem pn (Fn:ExcBaseFacts Bn newId inN bmN) (hBn:bm.contains (.type Bn)=true) (hA:bm.contains (.type "AttributeError")=false) (hN:bm.contains (.type "NameError")=false) {rest:List Value} (hC:h.get? C=some (excClassObj nm q C N bs bm hdct sn sub ab col dd k0 k1 k2 k3 k5 newId))
  (hq:R (.ok (.ret (.ref (h.objs.size+1)))) ⟨(h.push {cls:=.type "tuple",data:=.seq rest.toArray}).push
   {cls:=.ref C,data:=.fields #[.ref h.objs.size,.none,.none,.none,.bool false,.none]},g,d,t,os⟩) (hrest:rest.length<=sizeLine):
  codeAny (model prog w) A (.builtin newId ⟨.ref C::rest,[]⟩) R ⟨h,g,d,t,os⟩:=by
 have hends:=Fn.ends
 have hcB:(Value.ref C::bm).contains (.type Bn)=true:=by rw[contains_cons,hBn,Bool.or_true]
 have hcA:(Value.ref C::bm).contains (.type "AttributeError")=false:=by rw[contains_cons,hA];rfl
 have hcN:(Value.ref C::bm).contains (.type "NameError")=false:=by rw[contains_cons,hN];rfl
 refine codeAny_builtinAt Fn.entry ?_
 unfold Builtin.«BaseException.__new__»
 refine wpAt_bind ?_
 show wpAt _ _ _ (stack >>= _) _ _ _
 refine wpAt_bind (wpAt_stack fun p below=>wpAt_of_wpAny ?_)
 wp_walk
 refine wpAt_of_wpAny ?_
 rw[Fn.owner]
 repeat (first|with_reducible refine wpAny_madeHere_exc Fn.canon hC ?_|with_reducible refine wpAny_loadPart_at hC ?_|(with_reducible refine wpAny_isSubtype_exc hC ?_;first|rw[hcB]|rw[hcA]|rw[hcN])|wp_step)
 show R _ _
 rw[Heap.size_push]
 exact hq
end
section
variable {prog:Program} {w:World} {A:Around} {E:Value->Shared->Prop} {h:Heap} {g:Array GenState} {d:Drawn} {t:Nat} {os:OsState}
variable {nm q:Str} {C N:Addr} {bs bm:List Value} {hdct:Bool} {sn:List Str} {sub:List Value} {ab:Bool} {col:Option Bool} {dd:Option Addr} {k0 k1 k2 k3 k5:Option Value} {Bn newId inN:String} {bmN:List Value}
theorem lP (Fn:ExcBaseFacts Bn newId inN bmN) (hBn:bm.contains (.type Bn)=true) (hA:bm.contains (.type "AttributeError")=false) (hN:bm.contains (.type "NameError")=false) {rest:List Value} {fI:Addr} {Q:Fin->Shared->Prop}
  (hC:h.get? C=some (excClassObj nm q C N bs bm hdct sn sub ab col dd k0 k1 k2 k3 k5 newId)) (hi:W.Looks (model prog w) h (typeLookup (.ref C) "__init__") (some (.ref fI)))
  (hb:∀self,W.Looks (model prog w) h (bindSpecial (.ref fI) self) (.ref fI,[self]))
  (hq:∀h' e,Heap.MadeExcOf h h' e (.ref C) rest ->
   wpAny (model prog w) A (call (.ref fI) (.ref e::rest)) (fun r s'=>r=.none∧Q (.done (.ret (.ref e))) s') E ⟨h',g,d,t,os⟩) (hrest:rest.length<=sizeLine):
  wpAny (model prog w) A (Builtin.«type.__call__» ⟨.ref C::rest,[]⟩) Q E ⟨h,g,d,t,os⟩:=by
 repeat (first|with_reducible refine wpAny_loadPart_at hC ?_|with_reducible refine wpAny_madeBy_exc hC ?_|wp_step)
 refine codeAny_call_builtin_code (Code.quiet_builtin _ Fn.quiet) (wpAny_check_new_subU Fn hBn .base hC ?_)
 refine pn Fn hBn hA hN hC ?_ hrest
 show wpAny _ _ _ _ _ _
 have kp:∀b o,h.get? b=some o->((h.push {cls:=.type "tuple",data:=.seq rest.toArray}).push {cls:=.ref C,data:=.fields #[.ref h.objs.size,.none,.none,.none,.bool false,.none]}).get? b=some o:=
  fun b o hb=>Heap.get?_push_of_some _ (Heap.get?_push_of_some _ hb)
 have hC₁:=kp _ _ hC
 have hget:((h.push {cls:=.type "tuple",data:=.seq rest.toArray}).push
   {cls:=.ref C,data:=.fields #[.ref h.objs.size,.none,.none,.none,.bool false,.none]}).get? (h.objs.size+1)=some
   {cls:=.ref C,data:=.fields #[.ref h.objs.size,.none,.none,.none,.bool false,.none]}:=by heap_get
 have hcC:(Value.ref C::bm).contains (.ref C)=true:=by simp
 have i1:=hi.keeps kp
 have b1:=(hb (.ref (h.objs.size+1))).keeps kp
 unfold isInstance
 repeat (first|with_reducible refine wpAny_loadPart_at hget ?_|(with_reducible refine wpAny_isSubtype_exc hC₁ ?_;rw[hcC])|wp_step)
 show wpAny _ _ (typeLookup (.ref C) _) _ _ _
 refine i1 _ _ _ _ (fun zz zz e=>e) ?_
 refine wpAny_holding (wpAny_bind ?_)
 refine b1 _ _ _ _ (fun zz zz e=>e) ?_
 refine(wpAny_bind (wpAny_mono (hq _ (h.objs.size+1) ⟨fun b o hb=>Heap.get?_push_of_some _ (Heap.get?_push_of_some _ hb),Heap.get?_none_of_le (le_succ _),h.objs.size,hget,Heap.get?_none_of_le (Nat.le_refl _),?_⟩) (fun r s' hr=>?_) fun zz zz x=>x))
 ·exact Heap.get?_push_of_some _ (Heap.get?_push_at rfl rfl)
 ·obtain⟨rfl,hQ⟩:=hr
  wp_walk
  exact hQ
theorem mO (Fn:ExcBaseFacts Bn newId inN bmN) (hBn:bm.contains (.type Bn)=true) (hA:bm.contains (.type "AttributeError")=false) (hN:bm.contains (.type "NameError")=false) {rest:List Value} {fI:Addr} {Q:Value->Shared->Prop}
  (hC:h.get? C=some (excClassObj nm q C N bs bm hdct sn sub ab col dd k0 k1 k2 k3 k5 newId)) (hi:W.Looks (model prog w) h (typeLookup (.ref C) "__init__") (some (.ref fI)))
  (hb:∀self,W.Looks (model prog w) h (bindSpecial (.ref fI) self) (.ref fI,[self]))
  (hq:∀h' e,Heap.MadeExcOf h h' e (.ref C) rest ->
   wpAny (model prog w) (A.under (.builtin "type.__call__" ⟨.ref C::rest,[]⟩)) (call (.ref fI) (.ref e::rest)) (fun r s'=>r=.none∧Q (.ref e) s') E ⟨h',g,d,t,os⟩) (hrest:rest.length<=sizeLine):
  wpAny (model prog w) A (call (.ref C) rest) Q E ⟨h,g,d,t,os⟩:=by
 have f1:=tc_lookup
 have f2:=tc_bind (.ref C)
 have hT:(⟨h,g,d,t,os⟩:Shared).TypeIs (.ref C) "type" :=⟨_,hC,rfl⟩
 refine wpAny_call (codeAny_of_tree ?_)
 show wpAny _ _ (callAny (.ref C) _) _ _ _
 repeat (any_goals (first|assumption|with_reducible refine wpAny_loadPart_at hC ?_|wp_step))
 refine⟨rfl,?_⟩
 refine codeAny_call_builtin_at (Code.quiet_builtin _ (by decide +kernel)) entry_typeCall (wpAny_check_type_call_sub hC (lP (hrest:=hrest) Fn hBn hA hN hC hi hb fun h' e hm=>?_))
 exact hq h' e hm
theorem sJ {s:Shared} {env:PySem.Env} {x:Sem Value} {Q:Flow->Shared->Prop} (hbase:bm.contains (.type "BaseException")=true) (hh:A.handled=none)
  (H:wpAny (model prog w) A x (fun v s₁=>E4 fun e od t osl=>A4 (v=.ref e) (s₁.heap.get? C=some (excClassObj nm q C N bs bm hdct sn sub ab col dd k0 k1 k2 k3 k5 newId))
   (s₁.heap.get? e=some ⟨.ref C,od,.fields #[.ref t,.none,.none,.none,.bool false,.none],osl⟩) (E (.ref e) s₁)) E s):
  wpAny (model prog w) A (raiseStmt env (some x) none) Q E s:=by
 have hcB:(Value.ref C::bm).contains (.type "BaseException")=true:=by rw[contains_cons,hbase,Bool.or_true]
 unfold raiseStmt
 refine wpAny_bind (wpAny_mono H (fun v s₁ h₁=>?_) fun zz zz x=>x)
 obtain⟨e,od,t,osl,rfl,hC,he,hE⟩:=h₁
 obtain⟨hp,g,d,tk,os⟩:=s₁
 repeat (first|with_reducible refine wpAny_loadPart_at he ?_|with_reducible refine wpAny_loadPart_at hC ?_|(with_reducible refine wpAny_isSubtype_exc hC ?_;rw[hcB])|wp_step)
 exact wpAny_raiseNew_none hh hE
end
end Mine.Internal
namespace Mine.Internal
open PySem PySem.W PySem.Calls PyProof.Rows PySem.Builtin PySem.Builtin.ObjectAttr PySem.Builtin.Getset_descriptor
section
variable {prog:Program} {w:World} {A:Around} {K:Frag} {C U x:Addr} {s:Shared} {R:Result->Shared->Prop}
theorem xU {cd:ClassData} {ox:Obj} {fs:Array Value} {name:Str} {tk:Tok} {v:Value} (X:K.In s.heap) (I:InstAt s.heap x ox C none) (hd0:ox.dict=none) (hf:ox.data=.fields fs) (hc:clsIn K C=some cd) (hdict:cd.hasDict=true)
  (hm:cd.mro=[.ref C,.ref U,.type "Exception",.type "BaseException",.type "object"]) (ht:takerIn K C name=some none)
  (h:∀h' tk',(∀b o,b≠x->s.heap.get? b=some o->h'.get? b=some o)->(∃dx,h'.get? x=some {ox with dict:=some dx})->R (.ok (.ret .none)) {s with heap:=h',toks:=tk'}):
  codeAny (model prog w) A (.call (.builtin "object.__setattr__") ⟨[.ref x,.str name tk,v],[]⟩) R s:=by
 have SF:=PySem.F.store_object
 have sub:Looks (model prog w) s.heap (isInstance (.ref x) (.type "object")) true:=I.type.andThen (looks_mroIn X (by unfold mroIn;rw[hc,Option.bind_some,hm];simp))
 refine codeAny_call_builtin SF.slot.plain SF.entry (@check_slot (model prog w) _ _ s "object.__setattr__" "object" "__setattr__" (.ref x) [.str name tk,v] [] _ SF.kind SF.split sub (SF.args (.ref x) (.str name tk) v) ?_)
 refine aJ ht fun attr ha hr=>?_
 have hmr:Looks (model prog w) s.heap (mroOf (.ref C)) cd.mro:=(looks_clsIn X hc).andThen .now
 have L3:Looks (model prog w) s.heap (storeTaker? attr) none:=by
  rcases attr with _|a
  ·exact .now
  ·refine bY hr fun b hb hb'=>?_
   refine(looks_takesIn X hb).andThen ?_
   rcases b with _|_
   ·exact .now
   ·cases hb'
 rw[osa_eq,refuse_eq]
 refine wpAny_bind (wpAny_bind (I.type.here (wpAny_bind (hmr.here ?_))))
 rw[hm,refuseLoop_ref,refuseLoop_ref,PySem.F.store_Exception.passes]
 refine wpAny_pure (wpAny_bind (I.type.here (wpAny_bind ((looks_findIn X ha).here (wpAny_bind (L3.here ?_))))))
 obtain⟨oc,od,oda,osl⟩:=ox
 dsimp only at hd0 hf
 subst hd0
 subst hf
 have hcls:=I.cls
 dsimp only at hcls
 subst hcls
 have h1:=I.at_
 obtain⟨hh,g,dr,t,os⟩:=s
 dsimp only at h1
 refine wpAny_bind (wpAny_pure (wpAny_bind (wpAny_bind (wpAny_loadPart h1 (wpAny_bind ((looks_clsIn X hc).here ?_))))))
 rw[hdict]
 have hx₁:(hh.push {cls:=.type "dict",data:=.dict #[]}).get? x=some ⟨.ref C,none,.fields fs,osl⟩:=Heap.get?_push_of_some _ h1
 have hxs:x≠hh.objs.size:=Nat.ne_of_lt (Heap.lt_size h1)
 show wpAny _ _ (alloc {cls:=.type "dict",data:=.dict #[]} >>= _) _ _ _
 refine wpAny_bind (wpAny_alloc' ?_)
 refine wpAny_bind (wpAny_update' hx₁ ?_)
 refine wpAny_pure ?_
 have hgd:((hh.push {cls:=.type "dict",data:=.dict #[]}).update x fun o=>{cls:=o.cls,dict:=some hh.objs.size,data:=o.data,slots:=o.slots}).get? hh.objs.size
   = some {cls:=.type "dict",data:=.dict #[]}:=
  (Heap.get?_update_ne _ _ _ _ hxs.symm).trans (Heap.get?_push_at rfl rfl)
 have hnd:((hh.push {cls:=.type "dict",data:=.dict #[]}).update x fun o=>{cls:=o.cls,dict:=some hh.objs.size,data:=o.data,slots:=o.slots}).Ns hh.objs.size (fun zz=>none):=
  ⟨_,#[],_,hgd,rfl,fun e he=>absurd he (by simp),fun zz=>rfl⟩
 show wpAny _ _ (storeInDict hh.objs.size (.str name tk) name v) _ _ _
 unfold storeInDict newKeyGuard
 refine wpAny_bind (wpAny_pure (wpAny_bind (wpAny_nsSet1 (Heap.Ns1.of_empty hnd) fun h' hn' hs=>?_)))
 obtain⟨oD,esD,epD,hoD,hdD,hcD⟩:=hn'.count (Within.cons name v Within.nil)
 refine wpAny_bind (wpAny_lookBehind hoD (by rw[hdD];exact pastItsLine_dict (Nat.le_trans hcD (by rw[length_cons,List.length_nil,sizeLine_eq];lia))) ?_)
 refine wpAny_pure (h h' _ (fun b ob hbx hb=>?_) ⟨hh.objs.size,?_⟩)
 ·exact(hs.2 b (Nat.ne_of_lt (Heap.lt_size hb))).trans ((Heap.get?_update_ne _ _ _ _ hbx).trans (Heap.get?_push_of_some _ hb))
 ·exact(hs.2 x hxs).trans (Heap.get?_update_self _ hx₁ rfl)
end
end Mine.Internal
end
namespace Mine.Internal
section
open PySem PySem.W PyProof.Rows PySem.Calls
inductive F6 (K:Frag) (C:Addr):Prop
 | mk (U nm q N bs sn sub ab col dd k0 k1 k2 k3 k5) (h:K.lookup C=some (excClassObj nm q C N bs [.ref U,.type "Exception",.type "BaseException",.type "object"] true sn sub ab col dd k0 k1 k2 k3 k5 "Exception.__new__"))
structure lQ (G:bB):Prop where
 obj:F6 G.K G.bad
 set:findIn G.K (.ref G.bad) "__setattr__" = some (some (.builtin "object.__setattr__"))
 told:takerIn G.K G.bad "told" = some none
 keep:keepIn G.K (.ref G.bad)=true
 glob:bk G.T.bad=true∧G.mg G.T.bad=some (.ref G.bad)
 code:E7 fun k d fd p1 p2 p3 p4=>A8 (xI G k d fd) (findIn G.K (.ref G.bad) "__init__" = some (some (.ref (G.ad k)))) (typeIn G.K (.ref (G.ad k))=some (.type "function")) (d.names=(["self", "told"]:List Str)) (d.np=2) (d.body=[.Assign [.Attribute (.Name "self" p1) "told" p2] (.Name "told" p3) p4]) (d.sc.lookup ("self" : Str)=some .local) (d.sc.lookup ("told" : Str)=some .local)
section
variable {G:bB}
theorem xV (B:lQ G):∃f,findIn G.K (.ref G.bad) "__init__" = some (some (.ref f))∧typeIn G.K (.ref f)=some (.type "function") ∧
  ∀{e:Addr} {A:Around} {s:Shared} {vs:Array Value} {v:Value} {R:Result->Shared->Prop},A.depth<1000->(∀a o,G.b₀.get? a=some o->s.heap.get? a=some o)->s.heap.get? e=some ⟨.ref G.bad,none,.fields vs,#[]⟩ ->
  (∀h' tk dx,(∀b o,b≠e->s.heap.get? b=some o->h'.get? b=some o)->h'.get? e=some ⟨.ref G.bad,some dx,.fields vs,#[]⟩->R (.ok (.ret .none)) {s with heap:=h',toks:=tk})->codeAny (model G.prog G.w) A (.call (.ref f) ⟨[.ref e,v],[]⟩) R s:=by
 obtain⟨kk,d,fd,p1,p2,p3,p4,F,hi,hf,hn,hp,hbd,hk1,hk2⟩:=B.code
 refine⟨_,hi,hf,fun{e A s vs v R} dp kb he k=>?_⟩
 obtain⟨oc,od,osl,hat⟩:=F.at_
 obtain⟨dv,hdv,hod⟩:=F.dflt
 have dl:dv.length=d.dfl.length:=bQ hod
 have few:=F.few
 have hns:fd.params.args.map (·.arg)=(["self", "told"]:List Str):=by rw[F.ns,hn,hp];rfl
 have bt:=qH (s:=s) (vals:=[.ref e,v]) F.par hns (hn▸ed F.dup) (Nat.le_refl _) (le_add_right _ _) (by rw[dl];exact Nat.le_trans few (Nat.le_of_eq hp)) (hdv.keeps kb)
 rw[List.drop_eq_nil_of_le (show dv.length<=dv.length+([Value.ref e,v]:List Value).length-([Str.ofString "self",Str.ofString "told"]:List Str).length from Nat.le_of_eq rfl)]at bt
 refine codeAny_call_function dp (kb _ _ (G.X _ _ hat)) rfl F.co F.gen (F.body.trans (congrArg _ hbd)) (codeRec_of (fun zz zz q=>kb _ _ (G.X _ _ q)) F.code) ?_
 refine bt _ _ _ _ ?_
 rw[F.clo]
 rw[←F.sc]at hk1 hk2
 refine wpAny_newFunctionEnv_cells F.kind (fun y hy=>.inl ?_) fun env he' s₁ X=>?_
 ·rcases mem_cons.mp hy with rfl|hy
  ·exact hk1
  ·cases mem_singleton.mp hy;exact hk2
 have kp:=X.toInCall.keep
 refine⟨(G.top.keeps kb).nolimit.keeps kp,codeAny_func ?_⟩
 have hsc:env.scope=fd.scope:=by rw[he'];rfl
 have kf:env.scope.kind=.function:=by rw[hsc];exact F.kind
 have l1:env.kindOf "self" = some .local:=by unfold Env.kindOf;rw[hsc];exact hk1
 have l2:env.kindOf "told" = some .local:=by unfold Env.kindOf;rw[hsc];exact hk2
 have nd:((["self", "told"]:List Str).zip [Value.ref e,v]).map (·.1) |>.Nodup:=(hn▸ed F.dup:((["self", "told"]:List Str)).Nodup)
 have m1:=(gw (kindOf:=env.kindOf) (m:=fun zz=>none) nd (x:="self") (v:=.ref e) mem_cons_self).1 l1
 have m2:=(gw (kindOf:=env.kindOf) (m:=fun zz=>none) nd (x:="told") (v:=v) (mem_cons_of_mem _ mem_cons_self)).1 l2
 refine wpAny_execs_cons (plainObj_wpAny_Assign_Attribute (NameLC X kf l2 m2 (NameLC X kf l1 m1 ?_ (by decide)) (by decide)) rfl)
 have X₁:G.K.In s₁.heap:=fun b o q=>kp b o (kb b o (G.X b o q))
 obtain⟨U,nm,q,N,bs,sn,sub,ab,col,dd,k0,k1,k2,k3,k5,hC⟩:=B.obj
 obtain⟨h1,tk1,hs⟩:=X.toInCall.same
 have I:InstAt s₁.heap e ⟨.ref G.bad,none,.fields vs,#[]⟩ G.bad none:=⟨kp _ _ he,rfl,rfl,trivial⟩
 refine set_plain X₁ I B.set ?_
 refine xU (U:=U) (cd:={name:=nm,bases:=bs,mro:=.ref G.bad::[.ref U,.type "Exception",.type "BaseException",.type "object"],ns:=N,qualname:=q,hasDict:=true,slotNames:=sn,subclasses:=sub,abstract:=ab,collection:=col,hasDel:=false}) (s:={s₁ with toks:=s₁.toks+1}) X₁ I rfl rfl (by unfold clsIn;rw[hC]) rfl rfl B.told fun h' tk' h1 h2=>?_
 obtain⟨dx,h2⟩:=h2
 subst hs
 exact wpAny_execs_nil (k h' tk' dx (fun b o hb q=>h1 b o hb (kp b o q)) h2)
end
section
variable {G:bB} {X:Amb G} {r:Ev}
theorem vB {T:Tab} {c:bF} {e a:Expr} (h:wL T c e=some a):E2 fun np p=>A3 (e=.Call (.Name T.bad np) [a] [] p) (wK c T.bad=true) (jM a=true):=by
 refine aJ h fun q hq h1=>?_
 refine aJ h1 fun x hx h2=>?_
 refine aJ h2 fun b hb h3=>?_
 obtain⟨g,rfl⟩:=br h3
 refine cz g fun g1 g2=>?_
 refine cz g1 fun g3 g4=>?_
 cases strEq_iff.mp g3
 obtain⟨np,hp⟩:=bX hx
 exact⟨np,q.2.2,by rw[cH hq,hp,ck hb],g4,g2⟩
theorem qN {x:Str} (h:wK X.c x=true):bD x X.sc=some .globalImplicit:=by
 change (match bD x X.sc with|some k=>(match k with|.globalImplicit=>(ix x X.c.names).isNone|_=>false)|none=>false)=true at h
 cases q:bD x X.sc with
 | none=>rw[q]at h;exact bp h
 | some k=>rw[q]at h;rcases k with _|_<;>first|rfl|exact bp h
theorem xW (B:lQ G) (H:∀e,SE X (eval e X.env) (r.e X.c e)) {e a:Expr} (hb:wL G.T X.c e=some a) {pos:Pos}:SX X (exec (.Raise (some e) none pos) X.env) fun ρ P=>r.e X.c a ρ fun zz ρ=>P .exc ρ:=by
 intro s ρ us P R Q E h S k
 obtain⟨np,cpos,rfl,gl,hp⟩:=vB hb
 obtain⟨U,nm,q,N,bs,sn,sub,ab,col,dd,k0,k1,k2,k3,k5,hC⟩:=B.obj
 have c:[a].all jM=true:=by rw[List.all_cons,hp];rfl
 have main:wpAny (model G.prog G.w) X.A (eval (.Call (.Name G.T.bad np) [a] [] cpos) X.env) (fun v s₁=>E4 fun e od t osl=>A4 (v=.ref e) (s₁.heap.get? G.bad=some (excClassObj nm q G.bad N bs [.ref U,.type "Exception",.type "BaseException",.type "object"] true sn sub ab col dd k0 k1 k2 k3 k5 "Exception.__new__"))
   (s₁.heap.get? e=some ⟨.ref G.bad,od,.fields #[.ref t,.none,.none,.none,.bool false,.none],osl⟩) (E (.ref e) s₁)) E s:=by
  refine c6 (fg (qN gl) S.base B.glob.2 B.glob.1 (callWith_of (P:=G.K.In) (by rw[bZ c];rfl) (fun h X=>keeps_K B.keep h X) (bh c (wpAny_items_cons (H a s ρ us _ R _ E h S fun v ρ₁ u h₁ tk ov hP S₁=>?_) (dy hp _)))))
  have X₁:G.K.In h₁:=EY (s:={s with heap:=h₁,toks:=tk}) S₁
  refine wpAny_items_nil ⟨X₁,?_⟩
  obtain⟨f,hi,hf,go⟩:=xV B
  refine mO PySem.F.excBase_Exception (by rfl) (by rfl) (by rfl) (X₁ _ _ hC) (looks_findIn X₁ hi) (fun self=>bind_fn X₁ self hf) (fun h' e hm=>?_) (by simp[sizeLine])
  obtain⟨t0,ht0,zz,zz⟩:=hm.there
  have dp:=X.dp
  refine wpAny_call (go (s:=⟨h',s.gens,s.drawn,tk,s.os⟩) (by exact show X.A.depth+1<1000 from(az 0x3e832110042384324110418004417) dp) (fun a o q=>hm.keeps a o (S₁.base a o q)) ht0 fun h'' tk' dx hk hd=>⟨rfl,?_⟩)
  have kp:∀b o,h₁.get? b=some o->h''.get? b=some o:=fun b o q=>hk b o (fun z=>by have:=hm.new;rw[←z,q]at this;cases this) (hm.keeps b o q)
  refine⟨e,_,_,_,rfl,kp _ _ (X₁ _ _ hC),hd,k .exc ρ₁ us (.ref e) h'' tk' hP (.refl us) ?_⟩
  exact(S₁.snd.new kp hm.new hd).imp (al (fun Z m q=>⟨e,_,_,rfl,q,rfl,rfl,⟨_,rfl⟩,.inl rfl⟩) ag)
 rw[arm_exec_Raise]
 have dY:=sJ (env:=X.env) (Q:=Q) (x:=do let v ←eval (.Call (.Name G.T.bad np) [a] [] cpos) X.env;standAt pos;pure v) (by rfl) X.hd (wpAny_bind (wpAny_mono main (fun v s₁ h=>wpAny_bind (wpAny_standAt (wpAny_pure h))) fun zz zz x=>x))
 exact wpAny_bind (wpAny_standAt dY)
end
set_option tactic.hygienic true in
theorem jt {s:Stmt} {q:Expr×Expr} (h:tf s=some q):∃p,s=.Assign [q.1] q.2 p:=by
 rcases s with _|_<;>first|exact no h|exact bp h|(cases h;done)|skip
 ·rename_i ts v p
  match ts,h with|[t],h=>cases h;exact⟨p,rfl⟩
section
variable {G:bB} {X:Amb G} {Φ:Calls} {f:Nat}
theorem tK (O:cX G) (C:∀k,bO G X.n Φ k) {x:Str} {e:Expr} {p pos:Pos}:SX X (exec (.Assign [.Name x p] e pos) X.env) fun ρ P=>aP (ix x X.c.names) fun i=>EV G.T Φ (ev G.T Φ (f+1)) X.c e ρ fun v ρ=>if eP v=true then P .exc ρ else bK (bS v) (aP (du X.c i v ρ) fun ρ=>P .nxt ρ):=by
 intro s ρ us P R Q E h S k
 refine eQ h fun i hi h=>?_
 have H:=(lO O C (f+1) X rfl).1
 by_cases c:ic e=true
 ·obtain⟨b,hs⟩:∃b,swapsWith e (some (.Name x p)) pos.line X.env=pure b:=by
   rcases e with _|_<;>first|exact⟨_,rfl⟩|exact no c
  rcases b with _|_
  ·exact xn (xS O C H) hs hi s ρ us P R Q E h S k
  ·unfold EV at h
   obtain⟨c1,c2⟩:=qF (T:=G.T) (c:=X.c) c
   rw[c1,c2]at h
   exact An O.toGlobOk (lO O C f) Au c hs hi s ρ us P R Q E h S k
 ·exact xn (xS O C H) (qq (eq_false_iff.mpr c)) hi s ρ us P R Q E h S k
theorem Aw (O:cX G) (C:∀k,bO G X.n Φ k) {t e:Expr} {pos:Pos}:SX X (exec (.Assign [t] e pos) X.env) (BZ G.T Φ (ev G.T Φ (f+1)) X.c t e):=by
 intro s ρ us P R Q E h S k
 have H:=(lO O C (f+1) X rfl).1
 cases t with
 | Name x p=>exact tK O C s ρ us P R Q E h S k
 | Tuple ts j p=>
  refine eQ h fun xs hx h=>?_
  refine kS h (fun vs q h8=>?_) fun q h8=>?_
  ·clear h
   exact Af H hx q s ρ us P R Q E h8 S k
  ·clear h
   exact Ae H hx q s ρ us P R Q E h8 S k
 | Attribute b g p=>exact Ac H (by rcases e with _|_<;>rfl) s ρ us P R Q E h S k
 | Subscript b st p=>exact Ad H (by rcases e with _|_<;>rfl) s ρ us P R Q E h S k
 | _=>exact h.elim
inductive F7 (c:bF) (bad:Str):List Stmt->List ExceptHandler->Str×Expr×Int->Prop
 | mk (x e j k p1 p2 p3 p4 p5 p6 p7) (g:wK c bad=true):F7 c bad [.Assign [.Name x p1] e p2] [.ExceptHandler (some (.Name bad p3)) none [.Assign [.Name x p4] (.Constant (.int j) k p5) p6] p7] (x,e,j)
theorem Ax {T:Tab} {c:bF} {b:List Stmt} {hs:List ExceptHandler} {q:Str×Expr×Int} (h:B1 T c b hs=some q):F7 c T.bad b hs q:=by
 refine aJ h fun st h1 g1=>aJ g1 fun hd h2 g2=>aJ g2 fun w h3 g3=>aJ g3 fun x h4 g4=>aJ g4 fun z h5 g5=>?_
 obtain⟨h6,rfl⟩:=br g5
 obtain⟨p2,rfl⟩:=jt h3
 obtain⟨p1,hp1⟩:=bX h4
 rw[ck h1,ck h2,hp1]
 obtain⟨ty,nm,hb,p7⟩:=hd
 rcases nm with _|_
 ·refine aJ h5 fun t h7 g7=>aJ g7 fun y h8 g8=>aJ g8 fun s2 h9 g9=>aJ g9 fun w2 h10 g10=>aJ g10 fun x2 h11 g11=>aJ g11 fun j h12 g12=>?_
  obtain⟨h13,rfl⟩:=br g12
  refine cz h13 fun h14 h15=>?_
  cases strEq_iff.mp h14
  cases strEq_iff.mp h6
  obtain⟨p3,hp3⟩:=bX h8
  obtain⟨p6,rfl⟩:=jt h10
  obtain⟨p4,hp4⟩:=bX h11
  obtain⟨kk,p5,hp5⟩:=pX h12
  rw[show ty=some (.Name T.bad p3)from h7.trans (congrArg some hp3),ck h9,hp4,hp5]
  exact .mk _ _ _ _ _ _ _ _ _ _ _ h15
 ·exact no h5
theorem DJ (O:cX G) (B:lQ G) (C:∀k,bO G X.n Φ k) (ht:X.env=X.top) {b:List Stmt} {hs:List ExceptHandler} {pos:Pos}:SX X (exec (.Try b hs [] [] pos) X.env) (B2 G.T Φ (ev G.T Φ (f+1)) X.c b hs):=by
 intro s ρ us P R Q E h S k
 refine eQ h fun q hq h1=>?_
 clear h
 obtain⟨x,e,j,kk,p1,p2,p3,p4,p5,p6,p7,h15⟩:=Ax hq
 have h:=h1
 clear h1 hq
 refine eQ h fun i hi h=>?_
 refine wpAny_Try_except ?_
 refine wpAny_execs_cons (tK (f:=f) O C s ρ us (fun fl ρ=>match fl with
  | .exc=>aP (du X.c i (.int j) ρ) fun ρ=>P .nxt ρ
  | .nxt=>P .nxt ρ
  | _=>False) R _ _ (by rw[hi];exact h) S fun fl ρ₁ us₁ u h₁ k₁ hp kp S₁=>?_)
 cases fl with
 | nxt=>exact wpAny_execs_nil (wpAny_execs_nil (k .nxt ρ₁ us₁ u h₁ k₁ hp kp S₁))
 | exc=>
  obtain⟨ρ₂,hb,hp⟩:=aY hp
  refine pf (s:={s with heap:=h₁,toks:=k₁}) ht S₁ fun h₂ S₂=>pe (s:={s with heap:=h₂,toks:=k₁}) S₂ fun h₃ S₃=>?_
  obtain⟨a,t,o,vs,zz,zz,zz,rfl,ho,hc,zz⟩:=pd (M:=model G.prog G.w) (A:=X.A) (E:=E) (y:=.none) (Q:=fun zz zz=>True) (s:={s with heap:=h₃,toks:=k₁}) S₃ fun zz zz=>trivial
  refine wpAny_handleBy_cons (codeAny_handlers_test (fg (qN h15) S₃.base B.glob.2 B.glob.1 ?_)) (by intro q;cases q)
  obtain⟨U,nm,q,N,bs,sn,sub,ab,col,dd,k0,k1,k2,k3,k5,hC⟩:=B.obj
  refine wpAny_excMatches_sub_self (S₃.base _ _ (G.X _ _ hC)) ho hc (by rfl) (codeAny_handlers_suite ?_)
  refine pe (s:={s with heap:=h₃,toks:=k₁}) S₃ fun h₄ S₄=>?_
  refine wpAny_execs_cons (wpAny_Assign_Name (wpAny_Constant_int ?_) rfl)
  refine fH (s:={s with heap:=h₄,toks:=k₁+1}) (v:=.int j) hi hb (S₄.snd.put fun zz zz=>⟨_,rfl⟩) fun h₅ k₅ S₅ kp₅=>wpAny_execs_nil ?_
  exact k .nxt ρ₂ _ .none h₅ k₅ hp (kp.trans kp₅) S₅.no
 | _=>exact hp.elim
end
theorem vC {e:Expr} {t:Expr×Str×Pos} (h:wH e=some t):e=.Attribute t.1 t.2.1 t.2.2:=by
 rcases e with _|_<;>cases h
 rfl
section
variable {G:bB} {X:Amb G} {Φ:Calls} {f:Nat}
theorem F8 (O:cX G) (C:∀k,bO G X.n Φ k) {e:Expr} {pos:Pos}:SX X (exec (.Expr e pos) X.env) (C0 G.T Φ (ev G.T Φ (f+1)) X.c e):=by
 intro s ρ us P R Q E h S k
 have H:=(lO O C (f+1) X rfl).1
 unfold C0 at h
 refine kS h (fun q e1 h7=>?_) fun e1 h7=>?_
 ·clear h
  refine aJ e1 fun w hw g1=>?_
  refine aJ g1 fun t ht g2=>?_
  refine aJ g2 fun a ha g3=>?_
  obtain⟨c,rfl⟩:=br g3
  refine cz c fun c1 c2=>?_
  rw[cH hw,vC ht,ck ha]
  refine DC H c1 ?_ s ρ us P R Q E h7 S k
  by_cases c3:wG t.2.1=true
  ·exact .inl ⟨c3,strEq_iff.mp c3⟩
  ·exact .inr ⟨eq_false_iff.mpr c3,strEq_iff.mp ((or_eq_true_iff.mp c2).resolve_right c3)⟩
 ·clear h
  refine kS h7 (fun q e2 h77=>?_) fun e2 h77=>?_
  ·clear h7
   exact DI O C H e2 s ρ us P R Q E h77 S k
  ·clear h7
   refine bH h77 fun c h77=>?_
   refine wpAny_Expr (H e s ρ us _ R _ E h77 S fun v ρ₁ u h₁ k₁ zz hp S₁=>?_) (by unfold interactive;rw[X.kind];rfl) (qq (by cases q:ic e<;>first|rfl|(rw[q]at c;cases c)))
   refine bH hp fun c4 hp=>?_
   have e:v=.none:=by rcases v with _|_<;>first|rfl|exact bp c4
   subst e
   obtain⟨zz,zz,zz,zz,e⟩:=S₁.look
   cases (show u=.none from e)
   exact k .nxt ρ₁ us .none h₁ k₁ hp (.refl us) S₁.snd.no
set_option tactic.hygienic true in
theorem DK (O:cX G) (C:∀k,bO G X.n Φ k) (ht:X.env=X.top) {S:bF->Stmt->M Fl} (HS:∀(Y:Amb G),Y.n=X.n->Y.env=X.env->Y.env=Y.top->∀st,SX Y (exec st Y.env) (S Y.c st)) {t it:Expr} {b:List Stmt} {pos:Pos}:SX X (exec (.For t it b [] pos) X.env) (fb G.T (ev G.T Φ f) X.c S t it b):=by
 intro s ρ us P R Q E h T k
 unfold fb at h
 cases q:(ib X.c it ρ).filter fun q=>q.1.2.isEmpty with
 | some q=>
  rw[q]at h
  rename_i w
  obtain⟨h1,h2⟩:=Option.filter_eq_some_iff.mp q
  obtain⟨⟨i,pth⟩,l⟩:=w
  cases List.isEmpty_iff.mp h2
  exact Ai ht h1 (gp (X:=X.pin i) (HS (X.pin i) rfl rfl ht) b) h T k
 | none=>
  rw[q]at h
  exact Ah O.toGlobOk (lO O C f X rfl).1 ht (sH h) (gp (HS X rfl rfl ht) b) s ρ us P R Q E h T k
theorem Ay (O:cX G) (B:lQ G) (C:∀k,bO G X.n Φ k) (ht:X.env=X.top) {S:bF->Stmt->M Fl} (HS:∀(Y:Amb G),Y.n=X.n->Y.env=X.env->Y.env=Y.top->∀st,SX Y (exec st Y.env) (S Y.c st)) (st:Stmt):SX X (exec st X.env) (B3 G.T Φ (ev G.T Φ (f+1)) S X.c st):=by
 intro s ρ us P R Q E h T k
 have H:=lO O C (f+1) X rfl
 have HB:=fun b=>gp (HS X rfl rfl ht) b
 cases st with
 | Assign ts v p=>
  refine eQ h fun q hq h=>?_
  obtain⟨p',e⟩:=jt hq
  rw[e]
  exact Aw O C s ρ us P R Q E h T k
 | Expr e p=>exact F8 O C s ρ us P R Q E h T k
 | If t a b p=>exact FW H.2 (HB a) (HB b) s ρ us P R Q E h T k
 | While t b o p=>
  rcases o with _|⟨_,_⟩
  ·exact DB H.2 (HB b) 10000 s ρ us P R Q E h T k
  ·exact h.elim
 | For t it b o p=>
  rcases o with _|⟨_,_⟩
  ·exact DK O C ht HS s ρ us P R Q E h T k
  ·exact h.elim
 | Return v p=>
  rcases v with _|e
  ·exact Aa s ρ us P R Q E h T k
  ·change (match te X.c e ρ with
    | some (p,ks,vs,x)=>CS fun w=>aP (mC p (.dct ks (kvs x (.pin w .LZ) ks vs)) ρ) fun ρ=>P (.ret (.pin w (cu x ks vs))) ρ
    | none=>(ev G.T Φ (f+1)).e X.c e ρ fun v ρ=>P (.ret v) ρ)at h
   cases q:te X.c e ρ with
   | some w=>
    rw[q]at h
    exact Av q h T k
   | none=>rw[q]at h;exact DA H.1 s ρ us P R Q E h T k
 | Raise x y p=>
  rcases x with _|e
  ·exact h.elim
  ·rcases y with _|_
   ·refine eQ h fun a ha h=>?_
    exact xW B H.1 ha s ρ us P R Q E h T k
   ·exact h.elim
 | Try b hs o dY p=>
  rcases o with _|⟨_,_⟩
  ·rcases dY with _|⟨_,_⟩
   ·exact DJ O B C ht s ρ us P R Q E h T k
   ·exact h.elim
  ·exact h.elim
 | Pass p=>exact z9 s ρ us P R Q E h T k
 | Break p=>exact Dy s ρ us P R Q E h T k
 | Continue p=>exact Dz s ρ us P R Q E h T k
 | _=>exact h.elim
end
theorem Cc {G:bB} (O:cX G) (B:lQ G) {Φ:Calls} {n:Nat} (C:∀k,bO G n Φ k) {f:Nat}:∀(g:Nat) (X:Amb G),X.n=n->X.env=X.top->∀st,SX X (exec st X.env) (ex G.T Φ (ev G.T Φ (f+1)) g X.c st)
 | 0,_,_,_,_=>fun zz zz zz zz zz zz zz h=>h.elim
 | g+1,X,e,ht,st=>by
  subst e
  exact Ay O B C ht (fun Y e zz ht=>Cc O B C g Y e ht) st
def xX (G:bB):Prop:=∀k d,G.T.fn k=some d->∃fd,xI G k d fd
theorem xY {G:bB} (O:cX G) (B:lQ G) (D:xX G):∀(n k:Nat),bO G n (aW G.T n) k
 | 0,_=>fun zz zz zz zz zz zz zz zz h=>h.elim
 | n+1,k=>by
  cases q:G.T.fn k with
  | none=>intro vs us P A s Os R C h;obtain⟨d,hd,zz⟩:=aY h;cases q.symm.trans hd
  | some d=>
   obtain⟨fd,F⟩:=D k d q
   refine Aq F (fun Os A env H=>gp (X:=fS G H) (Cc O B (f:=29) (xY O B D n) 12 (fS G H) rfl rfl) d.body) fun vs P h=>?_
   refine eQ h fun d' hd h=>?_
   cases q.symm.trans hd
   exact h
noncomputable def vr (a:Nat):Value:=.ref a
noncomputable def vi (i:Int) (t:Nat):Value:=.int i t
noncomputable def vs (x:String) (t:Nat):Value:=.str (s x) t
noncomputable def vb (x:String):Value:=.builtin x
noncomputable def vy (x:String):Value:=.type x
noncomputable def vt:Value:=.bool true
noncomputable def vf:Value:=.bool false
noncomputable abbrev o:Value:=.none
noncomputable def oT (l:List Value):Obj:=⟨.type "tuple",none,.seq ⟨l⟩ 0,#[]⟩
noncomputable def Ce:Nat->List String->List Value
 | _,[]=>[]
 | t,x::r=>vs x t::Ce (t+1) r
noncomputable def oN (t:Nat) (l:List String):Obj:=oT (Ce t l)
noncomputable def oF (c:Value) (l:List Value):Obj:=⟨c,none,.fields ⟨l⟩,#[]⟩
noncomputable def oC (n q:String) (t:Nat) (l n4 n7 r8 b9 r11 v13 v14 v15:Value) (t16:Nat):Obj:=
 oF (.type "code") [vs n t,vs q (t+1),vs "/claim/cut.py" (t+2),l,n4,vi 0 0,vi 0 0,n7,r8,b9,vi 181 0,r11,.none,v13,v14,v15,vi t16 0,l,vs "/claim/cut.py" (t16+1)]
noncomputable def oD (c:Value) (e:Nat) (l:List DictEntry):Obj:=⟨c,none,.dict ⟨l⟩ e,#[]⟩
noncomputable def en (P:Params) (x:String) (t:Nat) (v:Value):DictEntry:=⟨PyData.keyHash P (s x),.str (s x) t,v⟩
noncomputable def vD (st:Stmt) (q:String):FuncData:=match st with
 | .FunctionDef n a b _ _ _ sc _ _ _=>{name:=n,qualname:=s q,params:=a,body:=.stmts b,scope:=sc,globals:=0,closure:=[],defaults:=.none,kwdefaults:=.none}
 | _=>default
noncomputable def fq (st:Stmt) (q:String):Obj:=⟨.none,none,.func (vD st q),#[]⟩
noncomputable def fn (st:Stmt) (q:String) (df cd mo:Value):Obj:=⟨.type "function",none,.func {vD st q with globals:=3,defaults:=df,code:=cd,pyModule:=mo},#[]⟩
noncomputable def oK (n:String) (b m:List Value) (ns:Nat) (q:String) (subs:List Value) (sl:List (Option Value)):Obj:=⟨.type "type",none,.cls {name:=s n,bases:=b,mro:=m,ns:=ns,qualname:=s q,subclasses:=subs},⟨sl⟩⟩
noncomputable def oM (c:Value) (d:Nat):Obj:=⟨c,some d,.plain,#[]⟩
noncomputable def oR (sl:List (Option Value)):Obj:=⟨.type "frame",none,.plain,⟨sl⟩⟩
noncomputable def dR:BT->Nat->List Obj->BT
 | t,_,[]=>t
 | t,n,x::l=>dR (t.ins n x) (n+1) l
noncomputable def d5 (l:List DictEntry) (e:Nat) (x:Obj):Obj:=⟨x.cls,x.dict,.dict ⟨l⟩ e,x.slots⟩
noncomputable def eV (l:List Value) (x:Obj):Obj:=⟨x.cls,x.dict,.fields ⟨l⟩,x.slots⟩
noncomputable def xZ (t:BT) (a:Nat):List DictEntry:=match t.get a with
 | some ⟨_,_,.dict es _,_⟩=>es.toList
 | _=>[]
noncomputable def bq (a b c d:Nat):Pos:=⟨a,b,c,d⟩
noncomputable abbrev lR:Pos:=⟨0,0,0,0⟩
noncomputable def x7:PySem.Env:={scope:=pw.main.scope,locals:=mainNs,globals:=mainNs,cells:=[],code:=.ref 13,frame:=some 14}
noncomputable def iO:Code:=.body (behindTheImports pw) x7
noncomputable def cQ (t:BT) (n k:Nat) (os:OsState):SharedT:=⟨t,n,{},#[],{},k,os⟩
noncomputable def dH (n:String) (st:Stmt) (q:String) (t l a x:Nat) (b c d e:Value) (u:Nat) (df:Value) (k:Nat) (m:Value):List Obj:=
 [fq st q,oC n q t (vi l 0) (vi a 0) (vi 3 0) (vr x) vt b c d e u,fn st q df (vr k) m]
noncomputable def dG (st:Stmt) (q:String):Nat->Nat->Nat->Nat->Value->Value->Value->Value->Nat->Value->Nat->Value->List Obj:=dH q st q
noncomputable def dm:Value:=vs "unicore.linebreaks" 1189
noncomputable def fN:Value:=vs "unicore.bidiparas" 270
noncomputable def jZ:Value:=vs "unicore.bidiweak" 669
noncomputable def sL:Value:=vs "law_pb0601_01" 2119
noncomputable def vE:Value:=vs "unicore.clusters" 1071
noncomputable def wb:Value:=vs "unicore.base" 194
noncomputable def Az:Value:=vs "unicore.ranges" 1971
noncomputable def AA:Value:=vs "unicore.data" 2050
noncomputable def Cf:Value:=vs "unicore.bidilines" 956
noncomputable def DL:Value:=vs "unicore.unitext" 1903
noncomputable def x8:Value:=vs "unicore.widths" 1850
noncomputable def rH:Obj:=oF (vy "builtin_function_or_method") [vb "type.__prepare__",vy "type"]
noncomputable def fO:Obj:=oF o []
noncomputable def hU (P:Params):Nat->Value->DictEntry:=en P "__module__"
noncomputable def rI (P:Params):Nat->Value->DictEntry:=en P "__qualname__"
noncomputable def hY (P:Params):Nat->Value->DictEntry:=en P "__firstlineno__"
noncomputable def hZ (P:Params):Nat->Value->DictEntry:=en P "__static_attributes__"
noncomputable def tM (P:Params):Nat->Value->DictEntry:=en P "__weakref__"
noncomputable def rJ (P:Params):Nat->Value->DictEntry:=en P "__doc__"
noncomputable def i9 (P:Params):Nat->Value->DictEntry:=en P "__init__"
noncomputable def vF (P:Params):Nat->Value->DictEntry:=en P "__dict__"
noncomputable def dA (n:String) (st:Stmt) (q:String) (t l a x u:Nat) (df m:Value):List Obj:=dH n st q t l a x (vr (x+1)) (vr (x+2)) (vr (x+3)) (vr (x+4)) u df (x+5) m
noncomputable def dO (n:String) (st:Stmt) (q:String) (t l a x u:Nat) (df m:Value):List Obj:=dH n st q t l a x (vr (x+1)) o o (vr (x+2)) u df (x+3) m
noncomputable def b0 (st:Stmt) (q:String) (t l a x u:Nat) (df m:Value):List Obj:=dA q st q t l a x u df m
noncomputable def mP (st:Stmt) (q:String) (t l a x u:Nat) (df m:Value):List Obj:=dO q st q t l a x u df m
noncomputable def pN (t:Nat) (l:List String):List Obj:=[oT [],fO,oN t l,oT []]
noncomputable def eL (P:Params) (l:List (String×Nat×Nat)):List DictEntry:=l.map fun x=>en P x.1 x.2.1 (vr x.2.2)
noncomputable def oW (t a:Nat):Obj:=oF (vy "getset_descriptor") [vs "__weakref__" t,vr a,vb "ExceptionGroup.__weakref__",o]
noncomputable def oI (a:Nat):Obj:=oF (vy "builtin_function_or_method") [vb "object.__init_subclass__",vr a]
noncomputable def oS (a:Nat):Obj:=oF (vy "super") [vr a,vr a,vr a]
noncomputable def oY:Nat->List DictEntry->Obj:=oD (vy "dict")
noncomputable def DM (P:Params):BT:=dR .nil 0 ([PySem.W.boot_o_0 P,PySem.W.boot_o_1 P,PySem.W.boot_o_2 P,PySem.W.boot_o_3 P,PySem.W.boot_o_4 P,PySem.W.boot_o_5 P,PySem.W.boot_o_6 P,PySem.W.boot_o_7 P,PySem.W.boot_o_8 P,PySem.W.boot_o_9 P,PySem.W.boot_o_10 P]++[oT [],fO,oC "<module>" "<module>" 182 (vi 1 0) (vi 0 0) (vi 0 0) (vr 11) vf (vr 12) o o o 185,oR [some (vr 13),some (vr 3),some (vr 3),none,some (vs "__main__" 164),none,some (vr 0)]])
noncomputable def n0 (P:Params):List Obj:=[oT [],
fO,
oN 190 ["k"],
oT [],
fq (aa 0) "_wall",
oC "_wall" "_wall" 187 (vi 1 0) (vi 1 0) (vi 3 0) (vr 15) vt (vr 16) (vr 17) (vr 18) (vr 19) 191,
fn (aa 0) "_wall" o (vr 20) (vs "__main__" 164),
oT [vy "Exception"],
rH,
oY 5 [hU P 205 wb,rI P 207 (vs "UniError" 206),hY P 209 (vi 6 208),i9 P 217 (vr 36),hZ P 219 (vr 37)],
oT [],
oF o [vi 8 0,vi 4 0,vr 35],
oC "UniError" "UniError" 200 (vi 6 0) (vi 0 0) (vi 0 0) (vr 25) vf (vr 26) o o o 203,
oR [some (vr 27),some (vr 3),some (vr 24),none,some wb,none,some (vr 0)],
oT [o]]++pN 213 ["self", "told"]++dA "__init__" (aA 3 0) "UniError.__init__" 210 8 2 30 215 (vr 29) wb++[
oN 218 ["told"],
oY 3 [hU P 205 wb,hY P 209 (vi 6 208),i9 P 217 (vr 36),hZ P 219 (vr 37),tM P 221 (vr 40),rJ P 222 o],
oK "UniError" [vy "Exception"] [vr 39,vy "Exception",vy "BaseException",vy "object"] 38 "UniError" [] [some (vr 22),none,some (vs "UniError" 198),some (vs "UniError" 206),some (vb "Exception.__new__"),some vt],
oW 220 39,
oS 39,
oI 39]
noncomputable def KN (P:Params):List DictEntry:=(en P "__name__" 165 wb::(xZ (DM P) 3).tail)++[en P "_wall" 193 (vr 21),
en P "MAX_CODE" 197 (vi 1114111 196),
en P "UniError" 226 (vr 39)]
noncomputable def KO:List Value:=[]++[vi 1 0,vi 0 0,vr 20,vi 6 0,vi 0 0,vr 27]
noncomputable def IN (P:Params):BT:=(((dR (DM P) 15 (n0 P)).set 2 (d5 (xZ (DM P) 2++[en P "type.__subclasses__.Exception.0" 223 (vi 39 0),en P "type.__subclasses__.Exception.n" 224 (vi 1 0)]) 2)).set 3 (d5 (KN P) 12)).set 12 (eV KO)
noncomputable def n1 (P:Params):List Obj:=[oT [vr 39],
rH,
oY 4 [hU P 234 wb,rI P 236 (vs "BadCode" 235),hY P 238 (vi 10 237),hZ P 239 (vr 50)],
oT [],
fO,
oC "BadCode" "BadCode" 229 (vi 10 0) (vi 0 0) (vi 0 0) (vr 46) vf (vr 47) o o o 232,
oR [some (vr 48),some (vr 3),some (vr 45),none,some wb,none,some (vr 0)],
oT [],
oY 2 [hU P 234 wb,hY P 238 (vi 10 237),hZ P 239 (vr 50),rJ P 240 o],
oK "BadCode" [vr 39] [vr 52,vr 39,vy "Exception",vy "BaseException",vy "object"] 51 "BadCode" [] [some (vr 43),none,some (vs "BadCode" 227),some (vs "BadCode" 235),some (vb "Exception.__new__"),some vt],
oS 52,
oI 52,
oT [vr 39],
rH,
oY 4 [hU P 250 wb,rI P 252 (vs "BadRule" 251),hY P 254 (vi 12 253),hZ P 255 (vr 62)],
oT [],
fO,
oC "BadRule" "BadRule" 245 (vi 12 0) (vi 0 0) (vi 0 0) (vr 58) vf (vr 59) o o o 248,
oR [some (vr 60),some (vr 3),some (vr 57),none,some wb,none,some (vr 0)],
oT [],
oY 2 [hU P 250 wb,hY P 254 (vi 12 253),hZ P 255 (vr 62),rJ P 256 o],
oK "BadRule" [vr 39] [vr 64,vr 39,vy "Exception",vy "BaseException",vy "object"] 63 "BadRule" [] [some (vr 55),none,some (vs "BadRule" 243),some (vs "BadRule" 251),some (vb "Exception.__new__"),some vt],
oS 64,
oI 64]
noncomputable def KP (P:Params):List DictEntry:=KN P++(eL P [("BadCode",242,52),("BadRule",258,64)])
noncomputable def KQ:List Value:=KO++[vi 10 0,vi 0 0,vr 48,vi 12 0,vi 0 0,vr 60]
noncomputable def IO (P:Params):BT:=(((dR (IN P) 43 (n1 P)).set 3 (d5 (KP P) 14)).set 12 (eV KQ)).set 39 (fun _=>(oK "UniError" [vy "Exception"] [vr 39,vy "Exception",vy "BaseException",vy "object"] 38 "UniError" [vr 52,vr 64] [some (vr 22),none,some (vs "UniError" 198),some (vs "UniError" 206),some (vb "Exception.__new__"),some vt]))
noncomputable def n2 (P:Params):List Obj:=[oT [],
fO,
oN 262 ["firsts", "number", "low", "high", "middle"],
oT []]++b0 (aa 6) "place_by_half" 259 14 2 67 267 o wb++[
oN 274 ["L", "R", "AL"],
oN 278 ["RLE", "LRE", "RLO", "LRO"],
oN 283 ["LRI", "RLI", "FSI"],
oN 287 ["RLE", "LRE", "RLO", "LRO", "PDF", "BN"],
oT [],
fO]++mP (aa 16) "bidi_kinds" 300 33 2 78 303 o fN++pN 309 ["text", "data", "found", "begun", "at", "code", "is_pair"]++b0 (aa 17) "paragraphs" 306 35 2 83 316 o fN++pN 322 ["kinds", "found", "waiting", "at", "kind", "begin"]++b0 (aa 18) "isolate_pairs" 319 47 1 90 328 o fN++pN 334 ["kinds", "begin", "end", "pairs", "at", "kind"]++b0 (aa 19) "bidi_first_strong" 331 60 4 97 340 o fN++[
oN 343 ["auto"]]++pN 347 ["text", "data", "word"]++b0 (aa 20) "base_level" 344 74 3 105 350 (vr 104) fN++pN 356 ["kinds", "word", "strong"]++b0 (aa 21) "bidi_base" 353 76 2 112 359 o fN
noncomputable def KR (P:Params):List DictEntry:=(en P "__name__" 165 fN::(KP P).tail)++[en P "place_by_half" 269 (vr 73),
en P "MAX_DEPTH" 273 (vi 125 272),
en P "STRONG" 277 (vr 74),
en P "EMBEDDINGS" 282 (vr 75),
en P "INITIATORS" 286 (vr 76),
en P "REMOVED" 293 (vr 77),
en P "SEPARATOR" 295 (vs "B" 294),
en P "CARRIAGE_RETURN" 297 (vi 13 296),
en P "LINE_FEED" 299 (vi 10 298),
en P "bidi_kinds" 305 (vr 82),
en P "paragraphs" 318 (vr 89),
en P "isolate_pairs" 330 (vr 96),
en P "bidi_first_strong" 342 (vr 103),
en P "base_level" 352 (vr 111),
en P "bidi_base" 361 (vr 118)]
noncomputable def KS:List Value:=KQ++[vi 14 0,vi 0 0,vr 72,vi 33 0,vi 0 0,vr 81,vi 35 0,vi 0 0,vr 88,vi 47 0,vi 0 0,vr 95,vi 60 0,vi 0 0,vr 102,vi 74 0,vi 0 0,vr 110,vi 76 0,vi 0 0,vr 117]
noncomputable def IP (P:Params):BT:=((dR (IO P) 67 (n2 P)).set 3 (d5 (KR P) 29)).set 12 (eV KS)
noncomputable def n3 (P:Params):List Obj:=[oT [],
rH,
oY 5 [hU P 369 fN,rI P 371 (vs "BidiEntry" 370),hY P 373 (vi 83 372),i9 P 383 (vr 132),hZ P 387 (vr 133)],
oT [],
oF o [vi 85 0,vi 4 0,vr 131],
oC "BidiEntry" "BidiEntry" 364 (vi 83 0) (vi 0 0) (vi 0 0) (vr 122) vf (vr 123) o o o 367,
oR [some (vr 124),some (vr 3),some (vr 121),none,some fN,none,some (vr 0)]]++pN 377 ["self", "level", "override", "is_isolate"]++dA "__init__" (aA 22 0) "BidiEntry.__init__" 374 85 4 126 381 o fN++[
oN 384 ["is_isolate", "level", "override"],
oY 4 [hU P 369 fN,hY P 373 (vi 83 372),i9 P 383 (vr 132),hZ P 387 (vr 133),vF P 389 (vr 136),tM P 391 (vr 137),rJ P 392 o],
oK "BidiEntry" [vy "object"] [vr 135,vy "object"] 134 "BidiEntry" [] [none,none,some (vs "BidiEntry" 362),some (vs "BidiEntry" 370),some (vb "object.__new__"),some vt],
oF (vy "getset_descriptor") [vs "__dict__" 388,vr 135,vb "function.__dict__",vb "function.__dict__#set"],
oW 390 135,
oS 135,
oI 135]
noncomputable def KT (P:Params):List DictEntry:=KR P++[en P "BidiEntry" 394 (vr 135)]
noncomputable def KU:List Value:=KS++[vi 83 0,vi 0 0,vr 124]
noncomputable def IQ (P:Params):BT:=((dR (IP P) 119 (n3 P)).set 3 (d5 (KT P) 30)).set 12 (eV KU)
noncomputable def n4 (P:Params):List Obj:=[oT [],
rH,
oY 12 [hU P 402 fN,rI P 404 (vs "BidiStack" 403),hY P 406 (vi 89 405),i9 P 415 (vr 153),en P "last" 422 (vr 160),en P "further" 431 (vr 167),en P "is_free" 439 (vr 174),en P "embed" 449 (vr 181),en P "isolate" 458 (vr 188),en P "end_isolate" 465 (vr 195),en P "end_embedding" 472 (vr 202),hZ P 478 (vr 203)],
oT [],
oF o [vi 91 0,vi 4 0,vr 152,vi 98 0,vi 4 0,vr 159,vi 101 0,vi 4 0,vr 166,vi 107 0,vi 4 0,vr 173,vi 110 0,vi 4 0,vr 180,vi 117 0,vi 4 0,vr 187,vi 125 0,vi 4 0,vr 194,vi 135 0,vi 4 0,vr 201],
oC "BidiStack" "BidiStack" 397 (vi 89 0) (vi 0 0) (vi 0 0) (vr 143) vf (vr 144) o o o 400,
oR [some (vr 145),some (vr 3),some (vr 142),none,some fN,none,some (vr 0)]]++pN 410 ["self", "base", "depth"]++dA "__init__" (aA 23 0) "BidiStack.__init__" 407 91 3 147 413 o fN++pN 419 ["self"]++dA "last" (aA 23 1) "BidiStack.last" 416 98 1 154 420 o fN++pN 426 ["self", "is_right", "level"]++dA "further" (aA 23 2) "BidiStack.further" 423 101 2 161 429 o fN++pN 435 ["self", "level"]++dA "is_free" (aA 23 3) "BidiStack.is_free" 432 107 2 168 437 o fN++pN 443 ["self", "is_right", "override", "level"]++dA "embed" (aA 23 4) "BidiStack.embed" 440 110 3 175 447 o fN++pN 453 ["self", "is_right", "level"]++dA "isolate" (aA 23 5) "BidiStack.isolate" 450 117 2 182 456 o fN++pN 462 ["self"]++dA "end_isolate" (aA 23 6) "BidiStack.end_isolate" 459 125 1 189 463 o fN++pN 469 ["self"]++dA "end_embedding" (aA 23 7) "BidiStack.end_embedding" 466 135 1 196 470 o fN++[
oN 473 ["depth", "entries", "over_embeddings", "over_isolates", "valid_isolates"],
oY 4 [hU P 402 fN,hY P 406 (vi 89 405),i9 P 415 (vr 153),en P "last" 422 (vr 160),en P "further" 431 (vr 167),en P "is_free" 439 (vr 174),en P "embed" 449 (vr 181),en P "isolate" 458 (vr 188),en P "end_isolate" 465 (vr 195),en P "end_embedding" 472 (vr 202),hZ P 478 (vr 203),vF P 480 (vr 206),tM P 482 (vr 207),rJ P 483 o],
oK "BidiStack" [vy "object"] [vr 205,vy "object"] 204 "BidiStack" [] [none,none,some (vs "BidiStack" 395),some (vs "BidiStack" 403),some (vb "object.__new__"),some vt],
oF (vy "getset_descriptor") [vs "__dict__" 479,vr 205,vb "function.__dict__",vb "function.__dict__#set"],
oW 481 205,
oS 205,
oI 205]
noncomputable def KV (P:Params):List DictEntry:=KT P++[en P "BidiStack" 485 (vr 205)]
noncomputable def KW:List Value:=KU++[vi 89 0,vi 0 0,vr 145]
noncomputable def IR (P:Params):BT:=((dR (IQ P) 140 (n4 P)).set 3 (d5 (KV P) 31)).set 12 (eV KW)
noncomputable def n5 (P:Params):List Obj:=[oT [vi 125 272]]++pN 489 ["kinds", "base", "depth", "stack", "pairs", "levels", "classes", "at", "kind", "is_right", "override", "entry"]++b0 (aa 24) "explicit" 486 142 3 211 501 (vr 210) fN++pN 507 ["kinds", "at", "pairs", "strong"]++b0 (aa 25) "bidi_is_right_isolate" 504 169 3 218 511 o fN++pN 517 ["levels", "found", "last", "at", "level"]++b0 (aa 26) "level_runs" 514 174 1 225 522 o fN++[
oT [],
rH,
oY 5 [hU P 532 fN,rI P 534 (vs "BidiSequence" 533),hY P 536 (vi 184 535),i9 P 549 (vr 247),hZ P 556 (vr 248)],
oT [],
oF o [vi 186 0,vi 4 0,vr 246],
oC "BidiSequence" "BidiSequence" 527 (vi 184 0) (vi 0 0) (vi 0 0) (vr 235) vf (vr 236) o o o 530,
oR [some (vr 237),some (vr 3),some (vr 234),none,some fN,none,some (vr 0)],
oT [],
oT [vr 239]]++pN 540 ["self", "places", "classes", "level", "sos", "eos", "codes"]++dA "__init__" (aA 27 0) "BidiSequence.__init__" 537 186 7 241 547 (vr 240) fN++[
oN 550 ["classes", "codes", "eos", "level", "places", "sos"],
oY 4 [hU P 532 fN,hY P 536 (vi 184 535),i9 P 549 (vr 247),hZ P 556 (vr 248),vF P 558 (vr 251),tM P 560 (vr 252),rJ P 561 o],
oK "BidiSequence" [vy "object"] [vr 250,vy "object"] 249 "BidiSequence" [] [none,none,some (vs "BidiSequence" 525),some (vs "BidiSequence" 533),some (vb "object.__new__"),some vt],
oF (vy "getset_descriptor") [vs "__dict__" 557,vr 250,vb "function.__dict__",vb "function.__dict__#set"],
oW 559 250,
oS 250,
oI 250]++pN 567 ["one", "other"]++b0 (aa 28) "bidi_direction" 564 193 2 255 569 o fN++pN 575 ["levels", "at", "step", "base"]++b0 (aa 29) "bidi_level_beside" 572 195 4 262 579 o fN++pN 585 ["kinds", "levels", "pairs", "runs", "run_of", "number", "run", "found", "places"]++b0 (aa 30) "bidi_joined_runs" 582 202 3 269 594 o fN
noncomputable def KX (P:Params):List DictEntry:=KV P++(eL P [("explicit",503,217),("bidi_is_right_isolate",513,224),("level_runs",524,231),("BidiSequence",563,250),("bidi_direction",571,261),("bidi_level_beside",581,268),("bidi_joined_runs",596,275)])
noncomputable def KY:List Value:=KW++[vi 142 0,vi 0 0,vr 216,vi 169 0,vi 0 0,vr 223,vi 174 0,vi 0 0,vr 230,vi 184 0,vi 0 0,vr 237,vi 193 0,vi 0 0,vr 260,vi 195 0,vi 0 0,vr 267,vi 202 0,vi 0 0,vr 274]
noncomputable def IS (P:Params):BT:=((dR (IR P) 210 (n5 P)).set 3 (d5 (KX P) 38)).set 12 (eV KY)
noncomputable def n6 (P:Params):List Obj:=[oT [o],
oT [],
fO]++mP (aa 31) "isolating_sequences" 597 216 5 277 600 (vr 276) fN++[
oT [],
rH,
oY 6 [hU P 610 fN,rI P 612 (vs "BidiParagraph" 611),hY P 614 (vi 231 613),i9 P 627 (vr 295),en P "sequences" 634 (vr 302),hZ P 642 (vr 303)],
oT [],
oF o [vi 233 0,vi 4 0,vr 294,vi 242 0,vi 4 0,vr 301],
oC "BidiParagraph" "BidiParagraph" 605 (vi 231 0) (vi 0 0) (vi 0 0) (vr 285) vf (vr 286) o o o 608,
oR [some (vr 287),some (vr 3),some (vr 284),none,some fN,none,some (vr 0)]]++pN 618 ["self", "begin", "codes", "base", "kinds", "levels", "classes"]++dA "__init__" (aA 32 0) "BidiParagraph.__init__" 615 233 7 289 625 o fN++pN 631 ["self"]++dA "sequences" (aA 32 1) "BidiParagraph.sequences" 628 242 1 296 632 o fN++[
oN 635 ["base", "begin", "classes", "codes", "end", "kinds", "levels"],
oY 4 [hU P 610 fN,hY P 614 (vi 231 613),i9 P 627 (vr 295),en P "sequences" 634 (vr 302),hZ P 642 (vr 303),vF P 644 (vr 306),tM P 646 (vr 307),rJ P 647 o],
oK "BidiParagraph" [vy "object"] [vr 305,vy "object"] 304 "BidiParagraph" [] [none,none,some (vs "BidiParagraph" 603),some (vs "BidiParagraph" 611),some (vb "object.__new__"),some vt],
oF (vy "getset_descriptor") [vs "__dict__" 643,vr 305,vb "function.__dict__",vb "function.__dict__#set"],
oW 645 305,
oS 305,
oI 305,
oT [vs "auto" 650,vi 125 272]]++pN 654 ["text", "data", "word", "depth", "found", "begin", "end", "codes", "kinds", "base", "levels", "classes"]++b0 (aa 33) "bidi_paragraphs" 651 244 4 311 666 (vr 310) fN++[
oN 673 ["LRI", "RLI", "FSI", "PDI"],
oN 678 ["B", "S", "WS", "ON", "LRI", "RLI", "FSI", "PDI"],
oN 687 ["ES", "ET", "CS"],
oN 691 ["EN", "AN"]]++pN 697 ["classes", "sos", "found", "last", "kind"]++b0 (aa 40) "bidi_marks" 694 259 2 322 702 o jZ
noncomputable def KZ (P:Params):List DictEntry:=(en P "__name__" 165 jZ::(KX P).tail)++[en P "isolating_sequences" 602 (vr 281),
en P "BidiParagraph" 649 (vr 305),
en P "bidi_paragraphs" 668 (vr 317),
en P "MOST_BRACKETS" 672 (vi 63 671),
en P "ISOLATE_SIGNS" 677 (vr 318),
en P "NEUTRALS" 686 (vr 319),
en P "LEFT_OVERS" 690 (vr 320),
en P "NUMBERS" 693 (vr 321),
en P "bidi_marks" 704 (vr 328)]
noncomputable def K0:List Value:=KY++[vi 216 0,vi 0 0,vr 280,vi 231 0,vi 0 0,vr 287,vi 244 0,vi 0 0,vr 316,vi 259 0,vi 0 0,vr 327]
noncomputable def IT (P:Params):BT:=((dR (IS P) 276 (n6 P)).set 3 (d5 (KZ P) 47)).set 12 (eV K0)
noncomputable def n7 (P:Params):List Obj:=[oT [],
fO,
oN 708 ["classes", "sos", "found", "strong", "kind"],
oT []]++b0 (aa 41) "bidi_arabic_numbers" 705 268 2 329 713 o jZ++[
oT [],
fO]++mP (aa 42) "bidi_arabic_letters" 716 276 1 336 719 o jZ++pN 725 ["classes", "found", "at", "kind", "beside"]++b0 (aa 43) "bidi_separators" 722 278 1 341 730 o jZ++pN 736 ["classes", "kinds", "found", "begun", "at", "kind"]++b0 (aa 44) "bidi_runs" 733 286 2 348 742 o jZ++pN 748 ["classes", "first", "end", "ahead", "behind", "one"]++b0 (aa 45) "bidi_beside" 745 298 5 355 754 o jZ++pN 760 ["classes", "found", "first", "end", "at"]++b0 (aa 46) "bidi_terminators" 757 301 1 362 765 o jZ++[
oT [],
fO]++mP (aa 47) "bidi_left_overs" 768 308 1 369 771 o jZ++pN 777 ["classes", "sos", "found", "strong", "kind"]++b0 (aa 48) "bidi_left_numbers" 774 310 2 374 782 o jZ++pN 788 ["classes", "sos", "found"]++b0 (aa 49) "weak_classes" 785 318 2 381 791 o jZ++pN 797 ["sequence"]++b0 (aa 50) "weak" 794 321 1 388 798 o jZ++pN 804 ["code", "data", "told"]++b0 (aa 51) "bidi_bracket_key" 801 323 2 395 807 o jZ++pN 813 ["codes", "classes", "data", "found", "waiting", "at", "code", "told", "key", "number"]++b0 (aa 52) "bracket_pairs_of" 810 328 3 402 823 o jZ++pN 829 ["sequence", "data"]++b0 (aa 53) "bracket_pairs" 826 346 2 409 831 o jZ++pN 837 ["kind"]++b0 (aa 54) "bidi_strong" 834 348 1 416 838 o jZ
noncomputable def K1 (P:Params):List DictEntry:=KZ P++(eL P [("bidi_arabic_numbers",715,335),("bidi_arabic_letters",721,340),("bidi_separators",732,347),("bidi_runs",744,354),("bidi_beside",756,361),("bidi_terminators",767,368),("bidi_left_overs",773,373),("bidi_left_numbers",784,380),("weak_classes",793,387),("weak",800,394),("bidi_bracket_key",809,401),("bracket_pairs_of",825,408),("bracket_pairs",833,415),("bidi_strong",840,422)])
noncomputable def K2:List Value:=K0++[vi 268 0,vi 0 0,vr 334,vi 276 0,vi 0 0,vr 339,vi 278 0,vi 0 0,vr 346,vi 286 0,vi 0 0,vr 353,vi 298 0,vi 0 0,vr 360,vi 301 0,vi 0 0,vr 367,vi 308 0,vi 0 0,vr 372,vi 310 0,vi 0 0,vr 379,vi 318 0,vi 0 0,vr 386,vi 321 0,vi 0 0,vr 393,vi 323 0,vi 0 0,vr 400,vi 328 0,vi 0 0,vr 407,vi 346 0,vi 0 0,vr 414,vi 348 0,vi 0 0,vr 421]
noncomputable def IU (P:Params):BT:=((dR (IT P) 329 (n7 P)).set 3 (d5 (K1 P) 61)).set 12 (eV K2)
noncomputable def n8 (P:Params):List Obj:=[oT [],
fO,
oN 844 ["level"],
oT []]++b0 (aa 55) "bidi_embedding" 841 352 1 423 845 o jZ++pN 851 ["classes", "pair", "level", "sos", "own", "has_other", "kind", "strong"]++b0 (aa 56) "bidi_bracket_direction" 848 354 4 430 859 o jZ++pN 865 ["classes", "pairs", "level", "sos", "begun", "found", "pair", "direction", "at", "behind"]++b0 (aa 57) "bracket_classes" 862 369 5 437 875 o jZ++pN 881 ["classes", "level", "sos", "eos", "found", "first", "end", "one", "other", "direction", "at"]++b0 (aa 58) "neutral_classes" 878 381 4 444 892 o jZ++[
oT [o]]++pN 898 ["sequence", "data", "begun", "classes", "marks", "found"]++b0 (aa 59) "neutral" 895 391 3 452 904 (vr 451) jZ++pN 910 ["kind", "level"]++b0 (aa 60) "implicit_level" 907 396 2 459 912 o jZ++[
oT [],
fO]++mP (aa 61) "implicit" 915 400 2 466 918 o jZ++pN 924 ["sequence", "data", "classes", "weaker"]++b0 (aa 62) "sequence_levels" 921 402 2 471 928 o jZ++pN 934 ["paragraph", "data", "found", "sequence", "place", "level"]++b0 (aa 63) "paragraph_levels" 931 406 2 478 940 o jZ++[
oT [vs "auto" 943,vi 125 272]]++pN 947 ["text", "data", "word", "depth", "found", "paragraph"]++b0 (aa 64) "bidi_levels" 944 412 4 486 953 (vr 485) jZ++[
oN 958 ["S", "B"],
oN 961 ["WS", "FSI", "LRI", "RLI", "PDI"],
oN 967 ["Mn", "Me"]]++pN 973 ["levels", "classes", "line", "base", "found", "is_end", "at", "kind"]++b0 (aa 69) "line_levels" 970 421 4 496 981 o Cf
noncomputable def K3 (P:Params):List DictEntry:=(en P "__name__" 165 Cf::(K1 P).tail)++(eL P [("bidi_embedding",847,429),("bidi_bracket_direction",861,436),("bracket_classes",877,443),("neutral_classes",894,450),("neutral",906,458),("implicit_level",914,465),("implicit",920,470),("sequence_levels",930,477),("paragraph_levels",942,484),("bidi_levels",955,492),("LINE_SEPARATORS",960,493),("LINE_BLANKS",966,494),("LINE_MARKS_bidilines",969,495),("line_levels",983,502)])
noncomputable def K4:List Value:=K2++[vi 352 0,vi 0 0,vr 428,vi 354 0,vi 0 0,vr 435,vi 369 0,vi 0 0,vr 442,vi 381 0,vi 0 0,vr 449,vi 391 0,vi 0 0,vr 457,vi 396 0,vi 0 0,vr 464,vi 400 0,vi 0 0,vr 469,vi 402 0,vi 0 0,vr 476,vi 406 0,vi 0 0,vr 483,vi 412 0,vi 0 0,vr 491,vi 421 0,vi 0 0,vr 501]
noncomputable def IV (P:Params):BT:=((dR (IU P) 423 (n8 P)).set 3 (d5 (K3 P) 75)).set 12 (eV K4)
noncomputable def n9 (P:Params):List Obj:=[oT [],
fO,
oN 987 ["order", "levels", "level", "found", "run", "place"],
oT []]++b0 (aa 70) "line_turned" 984 433 3 503 993 o Cf++[
oT [],
fO]++mP (aa 71) "reordered" 996 445 1 510 999 o Cf++pN 1005 ["code", "level", "data"]++b0 (aa 72) "is_line_mark" 1002 453 3 515 1008 o Cf++pN 1014 ["order", "levels", "text", "data", "found", "group", "place"]++b0 (aa 73) "marks_behind" 1011 455 4 522 1021 o Cf++pN 1027 ["text", "levels", "data", "found", "place", "code", "level", "image"]++b0 (aa 74) "mirrored" 1024 470 3 529 1035 o Cf++[
oT [],
fO]++mP (aa 75) "shown_lines" 1038 477 4 536 1041 o Cf++[
oT [],
fO,
oN 1060 ["code"],
oT [],
fq (aa 82) "is_hangul_syllable",
oC "is_hangul_syllable" "is_hangul_syllable" 1057 (vi 494 0) (vi 1 0) (vi 3 0) (vr 541) vt (vr 542) (vr 543) (vr 544) (vr 545) 1061,
fn (aa 82) "is_hangul_syllable" o (vr 546) (vs "unicore.hangul" 1044),
oT [],
fO,
oN 1067 ["code"],
oT [],
fq (aa 83) "hangul_kind",
oC "hangul_kind" "hangul_kind" 1064 (vi 496 0) (vi 1 0) (vi 3 0) (vr 548) vt (vr 549) (vr 550) (vr 551) (vr 552) 1068,
fn (aa 83) "hangul_kind" o (vr 553) (vs "unicore.hangul" 1044),
oN 1073 ["CR", "LF", "Control"],
oN 1077 ["Extend", "ZWJ"],
oN 1080 ["Extend", "Linker"]]++pN 1086 ["code", "data", "kind", "told"]++b0 (aa 88) "cluster_kind" 1083 510 2 558 1090 o vE++pN 1096 ["left", "right"]++b0 (aa 89) "cluster_hangul_joins" 1093 516 2 565 1098 o vE
noncomputable def F9 (P:Params):List DictEntry:=(en P "__name__" 165 vE::(K3 P).tail)++[en P "line_turned" 995 (vr 509),
en P "reordered" 1001 (vr 514),
en P "is_line_mark" 1010 (vr 521),
en P "marks_behind" 1023 (vr 528),
en P "mirrored" 1037 (vr 535),
en P "shown_lines" 1043 (vr 540),
en P "SYLLABLE_FIRST" 1047 (vi 44032 1046),
en P "LEADS" 1049 (vi 19 1048),
en P "VOWELS" 1051 (vi 21 1050),
en P "TAILS" 1053 (vi 28 1052),
en P "SYLLABLES" 1056 (vi 11172 1055),
en P "is_hangul_syllable" 1063 (vr 547),
en P "hangul_kind" 1070 (vr 554),
en P "CLUSTER_ENDS" 1076 (vr 555),
en P "CLUSTER_MARKS" 1079 (vr 556),
en P "CLUSTER_JOINTS" 1082 (vr 557),
en P "cluster_kind" 1092 (vr 564),
en P "cluster_hangul_joins" 1100 (vr 571)]
noncomputable def Ga:List Value:=K4++[vi 433 0,vi 0 0,vr 508,vi 445 0,vi 0 0,vr 513,vi 453 0,vi 0 0,vr 520,vi 455 0,vi 0 0,vr 527,vi 470 0,vi 0 0,vr 534,vi 477 0,vi 0 0,vr 539,vi 494 0,vi 0 0,vr 546,vi 496 0,vi 0 0,vr 553,vi 510 0,vi 0 0,vr 563,vi 516 0,vi 0 0,vr 570]
noncomputable def DN (P:Params):BT:=((dR (IV P) 503 (n9 P)).set 3 (d5 (F9 P) 93)).set 12 (eV Ga)
noncomputable def Li (P:Params):List Obj:=[oT [],
fO,
oN 1104 ["left", "right", "is_legacy"],
oT []]++b0 (aa 90) "cluster_pair" 1101 522 3 572 1107 o vE++[
oT [],
rH,
oY 8 [hU P 1117 vE,rI P 1119 (vs "ClusterStream" 1118),hY P 1121 (vi 532 1120),i9 P 1130 (vr 593),en P "put" 1142 (vr 600),en P "is_held" 1152 (vr 607),en P "take" 1162 (vr 614),hZ P 1169 (vr 615)],
oT [],
oF o [vi 534 0,vi 4 0,vr 592,vi 542 0,vi 4 0,vr 599,vi 554 0,vi 4 0,vr 606,vi 561 0,vi 4 0,vr 613],
oC "ClusterStream" "ClusterStream" 1112 (vi 532 0) (vi 0 0) (vi 0 0) (vr 582) vf (vr 583) o o o 1115,
oR [some (vr 584),some (vr 3),some (vr 581),none,some vE,none,some (vr 0)],
oT [vf]]++pN 1125 ["self", "data", "is_legacy"]++dA "__init__" (aA 91 0) "ClusterStream.__init__" 1122 534 3 587 1128 (vr 586) vE++pN 1134 ["self", "code", "kind", "told", "is_picture", "word"]++dA "put" (aA 91 1) "ClusterStream.put" 1131 542 2 594 1140 o vE++pN 1146 ["self", "kind", "is_picture", "word"]++dA "is_held" (aA 91 2) "ClusterStream.is_held" 1143 554 4 601 1150 o vE++pN 1156 ["self", "kind", "is_picture", "word"]++dA "take" (aA 91 3) "ClusterStream.take" 1153 561 4 608 1160 o vE++[
oN 1163 ["conjunct", "data_asked", "is_legacy", "is_odd", "kind", "picture"],
oY 4 [hU P 1117 vE,hY P 1121 (vi 532 1120),i9 P 1130 (vr 593),en P "put" 1142 (vr 600),en P "is_held" 1152 (vr 607),en P "take" 1162 (vr 614),hZ P 1169 (vr 615),vF P 1171 (vr 618),tM P 1173 (vr 619),rJ P 1174 o],
oK "ClusterStream" [vy "object"] [vr 617,vy "object"] 616 "ClusterStream" [] [none,none,some (vs "ClusterStream" 1110),some (vs "ClusterStream" 1118),some (vb "object.__new__"),some vt],
oF (vy "getset_descriptor") [vs "__dict__" 1170,vr 617,vb "function.__dict__",vb "function.__dict__#set"],
oW 1172 617,
oS 617,
oI 617,
oT [vf],
oT [],
fO]++mP (aa 92) "cluster_places" 1177 576 3 623 1180 (vr 622) vE++[
oT [vf],
oT [],
fO]++mP (aa 93) "clusters_of" 1183 580 3 629 1186 (vr 628) vE++[
oN 1191 ["BK", "CR", "LF", "NL"]]
noncomputable def Gb (P:Params):List DictEntry:=(en P "__name__" 165 dm::(F9 P).tail)++(eL P [("cluster_pair",1109,578),("ClusterStream",1176,617),("cluster_places",1182,627),("clusters_of",1188,633),("LINE_HARD",1195,634)])
noncomputable def Gc:List Value:=Ga++[vi 522 0,vi 0 0,vr 577,vi 532 0,vi 0 0,vr 584,vi 576 0,vi 0 0,vr 626,vi 580 0,vi 0 0,vr 632]
noncomputable def DO (P:Params):BT:=((dR (DN P) 572 (Li P)).set 3 (d5 (Gb P) 98)).set 12 (eV Gc)
noncomputable def Lj (P:Params):List Obj:=[oN 1196 ["BK", "CR", "LF", "NL", "SP", "ZW"],
oN 1203 ["CM", "ZWJ"],
oN 1206 ["AI", "SG", "XX"],
oN 1210 ["CL", "CP", "EX", "IS", "SY"],
oN 1216 ["BK", "CR", "LF", "NL", "OP", "QU", "GL", "SP", "ZW"],
oN 1226 ["SP", "GL", "WJ", "CL", "QU", "CP", "EX", "IS", "SY", "BK", "CR", "LF", "NL", "ZW"],
oN 1241 ["AL", "HL"],
oN 1244 ["ID", "EB", "EM"],
oN 1248 ["PR", "PO"],
oN 1251 ["JL", "JV", "JT", "H2", "H3"],
oN 1257 ["NU", "SY", "IS"],
oN 1261 ["F", "W", "H"],
oN 1265 ["AL", "HL", "ID", "NU", "JL", "JV", "JT", "H2", "H3"],
oN 1275 ["CL", "PO"],
oN 1277 ["CP", "PO"],
oN 1279 ["CL", "PR"],
oN 1281 ["CP", "PR"],
oN 1283 ["NU", "PO"],
oN 1285 ["NU", "PR"],
oN 1287 ["PO", "OP"],
oN 1289 ["PO", "NU"],
oN 1291 ["PR", "OP"],
oN 1293 ["PR", "NU"],
oN 1295 ["HY", "NU"],
oN 1297 ["IS", "NU"],
oN 1299 ["NU", "NU"],
oN 1301 ["SY", "NU"],
oT [vr 648,vr 649,vr 650,vr 651,vr 652,vr 653,vr 654,vr 655,vr 656,vr 657,vr 658,vr 659,vr 660,vr 661]]
noncomputable def Gd (P:Params):List DictEntry:=Gb P++(eL P [("LINE_BARE",1202,635),("LINE_MARKS_linebreaks",1205,636),("LINE_PLAIN",1209,637),("LINE_CLOSING",1215,638),("LINE_AHEAD_OF_OPENING",1225,639),("LINE_BEHIND_CLOSING",1240,640),("LINE_ALPHABETIC",1243,641),("LINE_IDEOGRAPHIC",1247,642),("LINE_AFFIXES",1250,643),("LINE_SYLLABIC",1256,644),("LINE_INNER",1260,645),("LINE_WIDE",1264,646),("LINE_KEPT",1274,647),("LINE_NUMBERS",1303,662)])
noncomputable def vG (P:Params):BT:=(dR (DO P) 635 (Lj P)).set 3 (d5 (Gd P) 112)
noncomputable def Lk (P:Params):List Obj:=[oY 5 (eL P [("JL",1304,664),("JV",1309,665),("H2",1312,666),("JT",1315,667),("H3",1317,668)]),
oN 1305 ["JL", "JV", "H2", "H3"],
oN 1310 ["JV", "JT"],
oN 1313 ["JV", "JT"],
oN 1316 ["JT"],
oN 1318 ["JT"]]
noncomputable def Ge (P:Params):List DictEntry:=Gd P++[en P "LINE_JAMO" 1324 (vr 663)]
noncomputable def vH (P:Params):BT:=(dR (vG P) 663 (Lk P)).set 3 (d5 (Ge P) 113)
noncomputable def Ll (P:Params):List Obj:=[oT [vi 12293 1325,vi 12347 1326,vi 12445 1327,vi 12446 1328,vi 12541 1329,vi 12542 1330],
oT [vi 4352 1332,vi 4447 1333,vs "JL" 1334],
oT [vi 4448 1335,vi 4519 1336,vs "JV" 1337],
oT [vi 4520 1338,vi 4607 1339,vs "JT" 1340],
oT [vi 43360 1341,vi 43388 1342,vs "JL" 1343],
oT [vi 55216 1344,vi 55238 1345,vs "JV" 1346],
oT [vi 55243 1347,vi 55291 1348,vs "JT" 1349],
oT [vr 670,vr 671,vr 672,vr 673,vr 674,vr 675],
oT [],
rH,
oY 5 [hU P 1366 dm,rI P 1368 (vs "LineHow" 1367),hY P 1370 (vi 606 1369),i9 P 1382 (vr 691),hZ P 1386 (vr 692)],
oT [],
oF o [vi 608 0,vi 4 0,vr 690],
oC "LineHow" "LineHow" 1361 (vi 606 0) (vi 0 0) (vi 0 0) (vr 680) vf (vr 681) o o o 1364,
oR [some (vr 682),some (vr 3),some (vr 679),none,some dm,none,some (vr 0)],
oT [vs "strict" 1371,vf,vs "pairs" 1372]]++pN 1376 ["self", "strictness", "keep_all", "numbers"]++dA "__init__" (aA 117 0) "LineHow.__init__" 1373 608 4 685 1380 (vr 684) dm++[
oN 1383 ["keep_all", "numbers", "strictness"],
oY 4 [hU P 1366 dm,hY P 1370 (vi 606 1369),i9 P 1382 (vr 691),hZ P 1386 (vr 692),vF P 1388 (vr 695),tM P 1390 (vr 696),rJ P 1391 o],
oK "LineHow" [vy "object"] [vr 694,vy "object"] 693 "LineHow" [] [none,none,some (vs "LineHow" 1359),some (vs "LineHow" 1367),some (vb "object.__new__"),some vt],
oF (vy "getset_descriptor") [vs "__dict__" 1387,vr 694,vb "function.__dict__",vb "function.__dict__#set"],
oW 1389 694,
oS 694,
oI 694]++pN 1397 ["code", "first", "last", "word"]++b0 (aa 118) "line_hangul" 1394 616 1 699 1401 o dm++pN 1407 ["code", "data", "how", "word"]++b0 (aa 119) "line_class" 1404 623 3 706 1411 o dm
noncomputable def Gf (P:Params):List DictEntry:=Ge P++[en P "LINE_ITERATION" 1331 (vr 669),
en P "LINE_JAMO_RANGES" 1350 (vr 676),
en P "LINE_FIRST_SYLLABLE" 1352 (vi 44032 1351),
en P "LINE_LAST_SYLLABLE" 1354 (vi 55203 1353),
en P "LINE_TAILS" 1356 (vi 28 1355),
en P "DOTTED_CIRCLE" 1358 (vi 9676 1357),
en P "LineHow" 1393 (vr 694),
en P "line_hangul" 1403 (vr 705),
en P "line_class" 1413 (vr 712)]
noncomputable def Gg:List Value:=Gc++[vi 606 0,vi 0 0,vr 682,vi 616 0,vi 0 0,vr 704,vi 623 0,vi 0 0,vr 711]
noncomputable def DP (P:Params):BT:=((dR (vH P) 669 (Ll P)).set 3 (d5 (Gf P) 122)).set 12 (eV Gg)
noncomputable def Lm (P:Params):List Obj:=[oT [],
rH,
oY 5 [hU P 1421 dm,rI P 1423 (vs "LineUnit" 1422),hY P 1425 (vi 634 1424),i9 P 1435 (vr 726),hZ P 1440 (vr 727)],
oT [],
oF o [vi 636 0,vi 4 0,vr 725],
oC "LineUnit" "LineUnit" 1416 (vi 634 0) (vi 0 0) (vi 0 0) (vr 716) vf (vr 717) o o o 1419,
oR [some (vr 718),some (vr 3),some (vr 715),none,some dm,none,some (vr 0)]]++pN 1429 ["self", "word", "code", "at"]++dA "__init__" (aA 120 0) "LineUnit.__init__" 1426 636 4 720 1433 o dm++[
oN 1436 ["at", "code", "is_joined", "word"],
oY 4 [hU P 1421 dm,hY P 1425 (vi 634 1424),i9 P 1435 (vr 726),hZ P 1440 (vr 727),vF P 1442 (vr 730),tM P 1444 (vr 731),rJ P 1445 o],
oK "LineUnit" [vy "object"] [vr 729,vy "object"] 728 "LineUnit" [] [none,none,some (vs "LineUnit" 1414),some (vs "LineUnit" 1422),some (vb "object.__new__"),some vt],
oF (vy "getset_descriptor") [vs "__dict__" 1441,vr 729,vb "function.__dict__",vb "function.__dict__#set"],
oW 1443 729,
oS 729,
oI 729]++pN 1451 ["text", "data", "how", "found", "at", "code", "word"]++b0 (aa 121) "line_units" 1448 641 3 734 1458 o dm
noncomputable def Gh (P:Params):List DictEntry:=Gf P++(eL P [("LineUnit",1447,729),("line_units",1460,740)])
noncomputable def Gi:List Value:=Gg++[vi 634 0,vi 0 0,vr 718,vi 641 0,vi 0 0,vr 739]
noncomputable def DQ (P:Params):BT:=((dR (DP P) 713 (Lm P)).set 3 (d5 (Gh P) 124)).set 12 (eV Gi)
noncomputable def Ln (P:Params):List Obj:=[oT [],
rH,
oY 9 [hU P 1468 dm,rI P 1470 (vs "LineView" 1469),hY P 1472 (vi 652 1471),i9 P 1487 (vr 754),en P "word" 1495 (vr 761),en P "solid_word" 1503 (vr 768),en P "is_quote" 1512 (vr 775),en P "is_narrow" 1520 (vr 782),hZ P 1527 (vr 783)],
oT [],
oF o [vi 654 0,vi 4 0,vr 753,vi 670 0,vi 4 0,vr 760,vi 673 0,vi 4 0,vr 767,vi 676 0,vi 4 0,vr 774,vi 679 0,vi 4 0,vr 781],
oC "LineView" "LineView" 1463 (vi 652 0) (vi 0 0) (vi 0 0) (vr 744) vf (vr 745) o o o 1466,
oR [some (vr 746),some (vr 3),some (vr 743),none,some dm,none,some (vr 0)]]++pN 1476 ["self", "text", "data", "how", "last", "many", "is_number", "place", "unit"]++dA "__init__" (aA 122 0) "LineView.__init__" 1473 654 4 748 1485 o dm++pN 1491 ["self", "place"]++dA "word" (aA 122 1) "LineView.word" 1488 670 2 755 1493 o dm++pN 1499 ["self", "place"]++dA "solid_word" (aA 122 2) "LineView.solid_word" 1496 673 2 762 1501 o dm++pN 1507 ["self", "place", "kind"]++dA "is_quote" (aA 122 3) "LineView.is_quote" 1504 676 3 769 1510 o dm++pN 1516 ["self", "place"]++dA "is_narrow" (aA 122 4) "LineView.is_narrow" 1513 679 2 776 1518 o dm++[
oN 1521 ["data", "how", "numeric", "regional", "solid", "units"],
oY 4 [hU P 1468 dm,hY P 1472 (vi 652 1471),i9 P 1487 (vr 754),en P "word" 1495 (vr 761),en P "solid_word" 1503 (vr 768),en P "is_quote" 1512 (vr 775),en P "is_narrow" 1520 (vr 782),hZ P 1527 (vr 783),vF P 1529 (vr 786),tM P 1531 (vr 787),rJ P 1532 o],
oK "LineView" [vy "object"] [vr 785,vy "object"] 784 "LineView" [] [none,none,some (vs "LineView" 1461),some (vs "LineView" 1469),some (vb "object.__new__"),some vt],
oF (vy "getset_descriptor") [vs "__dict__" 1528,vr 785,vb "function.__dict__",vb "function.__dict__#set"],
oW 1530 785,
oS 785,
oI 785]++pN 1538 ["view", "at", "a", "b"]++b0 (aa 123) "line_rule_hard" 1535 681 2 790 1542 o dm++pN 1548 ["view", "at"]++b0 (aa 124) "line_rule_spaces" 1545 690 2 797 1550 o dm
noncomputable def Gj (P:Params):List DictEntry:=Gh P++(eL P [("LineView",1534,785),("line_rule_hard",1544,796),("line_rule_spaces",1552,803)])
noncomputable def Gl:List Value:=Gi++[vi 652 0,vi 0 0,vr 746,vi 681 0,vi 0 0,vr 795,vi 690 0,vi 0 0,vr 802]
noncomputable def DR (P:Params):BT:=((dR (DQ P) 741 (Ln P)).set 3 (d5 (Gj P) 127)).set 12 (eV Gl)
noncomputable def Lo (P:Params):List Obj:=[oT [],
fO,
oN 1556 ["view", "at", "a", "b"],
oT []]++b0 (aa 125) "line_rule_glue" 1553 696 2 804 1560 o dm++pN 1566 ["view", "at", "b", "is_left"]++b0 (aa 126) "line_rule_closing" 1563 703 2 811 1570 o dm++pN 1576 ["view", "at", "quote"]++b0 (aa 127) "line_rule_quotes" 1573 710 2 818 1579 o dm++pN 1585 ["view", "at", "solid", "b"]++b0 (aa 128) "line_rule_over_spaces" 1582 717 2 825 1589 o dm++pN 1595 ["view", "at", "a", "b", "is_parted"]++b0 (aa 129) "line_rule_signs" 1592 724 2 832 1600 o dm++pN 1606 ["view", "at", "a", "b"]++b0 (aa 130) "line_rule_letters" 1603 738 2 839 1610 o dm++pN 1616 ["view", "place"]++b0 (aa 131) "line_is_number" 1613 747 2 846 1618 o dm++pN 1624 ["view", "at", "a", "b", "is_begun", "end"]++b0 (aa 132) "line_rule_expression" 1621 749 2 853 1630 o dm++pN 1636 ["view", "at"]++b0 (aa 133) "line_rule_numbers" 1633 760 2 860 1638 o dm++pN 1644 ["view", "at", "a", "b"]++b0 (aa 134) "line_rule_syllables" 1641 764 2 867 1648 o dm++pN 1654 ["view", "place", "words"]++b0 (aa 135) "line_is_aksara" 1651 771 3 874 1657 o dm++pN 1663 ["view", "at", "a", "b", "every", "is_left", "is_right", "is_held"]++b0 (aa 136) "line_rule_aksaras" 1660 775 2 881 1671 o dm++pN 1677 ["view", "at", "a", "b"]++b0 (aa 137) "line_rule_brackets" 1674 782 2 888 1681 o dm++pN 1687 ["view", "at", "a", "b", "code"]++b0 (aa 138) "line_rule_pictures" 1684 791 2 895 1692 o dm
noncomputable def Gm (P:Params):List DictEntry:=Gj P++(eL P [("line_rule_glue",1562,810),("line_rule_closing",1572,817),("line_rule_quotes",1581,824),("line_rule_over_spaces",1591,831),("line_rule_signs",1602,838),("line_rule_letters",1612,845),("line_is_number",1620,852),("line_rule_expression",1632,859),("line_rule_numbers",1640,866),("line_rule_syllables",1650,873),("line_is_aksara",1659,880),("line_rule_aksaras",1673,887),("line_rule_brackets",1683,894),("line_rule_pictures",1694,901)])
noncomputable def Gn:List Value:=Gl++[vi 696 0,vi 0 0,vr 809,vi 703 0,vi 0 0,vr 816,vi 710 0,vi 0 0,vr 823,vi 717 0,vi 0 0,vr 830,vi 724 0,vi 0 0,vr 837,vi 738 0,vi 0 0,vr 844,vi 747 0,vi 0 0,vr 851,vi 749 0,vi 0 0,vr 858,vi 760 0,vi 0 0,vr 865,vi 764 0,vi 0 0,vr 872,vi 771 0,vi 0 0,vr 879,vi 775 0,vi 0 0,vr 886,vi 782 0,vi 0 0,vr 893,vi 791 0,vi 0 0,vr 900]
noncomputable def DS (P:Params):BT:=((dR (DR P) 804 (Lo P)).set 3 (d5 (Gm P) 141)).set 12 (eV Gn)
noncomputable def Lp (P:Params):List Obj:=[oT [],
fO,
oN 1698 ["view", "at", "told"],
oT []]++b0 (aa 139) "line_verdict" 1695 802 2 902 1701 o dm++pN 1707 ["text", "data", "how", "found", "view", "at"]++b0 (aa 140) "line_verdicts" 1704 808 3 909 1713 o dm++[
oT [],
rH,
oY 6 [hU P 1723 dm,rI P 1725 (vs "LineMeasure" 1724),hY P 1727 (vi 816 1726),i9 P 1738 (vr 929),en P "width" 1748 (vr 936),hZ P 1751 (vr 937)],
oT [],
oF o [vi 818 0,vi 4 0,vr 928,vi 825 0,vi 4 0,vr 935],
oC "LineMeasure" "LineMeasure" 1718 (vi 816 0) (vi 0 0) (vi 0 0) (vr 919) vf (vr 920) o o o 1721,
oR [some (vr 921),some (vr 3),some (vr 918),none,some dm,none,some (vr 0)]]++pN 1731 ["self", "widths", "hangs", "at", "width"]++dA "__init__" (aA 141 0) "LineMeasure.__init__" 1728 818 3 923 1736 o dm++pN 1742 ["self", "start", "end", "last"]++dA "width" (aA 141 1) "LineMeasure.width" 1739 825 3 930 1746 o dm++[
oN 1749 ["ends", "sums"],
oY 4 [hU P 1723 dm,hY P 1727 (vi 816 1726),i9 P 1738 (vr 929),en P "width" 1748 (vr 936),hZ P 1751 (vr 937),vF P 1753 (vr 940),tM P 1755 (vr 941),rJ P 1756 o],
oK "LineMeasure" [vy "object"] [vr 939,vy "object"] 938 "LineMeasure" [] [none,none,some (vs "LineMeasure" 1716),some (vs "LineMeasure" 1724),some (vb "object.__new__"),some vt],
oF (vy "getset_descriptor") [vs "__dict__" 1752,vr 939,vb "function.__dict__",vb "function.__dict__#set"],
oW 1754 939,
oS 939,
oI 939]++pN 1762 ["places", "start", "end", "measure", "most", "found", "place"]++b0 (aa 142) "line_last_within" 1759 828 5 944 1769 o dm++[
oT [],
oT [vr 951],
oT [],
fO]++mP (aa 143) "line_fitted" 1772 834 4 953 1775 (vr 952) dm
noncomputable def Go (P:Params):List DictEntry:=Gm P++(eL P [("line_verdict",1703,908),("line_verdicts",1715,915),("LineMeasure",1758,939),("line_last_within",1771,950),("line_fitted",1777,957)])
noncomputable def Gp:List Value:=Gn++[vi 802 0,vi 0 0,vr 907,vi 808 0,vi 0 0,vr 914,vi 816 0,vi 0 0,vr 921,vi 828 0,vi 0 0,vr 949,vi 834 0,vi 0 0,vr 956]
noncomputable def DT (P:Params):BT:=((dR (DS P) 902 (Lp P)).set 3 (d5 (Go P) 146)).set 12 (eV Gp)
noncomputable def Lq (P:Params):List Obj:=[oT [],
rH,
oY 10 [hU P 1785 dm,rI P 1787 (vs "LineBreaks" 1786),hY P 1789 (vi 851 1788),i9 P 1798 (vr 972),en P "opportunities" 1804 (vr 977),en P "reasons" 1812 (vr 984),en P "measure" 1818 (vr 989),en P "fit_lines" 1829 (vr 998),en P "even_lines" 1839 (vr 1005),hZ P 1842 (vr 1006)],
oT [],
oF o [vi 853 0,vi 4 0,vr 971,vi 857 0,vi 4 0,vr 976,vi 860 0,vi 4 0,vr 983,vi 863 0,vi 4 0,vr 988,vi 867 0,vi 4 0,vr 997,vi 870 0,vi 4 0,vr 1004],
oC "LineBreaks" "LineBreaks" 1780 (vi 851 0) (vi 0 0) (vi 0 0) (vr 961) vf (vr 962) o o o 1783,
oR [some (vr 963),some (vr 3),some (vr 960),none,some dm,none,some (vr 0)],
oT [o]]++pN 1793 ["self", "data", "how"]++dA "__init__" (aA 144 0) "LineBreaks.__init__" 1790 853 3 966 1796 (vr 965) dm++[
oT [],
fO]++dO "opportunities" (aA 144 1) "LineBreaks.opportunities" 1799 857 2 973 1802 o dm++pN 1808 ["self", "text"]++dA "reasons" (aA 144 2) "LineBreaks.reasons" 1805 860 2 978 1810 o dm++[
oT [],
fO]++dO "measure" (aA 144 3) "LineBreaks.measure" 1813 863 3 985 1816 o dm++[
oT [],
oT [vr 990]]++pN 1822 ["self", "text", "widths", "most", "inner"]++dA "fit_lines" (aA 144 4) "LineBreaks.fit_lines" 1819 867 5 992 1827 (vr 991) dm++pN 1833 ["self", "text", "widths", "most"]++dA "even_lines" (aA 144 5) "LineBreaks.even_lines" 1830 870 4 999 1837 o dm++[
oN 1840 ["data", "how"],
oY 4 [hU P 1785 dm,hY P 1789 (vi 851 1788),i9 P 1798 (vr 972),en P "opportunities" 1804 (vr 977),en P "reasons" 1812 (vr 984),en P "measure" 1818 (vr 989),en P "fit_lines" 1829 (vr 998),en P "even_lines" 1839 (vr 1005),hZ P 1842 (vr 1006),vF P 1844 (vr 1009),tM P 1846 (vr 1010),rJ P 1847 o],
oK "LineBreaks" [vy "object"] [vr 1008,vy "object"] 1007 "LineBreaks" [] [none,none,some (vs "LineBreaks" 1778),some (vs "LineBreaks" 1786),some (vb "object.__new__"),some vt],
oF (vy "getset_descriptor") [vs "__dict__" 1843,vr 1008,vb "function.__dict__",vb "function.__dict__#set"],
oW 1845 1008,
oS 1008,
oI 1008,
oN 1852 ["Cc", "Zl", "Zp", "Cs"],
oN 1857 ["Mn", "Me"]]
noncomputable def Gq (P:Params):List DictEntry:=(en P "__name__" 165 x8::(Go P).tail)++[en P "LineBreaks" 1849 (vr 1008),
en P "WIDTH_REFUSED" 1856 (vr 1013),
en P "WIDTH_MARKS" 1859 (vr 1014),
en P "WIDTH_SOFT_HYPHEN" 1861 (vi 173 1860),
en P "WIDTH_TEXT_SIGN" 1863 (vi 65038 1862),
en P "WIDTH_PICTURE_SIGN" 1865 (vi 65039 1864)]
noncomputable def Gr:List Value:=Gp++[vi 851 0,vi 0 0,vr 963]
noncomputable def DU (P:Params):BT:=((dR (DT P) 958 (Lq P)).set 3 (d5 (Gq P) 152)).set 12 (eV Gr)
noncomputable def Lr (P:Params):List Obj:=[oT [vf]]++pN 1871 ["code", "data", "is_wide_ambiguous", "kind", "wide"]++b0 (aa 152) "code_columns" 1868 879 3 1016 1876 (vr 1015) x8++[
oT [],
fO]++mP (aa 153) "width_is_flag" 1879 887 2 1023 1882 o x8++[
oT [],
fO]++mP (aa 154) "width_wish" 1885 889 2 1028 1888 o x8++[
oT [vf]]++pN 1894 ["cluster", "data", "is_wide_ambiguous", "widest", "code", "wish"]++b0 (aa 155) "cluster_columns" 1891 898 3 1034 1900 (vr 1033) x8++[
oT [vf]]++pN 1908 ["text", "data", "is_wide_ambiguous", "found", "cluster", "many"]++b0 (aa 157) "cluster_widths" 1905 905 3 1042 1914 (vr 1041) DL++[
oT [],
rH,
oY 5 [hU P 1924 DL,rI P 1926 (vs "LaidLine" 1925),hY P 1928 (vi 915 1927),i9 P 1938 (vr 1062),hZ P 1942 (vr 1063)],
oT [],
oF o [vi 917 0,vi 4 0,vr 1061],
oC "LaidLine" "LaidLine" 1919 (vi 915 0) (vi 0 0) (vi 0 0) (vr 1052) vf (vr 1053) o o o 1922,
oR [some (vr 1054),some (vr 3),some (vr 1051),none,some DL,none,some (vr 0)]]++pN 1932 ["self", "begin", "end", "codes"]++dA "__init__" (aA 158 0) "LaidLine.__init__" 1929 917 4 1056 1936 o DL++[
oN 1939 ["begin", "codes", "end"],
oY 4 [hU P 1924 DL,hY P 1928 (vi 915 1927),i9 P 1938 (vr 1062),hZ P 1942 (vr 1063),vF P 1944 (vr 1066),tM P 1946 (vr 1067),rJ P 1947 o],
oK "LaidLine" [vy "object"] [vr 1065,vy "object"] 1064 "LaidLine" [] [none,none,some (vs "LaidLine" 1917),some (vs "LaidLine" 1925),some (vb "object.__new__"),some vt],
oF (vy "getset_descriptor") [vs "__dict__" 1943,vr 1065,vb "function.__dict__",vb "function.__dict__#set"],
oW 1945 1065,
oS 1065,
oI 1065,
oT [vs "auto" 1950,o]]++pN 1954 ["text", "data", "most", "word", "how", "breaks", "found", "begin", "end", "codes", "widths", "lines", "line", "images"]++b0 (aa 159) "laid_out" 1951 921 5 1071 1968 (vr 1070) DL
noncomputable def Gs (P:Params):List DictEntry:=(en P "__name__" 165 DL::(Gq P).tail)++[en P "WIDTH_KEYCAP" 1867 (vi 8419 1866),
en P "code_columns" 1878 (vr 1022),
en P "width_is_flag" 1884 (vr 1027),
en P "width_wish" 1890 (vr 1032),
en P "cluster_columns" 1902 (vr 1040),
en P "cluster_widths" 1916 (vr 1048),
en P "LaidLine" 1949 (vr 1065),
en P "laid_out" 1970 (vr 1077)]
noncomputable def Gu:List Value:=Gr++[vi 879 0,vi 0 0,vr 1021,vi 887 0,vi 0 0,vr 1026,vi 889 0,vi 0 0,vr 1031,vi 898 0,vi 0 0,vr 1039,vi 905 0,vi 0 0,vr 1047,vi 915 0,vi 0 0,vr 1054,vi 921 0,vi 0 0,vr 1076]
noncomputable def DV (P:Params):BT:=((dR (DU P) 1015 (Lr P)).set 3 (d5 (Gs P) 160)).set 12 (eV Gu)
noncomputable def Ls (P:Params):List Obj:=[oT [],
fO,
oN 1976 ["one", "other"],
oT []]++b0 (aa 161) "range_are_like" 1973 932 2 1078 1978 o Az++[
oT [],
rH,
oY 9 [hU P 1988 Az,rI P 1990 (vs "RangeMap" 1989),hY P 1992 (vi 934 1991),i9 P 2000 (vr 1098),en P "get" 2008 (vr 1105),en P "put" 2023 (vr 1112),en P "ranges" 2030 (vr 1119),en P "set_of" 2038 (vr 1126),hZ P 2042 (vr 1127)],
oT [],
oF o [vi 936 0,vi 4 0,vr 1097,vi 941 0,vi 4 0,vr 1104,vi 944 0,vi 4 0,vr 1111,vi 959 0,vi 4 0,vr 1118,vi 962 0,vi 4 0,vr 1125],
oC "RangeMap" "RangeMap" 1983 (vi 934 0) (vi 0 0) (vi 0 0) (vr 1088) vf (vr 1089) o o o 1986,
oR [some (vr 1090),some (vr 3),some (vr 1087),none,some Az,none,some (vr 0)]]++pN 1996 ["self", "default"]++dA "__init__" (aA 162 0) "RangeMap.__init__" 1993 936 2 1092 1998 o Az++pN 2004 ["self", "code"]++dA "get" (aA 162 1) "RangeMap.get" 2001 941 2 1099 2006 o Az++pN 2012 ["self", "first", "last", "value", "low", "high", "behind", "starts", "values"]++dA "put" (aA 162 2) "RangeMap.put" 2009 944 4 1106 2021 o Az++pN 2027 ["self"]++dA "ranges" (aA 162 3) "RangeMap.ranges" 2024 959 1 1113 2028 o Az++pN 2034 ["self", "value"]++dA "set_of" (aA 162 4) "RangeMap.set_of" 2031 962 2 1120 2036 o Az++[
oN 2039 ["default", "starts", "values"],
oY 4 [hU P 1988 Az,hY P 1992 (vi 934 1991),i9 P 2000 (vr 1098),en P "get" 2008 (vr 1105),en P "put" 2023 (vr 1112),en P "ranges" 2030 (vr 1119),en P "set_of" 2038 (vr 1126),hZ P 2042 (vr 1127),vF P 2044 (vr 1130),tM P 2046 (vr 1131),rJ P 2047 o],
oK "RangeMap" [vy "object"] [vr 1129,vy "object"] 1128 "RangeMap" [] [none,none,some (vs "RangeMap" 1981),some (vs "RangeMap" 1989),some (vb "object.__new__"),some vt],
oF (vy "getset_descriptor") [vs "__dict__" 2043,vr 1129,vb "function.__dict__",vb "function.__dict__#set"],
oW 2045 1129,
oS 1129,
oI 1129]++pN 2055 ["found", "name"]++b0 (aa 164) "data_defaults" 2052 965 0 1134 2057 o AA
noncomputable def Gv (P:Params):List DictEntry:=(en P "__name__" 165 AA::(Gs P).tail)++(eL P [("range_are_like",1980,1084),("RangeMap",2049,1129),("data_defaults",2059,1140)])
noncomputable def Gw:List Value:=Gu++[vi 932 0,vi 0 0,vr 1083,vi 934 0,vi 0 0,vr 1090,vi 965 0,vi 0 0,vr 1139]
noncomputable def DW (P:Params):BT:=((dR (DV P) 1078 (Ls P)).set 3 (d5 (Gv P) 163)).set 12 (eV Gw)
noncomputable def Lu (P:Params):List Obj:=[oT [],
rH,
oY 8 [hU P 2067 AA,rI P 2069 (vs "Data" 2068),hY P 2071 (vi 977 2070),i9 P 2078 (vr 1154),en P "put" 2089 (vr 1161),en P "get" 2098 (vr 1168),en P "map_of" 2106 (vr 1175),hZ P 2111 (vr 1176)],
oT [],
oF o [vi 979 0,vi 4 0,vr 1153,vi 985 0,vi 4 0,vr 1160,vi 988 0,vi 4 0,vr 1167,vi 993 0,vi 4 0,vr 1174],
oC "Data" "Data" 2062 (vi 977 0) (vi 0 0) (vi 0 0) (vr 1144) vf (vr 1145) o o o 2065,
oR [some (vr 1146),some (vr 3),some (vr 1143),none,some AA,none,some (vr 0)]]++pN 2075 ["self"]++dA "__init__" (aA 165 0) "Data.__init__" 2072 979 1 1148 2076 o AA++pN 2082 ["self", "name", "first", "last", "value"]++dA "put" (aA 165 1) "Data.put" 2079 985 5 1155 2087 o AA++pN 2093 ["self", "name", "code"]++dA "get" (aA 165 2) "Data.get" 2090 988 3 1162 2096 o AA++pN 2102 ["self", "name"]++dA "map_of" (aA 165 3) "Data.map_of" 2099 993 2 1169 2104 o AA++[
oN 2107 ["defaults", "maps", "properties", "words"],
oY 4 [hU P 2067 AA,hY P 2071 (vi 977 2070),i9 P 2078 (vr 1154),en P "put" 2089 (vr 1161),en P "get" 2098 (vr 1168),en P "map_of" 2106 (vr 1175),hZ P 2111 (vr 1176),vF P 2113 (vr 1179),tM P 2115 (vr 1180),rJ P 2116 o],
oK "Data" [vy "object"] [vr 1178,vy "object"] 1177 "Data" [] [none,none,some (vs "Data" 2060),some (vs "Data" 2068),some (vb "object.__new__"),some vt],
oF (vy "getset_descriptor") [vs "__dict__" 2112,vr 1178,vb "function.__dict__",vb "function.__dict__#set"],
oW 2114 1178,
oS 1178,
oI 1178,
oT [vi 97 2121,vs "L" 2122,vs "AL" 2123,vi 1 2124,vs "Ll" 2125,vs "Other" 2126],
oT [vi 98 2127,vs "L" 2128,vs "AL" 2129,vi 1 2130,vs "Ll" 2131,vs "Other" 2132],
oT [vi 1488 2133,vs "R" 2134,vs "AL" 2135,vi 1 2136,vs "Lo" 2137,vs "Other" 2138],
oT [vi 1489 2139,vs "R" 2140,vs "AL" 2141,vi 1 2142,vs "Lo" 2143,vs "Other" 2144],
oT [vi 19968 2145,vs "L" 2146,vs "ID" 2147,vi 2 2148,vs "Lo" 2149,vs "Other" 2150],
oT [vi 32 2151,vs "WS" 2152,vs "SP" 2153,vi 1 2154,vs "Zs" 2155,vs "Other" 2156],
oT [vi 10 2157,vs "B" 2158,vs "LF" 2159,vi 0 2160,vs "Cc" 2161,vs "LF" 2162],
oT [vr 1183,vr 1184,vr 1185,vr 1186,vr 1187,vr 1188,vr 1189],
oT [vi 769 2164,vs "NSM" 2165,vs "CM" 2166,vi 0 2167,vs "Mn" 2168,vs "Extend" 2169],
oT [],
fO]++mP (aa 169) "_law_deck" 2171 1000 1 1192 2174 o sL
noncomputable def Gx (P:Params):List DictEntry:=(en P "__name__" 165 sL::(Gv P).tail)++(eL P [("Data",2118,1178),("_law_sorts",2163,1190),("_law_mark",2170,1191),("_law_deck",2176,1196)])
noncomputable def Gy:List Value:=Gw++[vi 977 0,vi 0 0,vr 1146,vi 1000 0,vi 0 0,vr 1195]
noncomputable def DX (P:Params):BT:=((dR (DW P) 1141 (Lu P)).set 3 (d5 (Gx P) 167)).set 12 (eV Gy)
noncomputable def Lw (P:Params):List Obj:=[oT [],
fO,
oN 2180 ["deck", "many"],
oT []]++b0 (aa 170) "_law_draw" 2177 1005 2 1197 2182 o sL++pN 2188 ["found", "code", "way", "word", "size", "category", "kind"]++b0 (aa 171) "_law_data" 2185 1010 0 1204 2195 o sL++pN 2201 ["deck", "many", "found", "turn", "sort", "codes"]++b0 (aa 172) "_law_clusters" 2198 1020 2 1211 2207 o sL++pN 2213 ["clusters", "found", "here", "one"]++b0 (aa 173) "_law_paragraphs" 2210 1029 1 1218 2217 o sL++[
oT [],
fO]++mP (aa 174) "_law_base" 2220 1037 2 1225 2223 o sL++[
oT [],
fO]++mP (aa 175) "_law_sides" 2226 1042 2 1230 2229 o sL++[
oT [],
fO]++mP (aa 176) "_law_levels" 2232 1050 2 1235 2235 o sL++[
oT [],
fO]++mP (aa 177) "_law_order" 2238 1052 3 1240 2241 o sL++pN 2247 ["paragraph", "at", "near", "far"]++b0 (aa 178) "_law_may_break" 2244 1063 2 1245 2251 o sL++[
oT [],
fO]++mP (aa 179) "_law_width" 2254 1070 3 1252 2257 o sL++[
oT [],
fO]++mP (aa 180) "_law_lines" 2260 1074 2 1257 2263 o sL++[
oT [],
fO]++mP (aa 181) "_law_shown" 2266 1084 5 1262 2269 o sL++[
oT [],
fO]++mP (aa 182) "law" 2272 1090 1 1267 2275 o sL
noncomputable def IW (P:Params):List DictEntry:=Gx P++(eL P [("_law_draw",2184,1203),("_law_data",2197,1210),("_law_clusters",2209,1217),("_law_paragraphs",2219,1224),("_law_base",2225,1229),("_law_sides",2231,1234),("_law_levels",2237,1239),("_law_order",2243,1244),("_law_may_break",2253,1251),("_law_width",2259,1256),("_law_lines",2265,1261),("_law_shown",2271,1266),("law",2277,1271)])
noncomputable def IX:List Value:=Gy++[vi 1005 0,vi 0 0,vr 1202,vi 1010 0,vi 0 0,vr 1209,vi 1020 0,vi 0 0,vr 1216,vi 1029 0,vi 0 0,vr 1223,vi 1037 0,vi 0 0,vr 1228,vi 1042 0,vi 0 0,vr 1233,vi 1050 0,vi 0 0,vr 1238,vi 1052 0,vi 0 0,vr 1243,vi 1063 0,vi 0 0,vr 1250,vi 1070 0,vi 0 0,vr 1255,vi 1074 0,vi 0 0,vr 1260,vi 1084 0,vi 0 0,vr 1265,vi 1090 0,vi 0 0,vr 1270]
noncomputable def gS (P:Params):BT:=((dR (DX P) 1197 (Lw P)).set 3 (d5 (IW P) 180)).set 12 (eV IX)
theorem ku:@segRunT=PySem.W.Fast.tw10110043849684766642:=PySem.W.Fast.te10110043849684766642
theorem ju:@treeTable=PySem.W.Fast.tw14364793385576792824:=PySem.W.Fast.te14364793385576792824
noncomputable abbrev bz (w:World) (os:OsState) (n:Nat) (S S':OsState->SharedT) (a k:Nat) (p p':Pos):Prop:=
 segRunT treeTable pw w 11 (some (.ref 6)) 1 n (S os) (piecesOf ((pw.main.body.drop a).take k) x7 iO p [topFrame lR])=some (.next,S' os,iO,p')
theorem Lx (w:World) (os:OsState):bz w os 277 (cQ (DM w.params) 15 187) (cQ (IN w.params) 43 227) 0 4 lR (bq 6 0 9 24):=by
 rw[bz,ku,ju]
 kernel_rfl
theorem Ly (w:World) (os:OsState):bz w os 427 (cQ (IN w.params) 43 227) (cQ (IO w.params) 67 259) 4 2 (bq 6 0 9 24) (bq 12 0 13 8):=by
 rw[bz,ku,ju]
 kernel_rfl
theorem Lz (w:World) (os:OsState):bz w os 328 (cQ (IO w.params) 67 259) (cQ (IP w.params) 119 362) 6 16 (bq 12 0 13 8) (bq 76 0 82 36):=by
 rw[bz,ku,ju]
 kernel_rfl
theorem LA (w:World) (os:OsState):bz w os 227 (cQ (IP w.params) 119 362) (cQ (IQ w.params) 140 395) 22 1 (bq 76 0 82 36) (bq 83 0 88 36):=by
 rw[bz,ku,ju]
 kernel_rfl
theorem LB (w:World) (os:OsState):bz w os 453 (cQ (IQ w.params) 140 395) (cQ (IR w.params) 210 486) 23 1 (bq 83 0 88 36) (bq 89 0 141 30):=by
 rw[bz,ku,ju]
 kernel_rfl
theorem LC (w:World) (os:OsState):bz w os 443 (cQ (IR w.params) 210 486) (cQ (IS w.params) 276 597) 24 7 (bq 89 0 141 30) (bq 202 0 215 16):=by
 rw[bz,ku,ju]
 kernel_rfl
theorem LD (w:World) (os:OsState):bz w os 444 (cQ (IS w.params) 276 597) (cQ (IT w.params) 329 705) 31 10 (bq 202 0 215 16) (bq 259 0 267 16):=by
 rw[bz,ku,ju]
 kernel_rfl
theorem LE (w:World) (os:OsState):bz w os 441 (cQ (IT w.params) 329 705) (cQ (IU w.params) 423 841) 41 14 (bq 259 0 267 16) (bq 348 0 351 58):=by
 rw[bz,ku,ju]
 kernel_rfl
theorem LG (w:World) (os:OsState):bz w os 422 (cQ (IU w.params) 423 841) (cQ (IV w.params) 503 984) 55 15 (bq 348 0 351 58) (bq 421 0 432 16):=by
 rw[bz,ku,ju]
 kernel_rfl
theorem LH (w:World) (os:OsState):bz w os 424 (cQ (IV w.params) 503 984) (cQ (DN w.params) 572 1101) 70 20 (bq 421 0 432 16) (bq 516 0 521 48):=by
 rw[bz,ku,ju]
 kernel_rfl
theorem IY (w:World) (os:OsState):bz w os 442 (cQ (DN w.params) 572 1101) (cQ (DO w.params) 635 1196) 90 6 (bq 516 0 521 48) (bq 584 0 584 9):=by
 rw[bz,ku,ju]
 kernel_rfl
theorem IZ (w:World) (os:OsState):bz w os 263 (cQ (DO w.params) 635 1196) (cQ (vG w.params) 663 1304) 96 14 (bq 584 0 584 9) (bq 598 0 598 12):=by
 rw[bz,ku,ju]
 kernel_rfl
theorem Gz (w:World) (os:OsState):bz (w.withFollow "special-get-raises" false) os 101 (cQ (vG (w.withFollow "special-get-raises" false).params) 663 1304) (cQ (vH (w.withFollow "special-get-raises" false).params) 669 1325) 110 1 (bq 598 0 598 12) (bq 599 0 599 9):=by
 rw[bz,ku,ju]
 kernel_rfl
theorem GA (w:World) (os:OsState):bz (w.withFollow "special-get-raises" true) os 101 (cQ (vG (w.withFollow "special-get-raises" true).params) 663 1304) (cQ (vH (w.withFollow "special-get-raises" true).params) 669 1325) 110 1 (bq 598 0 598 12) (bq 599 0 599 9):=by
 rw[bz,ku,ju]
 kernel_rfl
theorem I0 (w:World) (os:OsState):bz w os 101 (cQ (vG w.params) 663 1304) (cQ (vH w.params) 669 1325) 110 1 (bq 598 0 598 12) (bq 599 0 599 9):=byRow2 "special-get-raises" (P:=fun w=>∀os,bz w os 101 (cQ (vG w.params) 663 1304) (cQ (vH w.params) 669 1325) 110 1 (bq 598 0 598 12) (bq 599 0 599 9)) Gz GA w os
theorem I1 (w:World) (os:OsState):bz w os 386 (cQ (vH w.params) 669 1325) (cQ (DP w.params) 713 1414) 111 9 (bq 599 0 599 9) (bq 623 0 633 15):=by
 rw[bz,ku,ju]
 kernel_rfl
theorem I2 (w:World) (os:OsState):bz w os 263 (cQ (DP w.params) 713 1414) (cQ (DQ w.params) 741 1461) 120 2 (bq 623 0 633 15) (bq 641 0 651 16):=by
 rw[bz,ku,ju]
 kernel_rfl
theorem I3 (w:World) (os:OsState):bz w os 426 (cQ (DQ w.params) 741 1461) (cQ (DR w.params) 804 1553) 122 3 (bq 641 0 651 16) (bq 690 0 695 67):=by
 rw[bz,ku,ju]
 kernel_rfl
theorem I4 (w:World) (os:OsState):bz w os 451 (cQ (DR w.params) 804 1553) (cQ (DS w.params) 902 1695) 125 14 (bq 690 0 695 67) (bq 791 0 801 15):=by
 rw[bz,ku,ju]
 kernel_rfl
theorem I5 (w:World) (os:OsState):bz w os 390 (cQ (DS w.params) 902 1695) (cQ (DT w.params) 958 1778) 139 5 (bq 791 0 801 15) (bq 834 0 850 16):=by
 rw[bz,ku,ju]
 kernel_rfl
theorem I6 (w:World) (os:OsState):bz w os 448 (cQ (DT w.params) 958 1778) (cQ (DU w.params) 1015 1866) 144 7 (bq 834 0 850 16) (bq 877 0 877 18):=by
 rw[bz,ku,ju]
 kernel_rfl
theorem I7 (w:World) (os:OsState):bz w os 445 (cQ (DU w.params) 1015 1866) (cQ (DV w.params) 1078 1971) 151 9 (bq 877 0 877 18) (bq 921 0 930 16):=by
 rw[bz,ku,ju]
 kernel_rfl
theorem I8 (w:World) (os:OsState):bz w os 437 (cQ (DV w.params) 1078 1971) (cQ (DW w.params) 1141 2060) 160 5 (bq 921 0 930 16) (bq 965 0 976 16):=by
 rw[bz,ku,ju]
 kernel_rfl
theorem I9 (w:World) (os:OsState):bz w os 442 (cQ (DW w.params) 1141 2060) (cQ (DX w.params) 1197 2177) 165 5 (bq 965 0 976 16) (bq 1000 0 1004 41):=by
 rw[bz,ku,ju]
 kernel_rfl
theorem Ja (w:World) (os:OsState):bz w os 372 (cQ (DX w.params) 1197 2177) (cQ (gS w.params) 1272 2278) 170 13 (bq 1000 0 1004 41) (bq 1090 0 1104 94):=by
 rw[bz,ku,ju]
 kernel_rfl
theorem x9:behindTheImports pw=pw.main.body:=by kernel_rfl
noncomputable def Cg (w:World) (os:OsState):Shared:=⟨boot_heap w.params,Array.mk [],boot_drawn,boot_toks,os⟩
theorem nxt {w:World} {os:OsState} {n N a k:Nat} {S S':OsState->SharedT} {p p':Pos} {r:Shared} (h:bz w os n S S' a k p p') (t:topRun treeTable pw w 11 (some (.ref 6)) N (S' os).abs (restOf (pw.main.body.drop (a+k)) x7 iO p' [topFrame lR])=some r):
  topRun treeTable pw w 11 (some (.ref 6)) (n+N) (S os).abs (restOf (pw.main.body.drop a) x7 iO p [topFrame lR])=some r:=by
 rw[←List.take_append_drop k (pw.main.body.drop a),drop_drop]
 exact piece_app (segRun_of h) t
theorem AB (w:World) (os:OsState):topGo treeTable pw w 11 (some (.ref 6)) 12 (Cg w os) (topStub pw)=some ((cQ (DM w.params) 15 187 os).abs,⟨denote treeTable iO,iO,lR,[topFrame lR]⟩):=by
 rw[PySem.W.Fast.te15667345088766844465,PySem.W.Fast.te11892475500146522536,ju]
 kernel_rfl
theorem vI (w:World) (os:OsState):segRun treeTable pw w 11 (some (.ref 6)) 1 1 (cQ (DM w.params) 15 187 os).abs (blockOf (behindTheImports pw) x7 iO lR [topFrame lR])=some (.next,(cQ (DM w.params) 15 187 os).abs,iO,lR):=by
 rw[PySem.W.Fast.te14374325043358763698,ju]
 kernel_rfl
theorem AC (w:World) (os:OsState):topRun treeTable pw w 11 (some (.ref 6)) 2 (cQ (gS w.params) 1272 2278 os).abs ⟨doneF .next,iO,(bq 1090 0 1104 94),[topFrame lR]⟩=some (cQ (gS w.params) 1272 2278 os).abs:=by
 rw[PySem.W.Fast.te14082659384304107361,ju]
 kernel_rfl
theorem yb:pw.main.body.drop 183=[]:=by kernel_rfl
noncomputable def po:Nat:=12+(1+(277+(427+(328+(227+(453+(443+(444+(441+(422+(424+(442+(263+(101+(386+(263+(426+(451+(390+(448+(445+(437+(442+(372+2))))))))))))))))))))))))
theorem AD (w:World) (os:OsState):topRun treeTable pw w 11 (some (.ref 6)) po (Cg w os) (topStub pw)=some (cQ (gS w.params) 1272 2278 os).abs:=
 go_top (AB w os) (piece_block (vI w os) (by rw[x9];exact(nxt (Lx w os) (nxt (Ly w os) (nxt (Lz w os) (nxt (LA w os) (nxt (LB w os) (nxt (LC w os) (nxt (LD w os) (nxt (LE w os) (nxt (LG w os) (nxt (LH w os) (nxt (IY w os) (nxt (IZ w os) (nxt (I0 w os) (nxt (I1 w os) (nxt (I2 w os) (nxt (I3 w os) (nxt (I4 w os) (nxt (I5 w os) (nxt (I6 w os) (nxt (I7 w os) (nxt (I8 w os) (nxt (I9 w os) (nxt (Ja w os) (by rw[yb];exact AC w os))))))))))))))))))))))))))
noncomputable abbrev LW:OpenLaw:=PySem.Challenge.rw_pb0601_01
noncomputable abbrev PW:Program:=PySem.Challenge.pw_pb0601_01
theorem yc:namesResolve PW=true:=by
 rw[PySem.W.Fast.te8377067652309620493];decide +kernel
theorem AE:noRoadLSs {strict:=!(importedModules PW.main.body).all cThrough.contains,foot:=none,bare:=(["vars", "dir", "locals"]:List Str).filter (readsOut PW PW.main.body)} PW.main.body=true:=by
 rw[PySem.W.Fast.te8326940854005059898,PySem.W.Fast.te13343964577679436407,PySem.W.Fast.te17691160309236699985];decide +kernel
theorem AF:namesMeet PW PW.main.body (fun _ n=>attrL n)=true:=by
 rw[PySem.W.Fast.te17119622794617984870,PySem.W.Fast.te17868728402115742887];decide +kernel
theorem AG:looksOpen PW=true:=look_both (look_both (look_both (look_both (by decide +kernel) yc) (by rw[PySem.W.Fast.te18344453789297297638];decide +kernel)) AE) AF
theorem AH:OpenRow.partSaid LW.row=true:=by
 refine look_both (look_both (look_both (look_both (look_both (look_both (look_both (look_both (look_both (look_both (look_both (look_both (look_both AG ?_) ?_) ?_) ?_) ?_) ?_) ?_) ?_) ?_) ?_) ?_) ?_) ?_
 iterate 6 decide +kernel
 ·rw[PySem.W.Fast.te13582783067957832011];decide +kernel
 iterate 6 decide +kernel
theorem DY:OpenRow.wellSaid LW.row=true:=look_both (look_both AH (by rw[PySem.W.Fast.te18344453789297297638];decide +kernel)) (by decide +kernel)
theorem AI:LW.footing.all footLine=true:=by rw[PySem.W.Fast.te10501279942588096481];decide +kernel
theorem DZ:noClassBlock LW.prog LW.footing=true:=by rw[PySem.W.Fast.te8179353310426384613];decide +kernel
theorem yd:noRoadLSs {strict:=true,foot:=some LW.bound',writes:=LW.writes,may:=LW.may} LW.footing=true:=by
 rw[PySem.W.Fast.te8326940854005059898];decide +kernel
theorem D0:defStands LW.about LW.above=true:=by rw[PySem.W.Fast.te9558739934217749035];decide +kernel
theorem GB:LW.namesIt=true:=by rw[PySem.W.Fast.te16286561074155671207];decide +kernel
theorem Jb:(["type", "isinstance", "issubclass", "getattr", "hasattr"]:List Str).all (fun n=>LW.about != [n])=true:=by decide +kernel
theorem Jc:LW.bound'.all (fun n=>!builtinNamed n||LW.about==[n]||!LW.reads n)=true:=by rw[PySem.W.Fast.named_eq];decide +kernel
theorem Jd:(LW.prog.main.body.flatMap importedNames).all (fun n=>!LW.reads n||(drawsOf n LW.prog.main.body).all fun mn=>mn.2 != ("attrgetter" : Str)&&mn.2 != ("methodcaller" : Str))=true:=by decide +kernel
theorem GC:namesMeet LW.prog LW.footing (fun sc n=>(!(["type", "isinstance", "issubclass", "getattr", "hasattr"]:List Str).contains n||sc.names.lookup n==some .globalImplicit) &&
  (LW.may != some n||sc.kind==.module||sc.names.lookup n==some .globalImplicit))=true:=by
 rw[PySem.W.Fast.te17119622794617984870];decide +kernel
theorem D1:LW.own.contains LW.name=true:=by decide +kernel
theorem D3:(LW.own.eraseDups.length==LW.own.length)=true:=by decide +kernel
theorem D4:LW.own.all (fun n=>!builtinNamed n)=true:=by rw[PySem.W.Fast.named_eq];decide +kernel
theorem GD:namesMeet LW.prog LW.above (fun _ n=>!LW.own.contains n)=true:=by
 rw[PySem.W.Fast.te17119622794617984870];decide +kernel
theorem GE:(namesMeet LW.prog LW.footing fun sc n=>sc.kind==.module||sc.names.lookup n != some .globalExplicit)=true:=by
 rw[PySem.W.Fast.te17119622794617984870];decide +kernel
theorem Je:LW.wellSaid=true:=by
 refine look_both (look_both (look_both (look_both (look_both (look_both (look_both (look_both (look_both (look_both (look_both (look_both (look_both (look_both (look_both (look_both (look_both (look_both DY ?_) AI) DZ) ?_) ?_) yd) D0) GB) Jb) Jc) ?_) Jd) GC) D1) D3) D4) GD) GE
 iterate 4 decide +kernel
noncomputable def dC:Program:={pw with main:={pw.main with body:=[aa 182]}}
noncomputable def AJ:Stmt->List Str
 | .FunctionDef n ..=>[n]
 | .ClassDef n ..=>[n]
 | .Assign [.Name x _] _ _=>[x]
 | _=>[]
noncomputable def ez:List Str:=(pw.main.body.take 182).flatMap AJ
noncomputable def gx (P:Params):Heap:=absHeap (gS P) 1272 {}
noncomputable abbrev Ii:Shared->Bool:=fun s=>xlAt dC [] s&&recOk [] s
theorem GF (w:World):staticsOk (importedModules pw.main.body) (boot_heap w.params) (gx w.params)=true:=by kernel_rfl
theorem GG (w:World):namesBound pw (gx w.params)=true:=by kernel_rfl
theorem GH (w:World):laidKept (boot_heap w.params) (gx w.params)=true:=by kernel_rfl
theorem GI (w:World) (os:OsState):openSeen dC ez (importedModules pw.main.body) Ii true ⟨gx w.params,#[],{},2278,os⟩=openGood dC ez:=by
 rw[PySem.W.Fast.te4187177175401517315]
 kernel_rfl
theorem GJ (w:World):(fencedOpening treeTable pw w 20000).map (fun s=>(s.heap,s.gens,s.drawn,s.toks))=some (boot_heap w.params,Array.mk [],boot_drawn,boot_toks):=
 boot_open (by kernel_rfl) (by decide +kernel) (fun _=>by kernel_rfl!) w
theorem AK (w:World) (os:OsState):(cQ (gS w.params) 1272 2278 os).abs=⟨gx w.params,#[],{},2278,os⟩:=by kernel_rfl
theorem AM (w:World):((boot_heap w.params).isNs mainGlobals&&(Array.mk ([]:List GenState)).size==0,(boot_heap w.params).objs.size,(boot_heap w.params).nsMap mainGlobals "__annotations__")=(true,11,some (.ref 6)):=by kernel_rfl
theorem ye:ble po 20000=true:=by kernel_rfl
theorem AN (w:World) (os:OsState):topRun treeTable pw w 11 (some (.ref 6)) po ⟨boot_heap w.params,Array.mk [],boot_drawn,boot_toks,os⟩ (topStub pw)=some ⟨gx w.params,#[],{},2278,os⟩:=(AD w os).trans (congrArg some (AK w os))
theorem yf (w:World):(fun os=>((staticsOk (importedModules pw.main.body) (boot_heap w.params) (gx w.params)&&namesBound pw (gx w.params)&&gensDone ⟨gx w.params,#[],{},2278,os⟩&&laidKept (boot_heap w.params) (gx w.params)),
    openSeen dC ez (importedModules pw.main.body) Ii true ⟨gx w.params,#[],{},2278,os⟩,gx w.params))=fun _=>(true,openGood dC ez,gx w.params):=funext fun os=>by
 rw[GF,GG,GH,GI]
 rfl
theorem AO:LeftO pw dC ez Ii (fun s=>s.heap) (fun w=>gx w.params) 20000 true:=
 LeftO.of_pieces (H₀:=boot_heap) (H₁:=fun P=>gx P) (gs₀:=Array.mk []) (gs₁:=#[]) (d₀:=boot_drawn) (d₁:={}) (k₀:=boot_toks) (k₁:=2278) (m₀:=11) (ann:=some (.ref 6)) (M:=po) GJ AM AN ye yf
def nJ (w:World) (h:Heap):Prop:=∀a o,(gx w.params).get? a=some o->h.get? a=some o
noncomputable def lawD:DefRec:=match aa 182 with
 | .FunctionDef n a b _ _ _ sc _ _ p=>⟨n,a,b,sc,p⟩
 | _=>⟨LW.name,(vD default "").params,[],(vD default "").scope,lR⟩
theorem D5:defOf dC LW.name=some (lawD,[]):=by kernel_rfl
theorem AP:pw.theDef LW.name=some (lawD.params,lawD.body,lawD.scope):=by kernel_rfl
theorem vJ:(chainsOk dC&&opensWell pw&&(frees LW.row.toRowW&&LW.row.within.isEmpty))=true:=by decide +kernel
theorem qO:LW.row.toRowW.promised:=⟨[.list []],by decide +kernel,by decide +kernel⟩
theorem head_ok (call:WalkO dC ez (XL dC []) nJ LW.row.toRowW lawD [] fun f vs=>PySem.call f vs):LW.Holds:=
 holds_law Je fun k1=>holds_open (r:=LW.row) (q:=dC) (loose:=ez) (Xt:=Ii) (XP:=XL dC []) (Yf:=fun s=>s.heap) (Ya:=fun w=>gx w.params) (YP:=nJ) (N:=20000)
  AO (fun _ _ e _ _ h=>e▸h) (fun _ _ _ y k a o h=>k a o (y a o h)) (fun s e=>xl_of s (bA e).1) XL.keeps D5 AP (by rfl) (fun s e=>recFacts_of (bA e).2) rfl k1 vJ ⟨rfl,rfl,rfl,rfl,rfl,by decide +kernel⟩ qO call
structure D6 where
 a:Nat
 st:Stmt
 q:String
 df:Value
 cd:Value
 mo:Value
 io:Bool
 dfl:List PV
noncomputable def fnTab:List D6:=[
 ⟨36,(aA 3 0), "UniError.__init__",(vr 29),(vr 35),(vs "unicore.base" 194),true,[.none]⟩,
 ⟨73,(aa 6), "place_by_half",.none,(vr 72),(vs "unicore.base" 194),false,[]⟩,
 ⟨82,(aa 16), "bidi_kinds",.none,(vr 81),(vs "unicore.bidiparas" 270),false,[]⟩,
 ⟨89,(aa 17), "paragraphs",.none,(vr 88),(vs "unicore.bidiparas" 270),false,[]⟩,
 ⟨96,(aa 18), "isolate_pairs",.none,(vr 95),(vs "unicore.bidiparas" 270),false,[]⟩,
 ⟨103,(aa 19), "bidi_first_strong",.none,(vr 102),(vs "unicore.bidiparas" 270),false,[]⟩,
 ⟨111,(aa 20), "base_level",(vr 104),(vr 110),(vs "unicore.bidiparas" 270),false,[(.str (s "auto"))]⟩,
 ⟨118,(aa 21), "bidi_base",.none,(vr 117),(vs "unicore.bidiparas" 270),false,[]⟩,
 ⟨132,(aA 22 0), "BidiEntry.__init__",.none,(vr 131),(vs "unicore.bidiparas" 270),true,[]⟩,
 ⟨153,(aA 23 0), "BidiStack.__init__",.none,(vr 152),(vs "unicore.bidiparas" 270),true,[]⟩,
 ⟨160,(aA 23 1), "BidiStack.last",.none,(vr 159),(vs "unicore.bidiparas" 270),false,[]⟩,
 ⟨217,(aa 24), "explicit",(vr 210),(vr 216),(vs "unicore.bidiparas" 270),false,[(.int 125)]⟩,
 ⟨231,(aa 26), "level_runs",.none,(vr 230),(vs "unicore.bidiparas" 270),false,[]⟩,
 ⟨247,(aA 27 0), "BidiSequence.__init__",(vr 240),(vr 246),(vs "unicore.bidiparas" 270),true,[(.tup [])]⟩,
 ⟨261,(aa 28), "bidi_direction",.none,(vr 260),(vs "unicore.bidiparas" 270),false,[]⟩,
 ⟨268,(aa 29), "bidi_level_beside",.none,(vr 267),(vs "unicore.bidiparas" 270),false,[]⟩,
 ⟨275,(aa 30), "bidi_joined_runs",.none,(vr 274),(vs "unicore.bidiparas" 270),false,[]⟩,
 ⟨281,(aa 31), "isolating_sequences",(vr 276),(vr 280),(vs "unicore.bidiparas" 270),false,[.none]⟩,
 ⟨295,(aA 32 0), "BidiParagraph.__init__",.none,(vr 294),(vs "unicore.bidiparas" 270),true,[]⟩,
 ⟨302,(aA 32 1), "BidiParagraph.sequences",.none,(vr 301),(vs "unicore.bidiparas" 270),false,[]⟩,
 ⟨317,(aa 33), "bidi_paragraphs",(vr 310),(vr 316),(vs "unicore.bidiparas" 270),false,[(.str (s "auto")),(.int 125)]⟩,
 ⟨328,(aa 40), "bidi_marks",.none,(vr 327),(vs "unicore.bidiweak" 669),false,[]⟩,
 ⟨335,(aa 41), "bidi_arabic_numbers",.none,(vr 334),(vs "unicore.bidiweak" 669),false,[]⟩,
 ⟨340,(aa 42), "bidi_arabic_letters",.none,(vr 339),(vs "unicore.bidiweak" 669),false,[]⟩,
 ⟨347,(aa 43), "bidi_separators",.none,(vr 346),(vs "unicore.bidiweak" 669),false,[]⟩,
 ⟨354,(aa 44), "bidi_runs",.none,(vr 353),(vs "unicore.bidiweak" 669),false,[]⟩,
 ⟨361,(aa 45), "bidi_beside",.none,(vr 360),(vs "unicore.bidiweak" 669),false,[]⟩,
 ⟨368,(aa 46), "bidi_terminators",.none,(vr 367),(vs "unicore.bidiweak" 669),false,[]⟩,
 ⟨373,(aa 47), "bidi_left_overs",.none,(vr 372),(vs "unicore.bidiweak" 669),false,[]⟩,
 ⟨380,(aa 48), "bidi_left_numbers",.none,(vr 379),(vs "unicore.bidiweak" 669),false,[]⟩,
 ⟨387,(aa 49), "weak_classes",.none,(vr 386),(vs "unicore.bidiweak" 669),false,[]⟩,
 ⟨394,(aa 50), "weak",.none,(vr 393),(vs "unicore.bidiweak" 669),false,[]⟩,
 ⟨408,(aa 52), "bracket_pairs_of",.none,(vr 407),(vs "unicore.bidiweak" 669),false,[]⟩,
 ⟨415,(aa 53), "bracket_pairs",.none,(vr 414),(vs "unicore.bidiweak" 669),false,[]⟩,
 ⟨422,(aa 54), "bidi_strong",.none,(vr 421),(vs "unicore.bidiweak" 669),false,[]⟩,
 ⟨429,(aa 55), "bidi_embedding",.none,(vr 428),(vs "unicore.bidiweak" 669),false,[]⟩,
 ⟨443,(aa 57), "bracket_classes",.none,(vr 442),(vs "unicore.bidiweak" 669),false,[]⟩,
 ⟨450,(aa 58), "neutral_classes",.none,(vr 449),(vs "unicore.bidiweak" 669),false,[]⟩,
 ⟨458,(aa 59), "neutral",(vr 451),(vr 457),(vs "unicore.bidiweak" 669),false,[.none]⟩,
 ⟨465,(aa 60), "implicit_level",.none,(vr 464),(vs "unicore.bidiweak" 669),false,[]⟩,
 ⟨470,(aa 61), "implicit",.none,(vr 469),(vs "unicore.bidiweak" 669),false,[]⟩,
 ⟨477,(aa 62), "sequence_levels",.none,(vr 476),(vs "unicore.bidiweak" 669),false,[]⟩,
 ⟨484,(aa 63), "paragraph_levels",.none,(vr 483),(vs "unicore.bidiweak" 669),false,[]⟩,
 ⟨492,(aa 64), "bidi_levels",(vr 485),(vr 491),(vs "unicore.bidiweak" 669),false,[(.str (s "auto")),(.int 125)]⟩,
 ⟨502,(aa 69), "line_levels",.none,(vr 501),(vs "unicore.bidilines" 956),false,[]⟩,
 ⟨509,(aa 70), "line_turned",.none,(vr 508),(vs "unicore.bidilines" 956),false,[]⟩,
 ⟨514,(aa 71), "reordered",.none,(vr 513),(vs "unicore.bidilines" 956),false,[]⟩,
 ⟨521,(aa 72), "is_line_mark",.none,(vr 520),(vs "unicore.bidilines" 956),false,[]⟩,
 ⟨528,(aa 73), "marks_behind",.none,(vr 527),(vs "unicore.bidilines" 956),false,[]⟩,
 ⟨535,(aa 74), "mirrored",.none,(vr 534),(vs "unicore.bidilines" 956),false,[]⟩,
 ⟨540,(aa 75), "shown_lines",.none,(vr 539),(vs "unicore.bidilines" 956),false,[]⟩,
 ⟨547,(aa 82), "is_hangul_syllable",.none,(vr 546),(vs "unicore.hangul" 1044),false,[]⟩,
 ⟨554,(aa 83), "hangul_kind",.none,(vr 553),(vs "unicore.hangul" 1044),false,[]⟩,
 ⟨564,(aa 88), "cluster_kind",.none,(vr 563),(vs "unicore.clusters" 1071),false,[]⟩,
 ⟨571,(aa 89), "cluster_hangul_joins",.none,(vr 570),(vs "unicore.clusters" 1071),false,[]⟩,
 ⟨578,(aa 90), "cluster_pair",.none,(vr 577),(vs "unicore.clusters" 1071),false,[]⟩,
 ⟨593,(aA 91 0), "ClusterStream.__init__",(vr 586),(vr 592),(vs "unicore.clusters" 1071),true,[(.bool false)]⟩,
 ⟨600,(aA 91 1), "ClusterStream.put",.none,(vr 599),(vs "unicore.clusters" 1071),true,[]⟩,
 ⟨607,(aA 91 2), "ClusterStream.is_held",.none,(vr 606),(vs "unicore.clusters" 1071),true,[]⟩,
 ⟨614,(aA 91 3), "ClusterStream.take",.none,(vr 613),(vs "unicore.clusters" 1071),true,[]⟩,
 ⟨627,(aa 92), "cluster_places",(vr 622),(vr 626),(vs "unicore.clusters" 1071),false,[(.bool false)]⟩,
 ⟨633,(aa 93), "clusters_of",(vr 628),(vr 632),(vs "unicore.clusters" 1071),false,[(.bool false)]⟩,
 ⟨691,(aA 117 0), "LineHow.__init__",(vr 684),(vr 690),(vs "unicore.linebreaks" 1189),true,[(.str (s "strict")),(.bool false),(.str (s "pairs"))]⟩,
 ⟨712,(aa 119), "line_class",.none,(vr 711),(vs "unicore.linebreaks" 1189),false,[]⟩,
 ⟨726,(aA 120 0), "LineUnit.__init__",.none,(vr 725),(vs "unicore.linebreaks" 1189),true,[]⟩,
 ⟨740,(aa 121), "line_units",.none,(vr 739),(vs "unicore.linebreaks" 1189),false,[]⟩,
 ⟨754,(aA 122 0), "LineView.__init__",.none,(vr 753),(vs "unicore.linebreaks" 1189),true,[]⟩,
 ⟨761,(aA 122 1), "LineView.word",.none,(vr 760),(vs "unicore.linebreaks" 1189),false,[]⟩,
 ⟨768,(aA 122 2), "LineView.solid_word",.none,(vr 767),(vs "unicore.linebreaks" 1189),false,[]⟩,
 ⟨775,(aA 122 3), "LineView.is_quote",.none,(vr 774),(vs "unicore.linebreaks" 1189),false,[]⟩,
 ⟨796,(aa 123), "line_rule_hard",.none,(vr 795),(vs "unicore.linebreaks" 1189),false,[]⟩,
 ⟨803,(aa 124), "line_rule_spaces",.none,(vr 802),(vs "unicore.linebreaks" 1189),false,[]⟩,
 ⟨810,(aa 125), "line_rule_glue",.none,(vr 809),(vs "unicore.linebreaks" 1189),false,[]⟩,
 ⟨817,(aa 126), "line_rule_closing",.none,(vr 816),(vs "unicore.linebreaks" 1189),false,[]⟩,
 ⟨824,(aa 127), "line_rule_quotes",.none,(vr 823),(vs "unicore.linebreaks" 1189),false,[]⟩,
 ⟨831,(aa 128), "line_rule_over_spaces",.none,(vr 830),(vs "unicore.linebreaks" 1189),false,[]⟩,
 ⟨838,(aa 129), "line_rule_signs",.none,(vr 837),(vs "unicore.linebreaks" 1189),false,[]⟩,
 ⟨845,(aa 130), "line_rule_letters",.none,(vr 844),(vs "unicore.linebreaks" 1189),false,[]⟩,
 ⟨866,(aa 133), "line_rule_numbers",.none,(vr 865),(vs "unicore.linebreaks" 1189),false,[]⟩,
 ⟨873,(aa 134), "line_rule_syllables",.none,(vr 872),(vs "unicore.linebreaks" 1189),false,[]⟩,
 ⟨880,(aa 135), "line_is_aksara",.none,(vr 879),(vs "unicore.linebreaks" 1189),false,[]⟩,
 ⟨887,(aa 136), "line_rule_aksaras",.none,(vr 886),(vs "unicore.linebreaks" 1189),false,[]⟩,
 ⟨894,(aa 137), "line_rule_brackets",.none,(vr 893),(vs "unicore.linebreaks" 1189),false,[]⟩,
 ⟨901,(aa 138), "line_rule_pictures",.none,(vr 900),(vs "unicore.linebreaks" 1189),false,[]⟩,
 ⟨908,(aa 139), "line_verdict",.none,(vr 907),(vs "unicore.linebreaks" 1189),false,[]⟩,
 ⟨915,(aa 140), "line_verdicts",.none,(vr 914),(vs "unicore.linebreaks" 1189),false,[]⟩,
 ⟨929,(aA 141 0), "LineMeasure.__init__",.none,(vr 928),(vs "unicore.linebreaks" 1189),true,[]⟩,
 ⟨936,(aA 141 1), "LineMeasure.width",.none,(vr 935),(vs "unicore.linebreaks" 1189),false,[]⟩,
 ⟨950,(aa 142), "line_last_within",.none,(vr 949),(vs "unicore.linebreaks" 1189),false,[]⟩,
 ⟨957,(aa 143), "line_fitted",(vr 952),(vr 956),(vs "unicore.linebreaks" 1189),false,[(.tup [])]⟩,
 ⟨972,(aA 144 0), "LineBreaks.__init__",(vr 965),(vr 971),(vs "unicore.linebreaks" 1189),true,[.none]⟩,
 ⟨977,(aA 144 1), "LineBreaks.opportunities",.none,(vr 976),(vs "unicore.linebreaks" 1189),false,[]⟩,
 ⟨989,(aA 144 3), "LineBreaks.measure",.none,(vr 988),(vs "unicore.linebreaks" 1189),false,[]⟩,
 ⟨998,(aA 144 4), "LineBreaks.fit_lines",(vr 991),(vr 997),(vs "unicore.linebreaks" 1189),false,[(.tup [])]⟩,
 ⟨1022,(aa 152), "code_columns",(vr 1015),(vr 1021),(vs "unicore.widths" 1850),false,[(.bool false)]⟩,
 ⟨1027,(aa 153), "width_is_flag",.none,(vr 1026),(vs "unicore.widths" 1850),false,[]⟩,
 ⟨1032,(aa 154), "width_wish",.none,(vr 1031),(vs "unicore.widths" 1850),false,[]⟩,
 ⟨1040,(aa 155), "cluster_columns",(vr 1033),(vr 1039),(vs "unicore.widths" 1850),false,[(.bool false)]⟩,
 ⟨1048,(aa 157), "cluster_widths",(vr 1041),(vr 1047),(vs "unicore.unitext" 1903),false,[(.bool false)]⟩,
 ⟨1062,(aA 158 0), "LaidLine.__init__",.none,(vr 1061),(vs "unicore.unitext" 1903),true,[]⟩,
 ⟨1077,(aa 159), "laid_out",(vr 1070),(vr 1076),(vs "unicore.unitext" 1903),false,[(.str (s "auto")),.none]⟩,
 ⟨1084,(aa 161), "range_are_like",.none,(vr 1083),(vs "unicore.ranges" 1971),false,[]⟩,
 ⟨1098,(aA 162 0), "RangeMap.__init__",.none,(vr 1097),(vs "unicore.ranges" 1971),true,[]⟩,
 ⟨1105,(aA 162 1), "RangeMap.get",.none,(vr 1104),(vs "unicore.ranges" 1971),false,[]⟩,
 ⟨1112,(aA 162 2), "RangeMap.put",.none,(vr 1111),(vs "unicore.ranges" 1971),true,[]⟩,
 ⟨1140,(aa 164), "data_defaults",.none,(vr 1139),(vs "unicore.data" 2050),false,[]⟩,
 ⟨1154,(aA 165 0), "Data.__init__",.none,(vr 1153),(vs "unicore.data" 2050),true,[]⟩,
 ⟨1161,(aA 165 1), "Data.put",.none,(vr 1160),(vs "unicore.data" 2050),true,[]⟩,
 ⟨1168,(aA 165 2), "Data.get",.none,(vr 1167),(vs "unicore.data" 2050),false,[]⟩,
 ⟨1175,(aA 165 3), "Data.map_of",.none,(vr 1174),(vs "unicore.data" 2050),true,[]⟩,
 ⟨1196,(aa 169), "_law_deck",.none,(vr 1195),(vs "law_pb0601_01" 2119),false,[]⟩,
 ⟨1203,(aa 170), "_law_draw",.none,(vr 1202),(vs "law_pb0601_01" 2119),true,[]⟩,
 ⟨1210,(aa 171), "_law_data",.none,(vr 1209),(vs "law_pb0601_01" 2119),false,[]⟩,
 ⟨1217,(aa 172), "_law_clusters",.none,(vr 1216),(vs "law_pb0601_01" 2119),true,[]⟩,
 ⟨1224,(aa 173), "_law_paragraphs",.none,(vr 1223),(vs "law_pb0601_01" 2119),false,[]⟩,
 ⟨1229,(aa 174), "_law_base",.none,(vr 1228),(vs "law_pb0601_01" 2119),false,[]⟩,
 ⟨1234,(aa 175), "_law_sides",.none,(vr 1233),(vs "law_pb0601_01" 2119),false,[]⟩,
 ⟨1239,(aa 176), "_law_levels",.none,(vr 1238),(vs "law_pb0601_01" 2119),false,[]⟩,
 ⟨1244,(aa 177), "_law_order",.none,(vr 1243),(vs "law_pb0601_01" 2119),false,[]⟩,
 ⟨1251,(aa 178), "_law_may_break",.none,(vr 1250),(vs "law_pb0601_01" 2119),false,[]⟩,
 ⟨1256,(aa 179), "_law_width",.none,(vr 1255),(vs "law_pb0601_01" 2119),false,[]⟩,
 ⟨1261,(aa 180), "_law_lines",.none,(vr 1260),(vs "law_pb0601_01" 2119),false,[]⟩,
 ⟨1266,(aa 181), "_law_shown",.none,(vr 1265),(vs "law_pb0601_01" 2119),false,[]⟩,
 ⟨1271,(aa 182), "law",.none,(vr 1270),(vs "law_pb0601_01" 2119),false,[]⟩]
noncomputable def clTab:List Nat:=[135,205,250,305,617,694,729,785,939,1008,1065,1129,1178]
noncomputable def kAs:List Nat:=[3,1,135,205,250,305,617,694,729,785,939,1008,1065,1129,1178,52,39,134,204,249,304,616,693,728,784,938,1007,1064,1128,1177,51,38,36,73,82,89,96,103,111,118,132,153,160,217,231,247,261,268,275,281,295,302,317,328,335,340,347,354,361,368,373,380,387,394,408,415,422,429,443,450,458,465,470,477,484,492,502,509,514,521,528,535,540,547,554,564,571,578,593,600,607,614,627,633,691,712,726,740,754,761,768,775,796,803,810,817,824,831,838,845,866,873,880,887,894,901,908,915,929,936,950,957,972,977,989,998,1022,1027,1032,1040,1048,1062,1077,1084,1098,1105,1112,1140,1154,1161,1168,1175,1196,1203,1210,1217,1224,1229,1234,1239,1244,1251,1256,1261,1266,1271,35,72,81,88,95,102,110,117,131,152,159,216,230,246,260,267,274,280,294,301,316,327,334,339,346,353,360,367,372,379,386,393,407,414,421,428,442,449,457,464,469,476,483,491,501,508,513,520,527,534,539,546,553,563,570,577,592,599,606,613,626,632,690,711,725,739,753,760,767,774,795,802,809,816,823,830,837,844,865,872,879,886,893,900,907,914,928,935,949,956,971,976,988,997,1021,1026,1031,1039,1047,1061,1076,1083,1097,1104,1111,1139,1153,1160,1167,1174,1195,1202,1209,1216,1223,1228,1233,1238,1243,1250,1255,1260,1265,1270,29,104,210,240,239,276,310,451,485,586,622,628,684,952,951,965,991,990,1015,1033,1041,1070,74,75,76,77,318,319,320,321,493,494,495,555,556,557,634,635,636,637,638,639,640,641,642,643,644,645,647,662,648,649,650,651,652,653,654,655,656,657,658,659,660,661,663,664,665,666,667,668,669,1013,1014,1190,1183,1184,1185,1186,1187,1188,1189,1191]
noncomputable def gT (t:BT) (a:Nat):Obj:=(t.get a).getD default
noncomputable def kT (t:BT) (l:List Nat):Frag:=l.map fun a=>(a,gT t a)
theorem qP {f:Nat->Obj} {a:Nat}:∀{l:List Nat},a ∈ l->(l.map fun a=>(a,f a)).lookup a=some (f a)
 | b::l,h=>by
  rw[map_cons,lookup_cons]
  cases e:a==b with
  | true=>rw[beq_iff_eq.mp e]
  | false=>exact qP ((mem_cons.mp h).resolve_left fun q=>absurd (beq_iff_eq.mpr q) (by rw[e];exact Bool.false_ne_true))
theorem lS {f:Nat->Obj} {a:Nat} {o:Obj}:∀{l:List Nat},(l.map fun a=>(a,f a)).lookup a=some o->a ∈ l∧o=f a
 | b::l,h=>by
  rw[map_cons,lookup_cons]at h
  cases e:a==b with
  | true=>
   rw[e]at h
   rw[beq_iff_eq.mp e]
   exact⟨mem_cons_self,(Option.some.inj h).symm⟩
  | false=>
   rw[e]at h
   exact⟨mem_cons_of_mem _ (lS h).1,(lS h).2⟩
noncomputable def D7 (t:BT) (n:Nat) (a:Nat):Bool:=blt a n&&((t.get a).bind alive).isSome
theorem sM {o o':Obj} (h:alive o=some o'):o'=o:=by
 obtain⟨c,d,dt,sl⟩:=o
 cases dt<;>first|exact no h|exact(Option.some.inj h).symm
noncomputable def nK (o:Obj) (x:Str):Option Value:=match o.data with
 | .dict es _=>nsFind es x
 | _=>none
section
variable {t:BT} {n:Nat} {life:Life} {l:List Nat} {h:Heap}
theorem AQ {a:Nat} (g:l.all (D7 t n)=true) (m:a ∈ l):(absHeap t n life).get? a=some (gT t a):=by
 obtain⟨h1,h2⟩:=bA (all_eq_true.mp g a m)
 unfold gT
 cases e:t.get a with
 | none=>rw[e]at h2;exact bp h2
 | some o=>
  rw[e]at h2
  obtain⟨o',ho⟩:=Option.isSome_iff_exists.mp h2
  have ho:alive o=some o':=ho
  rw[abs_get (le_of_ble_eq_true h1) e,ho,sM ho]
  rfl
theorem GK (g:l.all (D7 t n)=true) (S:∀a o,(absHeap t n life).get? a=some o->h.get? a=some o):(kT t l).In h:=fun a o e=>by
 obtain⟨m,rfl⟩:=lS e
 exact S _ _ (AQ g m)
theorem GL {a:Nat} (h:l.contains a=true):(kT t l).lookup a=some (gT t a):=qP (contains_iff_mem.mp h)
theorem Ch {mg:Str->Option Value} {a:Nat} (K:(kT t l).In h) (m:l.contains a=true) (g:h.Ns a mg) (x:Str):mg x=nK (gT t a) x:=by
 obtain⟨o,es,ep,ho,hd,_,hf⟩:=g
 rw[←Option.some.inj ((K _ _ (GL m)).symm.trans ho)]at hd
 unfold nK
 rw[hd]
 exact(hf x).symm
end
noncomputable def GM (o:Option Obj) (f:Array Value->Bool):Bool:=match o with
 | some o=>o.dict.isNone&&(o.slots.isEmpty&&(o.cls==.type "tuple" && match o.data with
  | .seq vs _=>f vs
  | _=>false))
 | none=>false
theorem AR {o:Option Obj} {f:Array Value->Bool} (h:GM o f=true):∃vs k,o=some ⟨.type "tuple",none,.seq vs k,#[]⟩∧f vs=true:=by
 cases o with
 | none=>exact bp h
 | some o=>
  rcases o with⟨c,d,dt,sl⟩
  have h2:=Z.and_r h
  have h3:=Z.and_r h2
  have h4:=Z.and_r h3
  have a1:d=none:=isNone_iff_eq_none.mp (Z.and_l h)
  have a2:sl=#[]:=Array.isEmpty_iff.mp (Z.and_l h2)
  have a3:c=.type "tuple" :=eq_of_beq (Z.and_l h3)
  clear h h2 h3
  subst a1 a2 a3
  cases dt with
  | seq vs k=>exact⟨vs,k,rfl,h4⟩
  | _=>exact bp h4
mutual
noncomputable def D8 (K:Frag):PV->Value->Bool
 | .none,u=>u==.none
 | .bool b,u=>u==.bool b
 | .int i,u=>match u with
  | .int j _=>i==j
  | _=>false
 | .str x,u=>match u with
  | .str y _=>x==y&&EU x
  | _=>false
 | .tup l,u=>match u with
  | .ref a=>GM (K.lookup a) fun vs=>ble l.length gf&&(l.all aL&&nM K l vs.toList)
  | _=>false
 | _,_=>false
noncomputable def nM (K:Frag):List PV->List Value->Bool
 | [],us=>us.isEmpty
 | p::ps,us=>match us with
  | u::r=>D8 K p u&&nM K ps r
  | []=>false
end
section
variable {G:Wld} {K:Frag} {h:Heap}
mutual
theorem yg (X:K.In h):∀{p:PV} {u:Value},D8 K p u=true->∀n,ca G p u h.get? n
 | .none,u,e,_=>eq_of_beq e
 | .bool b,u,e,_=>eq_of_beq e
 | .int i,u,e,_=>by
  cases u with
  | int j t=>exact⟨t,by rw[show i=j from eq_of_beq e]⟩
  | _=>exact bp e
 | .str x,u,e,_=>by
  cases u with
  | str y t=>
   obtain⟨e1,e2⟩:=bA e
   exact⟨⟨t,by rw[eq_of_beq e1]⟩,e2⟩
  | _=>exact bp e
 | .tup l,u,e,_=>by
  cases u with
  | ref a=>
   obtain⟨vs,k,q,e⟩:=AR e
   exact⟨a,vs,k,rfl,le_of_ble_eq_true (Z.and_l e),Z.and_l (Z.and_r e),X _ _ q,kx X (Z.and_r (Z.and_r e)) _⟩
  | _=>exact bp e
 | .LZ,_,e,_=>bp e
 | .exc,_,e,_=>bp e
 | .lst _,_,e,_=>bp e
 | .dct _ _,_,e,_=>bp e
 | .obj _ _ _,_,e,_=>bp e
 | .fz _,_,e,_=>bp e
 | .pin _ _,_,e,_=>bp e
theorem kx (X:K.In h):∀{l:List PV} {us:List Value},nM K l us=true->∀n,bT G l us h.get? n
 | [],us,e,_=>List.isEmpty_iff.mp e
 | p::ps,us,e,n=>by
  cases us with
  | nil=>exact bp e
  | cons u r=>
   obtain⟨e1,e2⟩:=bA e
   exact⟨u,r,rfl,n,fun _=>none,aR aE,le_refl n,ay,yg X e1 _,kx X e2 _⟩
end
end
theorem AS (P:Params):kAs.all (D7 (gS P) 1272)=true:=by kernel_rfl
noncomputable abbrev kP (P:Params):Frag:=kT (gS P) kAs
theorem Ij {w:World} {h:Heap} (S:nJ w h):(kP w.params).In h:=GK (n:=1272) (life:={}) (AS w.params) S
noncomputable def d6 (k:Nat):Nat:=match fnTab[k]? with
 | some r=>r.a
 | none=>0
noncomputable def iP (k:Nat):Nat:=clTab.getD k 0
noncomputable def sN:PV->Bool
 | .fz _=>true
 | _=>false
noncomputable def AT (K:Frag) (p:PV):Option Value->Bool
 | some u=>D8 K p u
 | none=>false
noncomputable def nN (K:Frag) (o:Obj) (e:Str×GV):Bool:=bk e.1&&match e.2 with
 | .v p=>aL p&&(sN p||AT K p (nK o e.1))
 | .bi f=>(nK o e.1).isNone&&bootBuiltins e.1==some f.val
 | .fn k=>nK o e.1==some (.ref (d6 k))&&keepIn K (.ref (d6 k))
 | .cls k=>nK o e.1==some (.ref (iP k))
theorem yh (P:Params):globL.all (nN (kP P) (gT (gS P) 3))=true:=by kernel_rfl
noncomputable def D9 (d:Data) (f:Array Value->Bool):Bool:=match d with
 | .seq vs _=>f vs
 | _=>false
theorem yi {d:Data} {f:Array Value->Bool} (h:D9 d f=true):∃vs n,d=.seq vs n∧f vs=true:=by
 cases d with
 | seq vs n=>exact⟨vs,n,rfl,h⟩
 | _=>exact bp h
noncomputable def Ci (K:Frag) (v:Value) (l:List PV):Bool:=match v with
 | .none=>l.isEmpty
 | .ref T=>match K.lookup T with
  | some o=>D9 o.data fun vs=>nM K l vs.toList
  | none=>false
 | _=>false
noncomputable def K5 (K:Frag) (r:D6):Bool:=match r.st with
 | .FunctionDef _ a _ _ _ _ sc _ _ _=>
  !sc.isCoroutine&&(!sc.isGenerator&&(sc.kind==.function&&(a.posonlyargs.isEmpty&&(a.kwonlyargs.isEmpty&&(a.vararg.isNone&&(a.kwarg.isNone&&(bV (o0 a sc) &&
   ((o0 a sc).all (fun x=>bk x&&(sc.names.lookup x==some .local||sc.names.lookup x==some .cell))&&(codeIn K r.cd (s r.q)&&(Ci K r.df r.dfl&&(ble r.dfl.length a.args.length&&(!r.io||blt r.dfl.length a.args.length))))))))))))
 | _=>false
theorem AU (P:Params):fnTab.map (fun r=>(kP P).lookup r.a)=fnTab.map (fun r=>some (fn r.st r.q r.df r.cd r.mo)):=by kernel_rfl
theorem AV:IA=fnTab.map fun r=>ao r.io r.dfl r.st:=by kernel_rfl
theorem Ea (P:Params):fnTab.all (K5 (kP P))=true:=by kernel_rfl
theorem yj {α β:Type} {f g:α->β}:∀{l:List α},l.map f=l.map g->∀{k:Nat} {x:α},l[k]?=some x->f x=g x
 | _::_,h,0,_,e=>Option.some.inj e▸(List.cons.inj h).1
 | _::_,h,_+1,_,e=>yj (List.cons.inj h).2 e
theorem AW {G:Wld} {K:Frag} {h:Heap} (X:K.In h) {v:Value} {l:List PV} (e:Ci K v l=true):∃dv,DfltAre h v dv∧bT G l dv h.get? fun _=>none:=by
 cases v with
 | none=>exact⟨[],.inl ⟨rfl,rfl⟩,by rw[List.isEmpty_iff.mp e];rfl⟩
 | ref T=>
  have e:(match K.lookup T with
   | some o=>D9 o.data fun vs=>nM K l vs.toList
   | none=>false)=true:=e
  cases q:K.lookup T with
  | none=>rw[q]at e;exact bp e
  | some o=>
   rw[q]at e
   obtain⟨vs,n,hd,e⟩:=yi e
   exact⟨_,.inr ⟨T,o,vs,n,rfl,X _ _ q,hd,rfl⟩,kx X e _⟩
 | _=>exact bp e
noncomputable def GN (K:Frag) (C:Addr) (f:Str):Bool:=(match findIn K (.ref C) f with
 | some x=>noGet K x
 | none=>false)&&takerIn K C f==some none
noncomputable def Eb (K:Frag) (C:Addr) (m:Str) (k:Nat):Bool:=findIn K (.ref C) m==some (some (.ref (d6 k)))&&(typeIn K (.ref (d6 k))==some (.type "function")&&keepIn K (.ref (d6 k)))
noncomputable def GO (K:Frag) (C:Addr) (d:zG):Bool:=hasDictIn K C&&(plainGet K C "x" && (findIn K (.ref C) "__setattr__" == some (some (.builtin "object.__setattr__"))&&(plainOver K C&&(d.fields.all (GN K C) &&
 (makesIn K C&&(keepIn K (.ref C)&&(Eb K C "__init__" d.init&&d.meths.all fun m=>Eb K C m.1 m.2&&!d.fields.contains m.1)))))))
noncomputable def cl_pairs:List (Nat×zG):=clTab.zip clsL
theorem AX (P:Params):cl_pairs.all (fun q=>GO (kP P) q.1 q.2)=true:=by kernel_rfl
structure AY (G:bB):Prop where
 T:G.T=TT
 ad:G.ad=d6
 cls:G.cls=iP
 mg:∀x,G.mg x=nK (gT (gS G.w.params) 3) x
 K:G.K=kP G.w.params
theorem vK {α:Type} (l:List α) {β:Type} {f:α->β} (r:List β):l.map f=(l.map f++r).take l.length:=by rw[←length_map (f:=f),List.take_left]
theorem yl {α:Type} (l:List α) {β:Type} {f:α->β} (r:List β):l.length<=(l.map f++r).length:=by
 rw[length_append,length_map]
 exact le_add_right _ _
theorem GP {io c:Bool} (h:io=true) (e:(!io||c)=true):c=true:=by rw[h]at e;exact e
section
variable {G:bB} (H:AY G)
include H
omit H in
theorem AZ {k a:Nat} {q:String} {df cd:Value} {mo:Value} {io:Bool} {dfl:List PV} {nm ar b dl rt tp sc ts bd p} (e:K5 G.K ⟨a,.FunctionDef nm ar b dl rt tp sc ts bd p,q,df,cd,mo,io,dfl⟩=true)
  (lk:G.K.lookup (G.ad k)=some (fn (.FunctionDef nm ar b dl rt tp sc ts bd p) q df cd mo)):xI G k (ao io dfl (.FunctionDef nm ar b dl rt tp sc ts bd p)) {vD (.FunctionDef nm ar b dl rt tp sc ts bd p) q with globals:=3,defaults:=df,code:=cd,pyModule:=mo}:=by
 have e2:=Z.and_r e
 have e3:=Z.and_r e2
 have e4:=Z.and_r e3
 have e5:=Z.and_r e4
 have e6:=Z.and_r e5
 have e7:=Z.and_r e6
 have e8:=Z.and_r e7
 have e9:=Z.and_r e8
 have ea:=Z.and_r e9
 have eb:=Z.and_r ea
 have ec:=Z.and_r eb
 exact⟨⟨_,_,_,lk⟩,Z.and_l ea,rfl,rfl,rfl,rfl,Bool.not_inj ((Z.and_l e).trans rfl),Bool.not_inj ((Z.and_l e2).trans rfl),eq_of_beq (Z.and_l e3),xH (List.isEmpty_iff.mp (Z.and_l e4)) (List.isEmpty_iff.mp (Z.and_l e5)) (isNone_iff_eq_none.mp (Z.and_l e6)) (isNone_iff_eq_none.mp (Z.and_l e7)),vK _ _,rfl,yl _ _,Z.and_l e8,
  fun x hx=>(fun h=>⟨Z.and_l h,(or_eq_true_iff.mp (Z.and_r h)).imp eq_of_beq eq_of_beq⟩) (all_eq_true.mp (Z.and_l e9) x hx),AW G.X (Z.and_l eb),le_of_ble_eq_true (Z.and_l ec),fun h=>le_of_ble_eq_true (GP h (Z.and_r ec))⟩
theorem ym {k:Nat} {r:D6} (hr:fnTab[k]?=some r):xI G k (ao r.io r.dfl r.st) {vD r.st r.q with globals:=3,defaults:=r.df,code:=r.cd,pyModule:=r.mo}:=by
 have e:=all_eq_true.mp (Ea G.w.params) r (mem_of_getElem? hr)
 have lk:=yj (AU G.w.params) hr
 have ea:G.ad k=r.a:=by rw[H.ad];unfold d6;rw[hr]
 rw[←H.K]at e lk
 rw[←ea]at lk
 clear hr ea H
 rcases r with⟨a,st,q,df,cd,mo,io,dfl⟩
 cases st with
 | FunctionDef=>exact AZ e lk
 | _=>exact bp e
theorem A0:xX G:=fun k d hd=>by
 rw[H.T]at hd
 have hd:IA[k]?=some d:=hd
 rw[AV,getElem?_map]at hd
 obtain⟨r,hr,rfl⟩:=map_eq_some_iff.mp hd
 exact⟨_,ym H hr⟩
end
theorem yn {c:Nat} {cd:zG} (h:clsL[c]?=some cd) (P:Params):GO (kP P) (iP c) cd=true:=by
 have l:clTab.length=clsL.length:=by kernel_rfl
 have hc:=(List.getElem?_eq_some_iff.mp h).1
 have z:cl_pairs[c]?=some (iP c,cd):=by
  unfold cl_pairs iP
  rw[List.getElem?_zip_eq_some]
  refine⟨?_,h⟩
  rw[getD_eq_getElem?_getD,List.getElem?_eq_getElem (l▸hc)]
  rfl
 exact all_eq_true.mp (AX P) _ (mem_of_getElem? z)
theorem Ec {K:Frag} {C:Addr} {f:Str} (h:GN K C f=true):(∃attr,findIn K (.ref C) f=some attr∧noGet K attr=true)∧takerIn K C f=some none:=by
 refine⟨?_,eq_of_beq (Z.and_r h)⟩
 have h1:=Z.and_l h
 cases q:findIn K (.ref C) f with
 | none=>rw[q]at h1;exact bp h1
 | some x=>rw[q]at h1;exact⟨x,rfl,h1⟩
theorem Ed {P:Params} {c:Nat} {cd:zG} (h:TT.cls c=some cd):pW (kP P) (iP c) cd.fields:=by
 have e:=yn h P
 have e2:=Z.and_r e
 have e3:=Z.and_r e2
 have e4:=Z.and_r e3
 exact⟨Z.and_l e,Z.and_l e2,eq_of_beq (Z.and_l e3),Z.and_l e4,fun f hf=>Ec (all_eq_true.mp (Z.and_l (Z.and_r e4)) f hf)⟩
theorem yq {P:Params} {C:Addr} {m:Str} {k:Nat} (h:Eb (kP P) C m k=true):findIn (kP P) (.ref C) m=some (some (.ref (d6 k)))∧typeIn (kP P) (.ref (d6 k))=some (.type "function")∧keepIn (kP P) (.ref (d6 k))=true:=
 ⟨eq_of_beq (Z.and_l h),eq_of_beq (Z.and_l (Z.and_r h)),Z.and_r (Z.and_r h)⟩
theorem gL {α:Type} {x:Str} {a:α}:∀{l:List (Str×α)},bD x l=some a->(x,a) ∈ l
 | (y,b)::l,h=>by
  rw[alook_eq,lookup_cons]at h
  cases e:x==y with
  | true=>rw[e]at h;rw[←eq_of_beq e,←Option.some.inj h];exact mem_cons_self
  | false=>rw[e]at h;exact mem_cons_of_mem _ (gL (alook_eq.trans h))
theorem A2 {G:Wld} {e:Nat}:∀{l:List (String×Nat×Value)},(l.map fun q=>s q.1).Nodup->wM G (oD (.type "dict") e (l.map fun q=>en G.w.params q.1 q.2.1 q.2.2)) ((l.map fun q=>s q.1).zip (l.map (·.2.2))):=fun{l} nd=>by
 refine⟨_,_,⟨rfl,rfl,rfl⟩,rfl,fun x hx=>?_,?_,?_⟩
 ·obtain⟨q,_,rfl⟩:=mem_map.mp (Array.mem_toList_iff.mpr hx)
  exact⟨s q.1,beq_self_eq_true (s q.1),rfl⟩
 ·show Pairs _ (l.map _) _
  clear nd
  induction l with
  | nil=>exact .nil
  | cons q l ih=>exact .cons (beq_self_eq_true (s q.1)) rfl ih
 ·rw[List.map_fst_zip (by rw[length_map,length_map];exact Nat.le_refl _)]
  exact nd
noncomputable def jamoL:List (String×Nat×Value):=[("JL",1304,vr 664),("JV",1309,vr 665),("H2",1312,vr 666),("JT",1315,vr 667),("H3",1317,vr 668)]
noncomputable def yr:List PV:=[(.tup [(.str (s "JL")),(.str (s "JV")),(.str (s "H2")),(.str (s "H3"))]),(.tup [(.str (s "JV")),(.str (s "JT"))]),(.tup [(.str (s "JV")),(.str (s "JT"))]),(.tup [(.str (s "JT"))]),(.tup [(.str (s "JT"))])]
theorem vL:globL.filter (fun e=>match e.2 with
  | .v p=>sN p
  | _=>false)=[(s "LINE_JAMO",.v (.fz (.dct (jamoL.map fun q=>s q.1) yr)))]:=by kernel_rfl
theorem A7 (P:Params):nK (gT (gS P) 3) (s "LINE_JAMO")=some (.ref 663):=by kernel_rfl
theorem yu (P:Params):(kP P).lookup 663=some (oD (.type "dict") 5 (jamoL.map fun q=>en P q.1 q.2.1 q.2.2)):=by kernel_rfl
theorem yv (P:Params):nM (kP P) yr (jamoL.map (·.2.2))=true:=by kernel_rfl
theorem Ba:(jamoL.map fun q=>s q.1).Nodup:=by decide +kernel
set_option tactic.hygienic true in
theorem tP {Z:PH} {a:Addr} {o:Obj} (h:Z a=some o):PH.le (PH.one a o) Z:=fun b x e=>by
 unfold PH.one at e
 split at e
 ·rename_i q;rw[q];exact h.trans e
 ·exact no e
section
variable {G:bB} (H:AY G)
include H
theorem Bb (n:PH):ca G.toWld (.fz (.dct (jamoL.map fun q=>s q.1) yr)) (.ref 663) G.b₀.get? n:=by
 have X:=G.X
 rw[H.K]at X
 have o:=X _ _ (yu G.w.params)
 exact⟨PH.one 663 _,tP o,663,_,jamoL.map (·.2.2),rfl,A2 Ba,rfl,rfl,PH.one 663 _,fun _=>none,aR aE,le_refl _,ay,if_pos rfl,kx X (yv G.w.params) _⟩
theorem Ee {x:Str} {p:PV} (m:(x,GV.v p) ∈ globL) (e:(sN p||AT (kP G.w.params) p (nK (gT (gS G.w.params) 3) x))=true):∃u,G.mg x=some u∧∀n,ca G.toWld p u G.b₀.get? n:=by
 have X:=G.X
 rw[H.K]at X
 cases q:sN p with
 | true=>
  have f:(x,GV.v p) ∈ globL.filter (fun e=>match e.2 with
   | .v p=>sN p
   | _=>false):=mem_filter.mpr ⟨m,q⟩
  rw[vL]at f
  cases mem_singleton.mp f
  exact⟨_,(H.mg _).trans (A7 _),Bb H⟩
 | false=>
  rw[H.mg]
  have e:=(or_eq_true_iff.mp e).resolve_left (by rw[q];exact Bool.false_ne_true)
  generalize nK (gT (gS G.w.params) 3) x=z at e
  cases z with
  | none=>exact bp e
  | some u=>exact⟨u,rfl,yg X e⟩
theorem gM {x:Str} {g:GV} (h:G.T.glob x=some g):(x,g) ∈ globL∧nN (kP G.w.params) (gT (gS G.w.params) 3) (x,g)=true:=by
 rw[H.T]at h
 exact⟨gL h,all_eq_true.mp (yh G.w.params) _ (gL h)⟩
omit H in
theorem Bc {K:Frag} {o:Obj} {x:Str} {p:PV} (h:nN K o (x,.v p)=true):A3 (bk x=true) (aL p=true) ((sN p||AT K p (nK o x))=true):=
 have h:(bk x&&(aL p&&(sN p||AT K p (nK o x))))=true:=h
 ⟨Z.and_l h,Z.and_l (Z.and_r h),Z.and_r (Z.and_r h)⟩
omit H in
theorem Bd {K:Frag} {o:Obj} {x:Str} {f:BI} (h:nN K o (x,.bi f)=true):A3 (bk x=true) (nK o x=none) (bootBuiltins x=some f.val):=
 have h:(bk x&&((nK o x).isNone&&bootBuiltins x==some f.val))=true:=h
 ⟨Z.and_l h,isNone_iff_eq_none.mp (Z.and_l (Z.and_r h)),eq_of_beq (Z.and_r (Z.and_r h))⟩
omit H in
theorem tQ {K:Frag} {o:Obj} {x:Str} {k:Nat} (h:nN K o (x,.fn k)=true):A3 (bk x=true) (nK o x=some (.ref (d6 k))) (keepIn K (.ref (d6 k))=true):=
 have h:(bk x&&(nK o x==some (.ref (d6 k))&&keepIn K (.ref (d6 k))))=true:=h
 ⟨Z.and_l h,eq_of_beq (Z.and_l (Z.and_r h)),Z.and_r (Z.and_r h)⟩
omit H in
theorem Be {K:Frag} {o:Obj} {x:Str} {k:Nat} (h:nN K o (x,.cls k)=true):bk x=true∧nK o x=some (.ref (iP k)):=
 have h:(bk x&&(nK o x==some (.ref (iP k))))=true:=h
 ⟨Z.and_l h,eq_of_beq (Z.and_r h)⟩
theorem Bf:GlobOk G where
 v x p h:=(fun a b=>⟨a.1,a.2,Ee H b a.3⟩) (Bc (gM H h).2) (gM H h).1
 b x f h:=(fun a=>⟨a.1,(H.mg x).trans a.2,a.3⟩) (Bd (gM H h).2)
 f x k h:=(fun a=>⟨a.1,(H.mg x).trans (a.2.trans (by rw[H.ad]))⟩) (tQ (gM H h).2)
 c x k h:=(fun a=>⟨a.1,(H.mg x).trans (a.2.trans (by rw[H.cls]))⟩) (Be (gM H h).2)
omit H in
theorem Bg {c:Nat} {m:Str} {k:Nat} {cd:zG} (hc:TT.cls c=some cd) (hm:bD m cd.meths=some k):A5 (plainGet (kP G.w.params) (iP c) "x" = true) (findIn (kP G.w.params) (.ref (iP c)) m=some (some (.ref (d6 k)))) (typeIn (kP G.w.params) (.ref (d6 k))=some (.type "function")) (keepIn (kP G.w.params) (.ref (d6 k))=true) (m ∉ cd.fields):=by
 have e:=Z.and_r (yn hc G.w.params)
 have h:=all_eq_true.mp (Z.and_r (Z.and_r (Z.and_r (Z.and_r (Z.and_r (Z.and_r (Z.and_r e))))))) _ (gL hm)
 have h1:=yq (Z.and_l h)
 exact⟨Z.and_l e,h1.1,h1.2.1,h1.2.2,fun hm=>by
  have h2:=Z.and_r h
  rw[contains_iff_mem.mpr hm]at h2
  exact bp h2⟩
omit H in
theorem Ef {c:Nat} {cd:zG} (h:TT.cls c=some cd):A4 (makesIn (kP G.w.params) (iP c)=true) (findIn (kP G.w.params) (.ref (iP c)) "__init__" = some (some (.ref (d6 cd.init)))) (typeIn (kP G.w.params) (.ref (d6 cd.init))=some (.type "function")) (keepIn (kP G.w.params) (.ref (iP c))=true):=by
 have e:=Z.and_r (Z.and_r (Z.and_r (Z.and_r (Z.and_r (yn h G.w.params)))))
 have e7:=Z.and_r e
 have h1:=yq (Z.and_l (Z.and_r e7))
 exact⟨Z.and_l e,h1.1,h1.2.1,Z.and_l e7⟩
theorem Eg:cX G:=by
 refine⟨Bf H,fun x k h=>?_,fun c m k h=>?_,fun c cd h=>?_⟩
 ·rw[H.K,H.ad]
  exact(tQ (gM H h).2).3
 ·rw[H.T]at h
  obtain⟨cd,hc,hm⟩:=bind_eq_some_iff.mp h
  have M:=Bg (G:=G) hc hm
  rw[H.K,H.ad,H.cls,H.T]
  exact⟨M.1,M.2,M.3,M.4,fun cd' h'=>Option.some.inj (hc.symm.trans h')▸M.5⟩
 ·rw[H.T]at h
  rw[H.K,H.ad,H.cls]
  exact Ef h
end
theorem Bh (P:Params):(kP P).lookup 52=some (oK "BadCode" [(vr 39)] [(vr 52),(vr 39),(vy "Exception"),(vy "BaseException"),(vy "object")] 51 "BadCode" [] [some (vr 43),none,some (vs "BadCode" 227),some (vs "BadCode" 235),some (vb "Exception.__new__"),some vt]):=by kernel_rfl
noncomputable def Jf (K:Frag):Bool:=findIn K (.ref 52) "__setattr__" == some (some (.builtin "object.__setattr__"))&&(takerIn K 52 "told" == some none&&(keepIn K (.ref 52)&&(findIn K (.ref 52) "__init__" == some (some (.ref (d6 0)))&&typeIn K (.ref (d6 0))==some (.type "function"))))
theorem Bi (P:Params):Jf (kP P)=true:=by kernel_rfl
theorem yw (P:Params):nK (gT (gS P) 3) (s "BadCode")=some (.ref 52):=by kernel_rfl
theorem Eh:∃p1 p2 p3 p4,(ao true [.none] (aA 3 0)).body=[.Assign [.Attribute (.Name "self" p1) "told" p2] (.Name "told" p3) p4]:=⟨_,_,_,_,rfl⟩
theorem vM:(ao true [.none] (aA 3 0)).names=(["self", "told"]:List Str):=by kernel_rfl
theorem Ei:(ao true [.none] (aA 3 0)).np=2:=by kernel_rfl
theorem yx:((ao true [.none] (aA 3 0)).sc.lookup ("self" : Str)==some .local&&(ao true [.none] (aA 3 0)).sc.lookup ("told" : Str)==some .local)=true:=by kernel_rfl
section
variable {G:bB} (H:AY G) (hb:G.bad=52)
include H hb
theorem Ej:lQ G:=by
 have e:=Bi G.w.params
 have e2:=Z.and_r e
 have e3:=Z.and_r e2
 have e4:=Z.and_r e3
 obtain⟨p1,p2,p3,p4,hbd⟩:=Eh
 have lk:=Bh G.w.params
 have F:=ym H (k:=0) (r:=⟨36,(aA 3 0), "UniError.__init__",(vr 29),(vr 35),(vs "unicore.base" 194),true,[.none]⟩) rfl
 refine⟨?_,?_,?_,?_,?_,0,_,_,p1,p2,p3,p4,F,?_,?_,vM,Ei,hbd,eq_of_beq (Z.and_l yx),eq_of_beq (Z.and_r yx)⟩
 ·rw[H.K,hb]
  exact⟨39,_,_,_,_,_,_,_,_,_,_,_,_,_,_,lk⟩
 ·rw[H.K,hb];exact eq_of_beq (Z.and_l e)
 ·rw[H.K,hb];exact eq_of_beq (Z.and_l e2)
 ·rw[H.K,hb];exact Z.and_l e3
 ·rw[hb,H.mg,H.T];exact⟨by kernel_rfl,yw _⟩
 ·rw[H.K,hb,H.ad];exact eq_of_beq (Z.and_l e4)
 ·rw[H.K,H.ad];exact eq_of_beq (Z.and_r e4)
end
theorem tR {R:WRecords}:∀{xs:List WData},WShape.hasItems R xs .int=true->∃l:List Int,xs=l.map WData.int
 | [],_=>⟨[],rfl⟩
 | x::xs,h=>by
  obtain⟨h1,h2⟩:=bA h
  obtain⟨l,rfl⟩:=tR h2
  cases x with
  | int i=>exact⟨i::l,rfl⟩
  | _=>exact bp h1
theorem qQ {G:Wld} {P:Params} {h:Heap} {Z:PH}:∀{l:List Int} {vs:List Value},WellAll P h vs (l.map .int)->bT G (l.map .int) vs Z fun _=>none
 | [],vs,w=>by
  cases w
  rfl
 | i::l,vs,w=>by
  cases w with
  | cons a b=>
   cases a
   exact⟨_,_,rfl,_,_,aE,ay,ay,⟨_,rfl⟩,qQ b⟩
theorem Bj {G:Wld} {P:Params} {h:Heap} {v:Value} {l:List Int} (hl:l.length<=63) (w:Well P h v (.list (l.map .int))):∃b,v=.ref b∧∀n,ca G (.fz (.lst (l.map .int))) v h.get? n:=by
 cases w with
 | list hb ha=>
  refine⟨_,rfl,fun n=>⟨PH.one _ _,tP hb,_,_,0,rfl,?_,?_,PH.one _ _,fun _=>none,aR aE,le_refl _,ay,if_pos rfl,qQ ha⟩⟩
  ·rw[length_map];exact Nat.le_trans hl (by decide)
  ·rw[List.all_map];exact all_eq_true.mpr fun _ _=>rfl
theorem Ek {xs:List WData} (h:LW.row.toRowW.pre.holds LW.row.toRowW.records {args:=[.list xs]}=true):xs.length<=63:=by
 have h:(WTm.and (.not (.lt (.lit (.int 63)) (.len (.arg 0)))) (.lit (.bool true))).holds [] {args:=[.list xs]}=true:=h
 w_cond h
 exact(ba 0x3f2200100033f22577) (by assumption)
noncomputable def GQ {w:World} {mg mb:Str->Option Value} {h:Heap} (Y:nJ w h) (T:TopRead dC ez mg mb h):bB where
 prog:=pw
 w:=w
 T:=TT
 cls:=iP
 ad:=d6
 bad:=52
 K:=kP w.params
 p:=dC
 loose:=ez
 mg:=mg
 mb:=mb
 b₀:=h
 X:=Ij Y
 top:=T
 sys:=⟨_,Ij Y _ _ (GL (a:=1) rfl)⟩
 clsok:=fun c cd e=>Ed e
theorem Bk {w:World} {mg mb:Str->Option Value} {h:Heap} (Y:nJ w h) (T:TopRead dC ez mg mb h):AY (GQ Y T):=
 ⟨rfl,rfl,rfl,fun x=>Ch (Ij Y) rfl T.g x,rfl⟩
theorem El (P:Params):nK (gT (gS P) 3) lawD.name=some (.ref (d6 123)):=by kernel_rfl
theorem yy {W:Wld} {h:Heap} {p:PV} {u:Value} (o:∀n,ca W p u h.get? n):St h (sp (aq W [p] [u]) (sp (tH []) (tH []))) h:=
 ⟨h.get?,fun _=>none,⟨_,_,aE,ay,ay,⟨u,[],rfl,_,_,aE,ay,ay,o _,rfl⟩,_,_,aE,ay,ay,fun q hq=>absurd hq not_mem_nil,fun q hq=>absurd hq not_mem_nil⟩,fun _ _ e=>e,fun _ _ e=>e,fun _ _ e=>no e⟩
theorem walk_ok (law:∀l:List Int,l.length<=63->aW TT 60 123 [.fz (.lst (l.map .int))] fun r _=>r=.bool true):WalkO dC ez (XL dC []) nJ LW.row.toRowW lawD [] fun f vs=>PySem.call f vs:=by
 intro w s₀ s₁ mg mb G Y a o pm cd doc dV kV ho hd hcd hD hmg hg args vals as hpre hlay hrd hwl hlo
 obtain⟨hsh,hcond⟩:=pre_splitW hpre
 have hsh:WShape.hasAll [] args [.list .int]=true:=hsh
 obtain⟨d,r,rfl,hd1,hr⟩:=hasAllW_cons hsh
 cases hasAllW_nil hr
 obtain⟨xs,rfl,hd2⟩:=hasW_list hd1
 ·obtain⟨l,rfl⟩:=tR hd2
  have hl:l.length<=63:=by have:=Ek hcond;rwa [length_map]at this
  cases hwl with
  | cons w1 w2=>
   cases w2
   obtain⟨b,rfl,hw⟩:=Bj (G:=(GQ Y (topRead_of G.T)).toWld) hl w1
   refine enter_call (c:=LW.row.toRowW.claim) ?_
   have e:some (Value.ref (d6 123))=some (Value.ref a):=((Ch (Ij Y) rfl G.T.g _).trans (El w.params)).symm.trans hmg
   cases e
   have H:=Bk Y (topRead_of G.T)
   refine xY (Eg H) (Ej H rfl) (A0 H) 60 123 [.fz (.lst (l.map .int))] [.ref b] _ callerA s₁ [] (tH []) _ (law l hl) ⟨rfl,by decide,by decide,⟨[],rfl,fun _ h=>absurd h not_mem_nil⟩,fun _ h=>absurd h not_mem_nil⟩ (yy hw) fun v o u h tk hP hS=>?_
   cases hP
   obtain⟨_,_,hu,_⟩:=hS.fst
   have hu:u=.bool true:=hu
   cases hu
   refine GoodW.toG ⟨.inl ⟨.bool true,.bool true,[],rfl,fun _=>rfl,.bool _,?_,fun _=>⟨List.nodup_nil,fun _ h=>absurd h not_mem_nil⟩⟩,hS.base,rfl,hg⟩
   have hv:(WTm.eq .res (.lit (.bool true))).value [] {args:=[.list (l.map .int)],res:=some (.bool true),after:=[.list (l.map .int)]}=some (.bool true):=by simp[WTm.value];decide +kernel
   exact postW_of (r:=LW.row.toRowW) (X:=true) rfl hv rfl
end
end Mine.Internal
namespace Mine.Internal.P
section
open PySem
section
theorem av {b:Bool} {k:Om} (h:b=true) (q:k):bK b k:=(congrArg (fun b=>bK b k) h).mpr q
theorem aU {l:List PV} (h:l.length<1000):cA l=true:=blt_eq.mpr (Nat.lt_trans h (by decide))
theorem mm {α:Type} {g:α->PV} (h:∀x,af (g x)=g x) (l:List α):(l.map g).map af=l.map g:=by
 rw[map_map]
 exact map_congr_left fun x zz=>h x
theorem Jg {a b:Om} (e:a=b) (h:b):a:=by cases e;exact h
noncomputable def mQ:List Bool->Om->Om
 | [],k=>k
 | b::r,k=>bK b (mQ r k)
theorem tS:∀{l:List Bool} {k:Om},l.all id=true->k->mQ l k
 | [],_,_,q=>q
 | _::_,_,h,q=>have h:=bA h;av h.1 (tS h.2 q)
theorem ee {α:Type} {g:α->PV}:∀(l:List α) (k:Nat),dT k (l.map g)=(l.zipIdx k).map fun q=>.tup [.int q.2,g q.1]
 | [],_=>rfl
 | _::r,k=>congrArg (_::·) (ee r (k+1))
theorem em {α:Type} {g:α->PV} (h:∀x,af (g x)=g x) (l:List α) (k:Nat):dT k ((l.map g).map af)=(l.zipIdx k).map fun q=>.tup [.int q.2,g q.1]:=
 (congrArg (dT k) (mm h l)).trans (ee l k)
theorem lT {α β:Type} {g:α->PV} {h:β->PV}:∀(l:List α) (m:List β),gb (l.map g) (m.map h)=(l.zip m).map fun q=>.tup [g q.1,h q.2]
 | [],_=>rfl
 | _::_,[]=>rfl
 | _::r,_::q=>congrArg (_::·) (lT r q)
theorem eA (a:Int):∀n:Nat,aZ a 1 n=(range' 0 n).map fun i:Nat=>.int (a+i):=by
 have key:∀(n k:Nat),aZ (a+k) 1 n=(range' k n).map fun i:Nat=>PV.int (a+i):=by
  intro n
  induction n with
  | zero=>exact fun zz=>rfl
  | succ n ih=>
   intro k
   have:=ih (k+1)
   show PV.int (a+k)::aZ (a+k+1) 1 n=_
   rw[show a+(k:Int)+1=a+((k+1:Nat):Int)by exact(mE 0x1100430041100300446),this]
   rfl
 exact fun n=>by have:=key n 0;simpa using this
noncomputable def ll {α:Type} (g:α->PV) (l:List α):PV:=.lst (l.map g)
noncomputable def fl {α:Type} (g:α->PV) (l:List α):PV:=.fz (ll g l)
theorem ae {α:Type} {o:Option α} {a:α} {k:α->Om} (h:o=some a) (q:k a):aP o k:=by
 cases h
 exact q
noncomputable def dU {τ α β:Type} (out:τ->α->Option β) (nx:τ->α->τ):τ->List α->List β
 | _,[]=>[]
 | t,x::r=>match out t x with
  | none=>dU out nx (nx t x) r
  | some y=>y::dU out nx (nx t x) r
theorem yz {τ α β:Type} {out:τ->α->Option β} {nx:τ->α->τ} {t:τ}:dU out nx t []=[]:=rfl
theorem lU {τ α β:Type} {out:τ->α->Option β} {nx:τ->α->τ} {t:τ} {x:α} {r:List α}:dU out nx t (x::r)=match out t x with
  | none=>dU out nx (nx t x) r
  | some y=>y::dU out nx (nx t x) r:=rfl
noncomputable def wc {β:Type} (v:β->PV) (a:List PV):Option β->List PV
 | none=>a
 | some y=>a++[v y]
noncomputable def gd {β:Type} (v:β->PV) (a:List PV):Option β->List Bool
 | none=>[]
 | some y=>[cA (a++[v y])]
theorem Em {τ ι α β:Type} (v:β->PV) (out:τ->α->Option β) (nx:τ->α->τ) (jn:τ->α->ι->ι) (E:List PV->τ->ι->Env) {g:α->PV} {bind:PV->Env->Option Env} {body:M Fl} {P:Fl->Env->Om}
  (hb:∀x a t j (K:Fl->Env->Om),mQ (gd v a (out t x)) (K .nxt (E (wc v a (out t x)) (nx t x) (jn t x j)))->aP (bind (g x) (E a t j)) fun ρ=>body ρ K):
  ∀(l:List α) (a:List PV) (t:τ) (j:ι),a.length+l.length<1000->(∀j,P .nxt (E (a++(dU out nx t l).map v) (l.foldl nx t) j))->a9 bind body (l.map g) (E a t j) P
 | [],a,t,j,_,hP=>by have:=hP j;rwa [yz,map_nil,append_nil]at this
 | x::r,a,t,j,h,hP=>by
  refine hb x a t j _ ?_
  have ih:=Em v out nx jn E hb r (wc v a (out t x)) (nx t x) (jn t x j) (P:=P)
  rw[lU]at hP
  cases q:out t x with
  | none=>
   rw[q]at hP ih
   exact ih (by simp[wc]at h⊢;exact(az 0x3e8321000423e8321110400427) h) hP
  | some y=>
   rw[q]at hP ih
   refine av (aU (by simp at h⊢;exact(az 0x3e8321100423e8321110400427) h)) (ih (by simp[wc]at h⊢;exact(az 0x3e8321011004423e8321110400427) h) fun j=>?_)
   show P .nxt (E ((a++[v y])++_) _ _)
   rw[append_assoc]
   exact hP j
theorem Jh {τ ι α β:Type} {L:List PV} {l:List α} {g:α->PV} (hL:L=l.map g) (v:β->PV) (out:τ->α->Option β) (nx:τ->α->τ) (jn:τ->α->ι->ι) (E:List PV->τ->ι->Env) (a:List PV) (t:τ) (j:ι) {bind:PV->Env->Option Env} {body:M Fl} {P:Fl->Env->Om}
  (hl:a.length+l.length<1000)
  (hb:∀x a t j (K:Fl->Env->Om),mQ (gd v a (out t x)) (K .nxt (E (wc v a (out t x)) (nx t x) (jn t x j)))->aP (bind (g x) (E a t j)) fun ρ=>body ρ K)
  (hP:∀j,P .nxt (E (a++(dU out nx t l).map v) (l.foldl nx t) j)):a9 bind body L (E a t j) P:=by
 cases hL
 exact Em v out nx jn E hb l a t j hl hP
theorem Bl {τ ι α β:Type} {L:List PV} {l:List α} {g:α->PV} (hL:L=l.map g) (v:β->PV) (out:τ->α->Option β) (nx:τ->α->τ) (jn:τ->α->ι->ι) (E:List PV->τ->ι->Env) (t:τ) (j:ι) {bind:PV->Env->Option Env} {body:M Fl} {P:Fl->Env->Om}
  (hl:l.length<1000)
  (hb:∀x a t j (K:Fl->Env->Om),mQ (gd v a (out t x)) (K .nxt (E (wc v a (out t x)) (nx t x) (jn t x j)))->aP (bind (g x) (E a t j)) fun ρ=>body ρ K)
  (hP:∀j,P .nxt (E ((dU out nx t l).map v) (l.foldl nx t) j)):a9 bind body L (E [] t j) P:=by
 cases hL
 exact Em v out nx jn E hb l [] t j (by simpa using hl) hP
theorem GR {τ ι α β:Type} {l:List α} {g:α->PV} (hg:∀x,af (g x)=g x) (v:β->PV) (out:τ->α×Nat->Option β) (nx:τ->α×Nat->τ) (jn:τ->α×Nat->ι->ι) (E:List PV->τ->ι->Env) (t:τ) (j:ι) {bind:PV->Env->Option Env} {body:M Fl} {P:Fl->Env->Om} {k:Nat}
  (hl:l.length<1000)
  (hb:∀x (i:Nat) a t j (K:Fl->Env->Om),mQ (gd v a (out t (x,i))) (K .nxt (E (wc v a (out t (x,i))) (nx t (x,i)) (jn t (x,i) j)))->aP (bind (.tup [.int i,g x]) (E a t j)) fun ρ=>body ρ K)
  (hP:∀j,P .nxt (E ((dU out nx t (l.zipIdx k)).map v) ((l.zipIdx k).foldl nx t) j)):a9 bind body (dT k ((l.map g).map af)) (E [] t j) P:=
 Bl (em hg l k) v out nx jn E t j (by rwa [length_zipIdx]) (fun x=>hb x.1 x.2) hP
noncomputable def cat {β:Type} (v:β->PV) (a:List PV) (y:β):List PV:=a++[v y]
theorem Cj {τ ι α β:Type} (v1 v2 v3:β->PV) (out:τ->α->β) (nx:τ->α->τ) (jn:τ->α->ι->ι) (E:List PV->List PV->List PV->τ->ι->Env) (m:Nat) {g:α->PV} {bind:PV->Env->Option Env} {body:M Fl} {P:Fl->Env->Om}
  (hb:∀x a b c t j (K:Fl->Env->Om),mQ ([cA (cat v1 a (out t x)),cA (cat v2 b (out t x)),cA (cat v3 c (out t x))].take m) (K .nxt (E (cat v1 a (out t x)) (cat v2 b (out t x)) (cat v3 c (out t x)) (nx t x) (jn t x j)))->aP (bind (g x) (E a b c t j)) fun ρ=>body ρ K):
  ∀(l:List α) (a b c:List PV) (t:τ) (j:ι),a.length+l.length<1000->b.length+l.length<1000->c.length+l.length<1000 ->
   (∀j,P .nxt (E (a++(dU (fun t x=>some (out t x)) nx t l).map v1) (b++(dU (fun t x=>some (out t x)) nx t l).map v2) (c++(dU (fun t x=>some (out t x)) nx t l).map v3) (l.foldl nx t) j))->a9 bind body (l.map g) (E a b c t j) P
 | [],a,b,c,t,j,_,_,_,hP=>by have:=hP j;rwa [yz,map_nil,map_nil,map_nil,append_nil,append_nil,append_nil]at this
 | x::r,a,b,c,t,j,h1,h2,h3,hP=>by
  have k (v:β->PV) {a:List PV} (h:a.length+(x::r).length<1000):(cat v a (out t x)).length+r.length<1000:=by simp[cat]at h⊢;exact(az 0x3e8321011004423e8321110400427) h
  have q (v:β->PV) {a:List PV} (h:a.length+(x::r).length<1000):cA (cat v a (out t x))=true:=aU (lt_of_le_of_lt (le_add_right _ _) (k v h))
  refine hb x a b c t j _ (tS ?_ (Cj v1 v2 v3 out nx jn E m hb r _ _ _ _ _ (k v1 h1) (k v2 h2) (k v3 h3) fun j=>?_))
  ·refine all_eq_true.mpr fun y hy=>?_
   have hy:=List.mem_of_mem_take hy
   rw[q v1 h1,q v2 h2,q v3 h3]at hy
   simp at hy
   exact hy
  ·show P .nxt (E ((a++[v1 _])++_) ((b++[v2 _])++_) ((c++[v3 _])++_) _ _)
   rw[append_assoc,append_assoc,append_assoc]
   exact hP j
theorem GS {τ ι α β:Type} {L:List PV} {l:List α} {g:α->PV} (hL:L=l.map g) (v1 v2 v3:β->PV) (out:τ->α->β) (nx:τ->α->τ) (jn:τ->α->ι->ι) (E:List PV->List PV->List PV->τ->ι->Env) (m:Nat)
  (a b c:List PV) (t:τ) (j:ι) {bind:PV->Env->Option Env} {body:M Fl} {P:Fl->Env->Om} (hl:l.length<990) (h1:a.length<10) (h2:b.length<10) (h3:c.length<10)
  (hb:∀x a b c t j (K:Fl->Env->Om),mQ ([cA (cat v1 a (out t x)),cA (cat v2 b (out t x)),cA (cat v3 c (out t x))].take m) (K .nxt (E (cat v1 a (out t x)) (cat v2 b (out t x)) (cat v3 c (out t x)) (nx t x) (jn t x j)))->aP (bind (g x) (E a b c t j)) fun ρ=>body ρ K)
  (hP:∀j,P .nxt (E (a++(dU (fun t x=>some (out t x)) nx t l).map v1) (b++(dU (fun t x=>some (out t x)) nx t l).map v2) (c++(dU (fun t x=>some (out t x)) nx t l).map v3) (l.foldl nx t) j)):a9 bind body L (E a b c t j) P:=by
 cases hL
 exact Cj v1 v2 v3 out nx jn E m hb l a b c t j (by exact(az 0x3e832001042a110273de320027) hl h1) (by exact(az 0x3e832001042a110273de320027) hl h2) (by exact(az 0x3e832001042a110273de320027) hl h3) hP
theorem vN {bind:PV->Env->Option Env} {body:M Fl} {x:PV} {L r:List PV} {ρ:Env} {P:Fl->Env->Om} (hL:L=x::r) (h:aP (bind x ρ) fun ρ=>body ρ fun fl ρ=>match fl with
  | .nxt=>a9 bind body r ρ P
  | .cnt=>a9 bind body r ρ P
  | .brk=>P .nxt ρ
  | fl=>P fl ρ):a9 bind body L ρ P:=by
 cases hL
 exact h
theorem GT {τ ι α:Type} (nx:τ->α->τ) (jn:τ->α->ι->ι) (E:τ->ι->Env) {g:α->PV} {bind:PV->Env->Option Env} {body:M Fl} {P:Fl->Env->Om}
  (hb:∀x t j (K:Fl->Env->Om),K .nxt (E (nx t x) (jn t x j))->aP (bind (g x) (E t j)) fun ρ=>body ρ K):
  ∀(l:List α) (t:τ) (j:ι),(∀j,P .nxt (E (l.foldl nx t) j))->a9 bind body (l.map g) (E t j) P
 | [],_,j,hP=>hP j
 | x::r,t,j,hP=>hb x t j _ (GT nx jn E hb r _ _ hP)
theorem Ck {τ ι α:Type} (nx:τ->α->τ) (jn:τ->α->ι->ι) (E:τ->ι->Env) {g:α->PV} {bind:PV->Env->Option Env} {body:M Fl} {P:Fl->Env->Om}:
  ∀(l:List α) (t:τ) (j:ι),(∀x,x ∈ l->∀t j (K:Fl->Env->Om),K .nxt (E (nx t x) (jn t x j))->aP (bind (g x) (E t j)) fun ρ=>body ρ K)->(∀j,P .nxt (E (l.foldl nx t) j))->a9 bind body (l.map g) (E t j) P
 | [],_,j,_,hP=>hP j
 | x::r,t,j,hb,hP=>hb x mem_cons_self t j _ (Ck nx jn E r _ _ (fun x hx=>hb x (mem_cons_of_mem _ hx)) hP)
theorem Cm {τ ι α:Type} {L:List PV} {l:List α} {g:α->PV} (hL:L=l.map g) (nx:τ->α->τ) (jn:τ->α->ι->ι) (E:τ->ι->Env) (t:τ) (j:ι) {bind:PV->Env->Option Env} {body:M Fl} {P:Fl->Env->Om}
  (hb:∀x,x ∈ l->∀t j (K:Fl->Env->Om),K .nxt (E (nx t x) (jn t x j))->aP (bind (g x) (E t j)) fun ρ=>body ρ K)
  (hP:∀j,P .nxt (E (l.foldl nx t) j)):a9 bind body L (E t j) P:=by
 cases hL
 exact Ck nx jn E l t j hb hP
theorem yA {τ ι α:Type} (I:τ->Prop) (nx:τ->α->τ) (E:τ->ι->Env) {g:α->PV} {bind:PV->Env->Option Env} {body:M Fl} {P:Fl->Env->Om}:
  ∀(l:List α) (t:τ) (j:ι),I t->(∀x,x ∈ l->∀t j (K:Fl->Env->Om),I t->(∀j,K .nxt (E (nx t x) j))->aP (bind (g x) (E t j)) fun ρ=>body ρ K)->(∀x,x ∈ l->∀t,I t->I (nx t x))->(∀j,P .nxt (E (l.foldl nx t) j))->a9 bind body (l.map g) (E t j) P
 | [],_,j,_,_,_,hP=>hP j
 | x::r,t,j,h,hb,hI,hP=>hb x mem_cons_self t j _ h fun j=>yA I nx E r _ j (hI x mem_cons_self t h) (fun x hx=>hb x (mem_cons_of_mem _ hx)) (fun x hx=>hI x (mem_cons_of_mem _ hx)) hP
theorem lV {τ ι α:Type} {L:List PV} {l:List α} {g:α->PV} (hL:L=l.map g) (I:τ->Prop) (nx:τ->α->τ) (E:τ->ι->Env) (t:τ) (j:ι) {bind:PV->Env->Option Env} {body:M Fl} {P:Fl->Env->Om}
  (h:I t) (hb:∀x,x ∈ l->∀t j (K:Fl->Env->Om),I t->(∀j,K .nxt (E (nx t x) j))->aP (bind (g x) (E t j)) fun ρ=>body ρ K)
  (hI:∀x,x ∈ l->∀t,I t->I (nx t x)) (hP:∀j,P .nxt (E (l.foldl nx t) j)):a9 bind body L (E t j) P:=by
 cases hL
 exact yA I nx E l t j h hb hI hP
theorem En {τ ι α:Type} {L:List PV} {l:List α} {g:α->PV} (hL:L=l.map g) (nx:τ->α->τ) (jn:τ->α->ι->ι) (E:τ->ι->Env) (t:τ) (j:ι) {bind:PV->Env->Option Env} {body:M Fl} {P:Fl->Env->Om}
  (hb:∀x t j (K:Fl->Env->Om),K .nxt (E (nx t x) (jn t x j))->aP (bind (g x) (E t j)) fun ρ=>body ρ K)
  (hP:∀j,P .nxt (E (l.foldl nx t) j)):a9 bind body L (E t j) P:=by
 cases hL
 exact GT nx jn E hb l t j hP
theorem GU {σ:Type} (E:σ->Env) (I:Nat->σ->Prop) {test:M Bool} {body:M Fl} {P:Fl->Env->Om}
  (hb:∀k s (W:Env->Om),I k s->(∀s' k',k'<k->I k' s'->W (E s'))->test (E s) fun b ρ=>if b then body ρ fun fl ρ=>match fl with
   | .nxt=>W ρ
   | .cnt=>W ρ
   | .brk=>P .nxt ρ
   | .exc=>eO
   | .ret v=>P (.ret v) ρ else P .nxt ρ):∀(n k:Nat) (s:σ),k<n->I k s->gZ test body n (E s) P
 | 0,k,_,h,_=>absurd h (not_lt_zero k)
 | n+1,k,s,h,q=>hb k s (fun ρ=>gZ test body n ρ P) q fun s' k' h' q'=>GU E I hb n k' s' (lt_of_lt_of_le h' (Nat.le_of_lt_succ h)) q'
theorem Ji {test:M Bool} {body:M Fl} {P:Fl->Env->Om} {n:Nat} {ρ:Env} (hn:0<n) (h:∀K:Env->Om,test ρ fun b ρ=>if b then K ρ else P .nxt ρ):gZ test body n ρ P:=by
 cases n with
 | zero=>exact absurd hn (lt_irrefl _)
 | succ n=>exact h _
section
variable {T:Tab} {Φ:Calls} {r:Ev} {n:Nat} {c:bF} {t e:Expr} {b rest:List Stmt} {p:Pos} {P:Fl->Env->Om} {ρ ρ':Env} {s:Stmt}
noncomputable def qR:List Stmt->Stmt
 | s::_=>s
 | []=>.Pass ⟨0,0,0,0⟩
noncomputable def j0:Stmt->Expr
 | .If t _ _ _=>t
 | .While t _ _ _=>t
 | .For t _ _ _ _=>t
 | _=>.Name ⟨#[]⟩ ⟨0,0,0,0⟩
noncomputable def we:Stmt->Expr
 | .For _ e _ _ _=>e
 | _=>.Name ⟨#[]⟩ ⟨0,0,0,0⟩
noncomputable def mR:Stmt->List Stmt
 | .If _ a _ _=>a
 | .While _ b _ _=>b
 | .For _ _ b _ _=>b
 | _=>[]
noncomputable def GW:Stmt->List Stmt
 | .If _ _ b _=>b
 | _=>[]
theorem ak {S:Stmt->M Fl} {B:List Stmt} (hB:B.isEmpty=false) (ρ':Env) (h:∀K:Fl->Env->Om,K .nxt ρ'->S (qR B) ρ K) (q:aV S B.tail ρ' P):aV S B ρ P:=by
 rcases B with _|_
 ·exact bp hB.symm
 ·exact h _ q
theorem fU {S:Stmt->M Fl} {B:List Stmt} {α:Type} (F:α->Env) (hB:B.isEmpty=false) (h:∀K:Fl->Env->Om,(∀x,K .nxt (F x))->S (qR B) ρ K) (q:∀x,aV S B.tail (F x) P):aV S B ρ P:=by
 rcases B with _|_
 ·exact bp hB.symm
 ·exact h _ q
theorem Bm {K:Fl->Env->Om} (hs:s=.For (j0 s) (we s) (mR s) [] p) (x:PV) (ρ':Env) (h1:((ib c (we s) ρ).filter fun q=>q.1.2.isEmpty)=none) (h2:∀F:List PV->Env->Om,F [x] ρ->wD T r c (j0 s) (we s) ρ F) (h3:cq c (j0 s) x ρ=some ρ')
  (h:aV (ex T Φ r n c) (mR s) ρ' fun fl ρ=>match fl with
   | .nxt=>K .nxt ρ
   | .cnt=>K .nxt ρ
   | .brk=>K .nxt ρ
   | fl=>K fl ρ):ex T Φ r (n+1) c s ρ K:=by
 generalize j0 s=t,we s=e,mR s=b at *
 cases hs
 show fb T r c (ex T Φ r n) t e b ρ K
 unfold fb
 rw[h1]
 exact h2 _ (ae h3 h)
theorem GX {K:Fl->Env->Om} {α:Type} (hs:s=.For (j0 s) (we s) (mR s) [] p) (x:α->PV) (F:α->Env) (h1:((ib c (we s) ρ).filter fun q=>q.1.2.isEmpty)=none) (h2:∀G:List PV->Env->Om,(∀a,G [x a] ρ)->wD T r c (j0 s) (we s) ρ G) (h3:∀a,cq c (j0 s) (x a) ρ=some (F a))
  (h:∀a,aV (ex T Φ r n c) (mR s) (F a) fun fl ρ=>match fl with
   | .nxt=>K .nxt ρ
   | .cnt=>K .nxt ρ
   | .brk=>K .nxt ρ
   | fl=>K fl ρ):ex T Φ r (n+1) c s ρ K:=by
 generalize j0 s=t,we s=e,mR s=b at *
 cases hs
 show fb T r c (ex T Φ r n) t e b ρ K
 unfold fb
 rw[h1]
 exact h2 _ fun a=>ae (h3 a) (h a)
theorem c7 {K:Fl->Env->Om} (hs:s=.For (j0 s) (we s) (mR s) [] p) (L:List PV) (h1:((ib c (we s) ρ).filter fun q=>q.1.2.isEmpty)=none) (h2:∀F:List PV->Env->Om,F L ρ'->wD T r c (j0 s) (we s) ρ F)
  (h:a9 (cq c (j0 s)) (aV (ex T Φ r n c) (mR s)) L ρ' K):ex T Φ r (n+1) c s ρ K:=by
 generalize j0 s=t,we s=e,mR s=b at *
 cases hs
 show fb T r c (ex T Φ r n) t e b ρ K
 unfold fb
 rw[h1]
 exact h2 _ h
theorem GY {B:List Stmt} (hB:B=.While (j0 (qR B)) (mR (qR B)) [] p::B.tail) (h:∀K:Env->Om,r.t c (j0 (qR B)) ρ fun q ρ=>if q then K ρ else aV (ex T Φ r (n+1) c) B.tail ρ P):aV (ex T Φ r (n+1) c) B ρ P:=by
 generalize j0 (qR B)=t,mR (qR B)=b,B.tail=rest at *
 cases hB
 exact show gZ (r.t c t) (aV (ex T Φ r n c) b) 10000 ρ _ from Ji (by decide) h
theorem GZ {σ:Type} {B:List Stmt} (hB:B=.While (j0 (qR B)) (mR (qR B)) [] p::B.tail) (E:σ->Env) (I:Nat->σ->Prop) (k:Nat) (s:σ) (hk:k<10000) (h:I k s)
  (hb:∀k s (W:Env->Om),I k s->(∀s' k',k'<k->I k' s'->W (E s'))->r.t c (j0 (qR B)) (E s) fun q ρ=>if q then aV (ex T Φ r n c) (mR (qR B)) ρ fun fl ρ=>match fl with
   | .nxt=>W ρ
   | .cnt=>W ρ
   | .brk=>aV (ex T Φ r (n+1) c) B.tail ρ P
   | .exc=>eO
   | .ret v=>P (.ret v) ρ else aV (ex T Φ r (n+1) c) B.tail ρ P):aV (ex T Φ r (n+1) c) B (E s) P:=by
 generalize j0 (qR B)=t,mR (qR B)=b,B.tail=rest at *
 cases hB
 exact show gZ (r.t c t) (aV (ex T Φ r n c) b) 10000 (E s) _ from GU E I hb 10000 k s hk h
end
theorem mp {α β γ:Type} (f:α->β) (g:β->γ) (l:List α):(l.map fun x=>g (f x))=(l.map f).map g:=map_map.symm
theorem Eo {σ α:Type} (E:σ->Env) (f:σ->α->σ) (o:α->PV) {g:α->PV} {bind:PV->Env->Option Env} {turn:List PV->M (List PV)} {P:List PV->Env->Om}:
  ∀(l:List α) (hb:∀x,x ∈ l->∀a s (K:List PV->Env->Om),bK (cA (a++[o x])) (K (a++[o x]) (E (f s x)))->aP (bind (g x) (E s)) fun ρ=>turn a ρ K)
   (a:List PV) (s:σ),a.length+l.length<1000->(∀s,P (a++l.map o) (E s))->cK bind turn (l.map g) a (E s) P
 | [],_,a,s,_,hP=>by have:=hP s;rwa [map_nil,append_nil]at this
 | x::r,hb,a,s,h,hP=>hb x mem_cons_self a s _ (av (aU (by simp at h⊢;exact(az 0x3e8321100423e8321110400427) h)) (Eo E f o r (fun x hx=>hb x (mem_cons_of_mem _ hx)) _ _ (by simp at h⊢;exact(az 0x3e8321011004423e8321110400427) h) fun s=>by have:=hP s;rwa [append_assoc]))
theorem fZ {σ α:Type} {L R:List PV} {l:List α} {g:α->PV} (hL:L=l.map g) (o:α->PV) (hR:l.map o=R) (E:σ->Env) (s:σ) (f:σ->α->σ) {bind:PV->Env->Option Env} {turn:List PV->M (List PV)} {P:List PV->Env->Om}
  (h:l.length<1000) (hb:∀x,x ∈ l->∀a s (K:List PV->Env->Om),bK (cA (a++[o x])) (K (a++[o x]) (E (f s x)))->aP (bind (g x) (E s)) fun ρ=>turn a ρ K)
  (hP:∀s,P R (E s)):cK bind turn L [] (E s) P:=by
 cases hL
 subst hR
 exact Eo E f o l hb [] s (by simpa using h) hP
theorem iQ {α:Type} {g:α->PV}:∀{l:List α} {k:Nat} {x:α},l[k]?=some x->aK (l.map g) k=g x
 | [],_,_,h=>no h
 | _::_,0,_,h=>congrArg g (Option.some.inj h)
 | _::r,k+1,_,h=>iQ (l:=r) (k:=k) h
theorem ky {i:Int} {k n:Nat} (hi:i=k) (h:k<n):bg i n=some k:=by
 subst hi
 unfold bg
 rw[if_pos (decide_eq_true (Int.natCast_nonneg k)),if_pos (decide_eq_true (ofNat_lt.mpr h))]
 rfl
theorem pq {α:Type} {l:List α} {k:Nat} {x:α} (h:l[k]?=some x):k<l.length:=(List.getElem?_eq_some_iff.mp h).1
theorem d7 {α:Type} {g:α->PV} {L:List PV} {l:List α} (hL:L.map af=l.map g) {i:Int} {k:Nat} {x:α} (hi:i=k) (h:l[k]?=some x):aw (.fz (.lst L)) (.int i)=some (g x):=by
 show((bg i (L.map af).length).map (aK (L.map af)))=_
 rw[hL,ky hi (by rw[length_map];exact pq h)]
 exact congrArg some (iQ h)
theorem bj {α:Type} {g:α->PV} (hg:∀x,af (g x)=g x) {l:List α} {i:Int} {k:Nat} {x:α} (hi:i=k) (h:l[k]?=some x):aw (.fz (.lst (l.map g))) (.int i)=some (g x):=d7 (mm hg l) hi h
theorem dI {α:Type} {g:α->PV}:∀{l:List α} {x:α},l.getLast?=some x->bb (l.map g)=g x
 | [],_,h=>no h
 | [_],_,h=>congrArg g (Option.some.inj h)
 | _::y::r,_,h=>dI (l:=y::r) (by rwa [List.getLast?_cons_cons]at h)
theorem aF {α:Type} {l:List α} {i:Nat} (d:α) (h:i<l.length):l[i]?=some (l.getD i d):=by rw[getD_eq_getElem?_getD,List.getElem?_eq_getElem h];rfl
theorem kA {α:Type} {l:List α} {i:Nat} {d x:α} (h:l[i]?=some x):l.getD i d=x:=by rw[getD_eq_getElem?_getD,h];rfl
theorem b5 {α:Type} {g:α->PV} (hg:∀x,af (g x)=g x) {l:List α} {k:Nat} (d:α) (h:k<l.length):aw (fl g l) (.int k)=some (g (l.getD k d)):=bj hg rfl (aF d h)
theorem bw {i N:Nat} (h:i ∈ range' 0 N):i<N:=by simpa using h
theorem lW {τ α:Type} {nx:τ->α->τ}:∀(l:List α) (t:τ),dU (fun zz x=>some x) nx t l=l
 | [],_=>rfl
 | _::r,t=>congrArg (_::·) (lW r _)
theorem fV {A B:List PV} (e:A=B) (F:List PV->Om) (h:F B):F A:=by rw[e];exact h
theorem lX {α:Type} {v:α->PV} {F:List α} {x:α} (n:F.length<999) (K:List PV->Om) (h:K ((F++[x]).map v)):bK (cA (F.map v++[v x])) (K (F.map v++[v x])):=by
 rw[map_append]at h
 exact av (aU (by rw[length_append,length_map];exact Nat.succ_lt_succ n)) h
theorem G0 {b:Bool} {x y:Om} (h:x) (k:y):if b=true then x else y:=by
 cases b
 ·exact k
 ·exact h
theorem gy {i:Int} (h : -2001<i∧i<2001):small i=true:=by
 cases i with
 | ofNat n=>exact blt_eq.mpr (by have:(n:Int)<2001:=h.2;lia)
 | negSucc n=>exact blt_eq.mpr (by lia)
theorem cL {a b:Int} {n:Nat} (hn:(b-a).toNat=n) (hb:0<=a∧a<2000∧-2000<b∧b<2000):cv [.int a,.int b]=some (aZ a 1 n):=by
 have h:(small a&&small b&&(decide ((1:Int)=1)||decide ((1:Int) = -1))&&blt (b-a).toNat 1000000)=true:=by
  rw[gy (by exact(oG 0x7d13200500017d1329587d03210510017d0329587d03200580001487) hb),gy (by exact(oG 0x7d13210510017d1329587d03210510017d0329587d03200580001487) hb)]
  simp[blt_eq]
  exact(oG 0xf4240520010557d03210510017d0329587d03200580001487) hb
 show(if(small a&&small b&&(decide ((1:Int)=1)||decide ((1:Int) = -1))&&blt (oQ (a,b,1)) 1000000)=true then some (aZ a 1 (oQ (a,b,1)))else none)=_
 have hr:oQ (a,b,1)=(b-a).toNat:=rfl
 rw[hr,if_pos h,hn]
theorem lY {n:Nat} (hb:n<2000):cv [.int n]=some (aZ 0 1 n):=by
 have:=cL (a:=0) (b:=n) (n:=n) (by exact(ba 0x1003533)) (by exact(ba 0x7d0320035003017d0329587d03201580101487d0320027) hb)
 exact this
theorem vO {a b:Int} {n:Nat} (hn:(a-b).toNat=n) (hb : -2000<a∧a<2000∧-2000<b∧b<2000):cv [.int a,.int b,.int (-1)]=some (aZ a (-1) n):=by
 have h:(small a&&small b&&(decide ((-1:Int)=1)||decide ((-1:Int) = -1))&&blt (a-b).toNat 1000000)=true:=by
  rw[gy (by exact(oG 0x7d13200500017d1329587d03210510017d0329587d032005800017d0329587) hb),gy (by exact(oG 0x7d13210510017d1329587d03210510017d0329587d032005800017d0329587) hb)]
  simp[blt_eq]
  exact(oG 0xf4240521000557d03210510017d0329587d032005800017d0329587) hb
 show(if(small a&&small b&&(decide ((-1:Int)=1)||decide ((-1:Int) = -1))&&blt (oQ (a,b,-1)) 1000000)=true then some (aZ a (-1) (oQ (a,b,-1)))else none)=_
 have hr:oQ (a,b,-1)=(a-b).toNat:=rfl
 rw[hr,if_pos h,hn]
theorem vP (a:Int):∀n:Nat,aZ a (-1) n=(range' 0 n).map fun i:Nat=>.int (a-i):=by
 have key:∀(n k:Nat),aZ (a-k) (-1) n=(range' k n).map fun i:Nat=>PV.int (a-i):=by
  intro n
  induction n with
  | zero=>exact fun zz=>rfl
  | succ n ih=>
   intro k
   have:=ih (k+1)
   show PV.int (a-k)::aZ (a-k + -1) (-1) n=_
   rw[show a-(k:Int) + -1=a-((k+1:Nat):Int)by exact(mE 0x1100430050111900300546),this]
   rfl
 exact fun n=>by have:=key n 0;simpa using this
theorem jv {α β:Type} (f:α->β):∀(l:List α) (o:Nat->β),(∀i x,l[i]?=some x->o i=f x)->(range' 0 l.length).map o=l.map f:=by
 intro l o h
 refine ext_getElem? fun i=>?_
 by_cases c:i<l.length
 ·rw[getElem?_map,getElem?_map,List.getElem?_range' c,List.getElem?_eq_getElem c]
  simp[h i _ (List.getElem?_eq_getElem c)]
 ·rw[List.getElem?_eq_none (by simp;exact(az 0x10101000277) c),List.getElem?_eq_none (by simp;exact(az 0x10101000277) c)]
theorem tT {τ α β:Type} {f:α->β} {nx:τ->α×Nat->τ}:∀(l:List α) (k:Nat) (t:τ),dU (fun zz q=>some (f q.1)) nx t (l.zipIdx k)=l.map f
 | [],_,_=>rfl
 | _::r,k,t=>congrArg (_::·) (tT r (k+1) _)
theorem Ep {τ α:Type} {nx:τ->α×Nat->τ} (l:List α) (k:Nat) (t:τ):dU (fun zz q=>some q.1) nx t (l.zipIdx k)=l:=(tT (f:=fun x=>x) l k t).trans (List.map_id' l)
theorem tU {τ α:Type} {nx:τ->α×Nat->τ}:∀(l:List α) (k:Nat) (t:τ),dU (fun zz q=>some q.2) nx t (l.zipIdx k)=range' k l.length
 | [],_,_=>rfl
 | _::r,k,t=>congrArg (_::·) (tU r (k+1) _)
set_option genCtorIdx false in
mutual
inductive Kd|L|R|WS|B|NSM
inductive Sd|L|R|WS|B
end
noncomputable def Kd.ctorIdx (x:Kd):Nat:=x.casesOn 0 1 2 3 4
noncomputable def Sd.ctorIdx (x:Sd):Nat:=x.casesOn 0 1 2 3
noncomputable def Kd.s:Kd->Str
 | .L=>Internal.s "L"
 | .R=>Internal.s "R"
 | .WS=>Internal.s "WS"
 | .B=>Internal.s "B"
 | .NSM=>Internal.s "NSM"
noncomputable def Kd.v (k:Kd):PV:=.str k.s
theorem Kd.vz (x:Kd):af x.v=x.v:=rfl
noncomputable def Sd.k:Sd->Kd
 | .L=>.L
 | .R=>.R
 | .WS=>.WS
 | .B=>.B
noncomputable def Sd.v (x:Sd):PV:=x.k.v
theorem Sd.vz (x:Sd):af x.v=x.v:=rfl
noncomputable def ds:Bool->Sd
 | false=>.L
 | true=>.R
noncomputable def G1:Sd->Kd->Sd
 | u,.NSM=>u
 | _,.L=>.L
 | _,.R=>.R
 | _,.WS=>.WS
 | _,.B=>.B
theorem bE {b:Bool} {x y:Om} (h:b=true) (k:x):if b=true then x else y:=by rw[if_pos h];exact k
theorem bC {b:Bool} {x y:Om} (h:b=false) (k:y):if b=true then x else y:=by cases h;exact k
theorem sO {α:Type} {g:α->PV} (l:List α):((l.map g).map af).length=l.length:=by rw[length_map,length_map]
theorem dn:∀{m k:Nat},k+1<=m->∃n,m=n+1∧k<=n
 | 0,_,h=>absurd h (Nat.not_succ_le_zero _)
 | n+1,_,h=>⟨n,rfl,Nat.le_of_succ_le_succ h⟩
theorem Bo {a:Nat} (h:a<900):a<1000:=Nat.lt_trans h (by decide)
theorem fu {a b m:Nat} (h:a<=m) (k:b<=a:=by decide):b<=m:=Nat.le_trans k h
theorem pin {m k f:Nat} {d:uM} {vs:List PV} {ρ:Env} {Q:PV->PV->Om} (hm:k+1<=m) (hd:TT.fn f=some d) (hρ:((B4 d vs).map fun vs=>vs++replicate (d.names.length-vs.length) .LZ)=some ρ)
  (h:∀n,k<=n->aV (ex TT (aW TT n) (ev TT (aW TT n) 30) 12 ⟨d.names,if d.io then[0]else[],d.sc,d.names.length⟩) d.body ρ (FH d Q)):aW TT m f vs Q:=by
 cases m with
 | zero=>exact absurd hm (Nat.not_succ_le_zero _)
 | succ m=>
  refine ae hd ?_
  obtain⟨w,e,q⟩:=map_eq_some_iff.mp hρ
  refine ae e ?_
  rw[q]
  exact h m (Nat.le_of_succ_le_succ hm)
variable {m:Nat} {Q:PV->PV->Om} {c:List Kd}
end
noncomputable def st (x:String):PV:=.str (s x)
set_option genCtorIdx false in
mutual
inductive Cd|a|b|ra|rb|w|sp|lf|m
inductive Fd|bc|lb|gc|gcb|ea|ep|incb|di|bm
end
noncomputable def Cd.ctorIdx (x:Cd):Nat:=x.casesOn 0 1 2 3 4 5 6 7
noncomputable def Fd.ctorIdx (x:Fd):Nat:=x.casesOn 0 1 2 3 4 5 6 7 8
noncomputable def Cd.i:Cd->Int
 | .a=>97
 | .b=>98
 | .ra=>1488
 | .rb=>1489
 | .w=>19968
 | .sp=>32
 | .lf=>10
 | .m=>769
noncomputable def Cd.v (c:Cd):PV:=.int c.i
theorem Cd.vz (c:Cd):af c.v=c.v:=rfl
noncomputable def rm (d:String) (l:List (Int×String)):PV:=.obj 11 [s "default",s "starts",s "values"] [st d,.lst (l.map fun q=>.int q.1),.lst (l.map fun q=>st q.2)]
noncomputable def dat:PV:=.fz (.obj 12 [s "defaults",s "maps",s "properties",s "words"]
 [.fz (.dct (["gc", "ccc", "bc", "lb", "ea", "sc", "jt", "incb", "gcb", "wb", "sb", "ex", "sd", "cased", "ci", "ep", "di", "ids", "idc", "xids", "xidc", "pat_syn", "pat_ws", "idst", "dm", "uc", "lc", "tc", "cf", "bm", "bpb", "scx", "nt", "nv", "name", "conf", "nfkc_cf", "suc", "slc", "stc", "alias", "idna"].map s)
  ([st "Cn",.int 0,st "L",st "XX",st "N",st "Zzzz",st "U",st "None",st "Other",st "Other",st "Other"]++replicate 13 (.bool false)++replicate 13 .none++replicate 4 (.tup [])++[.tup [st "disallowed",.tup []]])),
 .dct (["bc", "lb", "gc", "gcb", "ea"].map s)
  [rm "L" [(0, "L"),(10, "B"),(11, "L"),(32, "WS"),(33, "L"),(769, "NSM"),(770, "L"),(1488, "R"),(1490, "L")],
  rm "XX" [(0, "XX"),(10, "LF"),(11, "XX"),(32, "SP"),(33, "XX"),(97, "AL"),(99, "XX"),(769, "CM"),(770, "XX"),(1488, "AL"),(1490, "XX"),(19968, "ID"),(19969, "XX")],
  rm "Cn" [(0, "Cn"),(10, "Cc"),(11, "Cn"),(32, "Zs"),(33, "Cn"),(97, "Ll"),(99, "Cn"),(769, "Mn"),(770, "Cn"),(1488, "Lo"),(1490, "Cn"),(19968, "Lo"),(19969, "Cn")],
  rm "Other" [(0, "Other"),(10, "LF"),(11, "Other"),(769, "Extend"),(770, "Other")],
  rm "N" [(0, "N"),(19968, "W"),(19969, "N")]],
 .dct [] [],.dct [] []])
noncomputable def Er:Nat->Om->Om
 | 0,k=>k
 | n+1,k=>CS fun u=>KI u u (Er n k)
theorem tV {k:Om} (h:k):∀n,Er n k
 | 0=>h
 | n+1=>fun zz=>⟨rfl,tV h n⟩
theorem Es (n:Nat) (Q:PV->PV->Om):aW TT (n+8) 112 [] Q=Er 33 (Q dat .LZ):=by kernel_rfl
theorem G2 {m:Nat} (hm:8<=m) {Q:PV->PV->Om} (h:Q dat .LZ):aW TT m 112 [] Q:=by
 obtain⟨n,rfl⟩:=exists_eq_add_of_le' hm
 rw[Es]
 exact tV h 33
noncomputable def Fd.s:Fd->Str
 | .bc=>Internal.s "bc"
 | .lb=>Internal.s "lb"
 | .gc=>Internal.s "gc"
 | .gcb=>Internal.s "gcb"
 | .ea=>Internal.s "ea"
 | .ep=>Internal.s "ep"
 | .incb=>Internal.s "incb"
 | .di=>Internal.s "di"
 | .bm=>Internal.s "bm"
noncomputable def Cd.bc:Cd->Kd
 | .sp=>.WS
 | .lf=>.B
 | .ra=>.R
 | .rb=>.R
 | .m=>.NSM
 | _=>.L
noncomputable def Cd.lb:Cd->Str
 | .sp=>Internal.s "SP"
 | .lf=>Internal.s "LF"
 | .w=>Internal.s "ID"
 | .m=>Internal.s "CM"
 | _=>Internal.s "AL"
noncomputable def Cd.gc:Cd->Str
 | .a=>Internal.s "Ll"
 | .b=>Internal.s "Ll"
 | .sp=>Internal.s "Zs"
 | .lf=>Internal.s "Cc"
 | .m=>Internal.s "Mn"
 | _=>Internal.s "Lo"
noncomputable def Cd.gcb:Cd->Str
 | .lf=>Internal.s "LF"
 | .m=>Internal.s "Extend"
 | _=>Internal.s "Other"
noncomputable def Cd.ea:Cd->Str
 | .w=>Internal.s "W"
 | _=>Internal.s "N"
noncomputable def Cd.tell (c:Cd):Fd->PV
 | .bc=>c.bc.v
 | .lb=>.str c.lb
 | .gc=>.str c.gc
 | .gcb=>.str c.gcb
 | .ea=>.str c.ea
 | .incb=>st "None"
 | .bm=>.none
 | _=>.bool false
theorem Et (n:Nat) (Q:PV->PV->Om) (f:Fd) (c:Cd):aW TT (n+3) 108 [dat,.str f.s,c.v] Q=Q (c.tell f) .LZ:=by rcases f with _|_<;>rcases c with _|_<;>kernel_rfl
theorem tW {m:Nat} (hm:3<=m) {Q:PV->PV->Om} (f:Fd) (c:Cd) (h:Q (c.tell f) .LZ):aW TT m 108 [dat,.str f.s,c.v] Q:=by
 obtain⟨n,rfl⟩:=exists_eq_add_of_le' hm
 rw[Et]
 exact h
section
variable {m:Nat} {Q:PV->PV->Om} {t:List Cd} {c:List Kd}
theorem Jj (hm:4<=m) {p:PV} (e:p=fl Cd.v t) (hl:t.length<1000) (h:Q (ll Kd.v (t.map Cd.bc)) .LZ):aW TT m 2 [p,dat] Q:=by
 cases e
 obtain⟨n,e,hn⟩:=dn hm
 subst e
 exact fZ (mm Cd.vz t) (fun c=>c.bc.v) (mp Cd.bc Kd.v t) (fun j:PV=>[j,fl Cd.v t,dat]) .LZ (fun zz c=>c.v) hl (fun x zz zz zz zz h=>tW hn .bc x h) fun zz=>h
noncomputable def Cd.isLf:Cd->Bool
 | .lf=>true
 | _=>false
noncomputable def aG (q:Nat×Nat):PV:=.tup [.int q.1,.int q.2]
noncomputable def o3 (b:Nat) (q:Cd×Nat):Option (Nat×Nat):=if q.1.isLf then some (b,q.2+1)else none
noncomputable def n3 (b:Nat) (q:Cd×Nat):Nat:=if q.1.isLf then q.2+1 else b
noncomputable def iR (t:List Cd):List (Nat×Nat):=
 if(t.zipIdx 0).foldl n3 0<t.length then dU o3 n3 0 (t.zipIdx 0)++[((t.zipIdx 0).foldl n3 0,t.length)]else dU o3 n3 0 (t.zipIdx 0)
theorem pr {τ α β:Type} {out:τ->α->Option β} {nx:τ->α->τ}:∀(l:List α) (t:τ),(dU out nx t l).length<=l.length
 | [],_=>Nat.le_refl _
 | x::r,t=>by
  have:=pr (out:=out) (nx:=nx) r (nx t x)
  rw[lU]
  cases out t x with
  | none=>exact Nat.le_succ_of_le this
  | some y=>exact succ_le_succ this
theorem K6 {τ α β:Type} {out:τ->α->Option β} {nx:τ->α->τ} {l:List α} {t:τ} {v:β->PV} {x:PV} (h:l.length<900):cA ((dU out nx t l).map v++[x])=true:=
 aU (by have:=pr (out:=out) (nx:=nx) l t;rw[length_append,length_map];exact show _+1<1000 from(az 0x3e832111042001017384320027) h this)
theorem px {a b c:Nat} (e:c=b) (h:a<b):decide ((a:Int)<c)=true:=decide_eq_true (ofNat_lt.mpr (e▸h))
theorem py {a b c:Nat} (e:c=b) (h:¬ a<b):decide ((a:Int)<c)=false:=decide_eq_false fun q=>h (e▸ofNat_lt.mp q)
theorem K7 (hm:4<=m) (hl:t.length<900) (h:Q (fl aG (iR t)) .LZ):aW TT m 3 [fl Cd.v t,dat] Q:=by
 obtain⟨n,e,hn⟩:=dn hm
 subst e
 refine GR Cd.vz aG o3 n3 (fun zz q j=>(.int q.2,q.1.v,if q.1.isLf then .bool false else j.2.2)) (fun a b j=>[fl Cd.v t,dat,.lst a,.int b,j.1,j.2.1,j.2.2]) 0 (.LZ,.LZ,.LZ) (Nat.lt_trans hl (by decide))
  (fun x i a b j K h=>tW hn .bc x (by rcases x with _|_<;>exact h)) fun j=>?_
 unfold iR at h
 by_cases c:(t.zipIdx 0).foldl n3 0<t.length
 ·rw[if_pos c,fl,ll,map_append,←sO (g:=Cd.v) t]at h
  exact bE (px (sO t) c) (av (K6 (by rwa [length_zipIdx])) h)
 ·rw[if_neg c]at h
  exact bC (py (sO t) c) h
theorem Jk (hm:1<=m) (h:Q (.fz (.dct [] [])) .LZ):aW TT m 4 [fl Kd.v c] Q:=by
 obtain⟨n,e,hn⟩:=dn hm
 subst e
 exact En (em Kd.vz c 0) (fun zz zz=>()) (fun zz q zz=>(.int q.2,q.1.v)) (fun zz j=>[fl Kd.v c,.dct [] [],.lst [],j.1,j.2,.LZ]) () (.LZ,.LZ)
  (by rintro⟨x,i⟩ t j K h;rcases x with _|_<;>exact h) fun zz=>h
noncomputable def dk (b:Bool):Kd:=(ds b).k
noncomputable def fst:List Kd->Option Bool
 | []=>none
 | .L::_=>some false
 | .R::_=>some true
 | .B::_=>none
 | _::r=>fst r
noncomputable def LI:Option Bool->PV
 | none=>.none
 | some d=>(dk d).v
theorem LJ (hm:1<=m) {N:Nat} (hN:N=c.length) (hl:c.length<1000) (h:Q (LI (fst c)) .LZ):aW TT m 5 [fl Kd.v c,.int 0,.int N,.fz (.dct [] [])] Q:=by
 refine pin (ρ:=[_,_,_,_,.LZ,.LZ]) hm rfl rfl fun n hn=>?_
 refine ak rfl [_,_,_,_,.int ((0:Nat):Int),.LZ] (fun K h=>h) ?_
 refine GZ rfl (fun s:Nat×PV=>[fl Kd.v c,.int 0,.int N,.fz (.dct [] []),.int s.1,s.2]) (fun k s=>k+s.1=c.length∧fst (c.drop s.1)=fst c) c.length (0,.LZ) (Nat.lt_trans hl (by decide)) ⟨rfl,rfl⟩ ?_
 rintro k ⟨i,j⟩ W ⟨h1,h2⟩ hW
 cases k with
 | zero=>
  have h1:i=c.length:=(Nat.zero_add i).symm.trans h1
  refine bC (py hN (by exact(az 0x100027100001437) (by assumption))) ?_
  rw[h1,List.drop_length]at h2
  rw[←h2]at h
  exact h
 | succ k=>
  refine bE (px hN (by exact(aQ 0x20102201011004437) h1)) ?_
  obtain⟨x,hx⟩:∃x,c[i]?=some x:=⟨_,List.getElem?_eq_getElem (by exact(aQ 0x20102201011004437) h1)⟩
  refine ae (bj Kd.vz rfl hx) ?_
  have h3:c.drop i=x::c.drop (i+1):=by
   obtain⟨hi,e⟩:=List.getElem?_eq_some_iff.mp hx
   rw[←e]
   exact List.drop_eq_getElem_cons hi
  rw[h3]at h2
  have hw:=hW (i+1,x.v) k (lt_succ_self k)
  cases x
  case L=>rw[←h2]at h;exact h
  case R=>rw[←h2]at h;exact h
  case B=>rw[←h2]at h;exact h
  all_goals exact hw ⟨by simp at h1⊢;exact(aQ 0x20111040043201011004437) h1,h2⟩
set_option genCtorIdx false in
mutual
inductive Wd|auto|ltr|rtl
inductive Lv|l0|l1|l2
end
noncomputable def Wd.ctorIdx (x:Wd):Nat:=x.casesOn 0 1 2
noncomputable def Lv.ctorIdx (x:Lv):Nat:=x.casesOn 0 1 2
noncomputable def Wd.s:Wd->Str
 | .auto=>Internal.s "auto"
 | .ltr=>Internal.s "ltr"
 | .rtl=>Internal.s "rtl"
noncomputable def Wd.v (w:Wd):PV:=.str w.s
noncomputable def Lv.i:Lv->Int
 | .l0=>0
 | .l1=>1
 | .l2=>2
noncomputable def Lv.v (x:Lv):PV:=.int x.i
theorem Lv.vz (x:Lv):af x.v=x.v:=rfl
noncomputable def bl:Bool->Lv
 | false=>.l0
 | true=>.l1
noncomputable def bi (b:Bool):Int:=(bl b).i
noncomputable def pO (c:List Kd):Wd->Bool
 | .ltr=>false
 | .rtl=>true
 | .auto=>fst c==some true
theorem K8 (hm:2<=m) {w:Wd} (hl:c.length<1000) (h:Q (.int (bi (pO c w))) .LZ):aW TT m 7 [fl Kd.v c,w.v] Q:=by
 obtain⟨n,e,hn⟩:=dn hm
 subst e
 cases w
 case ltr=>exact h
 case rtl=>exact h
 refine Jk hn (LJ hn (sO c) hl ?_)
 unfold pO at h
 cases q:fst c with
 | none=>rw[q]at h;exact h
 | some d=>rw[q]at h;cases d<;>exact h
theorem LK (hm:5<=m) {w:Wd} (hl:t.length<1000) (h:Q (.int (bi (pO (t.map Cd.bc) w))) .LZ):aW TT m 6 [fl Cd.v t,dat,w.v] Q:=by
 obtain⟨n,e,hn⟩:=dn hm
 subst e
 exact Jj hn rfl hl <| K8 (fu hn) (by rwa [length_map]) h
end
section
variable {m:Nat} {Q:PV->PV->Om} {t:List Cd} {c:List Kd}
noncomputable def Eu (b:Bool):PV:=.obj 0 [s "level",s "override",s "is_isolate"] [.int (bi b),.none,.bool false]
noncomputable def Bp (b:Bool):PV:=.obj 1 [s "depth",s "entries",s "over_isolates",s "over_embeddings",s "valid_isolates"] [.int 125,.lst [Eu b],.int 0,.int 0,.int 0]
theorem LM (hm:2<=m) {b:Bool} (h:Q .none (Bp b)):aW TT m 9 [.obj 1 [] [],.int (bi b),.int 125] Q:=by
 obtain⟨n,rfl⟩:=exists_eq_add_of_le' hm
 exact h
theorem Jl (hm:1<=m) {b:Bool} (h:Q (.fz (Eu b)) .LZ):aW TT m 10 [.fz (Bp b)] Q:=by
 obtain⟨n,rfl⟩:=exists_eq_add_of_le' hm
 exact h
theorem Jm (hm:3<=m) {b:Bool} (hl:c.length<900) (h:Q (.tup [fl PV.int (c.map fun zz=>bi b),fl Kd.v c]) .LZ):aW TT m 11 [fl Kd.v c,.int (bi b),.int 125] Q:=by
 obtain⟨n,e,hn⟩:=dn hm
 subst e
 refine LM hn (Jk (fu hn) (GS (em Kd.vz c 0) (fun zz=>.int (bi b)) Kd.v Kd.v (fun zz q=>q.1) (fun z q=>z||!(q.1 matches .B)) (fun zz q j=>(.int q.2,q.1.v,bif q.1 matches .B then j.2.2 else .fz (Eu b)))
  (fun a a' zz z j=>[fl Kd.v c,.int (bi b),.int 125,bif z then .fz (Bp b)else Bp b,.fz (.dct [] []),.lst a,.lst a',j.1,j.2.1,.LZ,.LZ,j.2.2]) 2 [] [] [] false (.LZ,.LZ,.LZ) (by rw[length_zipIdx];exact(ba 0x3de32002384320027) hl) (by decide) (by decide) (by decide) ?_ fun j=>?_))
 ·rintro⟨x,i⟩ a a' zz z j K h
  rcases z with _|_<;>cases x
  case false.B=>exact h
  case true.B=>exact h
  all_goals exact Jl (fu hn) h
 ·rw[Ep]
  rw[fl,ll,←mp]at h
  exact h
noncomputable def iv (i:Nat):PV:=.int i
noncomputable def lv (b:Bool) (_:Kd):PV:=.int (bi b)
theorem Jn (hm:1<=m) {b:Bool} {L:List PV} {x:Kd} (hl:c.length<900) (hL:L.map af=(x::c).map (lv b)) (h:Q (.fz (.lst [.lst ((range' 0 (c.length+1)).map iv)])) .LZ):aW TT m 12 [.fz (.lst L)] Q:=by
 refine pin (ρ:=[_,.LZ,.LZ,.LZ,.LZ]) hm rfl rfl fun n hn=>?_
 refine vN (x:=.tup [.int 0,.int (bi b)]) (r:=dT 1 (c.map (lv b))) (by rw[hL];rfl) ?_
 refine Jh (ee c 1) iv (fun zz q=>some q.2) (fun zz zz=>()) (fun zz q zz=>(.int q.2,.int (bi b))) (fun a zz j=>[.fz (.lst L),.lst [.lst a],.int (bi b),j.1,j.2]) [.int 0] () (_,_) ?_ ?_ fun j=>?_
 ·rw[length_zipIdx]
  exact show 1+_<_ from(ba 0x3e832001142384320027) hl
 ·rintro⟨x,i⟩ a t j K h
  rcases b with _|_<;>exact h
 ·rw[tU]
  exact h
theorem G3 (hm:1<=m) {b:Bool} {p q T:List PV} (h:Q .none (.obj 2 [s "places",s "classes",s "level",s "sos",s "eos",s "codes"] [.fz (.lst p),.fz (.lst q),.int (bi b),(dk b).v,(dk b).v,.lst (T.map af)])):
  aW TT m 13 [.obj 2 [] [],.fz (.lst p),.fz (.lst q),.int (bi b),(dk b).v,(dk b).v,.fz (.lst T)] Q:=
 pin (ρ:=[_,_,_,_,_,_,_]) hm rfl rfl fun zz zz=>h
theorem G4 (hm:1<=m) {b:Bool} (h:Q (dk b).v .LZ):aW TT m 14 [.int (bi b),.int (bi b)] Q:=
 pin (ρ:=[_,_]) hm rfl rfl fun zz zz=>by rcases b with _|_<;>exact h
theorem G5 (hm:1<=m) {L:List PV} {a d w:Int} (hw:0<=a+d->¬ a+d<(L.map af).length) (h:Q (.int w) .LZ):aW TT m 15 [.fz (.lst L),.int a,.int d,.int w] Q:=by
 refine pin (ρ:=[_,_,_,_]) hm rfl rfl fun zz zz=>?_
 refine ak rfl [_,.int (a+d),_,_] (fun K h=>h) (GY rfl fun K=>?_)
 by_cases c:0<=a+d
 ·exact bE (decide_eq_true c) (bC (decide_eq_false (hw c)) h)
 ·exact bC (decide_eq_false c) h
theorem tX (N:Nat):bb (((range' 0 (N+1)).map iv).map af)=.int N:=by
 rw[mm (g:=iv) (fun zz=>rfl)]
 exact dI (by rw[List.range'_concat];simp)
noncomputable def qS (N:Nat):List PV:=((range' 0 N).map iv).map af
theorem Bq (N:Nat):(qS N).map af=(range' 0 N).map iv:=(mm (g:=iv) (fun zz=>rfl) _▸rfl:(qS N).map af=((range' 0 N).map iv).map af).trans (mm (fun zz=>rfl) _)
theorem Jo (hm:2<=m) {b:Bool} {x y:Kd} {L:List PV} {N:Nat} (hN:N=c.length+1) (hl:c.length<900) (hL:L.map af=(x::c).map (lv b)) (hy:(x::c)[c.length]?=some y) (h:Q (.fz (.lst [.fz (.lst (qS N))])) .LZ):
  aW TT m 16 [fl Kd.v (x::c),.fz (.lst L),.fz (.dct [] [])] Q:=by
 subst hN
 refine pin (ρ:=[_,_,_,.LZ,.LZ,.LZ,.LZ,.LZ,.LZ]) hm rfl rfl fun n hn=>?_
 have h0:=d7 (mm (g:=iv) (fun zz=>rfl) (range' 0 (c.length+1))) (i:=0) (k:=0) rfl rfl
 have h1:=bj Kd.vz (i:=0) (k:=0) (x:=x) (l:=x::c) rfl rfl
 refine ak rfl [_,_,_,.fz (.lst [.lst ((range' 0 (c.length+1)).map iv)]),.LZ,.LZ,.LZ,.LZ,.LZ] (fun K h=>Jn hn hl hL h) ?_
 refine ak rfl [_,_,_,_,.dct [] [],.LZ,.LZ,.LZ,.LZ] (fun K h=>h) ?_
 refine ak rfl [_,_,_,_,.LZ,.int 0,fl iv (range' 0 (c.length+1)),.LZ,.LZ] (fun K h=>ae h0 h) ?_
 refine ak rfl [_,_,_,_,_,_,_,.lst [],.LZ] (fun K h=>h) ?_
 refine ak rfl [fl Kd.v (x::c),.fz (.lst L),.fz (.dct [] []),.fz (.lst [.lst ((range' 0 (c.length+1)).map iv)]),.LZ,.int 0,fl iv (range' 0 (c.length+1)),.lst [.fz (.lst (((range' 0 (c.length+1)).map iv).map af))],.fz (.lst (((range' 0 (c.length+1)).map iv).map af))] ?_ ?_
 ·intro K h
  refine Bm rfl (fl iv (range' 0 (c.length+1))) [fl Kd.v (x::c),.fz (.lst L),.fz (.dct [] []),.fz (.lst [.lst ((range' 0 (c.length+1)).map iv)]),.LZ,.int 0,fl iv (range' 0 (c.length+1)),.lst [],.LZ] rfl (fun F h=>h) rfl ?_
  refine ak rfl [fl Kd.v (x::c),.fz (.lst L),.fz (.dct [] []),.fz (.lst [.lst ((range' 0 (c.length+1)).map iv)]),.LZ,.int 0,fl iv (range' 0 (c.length+1)),.lst [],.LZ] (fun K h=>ae h0 (ae h1 (by rcases x with _|_<;>exact h))) ?_
  refine ak rfl [fl Kd.v (x::c),.fz (.lst L),.fz (.dct [] []),.fz (.lst [.lst ((range' 0 (c.length+1)).map iv)]),.LZ,.int 0,fl iv (range' 0 (c.length+1)),.lst [],.lst (((range' 0 (c.length+1)).map iv).map af)] (fun K h=>h) ?_
  refine GY rfl fun W=>?_
  refine ae (o:=iG (bb (((range' 0 (c.length+1)).map iv).map af))) (a:=.int c.length) (by rw[tX];rfl) ?_
  refine ae (bj Kd.vz rfl hy) ?_
  rcases y with _|_<;>exact h
 ·exact h
noncomputable def iS (b:Bool) (N:Nat) (c:List Kd) (t:List Cd):PV:=.obj 2 [s "places",s "classes",s "level",s "sos",s "eos",s "codes"] [.fz (.lst (qS N)),fl Kd.v c,.int (bi b),(dk b).v,(dk b).v,.lst ((t.map Cd.v).map af)]
theorem Br (y:Kd):uL y.v [st "LRI",st "RLI",st "FSI"]=false:=by rcases y with _|_<;>rfl
theorem Jp (hm:3<=m) {b:Bool} {x y:Kd} {L:List PV} {N:Nat} (hN:N=c.length+1) (hl:c.length<900) (ht:t.length=N) (hL:L.map af=(x::c).map (lv b)) (hy:(x::c)[c.length]?=some y) (h:Q (.fz (.lst [iS b N (x::c) t])) .LZ):
  aW TT m 17 [fl Kd.v (x::c),.fz (.lst L),fl Kd.v (x::c),.int (bi b),fl Cd.v t] Q:=by
 refine pin (ρ:=[_,_,_,_,_,.LZ,.LZ,.LZ,.LZ,.LZ,.LZ,.LZ,.LZ,.LZ]) hm rfl rfl fun n hn=>?_
 have h0:=d7 (Bq N) (i:=0) (k:=0) rfl (by rw[hN];rfl)
 have hM:(L.map af).length=c.length+1:=by rw[hL];simp
 have hlast:((iG (bb (qS N))).bind fun q=>kH (af q))=some (.int c.length):=by rw[hN,qS,tX];rfl
 refine ak rfl [_,_,_,_,_,.fz (.dct [] []),.LZ,.LZ,.LZ,.LZ,.LZ,.LZ,.LZ,.LZ] (fun K h=>Jk (fu hn) h) ?_
 refine ak rfl [_,_,_,_,_,_,.lst [],.LZ,.LZ,.LZ,.LZ,.LZ,.LZ,.LZ] (fun K h=>h) ?_
 refine ak rfl [fl Kd.v (x::c),.fz (.lst L),fl Kd.v (x::c),.int (bi b),fl Cd.v t,.fz (.dct [] []),.lst [iS b N (x::c) t],.fz (.lst (qS N)),.int 0,.int c.length,.int (bi b),(dk b).v,(dk b).v,.fz (.lst (t.map Cd.v))] ?_ ?_
 ·intro K h
  refine Bm rfl (.fz (.lst (qS N))) [fl Kd.v (x::c),.fz (.lst L),fl Kd.v (x::c),.int (bi b),fl Cd.v t,.fz (.dct [] []),.lst [],.fz (.lst (qS N)),.LZ,.LZ,.LZ,.LZ,.LZ,.LZ] rfl (fun F h=>Jo hn hN hl hL hy h) rfl ?_
  refine ak rfl [_,_,_,_,_,_,_,_,.int 0,.LZ,.LZ,.LZ,.LZ,.LZ] (fun K h=>ae h0 h) ?_
  refine ak rfl [_,_,_,_,_,_,_,_,_,.int c.length,.LZ,.LZ,.LZ,.LZ] (fun K h=>ae hlast h) ?_
  refine ak rfl [_,_,_,_,_,_,_,_,_,_,.int (bi b),.LZ,.LZ,.LZ] (fun K h=>ae (d7 hL (i:=0) (k:=0) rfl rfl) h) ?_
  refine ak rfl [_,_,_,_,_,_,_,_,_,_,_,(dk b).v,.LZ,.LZ] (fun K h=>G5 (a:=0) (d :=-1) (fu hn) (fun q=>absurd q (by decide)) (G4 (fu hn) h)) ?_
  refine ak rfl [fl Kd.v (x::c),.fz (.lst L),fl Kd.v (x::c),.int (bi b),fl Cd.v t,.fz (.dct [] []),.lst [],.fz (.lst (qS N)),.int 0,.int c.length,.int (bi b),(dk b).v,(dk b).v,.LZ] (fun K h=>ae (bj Kd.vz rfl hy) (bC (Br y) (G5 (a:=c.length) (d:=1) (fu hn) (fun zz=>by rw[hM];exact(ba 0x11004311003457)) (G4 (fu hn) h)))) ?_
  refine ak rfl [fl Kd.v (x::c),.fz (.lst L),fl Kd.v (x::c),.int (bi b),fl Cd.v t,.fz (.dct [] []),.lst [],.fz (.lst (qS N)),.int 0,.int c.length,.int (bi b),(dk b).v,(dk b).v,.lst (t.map Cd.v)] (fun K h=>?_) ?_
  ·exact fZ (Bq _) (fun i=>(t.getD i .a).v) (by rw[←ht];exact jv Cd.v t _ fun i x hx=>by rw[kA hx]) (fun j:PV=>[j,fl Kd.v (x::c),.fz (.lst L),fl Kd.v (x::c),.int (bi b),fl Cd.v t,.fz (.dct [] []),.lst [],.fz (.lst (qS N)),.int 0,.int c.length,.int (bi b),(dk b).v,(dk b).v,.LZ]) .LZ (fun zz i=>iv i) (by simp;exact(az 0x3e832002384321027111040037) hN hl)
    (fun i hi zz zz zz h=>ae (o:=aw (fl Cd.v t) (.int i)) (b5 Cd.vz .a (ht▸bw hi)) h) fun zz=>h
  ·refine ak rfl [fl Kd.v (x::c),.fz (.lst L),fl Kd.v (x::c),.int (bi b),fl Cd.v t,.fz (.dct [] []),.lst [iS b N (x::c) t],.fz (.lst (qS N)),.int 0,.int c.length,.int (bi b),(dk b).v,(dk b).v,.fz (.lst (t.map Cd.v))] (fun K h=>?_) h
   exact fZ (Bq _) (fun i=>((x::c).getD i .L).v) (by rw[hN];exact jv Kd.v (x::c) _ fun i x hx=>by rw[kA hx]) (fun j:PV=>[j,fl Kd.v (x::c),.fz (.lst L),fl Kd.v (x::c),.int (bi b),fl Cd.v t,.fz (.dct [] []),.lst [],.fz (.lst (qS N)),.int 0,.int c.length,.int (bi b),(dk b).v,(dk b).v,.lst (t.map Cd.v)]) .LZ (fun zz i=>iv i) (by simp;exact(az 0x3e832002384321027111040037) hN hl)
    (fun i hi zz zz zz h=>ae (o:=aw (fl Kd.v (x::c)) (.int i)) (b5 Kd.vz .L (Nat.lt_of_lt_of_eq (bw hi) hN)) h) fun zz=>G3 (fu hn) h
 ·exact h
end
section
variable {m:Nat} {Q:PV->PV->Om} {t:List Cd} {c:List Kd}
noncomputable def lZ (i e:Int) (b:Bool) (c:List Kd) (t:List Cd):PV:=.obj 3 [s "begin",s "end",s "codes",s "base",s "kinds",s "levels",s "classes"] [.int i,.int e,fl Cd.v t,.int (bi b),fl Kd.v c,fl PV.int (c.map fun zz=>bi b),fl Kd.v c]
theorem Jq (hm:1<=m) {b:Bool} (h:∀e,Q .none (lZ 0 e b c t)):aW TT m 18 [.obj 3 [] [],.int 0,fl Cd.v t,.int (bi b),fl Kd.v c,fl PV.int (c.map fun zz=>bi b),fl Kd.v c] Q:=
 pin (ρ:=[_,_,_,_,_,_,_]) hm rfl rfl fun zz zz=>h _
theorem G6 (b:Bool) (c:List Kd):((c.map fun zz=>bi b).map PV.int).map af=c.map (lv b):=by rw[map_map,map_map];rfl
theorem Jr (hm:4<=m) {b:Bool} {x y:Kd} {i e:Int} (hl:c.length<900) (ht:t.length=c.length+1) (hy:(x::c)[c.length]?=some y) (h:Q (.fz (.lst [iS b (c.length+1) (x::c) t])) .LZ):aW TT m 19 [.fz (lZ i e b (x::c) t)] Q:=
 pin (ρ:=[_]) hm rfl rfl fun n hn=>Jp hn rfl hl ht (G6 b (x::c)) hy h
theorem Bt {α:Type} {g:α->PV} (hg:∀x,af (g x)=g x) {l:List α} {i j:Int} (hi:i=0) (hj:j=l.length):cut ((l.map g).map af) (some i) (some j)=l.map g:=by
 have h:¬ ((l.length:Int)<0):=by exact(ba 0x100357)
 rw[mm hg,hi,hj,cut,be,be]
 simp[h]
 exact take_of_length_le (by simp)
theorem Js (hm:5<=m) {w:Wd} (hl:t.length<900) (hp:iR t=[(0,t.length)]) (h:∀e,Q (.fz (.lst [lZ 0 e (pO (t.map Cd.bc) w) (t.map Cd.bc) t])) .LZ):aW TT m 20 [fl Cd.v t,dat,w.v,.int 125] Q:=by
 refine pin (ρ:=[_,_,_,_,.LZ,.LZ,.LZ,.LZ,.LZ,.LZ,.LZ,.LZ]) hm rfl rfl fun n hn=>?_
 have hk:(t.map Cd.bc).length<900:=by rwa [length_map]
 refine ak rfl [_,_,_,_,.lst [],.LZ,.LZ,.LZ,.LZ,.LZ,.LZ,.LZ] (fun K h=>h) ?_
 refine fU (fun e=>[fl Cd.v t,dat,w.v,.int 125,.lst [lZ 0 e (pO (t.map Cd.bc) w) (t.map Cd.bc) t],.int ((0:Nat):Int),.int t.length,fl Cd.v t,fl Kd.v (t.map Cd.bc),.int (bi (pO (t.map Cd.bc) w)),fl PV.int ((t.map Cd.bc).map fun zz=>bi (pO (t.map Cd.bc) w)),fl Kd.v (t.map Cd.bc)]) rfl (fun K h=>?_) fun e=>h e
 refine Bm rfl (aG (0,t.length)) [fl Cd.v t,dat,w.v,.int 125,.lst [],.int ((0:Nat):Int),.int t.length,.LZ,.LZ,.LZ,.LZ,.LZ] rfl (fun F h=>K7 (fu hn) hl (by rw[hp];exact h)) rfl ?_
 refine ak rfl [_,_,_,_,_,_,_,.lst (t.map Cd.v),.LZ,.LZ,.LZ,.LZ] (fun K h=>(congrArg (fun L=>K .nxt [fl Cd.v t,dat,w.v,.int 125,.lst [],.int ((0:Nat):Int),.int t.length,.lst L,.LZ,.LZ,.LZ,.LZ]) (Bt Cd.vz rfl rfl)).mpr h) ?_
 refine ak rfl [_,_,_,_,_,_,_,.fz (.lst (t.map Cd.v)),.lst ((t.map Cd.bc).map Kd.v),.LZ,.LZ,.LZ] (fun K h=>Jj hn rfl (Bo hl) h) ?_
 refine ak rfl [_,_,_,_,_,_,_,_,.fz (.lst ((t.map Cd.bc).map Kd.v)),.int (bi (pO (t.map Cd.bc) w)),.LZ,.LZ] (fun K h=>K8 (fu hn) (Bo hk) h) ?_
 refine ak rfl [_,_,_,_,_,_,_,_,_,_,fl PV.int ((t.map Cd.bc).map fun zz=>bi (pO (t.map Cd.bc) w)),fl Kd.v (t.map Cd.bc)] (fun K h=>Jm (fu hn) hk h) ?_
 exact Jq (fu hn) h
end
section
variable {m:Nat} {Q:PV->PV->Om} {c:List Kd} {d:List Sd}
noncomputable def cY:Sd->List Kd->List Sd:=dU (fun u x=>some (G1 u x)) G1
theorem Jt (hm:1<=m) {t:Sd} (hl:c.length<1000) (h:Q (fl Sd.v (cY t c)) .LZ):aW TT m 21 [fl Kd.v c,t.v] Q:=
 pin (ρ:=[_,_,.LZ,.LZ,.LZ]) hm rfl rfl fun n hn=>Bl (mm Kd.vz c) Sd.v (fun u x=>some (G1 u x)) G1 (fun u x zz=>(G1 u x).v) (fun a u j=>[fl Kd.v c,t.v,.lst a,u.v,j]) t .LZ hl
  (by rintro x a u j K;cases x;exact id;exact id;exact id;exact id;rcases u with _|_<;>exact id) fun zz=>h
noncomputable def G7 (u x:Sd):Sd:=match x with
 | .L=>.L
 | .R=>.R
 | _=>u
theorem Ju (hm:1<=m) {t:Sd} (hl:d.length<1000) (h:Q (fl Sd.v d) .LZ):aW TT m 22 [fl Sd.v d,t.v] Q:=by
 refine pin (ρ:=[_,_,.LZ,.LZ,.LZ]) hm rfl rfl fun n hn=>Bl (mm Sd.vz d) Sd.v (fun zz x=>some x) G7 (fun zz x zz=>x.v) (fun a u j=>[fl Sd.v d,t.v,.lst a,u.v,j]) t .LZ hl (by rintro x a u j K;rcases x with _|_<;>exact id) fun zz=>?_
 rw[lW]
 exact h
theorem Jv (hm:1<=m) {t:Sd} (hl:d.length<1000) (h:Q (fl Sd.v d) .LZ):aW TT m 29 [fl Sd.v d,t.v] Q:=by
 refine pin (ρ:=[_,_,.LZ,.LZ,.LZ]) hm rfl rfl fun n hn=>Bl (mm Sd.vz d) Sd.v (fun zz x=>some x) G7 (fun zz x zz=>x.v) (fun a u j=>[fl Sd.v d,t.v,.lst a,u.v,j]) t .LZ hl (by rintro x a u j K;rcases x with _|_<;>exact id) fun zz=>?_
 rw[lW]
 exact h
theorem Jw (hm:1<=m) (hl:d.length<1000) (h:Q (ll Sd.v d) .LZ):aW TT m 23 [fl Sd.v d] Q:=
 pin (ρ:=[_]) hm rfl rfl fun n hn=>fZ (mm Sd.vz d) Sd.v rfl (fun j:PV=>[j,fl Sd.v d]) .LZ (fun zz x=>x.v) hl (fun x zz a j K h=>by rcases x with _|_<;>exact h) fun zz=>h
theorem Jx (hm:1<=m) (hl:d.length<1000) (h:Q (ll Sd.v d) .LZ):aW TT m 28 [fl Sd.v d] Q:=
 pin (ρ:=[_]) hm rfl rfl fun n hn=>fZ (mm Sd.vz d) Sd.v rfl (fun j:PV=>[j,fl Sd.v d]) .LZ (fun zz x=>x.v) hl (fun x zz a j K h=>by rcases x with _|_<;>exact h) fun zz=>h
theorem G8 (x:Sd) {w:Str} (h:aM (s "L") w=false∧aM (s "R") w=false∧aM (s "WS") w=false∧aM (s "B") w=false):aM x.k.s w=false:=by
 cases x
 ·exact h.1
 ·exact h.2.1
 ·exact h.2.2.1
 ·exact h.2.2.2
theorem Jy (hm:1<=m) (hl:d.length<900) (h:Q (fl Sd.v d) .LZ):aW TT m 24 [fl Sd.v d] Q:=by
 refine pin (ρ:=[_,.LZ,.LZ,.LZ,.LZ]) hm rfl rfl fun n hn=>?_
 refine ak rfl [fl Sd.v d,ll Sd.v d,.LZ,.LZ,.LZ] (fun K h=>fV (mm Sd.vz d) (fun L=>K .nxt [fl Sd.v d,.lst L,.LZ,.LZ,.LZ]) h) ?_
 refine fU (fun j:PV×PV×PV=>[fl Sd.v d,ll Sd.v d,j.1,j.2.1,j.2.2]) rfl (fun K h=>?_) fun zz=>h
 have hd:((d.map Sd.v).map af).length=d.length:=sO d
 refine c7 rfl (aZ 1 1 (d.length-2)) rfl (fun F h=>ae (o:=cv [.int 1,.int (((d.map Sd.v).map af).length-1)]) (cL (by rw[hd];exact(ba 0x2100511110035533)) (by exact(az 0x7d0321110355111035017d0329587d0321158110148001037384320027) hl hd)) h) ?_
 refine Cm (eA 1 _) (fun zz zz=>()) (fun zz i zz=>(.int (1+(i:Int)),(d.getD (i+1) .L).v,(d.getD i .L).v)) (fun zz j=>[fl Sd.v d,ll Sd.v d,j.1,j.2.1,j.2.2]) () (.LZ,.LZ,.LZ) (fun i hi zz j K h=>?_) fun j=>h j
 have hi:=bw hi
 refine ae (o:=aw (fl Sd.v d) (.int (1+(i:Int)))) (bj Sd.vz (k:=i+1) (by exact(ba 0x1100430031146)) (aF .L (by exact(az 0x10110042211050027) hi))) ?_
 refine ae (o:=aw (fl Sd.v d) (.int (1+(i:Int)-1))) (bj Sd.vz (k:=i) (by exact(ba 0x31100311456)) (aF .L (by exact(az 0x10002211050027) hi))) ?_
 refine ae (o:=aw (fl Sd.v d) (.int (1+(i:Int)+1))) (bj Sd.vz (k:=i+2) (by exact(ba 0x2100431100311446)) (aF .L (by exact(az 0x10210042211050027) hi))) ?_
 generalize d.getD (i+1) .L=x at h⊢
 rcases x with _|_<;>exact G0 h h
theorem G9 (hm:1<=m) (hl:d.length<900) (h:Q (.fz (.lst [])) .LZ):aW TT m 25 [fl Sd.v d,.tup [st "ET"]] Q:=by
 refine pin (ρ:=[_,_,.LZ,.LZ,.LZ,.LZ]) hm rfl rfl fun n hn=>?_
 exact En (em Sd.vz d 0) (fun zz zz=>()) (fun zz q zz=>(.int q.2,q.1.v)) (fun zz j=>[fl Sd.v d,.tup [st "ET"],.lst [],.none,j.1,j.2]) () (.LZ,.LZ) (by rintro⟨x,i⟩ _ j K h;rcases x with _|_<;>exact h) fun zz=>h
theorem Jz (hm:2<=m) (hl:d.length<900) (h:Q (fl Sd.v d) .LZ):aW TT m 27 [fl Sd.v d] Q:=by
 refine pin (ρ:=[_,.LZ,.LZ,.LZ,.LZ]) hm rfl rfl fun n hn=>?_
 refine ak rfl [fl Sd.v d,ll Sd.v d,.LZ,.LZ,.LZ] (fun K h=>fV (mm Sd.vz d) (fun L=>K .nxt [fl Sd.v d,.lst L,.LZ,.LZ,.LZ]) h) ?_
 refine ak rfl [fl Sd.v d,ll Sd.v d,.LZ,.LZ,.LZ] (fun K h=>?_) h
 exact c7 rfl [] rfl (fun F h=>G9 hn hl h) h
theorem pz {τ α β:Type} {out:τ->α->β} {nx:τ->α->τ}:∀(l:List α) (t:τ),(dU (fun t x=>some (out t x)) nx t l).length=l.length
 | [],_=>rfl
 | _::r,t=>congrArg (·+1) (pz r _)
theorem jw {t:Sd}:(cY t c).length=c.length:=pz c t
theorem JA (hm:3<=m) {t:Sd} (hl:c.length<900) (h:Q (fl Sd.v (cY t c)) .LZ):aW TT m 30 [fl Kd.v c,t.v] Q:=by
 refine pin (ρ:=[_,_,.LZ]) hm rfl rfl fun n hn=>?_
 have hd:(cY t c).length<900:=by rw[jw];exact hl
 refine ak rfl [_,_,ll Sd.v (cY t c)] (fun K h=>Jt (fu hn) (Bo hl) (Ju (fu hn) (Bo hd) (Jw (fu hn) (Bo hd) h))) ?_
 exact Jy (fu hn) hd (Jz hn hd (Jx (fu hn) (Bo hd) (Jv (fu hn) (Bo hd) h)))
end
section
variable {m:Nat} {Q:PV->PV->Om} {c:List Kd} {d:List Sd} {t:List Cd}
noncomputable def Hc:PV:=.tup (["B", "S", "WS", "ON", "LRI", "RLI", "FSI", "PDI"].map st)
noncomputable def eS:Sd->Bool
 | .WS=>true
 | .B=>true
 | _=>false
noncomputable def Ew (b:Option Nat) (q:Sd×Nat):Option (Nat×Nat):=b.bind fun k=>if eS q.1 then none else some (k,q.2)
noncomputable def yB (b:Option Nat) (q:Sd×Nat):Option Nat:=if eS q.1 then some (b.getD q.2)else none
noncomputable def jx (d:List Sd):List (Nat×Nat):=dU Ew yB none (d.zipIdx 0)++(((d.zipIdx 0).foldl yB none).map fun k=>(k,d.length)).toList
noncomputable def eW:Option Nat->PV
 | none=>.none
 | some k=>.int k
theorem JB (hm:1<=m) (hl:d.length<900) (h:Q (fl aG (jx d)) .LZ):aW TT m 25 [fl Sd.v d,Hc] Q:=by
 refine pin (ρ:=[_,_,.LZ,.LZ,.LZ,.LZ]) hm rfl rfl fun n hn=>?_
 refine GR Sd.vz aG Ew yB (fun zz q zz=>(.int q.2,q.1.v)) (fun a b j=>[fl Sd.v d,Hc,.lst a,eW b,j.1,j.2]) none (.LZ,.LZ) (Bo hl) (fun x i a b j K h=>by rcases x with _|_<;>rcases b with _|_<;>exact h) fun j=>?_
 unfold jx at h
 generalize (d.zipIdx 0).foldl yB none=b at h⊢
 cases b with
 | none=>
  rw[Option.map_none,Option.toList_none,append_nil]at h
  exact h
 | some k=>
  rw[fl,ll,map_append,←sO (g:=Sd.v) d]at h
  exact av (K6 (by rwa [length_zipIdx])) h
noncomputable def nP (b:Bool) (d:List Sd) (k:Nat):Sd:=if 0<k then d.getD (k-1) .L else ds b
noncomputable def rK (b:Bool) (d:List Sd) (k:Nat):Sd:=if k<d.length then d.getD k .L else ds b
theorem JC (hm:1<=m) {b:Bool} {k e:Nat} (hk:k<=d.length) (h:Q (.tup [(nP b d k).v,(rK b d e).v]) .LZ):aW TT m 26 [fl Sd.v d,.int k,.int e,(ds b).v,(ds b).v] Q:=by
 refine pin (ρ:=[_,_,_,_,_,.LZ]) hm rfl rfl fun n hn=>?_
 refine ak rfl [fl Sd.v d,.int k,.int e,(ds b).v,(ds b).v,(nP b d k).v] (fun K h=>?_) ?_
 ·unfold nP at h
  by_cases c:0<k
  ·rw[if_pos c]at h
   exact bE (px (a:=0) rfl c) (ae (o:=aw (fl Sd.v d) (.int ((k:Int)-1))) (bj Sd.vz (k:=k-1) (by exact(ba 0x1100531100356000127) c) (aF Sd.L (by exact(az 0x10110052000127100017) hk c))) h)
  ·rw[if_neg c]at h
   exact bC (py (a:=0) rfl c) h
 ·unfold rK at h
  by_cases c:e<d.length
  ·rw[if_pos c]at h
   exact bE (px (sO d) c) (ae (o:=aw (fl Sd.v d) (.int e)) (bj Sd.vz (k:=e) rfl (aF Sd.L c)) h)
  ·rw[if_neg c]at h
   exact bC (py (sO d) c) h
noncomputable def yC:Sd->PV
 | .L=>Sd.L.v
 | .R=>Sd.R.v
 | _=>.none
theorem Bu (hm:1<=m) {x:Sd} (h:Q (yC x) .LZ):aW TT m 34 [x.v] Q:=
 pin (ρ:=[_]) hm rfl rfl fun n hn=>by rcases x with _|_<;>exact h
theorem JD (hm:1<=m) {b:Bool} (h:Q (ds b).v .LZ):aW TT m 35 [.int (bi b)] Q:=
 pin (ρ:=[_]) hm rfl rfl fun n hn=>by rcases b with _|_<;>exact h
theorem JE (hm:1<=m) {L:List PV} (hL:L.map af=t.map Cd.v) (ht:t.length=d.length) (h:Q (.lst []) .LZ):aW TT m 32 [.fz (.lst L),fl Sd.v d,dat] Q:=by
 refine pin (ρ:=[_,_,_,.LZ,.LZ,.LZ,.LZ,.LZ,.LZ,.LZ]) hm rfl rfl fun n hn=>?_
 refine ak rfl [_,_,_,.lst [],.LZ,.LZ,.LZ,.LZ,.LZ,.LZ] (fun K h=>h) ?_
 refine ak rfl [_,_,_,_,.lst [],.LZ,.LZ,.LZ,.LZ,.LZ] (fun K h=>h) ?_
 refine fU (fun j:PV×PV×PV=>[.fz (.lst L),fl Sd.v d,dat,.lst [],.lst [],j.1,j.2.1,j.2.2,.LZ,.LZ]) rfl (fun K h=>?_) fun zz=>h
 refine c7 rfl (dT 0 (L.map af)) rfl (fun F h=>h) ?_
 refine Cm (by rw[hL];exact ee t 0) (fun zz zz=>()) (fun _ (q:Cd×Nat) _=>(.int q.2,q.1.v,.none)) (fun zz j=>[.fz (.lst L),fl Sd.v d,dat,.lst [],.lst [],j.1,j.2.1,j.2.2,.LZ,.LZ]) () (.LZ,.LZ,.LZ) (fun q hq zz j K h=>?_) fun j=>h j
 have hi:q.2<d.length:=ht▸(snd_lt_of_mem_zipIdx hq)
 refine ae (o:=aw (fl Sd.v d) (.int q.2)) (b5 Sd.vz Sd.L hi) ?_
 exact bC (b:=aM (d.getD q.2 Sd.L).k.s (s "ON")) (G8 _ ⟨rfl,rfl,rfl,rfl⟩) h
theorem JF (hm:2<=m) {b:Bool} {N:Nat} {L p:List PV} (hL:L.map af=t.map Cd.v) (ht:t.length=d.length) (h:Q (.lst []) .LZ):
  aW TT m 33 [.fz (.obj 2 [s "places",s "classes",s "level",s "sos",s "eos",s "codes"] [.fz (.lst p),fl Sd.v d,.int (bi b),(ds b).v,(ds b).v,.lst L]),dat] Q:=
 pin (ρ:=[_,_]) hm rfl rfl fun n hn=>JE hn hL ht h
theorem JG (hm:1<=m) {b:Bool} {w:PV} (hw:w=fl Kd.v c) (h:Q (fl Sd.v d) .LZ):aW TT m 36 [fl Sd.v d,.fz (.lst []),.int (bi b),(ds b).v,w] Q:=by
 cases hw
 refine pin (ρ:=[_,_,_,_,_,.LZ,.LZ,.LZ,.LZ,.LZ]) hm rfl rfl fun n hn=>?_
 refine ak rfl [_,_,_,_,_,ll Sd.v d,.LZ,.LZ,.LZ,.LZ] (fun K h=>fV (mm Sd.vz d) (fun L=>K .nxt [fl Sd.v d,.fz (.lst []),.int (bi b),(ds b).v,fl Kd.v c,.lst L,.LZ,.LZ,.LZ,.LZ]) h) ?_
 exact h
theorem c8 {F:List PV} {i:Int} {k:Nat} {v:PV} (hi:i=k) (h:k<F.length):cw (.lst F) (.int i) v=some (.lst (aS F k v)):=by
 show(bg i F.length).map _=_
 rw[ky hi h]
 rfl
theorem setN_len:∀(F:List PV) (k:Nat) (v:PV),(aS F k v).length=F.length
 | [],_,_=>rfl
 | _::_,0,_=>rfl
 | _::r,k+1,v=>congrArg (·+1) (setN_len r k v)
theorem eB {α:Type} (g:α->PV):∀(l:List α) (k:Nat) (x:α),aS (l.map g) k (g x)=(l.set k x).map g
 | [],_,_=>rfl
 | _::_,0,_=>rfl
 | _::r,k+1,x=>congrArg (_::·) (eB g r k x)
noncomputable def j4 {α:Type} (l:List α) (k e:Nat) (x:α):List α:=(range' 0 (e-k)).foldl (fun l i=>l.set (k+i) x) l
theorem nQ {α:Type} (g:α->PV) (k:Nat) (x:α):∀(r:List Nat) (l:List α),r.foldl (fun F i=>aS F (k+i) (g x)) (l.map g)=(r.foldl (fun l i=>l.set (k+i) x) l).map g
 | [],_=>rfl
 | i::r,l=>by
  rw[foldl_cons,foldl_cons,eB]
  exact nQ g k x r _
noncomputable def bP (b:Bool):Sd->Sd->Sd
 | .L,.L=>.L
 | .R,.R=>.R
 | _,_=>ds b
def Cn (b:Bool) (d:List Sd) (q:Nat×Nat):Prop:=q.1<=q.2∧q.2<=d.length∧eS (nP b d q.1)=false∧eS (rK b d q.2)=false
noncomputable def l7 (b:Bool) (d l:List Sd) (q:Nat×Nat):List Sd:=j4 l q.1 q.2 (bP b (nP b d q.1) (rK b d q.2))
theorem fill1_len {α:Type} {l:List α} {k e:Nat} {x:α}:(j4 l k e x).length=l.length:=by
 unfold j4
 generalize range' 0 (e-k)=r
 induction r generalizing l with
 | nil=>rfl
 | cons i r ih=>exact ih.trans length_set
section
variable {T:Tab} {Φ:Calls} {r:Ev} {n:Nat} {cx:bF} {tg e:Expr} {bd es:List Stmt} {as:List Expr} {p:Pos} {s:Stmt} {ρ ρ':Env}
theorem JH {K:Fl->Env->Om} {a b:Int} {k:Nat} (hs:s=.For tg e bd [] p) (h1:((ib cx e ρ).filter fun q=>q.1.2.isEmpty)=none) (hr:kg T cx e=some (.range,as)) (ht:hH tg=true) (hv:∀F:List PV->Env->Om,F [.int a,.int b] ρ'->mJ r cx as ρ F)
  (hk:(b-a).toNat=k) (hb:0<=a∧a<2000∧-2000<b∧b<2000) (h:a9 (cq cx tg) (aV (ex T Φ r n cx) bd) (aZ a 1 k) ρ' K):ex T Φ r (n+1) cx s ρ K:=by
 cases hs
 show fb T r cx (ex T Φ r n) tg e bd ρ K
 unfold fb wD
 rw[h1]
 refine av ht ?_
 rw[hr]
 exact av (by simp) (hv _ (ae (cL hk hb) h))
end
noncomputable def wg (d:List Sd) (b:Bool) (r:List PV):Env:=fl Sd.v d::.int (bi b)::(ds b).v::(ds b).v::r
theorem JI (hm:2<=m) {b:Bool} (hl:d.length<900) (hr:∀q ∈ jx d,Cn b d q) (h:Q (fl Sd.v ((jx d).foldl (l7 b d) d)) .LZ):aW TT m 37 [fl Sd.v d,.int (bi b),(ds b).v,(ds b).v] Q:=by
 refine pin (ρ:=[_,_,_,_,.LZ,.LZ,.LZ,.LZ,.LZ,.LZ,.LZ]) hm rfl rfl fun n hn=>?_
 refine ak rfl [_,_,_,_,ll Sd.v d,.LZ,.LZ,.LZ,.LZ,.LZ,.LZ] (fun K h=>fV (mm Sd.vz d) (fun L=>K .nxt (wg d b [.lst L,.LZ,.LZ,.LZ,.LZ,.LZ,.LZ])) h) ?_
 refine fU (fun j:(PV×PV)×(PV×PV)×PV×PV=>(wg d b [ll Sd.v ((jx d).foldl (l7 b d) d),j.1.1,j.1.2,j.2.1.1,j.2.1.2,j.2.2.1,j.2.2.2])) rfl (fun K h=>?_) fun zz=>h
 refine c7 rfl (((jx d).map aG).map af) rfl (fun F h=>JB (fu hn) hl h) ?_
 refine lV (ι:=(PV×PV)×(PV×PV)×PV×PV) (mm (g:=aG) (fun zz=>rfl) (jx d)) (fun l=>l.length=d.length) (l7 b d) (fun l j=>(wg d b [ll Sd.v l,j.1.1,j.1.2,j.2.1.1,j.2.1.2,j.2.2.1,j.2.2.2])) d ((.LZ,.LZ),(.LZ,.LZ),.LZ,.LZ) rfl (fun q hq l j K hd h=>?_) (fun q zz l hd=>fill1_len.trans hd) h
 obtain⟨h1,h2,h3,h4⟩:=hr q hq
 have h (j):K .nxt (wg d b [ll Sd.v (j4 l q.1 q.2 (bP b (nP b d q.1) (rK b d q.2))),.int q.1,.int q.2,(nP b d q.1).v,(rK b d q.2).v,(bP b (nP b d q.1) (rK b d q.2)).v,j]):=h ((_,_),(_,_),_,_)
 refine ak rfl (wg d b [ll Sd.v l,.int q.1,.int q.2,(nP b d q.1).v,(rK b d q.2).v,j.2.2.1,j.2.2.2]) (fun K h=>JC (fu hn) (Nat.le_trans h1 h2) h) ?_
 generalize nP b d q.1=x at h h3⊢
 generalize rK b d q.2=y at h h4⊢
 refine ak rfl (wg d b [ll Sd.v l,.int q.1,.int q.2,x.v,y.v,yC x,j.2.2.2]) (fun K h=>Bu (fu hn) (by rcases x with _|_<;>exact h)) ?_
 refine ak rfl (wg d b [ll Sd.v l,.int q.1,.int q.2,x.v,y.v,(bP b x y).v,j.2.2.2]) (fun K h=>?_) ?_
 ·cases x
  case WS=>exact nomatch h3
  case B=>exact nomatch h3
  all_goals cases y
  case L.WS=>exact nomatch h4
  case L.B=>exact nomatch h4
  case R.WS=>exact nomatch h4
  case R.B=>exact nomatch h4
  case L.L=>exact Bu (fu hn) h
  case R.R=>exact Bu (fu hn) h
  all_goals exact Bu (fu hn) (JD (fu hn) h)
 ·with_reducible refine fU (fun j:PV=>(wg d b [ll Sd.v (j4 l q.1 q.2 (bP b x y)),.int q.1,.int q.2,x.v,y.v,(bP b x y).v,j])) rfl ?_ ?_
  rotate_left
  exact fun j=>h j
  intro K h
  have h3:0<=(q.1:Int)∧(q.1:Int)<2000∧-2000<(q.2:Int)∧(q.2:Int)<2000:=by exact(aQ 0x7d0322035203017d0329587d032103581030148002017201017384320027) hl h1 h2
  with_reducible refine JH (as:=?as) (ρ':=(wg d b [ll Sd.v l,.int q.1,.int q.2,x.v,y.v,(bP b x y).v,j.2.2.2])) (a:=q.1) (b:=q.2) (k:=q.2-q.1) rfl ?_ ?_ ?_ ?_ (Int.toNat_sub _ _) h3 ?_
  rotate_left
  rfl
  rfl
  rfl
  exact fun F h=>h
  refine lV (τ:=List PV) (ι:=PV) (eA q.1 (q.2-q.1)) (fun F=>F.length=d.length) (fun F i=>aS F (q.1+i) (bP b x y).v) (fun F j=>(wg d b [.lst F,.int q.1,.int q.2,x.v,y.v,(bP b x y).v,j])) (l.map Sd.v) j.2.2.2 (by rw[length_map];exact hd) (fun i hi F j K hF h=>?_) (fun i zz F hF=>(setN_len ..).trans hF) fun j=>?_
  ·have hi:=bw hi
   refine ae (a:=(wg d b [.lst F,.int q.1,.int q.2,x.v,y.v,(bP b x y).v,.int ((q.1:Int)+i)])) rfl ?_
   exact ak rfl (wg d b [.lst (aS F (q.1+i) (bP b x y).v),.int q.1,.int q.2,x.v,y.v,(bP b x y).v,.int ((q.1:Int)+i)]) (fun K h=>ae (o:=cw (.lst F) (.int ((q.1:Int)+i)) (bP b x y).v) (c8 (k:=q.1+i) (by exact(az 0x10004310300346)) (by exact(mG 0x20304042400053027102037100017) h2 hF hi)) h) (h _)
  ·rw[nQ]
   exact h j
end
section
variable {m:Nat} {Q:PV->PV->Om} {c:List Kd} {d:List Sd} {t:List Cd}
noncomputable def Hd (b:Bool) (p:List PV) (d:List Sd) (L:List PV):PV:=.obj 2 [s "places",s "classes",s "level",s "sos",s "eos",s "codes"] [.fz (.lst p),fl Sd.v d,.int (bi b),(ds b).v,(ds b).v,.lst L]
noncomputable def He (b:Bool) (d:List Sd):List Sd:=(jx d).foldl (l7 b d) d
theorem JJ (hm:3<=m) {b:Bool} {p L:List PV} (hl:d.length<900) (hL:L.map af=t.map Cd.v) (ht:t.length=d.length) (hr:∀q ∈ jx d,Cn b d q) (h:Q (fl Sd.v (He b d)) .LZ):aW TT m 38 [.fz (Hd b p d L),dat,fl Kd.v c] Q:=by
 refine pin (ρ:=[_,_,_,.LZ,.LZ,.LZ]) hm rfl rfl fun n hn=>?_
 refine ak rfl [_,_,_,fl Sd.v d,.LZ,.LZ] (fun K h=>h) ?_
 refine ak rfl [_,_,_,_,fl Kd.v c,.LZ] (fun K h=>h) ?_
 refine ak rfl [_,_,_,_,_,fl Sd.v d] (fun K h=>JF (N:=0) (fu hn) hL ht (JG (fu hn) rfl h)) ?_
 exact JI hn hl hr h
noncomputable def imp:Bool->Sd->Lv
 | false,.R=>.l1
 | false,_=>.l0
 | true,.R=>.l1
 | true,_=>.l2
theorem JK (hm:1<=m) {b:Bool} {x:Sd} (h:Q (imp b x).v .LZ):aW TT m 39 [x.v,.int (bi b)] Q:=
 pin (ρ:=[_,_]) hm rfl rfl fun n hn=>by rcases b with _|_<;>rcases x with _|_<;>exact h
theorem JL (hm:2<=m) {b:Bool} (hl:d.length<900) (h:Q (ll Lv.v (d.map (imp b))) .LZ):aW TT m 40 [fl Sd.v d,.int (bi b)] Q:=
 pin (ρ:=[_,_]) hm rfl rfl fun n hn=>fZ (mm Sd.vz d) (fun x=>(imp b x).v) (mp (imp b) Lv.v d) (fun j:PV=>[j,fl Sd.v d,.int (bi b)]) .LZ (fun zz x=>x.v) (Bo hl) (fun x zz a j K h=>JK hn h) fun zz=>h
theorem JM (hm:4<=m) {b:Bool} {N:Nat} (hl:c.length<900) (h:Q (fl Sd.v (cY (ds b) c)) .LZ):aW TT m 31 [.fz (iS b N c t)] Q:=
 pin (ρ:=[_]) hm rfl rfl fun n hn=>JA (t:=ds b) hn hl h
noncomputable def nR (b:Bool) (c:List Kd):List Lv:=(He b (cY (ds b) c)).map (imp b)
theorem JN (hm:5<=m) {b:Bool} {N:Nat} (hl:c.length<900) (ht:t.length=c.length) (hr:∀q ∈ jx (cY (ds b) c),Cn b (cY (ds b) c) q) (h:Q (ll Lv.v (nR b c)) .LZ):aW TT m 41 [.fz (iS b N c t),dat] Q:=by
 have hd:(cY (ds b) c).length=c.length:=jw
 have hn':∀l:List (Nat×Nat),∀e,(l.foldl (l7 b (cY (ds b) c)) e).length=e.length:=fun l=>by
  induction l with
  | nil=>exact fun zz=>rfl
  | cons q l ih=>exact fun e=>(ih _).trans fill1_len
 refine pin (ρ:=[_,_,.LZ,.LZ]) hm rfl rfl fun n hn=>?_
 refine ak rfl [_,_,fl Sd.v (cY (ds b) c),.LZ] (fun K h=>JM hn hl h) ?_
 refine ak rfl [_,_,_,Hd b (qS N) (cY (ds b) c) (((t.map Cd.v).map af).map af)] (fun K h=>G3 (q:=(cY (ds b) c).map Sd.v) (fu hn) h) ?_
 exact JJ (fu hn) (hd▸hl) (by rw[mm Cd.vz,mm Cd.vz,mm Cd.vz]) (ht.trans hd.symm) hr (JL (fu hn) (by rw[He,hn',hd];exact hl) h)
theorem qT {v y:PV}:∀(p F:List PV),aS (p++y::F) p.length v=p++v::F
 | [],_=>rfl
 | _::p,F=>congrArg (_::·) (qT p F)
theorem qU {α:Type} (g:α->PV):∀(l:List α) (p F:List PV),F.length=l.length->((range' p.length l.length).zip l).foldl (fun F q=>aS F q.1 (g q.2)) (p++F)=p++l.map g
 | [],p,F,h=>by
  cases F with
  | nil=>rfl
  | cons _ _=>exact nomatch h
 | x::l,p,F,h=>by
  cases F with
  | nil=>exact nomatch h
  | cons y F=>
   show((range' (p.length+1) l.length).zip l).foldl _ (aS (p++y::F) p.length (g x))=_
   rw[qT]
   have:=qU g l (p++[g x]) F (Nat.succ.inj h)
   rw[length_append,append_assoc,append_assoc]at this
   exact this
theorem pA {b:Bool}:(nR b c).length=c.length:=by
 have hn':∀l:List (Nat×Nat),∀e,(l.foldl (l7 b (cY (ds b) c)) e).length=e.length:=fun l=>by
  induction l with
  | nil=>exact fun zz=>rfl
  | cons q l ih=>exact fun e=>(ih _).trans fill1_len
 rw[nR,length_map,He,hn',jw]
noncomputable def Bv (i e:Int) (b:Bool) (x:Kd) (c:List Kd) (t:List Cd) (r:List PV):Env:=.fz (lZ i e b (x::c) t)::dat::r
theorem JO (hm:6<=m) {b:Bool} {x y:Kd} {i e:Int} (hl:c.length<800) (ht:t.length=c.length+1) (hy:(x::c)[c.length]?=some y) (hr:∀q ∈ jx (cY (ds b) (x::c)),Cn b (cY (ds b) (x::c)) q) (h:Q (fl Lv.v (nR b (x::c))) .LZ):
  aW TT m 42 [.fz (lZ i e b (x::c) t),dat] Q:=by
 refine pin (ρ:=[_,_,.LZ,.LZ,.LZ,.LZ]) hm rfl rfl fun n hn=>?_
 refine ak rfl (Bv i e b x c t [.lst (((x::c).map fun zz=>bi b).map PV.int),.LZ,.LZ,.LZ]) (fun K h=>fV (mm (g:=PV.int) (fun zz=>rfl) _) (fun L=>K .nxt (Bv i e b x c t [.lst L,.LZ,.LZ,.LZ])) h) ?_
 refine fU (fun j:PV×PV=>(Bv i e b x c t [ll Lv.v (nR b (x::c)),.fz (iS b (c.length+1) (x::c) t),j.1,j.2])) rfl (fun K h=>?_) fun zz=>h
 obtain⟨N,hN⟩:∃N,N=c.length+1:=⟨_,rfl⟩
 have hlev:(nR b (x::c)).length=N:=hN▸pA
 refine Bm rfl (.fz (iS b (c.length+1) (x::c) t)) (Bv i e b x c t [.lst (((x::c).map fun zz=>bi b).map PV.int),.fz (iS b (c.length+1) (x::c) t),.LZ,.LZ]) rfl (fun F h=>Jr (fu hn) (Nat.lt_trans hl (by decide)) ht hy h) rfl ?_
 rw[←hN]at h⊢
 refine fU (fun j:PV×PV=>(Bv i e b x c t [ll Lv.v (nR b (x::c)),.fz (iS b N (x::c) t),j.1,j.2])) rfl (fun K h=>?_) h
 refine c7 rfl (gb ((qS N).map af) (((nR b (x::c)).map Lv.v).map af)) rfl (fun F h=>JN (fu hn) (by exact show c.length+1<_ from(ba 0x38432110042320320027) hl) ht hr h) ?_
 have hz:gb ((qS N).map af) (((nR b (x::c)).map Lv.v).map af)=((range' 0 N).zip (nR b (x::c))).map fun q=>.tup [iv q.1,q.2.v]:=by
  rw[Bq,mm Lv.vz]
  exact lT _ _
 refine lV (τ:=List PV) (ι:=PV×PV) hz (fun F=>F.length=N) (fun F q=>aS F q.1 q.2.v) (fun F j=>(Bv i e b x c t [.lst F,.fz (iS b N (x::c) t),j.1,j.2])) (((x::c).map fun zz=>bi b).map PV.int) (.LZ,.LZ) (by simp[hN]) (fun q hq F j K hF h=>?_) (fun q zz F hF=>(setN_len ..).trans hF) fun j=>?_
 ·have hi:=bw (of_mem_zip hq).1
  refine ae (a:=(Bv i e b x c t [.lst F,.fz (iS b N (x::c) t),iv q.1,q.2.v])) rfl ?_
  exact ak rfl (Bv i e b x c t [.lst (aS F q.1 q.2.v),.fz (iS b N (x::c) t),iv q.1,q.2.v]) (fun K h=>ae (o:=cw (.lst F) (iv q.1) q.2.v) (c8 (k:=q.1) rfl (hF▸hi)) h) (h (_,_))
 ·have:=qU Lv.v (nR b (x::c)) [] (((x::c).map fun zz=>bi b).map PV.int) (by rw[hlev,hN];simp)
  rw[hlev]at this
  rw[nil_append]at this
  exact(congrArg (fun L=>K .nxt (Bv i e b x c t [.lst L,.fz (iS b N (x::c) t),j.1,j.2])) this).mpr (h j)
def l8:Prop:=∀(b:Bool) (d:List Sd),∀q ∈ jx d,Cn b d q
theorem JP (R:l8) (hm:7<=m) {w:Wd} (h0:t≠[]) (hl:t.length<800) (hp:iR t=[(0,t.length)]) (h:Q (fl Lv.v (nR (pO (t.map Cd.bc) w) (t.map Cd.bc))) .LZ):aW TT m 43 [fl Cd.v t,dat,w.v] Q:=by
 refine pin (ρ:=[_,_,_,.int 125,.LZ,.LZ]) hm rfl rfl fun n hn=>?_
 obtain⟨b,hb⟩:∃b,b=pO (t.map Cd.bc) w:=⟨_,rfl⟩
 obtain⟨c,hc⟩:∃c,c=t.map Cd.bc:=⟨_,rfl⟩
 have hcl:c.length=t.length:=by rw[hc,length_map]
 refine ak rfl [_,_,_,_,.lst [],.LZ] (fun K h=>h) ?_
 refine fU (fun e=>[fl Cd.v t,dat,w.v,.int 125,ll Lv.v (nR b c),.fz (lZ 0 e b c t)]) rfl (fun K h=>?_) fun zz=>by rw[hb,hc];exact h
 refine GX rfl (fun e:Int=>.fz (lZ 0 e b c t)) (fun e=>[fl Cd.v t,dat,w.v,.int 125,.lst [],.fz (lZ 0 e b c t)]) rfl (fun F h=>Js (fu hn) (Nat.lt_trans hl (by decide)) hp fun e=>by rw[←hb,←hc];exact h e) (fun zz=>rfl) fun e=>?_
 refine ak rfl [fl Cd.v t,dat,w.v,.int 125,ll Lv.v (nR b c),.fz (lZ 0 e b c t)] (fun K h=>?_) (h e)
 have hk:cA ([]++((nR b c).map Lv.v).map af)=true:=aU (by rw[nil_append,sO,pA];exact(az 0x3e832102001037320320027) hl hcl)
 cases c with
 | nil=>exact absurd (List.map_eq_nil_iff.mp hc.symm) h0
 | cons x c=>
  have hy:=aF Kd.L (l:=x::c) (i:=c.length) (lt_succ_self _)
  exact JO hn (by simp at hcl;exact(az 0x32032102001110437320320027) hl hcl) hcl.symm hy (R b _) (av (b:=cA ([]++((nR b (x::c)).map Lv.v).map af)) hk (fV (mm Lv.vz _) (fun L=>K .nxt [fl Cd.v t,dat,w.v,.int 125,.lst L,.fz (lZ 0 e b (x::c) t)]) h))
end
section
variable {m:Nat} {Q:PV->PV->Om} {c:List Kd} {t:List Cd} {lv:List Lv}
theorem iT {α:Type} {g:α->PV} (hg:∀x,af (g x)=g x) {l:List α} {i j:Nat}:cut ((l.map g).map af) (some i) (some j)=((l.take j).drop i).map g:=by
 have h (k:Nat):be k (l.map g).length=min k l.length:=by
  unfold be
  rw[if_neg (by simp),length_map]
  rfl
 rw[mm hg]
 show((l.map g).take (be j (l.map g).length)).drop (be i (l.map g).length)=_
 rw[h,h,map_drop,map_take]
 by_cases c:i<=l.length
 ·rw[Nat.min_eq_left c]
  by_cases d:j<=l.length
  ·rw[Nat.min_eq_left d]
  ·rw[Nat.min_eq_right (by exact(az 0x10101000177) d),take_of_length_le (by simp),take_of_length_le (by simp;exact(az 0x10101000177) d)]
 ·rw[Nat.min_eq_right (by exact(az 0x10101000177) c),List.drop_eq_nil_of_le (by simp;exact(az 0x10100061)),List.drop_eq_nil_of_le (by simp;exact(aQ 0x10206101000177) c)]
theorem l9 {α:Type} {g:α->PV} {l:List α} {i:Int} {k:Nat} {x:α} (hi:i=k) (h:l[k]?=some x):fR (.lst (l.map g)) (.int i)=some (g x):=by
 show(bg i (l.map g).length).map (aK (l.map g))=_
 rw[ky hi (by rw[length_map];exact pq h)]
 exact congrArg some (iQ h)
noncomputable def up (e:Bool):Kd->Bool
 | .B=>true
 | .WS=>e
 | _=>false
noncomputable def zt (kd:List Kd) (i j:Nat) (b:Bool) (s:List Lv×Bool) (q:Nat):List Lv×Bool:=(if up s.2 (kd.getD (j-1-q) .L)then s.1.set (j-1-q-i) (bl b)else s.1,up s.2 (kd.getD (j-1-q) .L))
noncomputable def eC (lv:List Lv) (kd:List Kd) (i j:Nat) (b:Bool):List Lv:=((range' 0 (j-i)).foldl (zt kd i j b) ((lv.take j).drop i,true)).1
noncomputable def Bw (lv:List Lv) (c:List Kd) (i j:Nat) (b:Bool) (r:List PV):Env:=fl Lv.v lv::fl Kd.v c::aG (i,j)::.int (bi b)::r
theorem JQ (hm:1<=m) {i j:Nat} {b:Bool} (hc:c.length=lv.length) (hl:lv.length<900) (hij:i<=j) (hj:j<=lv.length) (h:Q (fl Lv.v (eC lv c i j b)) .LZ):aW TT m 44 [fl Lv.v lv,fl Kd.v c,aG (i,j),.int (bi b)] Q:=by
 refine pin (ρ:=[_,_,_,_,.LZ,.LZ,.LZ,.LZ]) hm rfl rfl fun n hn=>?_
 have h1:(cut ((lv.map Lv.v).map af) (some i) (some j)).map af=((lv.take j).drop i).map Lv.v:=by rw[iT Lv.vz,mm Lv.vz]
 refine ak rfl (Bw lv c i j b [ll Lv.v ((lv.take j).drop i),.LZ,.LZ,.LZ]) (fun K h=>fV h1 (fun L=>K .nxt (Bw lv c i j b [.lst L,.LZ,.LZ,.LZ])) h) ?_
 refine ak rfl [_,_,_,_,_,.bool true,.LZ,.LZ] (fun K h=>h) ?_
 refine fU (fun j':PV×PV×PV=>(Bw lv c i j b [ll Lv.v (eC lv c i j b),j'.1,j'.2.1,j'.2.2])) rfl (fun K h=>?_) fun zz=>h
 refine c7 rfl (aZ ((j:Int)-1) (-1) (j-i)) rfl (fun F h=>ae (o:=cv [.int ((j:Int)-1),.int ((i:Int)-1),.int (-1)]) (vO (by exact(az 0x10005111035110035533)) (by exact(aQ 0x7d0321110355111035017d0329587d03211203558112035017d032958002017201017384320027) hl hij hj)) h) ?_
 refine lV (τ:=List Lv×Bool) (ι:=PV×PV) (vP _ _) (fun s=>s.1.length=j-i) (zt c i j b) (fun s j'=>(Bw lv c i j b [ll Lv.v s.1,.bool s.2,j'.1,j'.2])) ((lv.take j).drop i,true) (.LZ,.LZ) (by simp;exact(aQ 0x20005201000653100017) hj) (fun q hq s j' K hs h=>?_) (fun q zz s hs=>?_) fun j'=>h (_,_,_)
 ·have hi:=bw hq
  have hk:j-1-q<c.length:=by exact(mG 0x301120552402053027102017100037) hc hj hi
  unfold zt at h
  refine ae (a:=(Bw lv c i j b [ll Lv.v s.1,.bool s.2,.int ((j:Int)-1-q),j'.2])) rfl ?_
  refine ak rfl (Bw lv c i j b [ll Lv.v s.1,.bool s.2,.int ((j:Int)-1-q),(c.getD (j-1-q) .L).v]) (fun K h=>ae (o:=aw (fl Kd.v c) (.int ((j:Int)-1-q))) (bj Kd.vz (k:=j-1-q) (by exact(aQ 0x111055300311103556201050027) hi) (aF Kd.L hk)) h) ?_
  generalize c.getD (j-1-q) Kd.L=k at h⊢
  refine ak rfl (Bw lv c i j b [ll Lv.v s.1,.bool (up s.2 k),.int ((j:Int)-1-q),k.v]) (fun K h=>by rcases k with _|_<;>exact h) ?_
  generalize up s.2 k=e at h⊢
  cases e with
  | false=>exact h (_,_)
  | true=>
   refine ak rfl (Bw lv c i j b [ll Lv.v (s.1.set (j-1-q-i) (bl b)),.bool true,.int ((j:Int)-1-q),k.v]) (fun K h=>?_) (h (_,_))
   refine ae (o:=fR (.lst (s.1.map Lv.v)) (.int ((j:Int)-1-q-i))) (l9 (k:=j-1-q-i) (by exact(aQ 0x200011105553203003111035556201050027) hi) (aF Lv.l0 (by exact(b6 0x203011105552201053027201050037) hs hi))) ?_
   exact ae (o:=cw (.lst (s.1.map Lv.v)) (.int ((j:Int)-1-q-i)) (.int (bi b))) (c8 (k:=j-1-q-i) (by exact(aQ 0x200011105553203003111035556201050027) hi) (by rw[length_map];exact(b6 0x203011105552201053027201050037) hs hi)) (fV (eB Lv.v s.1 _ (bl b)) (fun L=>K .nxt (Bw lv c i j b [.lst L,.bool true,.int ((j:Int)-1-q),k.v])) h)
 ·show(zt c i j b s q).1.length=_
  unfold zt
  split
  ·rw[length_set,hs]
  ·exact hs
theorem Co {τ ι α:Type} (I:List α->τ->Prop) (nx:τ->α->τ) (E:τ->ι->Env) {g:α->PV} {bind:PV->Env->Option Env} {body:M Fl} {P:Fl->Env->Om}
  (hb:∀x r t j (K:Fl->Env->Om),I (x::r) t->(∀j,K .nxt (E (nx t x) j))->aP (bind (g x) (E t j)) fun ρ=>body ρ K) (hI:∀x r t,I (x::r) t->I r (nx t x)) (hP:∀t j,I [] t->P .nxt (E t j)):
  ∀(l:List α) (t:τ) (j:ι),I l t->a9 bind body (l.map g) (E t j) P
 | [],t,j,h=>hP t j h
 | x::r,t,j,h=>hb x r t j _ h fun j=>Co I nx E hb hI hP r _ j (hI x r t h)
theorem iU {τ ι α:Type} {L:List PV} {l:List α} {g:α->PV} (hL:L=l.map g) (I:List α->τ->Prop) (nx:τ->α->τ) (E:τ->ι->Env) (t:τ) (j:ι) {bind:PV->Env->Option Env} {body:M Fl} {P:Fl->Env->Om}
  (h:I l t) (hb:∀x r t j (K:Fl->Env->Om),I (x::r) t->(∀j,K .nxt (E (nx t x) j))->aP (bind (g x) (E t j)) fun ρ=>body ρ K) (hI:∀x r t,I (x::r) t->I r (nx t x)) (hP:∀t j,I [] t->P .nxt (E t j)):a9 bind body L (E t j) P:=by
 cases hL
 exact Co I nx E hb hI hP l t j h
noncomputable def aO (p:Nat->Bool):List Nat->List Nat->List Nat
 | R,[]=>R
 | R,x::r=>if p x then aO p (x::R) r else R++x::aO p [] r
theorem tY {p:Nat->Bool} {R:List Nat}:aO p R []=R:=rfl
theorem cn {p:Nat->Bool} {R r:List Nat} {x:Nat}:aO p R (x::r)=if p x then aO p (x::R) r else R++x::aO p [] r:=rfl
noncomputable def f9 (lv:List Lv) (a:Lv) (x:Nat):Bool:=decide (a.i<=(lv.getD x .l0).i)
noncomputable def Hf (lv:List Lv) (a:Lv) (s:List Nat×List Nat) (x:Nat):List Nat×List Nat:=if f9 lv a x then(s.1,x::s.2)else(s.1++s.2++[x],[])
theorem kB (i:Nat):af (iv i)=iv i:=rfl
noncomputable def yE (O:List PV) (lv:List Lv) (a:Lv) (r:List PV):Env:=.fz (.lst O)::fl Lv.v lv::a.v::r
set_option tactic.hygienic true in
theorem Ex (hm:1<=m) {o:List Nat} {O:List PV} {a:Lv} (hO:O.map af=o.map iv) (ho:∀x ∈ o,x<lv.length) (hl:o.length<900) (h:Q (fl iv (aO (f9 lv a) [] o)) .LZ):aW TT m 45 [.fz (.lst O),fl Lv.v lv,a.v] Q:=by
 refine pin (ρ:=[_,_,_,.LZ,.LZ,.LZ]) hm rfl rfl fun n hn=>?_
 have hrev (F R:List Nat):F.map iv++((((R.reverse.map iv).map af).reverse).map af)=(F++R).map iv:=by rw[mm kB,←List.map_reverse,List.reverse_reverse,mm kB,map_append]
 have hok (F:List Nat) (k:F.length<1000):cA (F.map iv)=true:=aU (by rwa [length_map])
 refine ak rfl [_,_,_,.lst [],.LZ,.LZ] (fun K h=>h) ?_
 refine ak rfl [_,_,_,_,.lst [],.LZ] (fun K h=>h) ?_
 refine fU (fun s:{s:List Nat×List Nat // s.1++s.2=aO (f9 lv a) [] o∧s.1.length+s.2.length<900}×PV=>(yE O lv a [ll iv s.1.1.1,ll iv s.1.1.2.reverse,s.2])) rfl (fun K h=>?_) fun⟨⟨⟨F,R⟩,h1,h2⟩,j⟩=>?_
 ·refine c7 rfl (O.map af) rfl (fun F h=>h) ?_
  refine iU (τ:=List Nat×List Nat) (ι:=PV) hO (fun r s=>s.1++aO (f9 lv a) s.2 r=aO (f9 lv a) [] o∧s.1.length+s.2.length+r.length<900∧∀x ∈ r,x<lv.length) (Hf lv a) (fun s j=>(yE O lv a [ll iv s.1,ll iv s.2.reverse,j])) ([],[]) .LZ ⟨rfl,by simpa using hl,ho⟩ (fun x r s j K hs h=>?_) (fun x r s hs=>?_) fun s j hs=>h (⟨s,hs.1,by simpa using hs.2.1⟩,j)
  ·refine ae (a:=(yE O lv a [ll iv s.1,ll iv s.2.reverse,iv x])) rfl ?_
   refine ak rfl (yE O lv a [ll iv (Hf lv a s x).1,ll iv (Hf lv a s x).2.reverse,iv x]) (fun K h=>?_) (h _)
   have hlen:=hs.2.1
   rw[length_cons]at hlen
   refine ae (o:=aw (fl Lv.v lv) (iv x)) (b5 Lv.vz Lv.l0 (hs.2.2 x mem_cons_self)) ?_
   unfold Hf at h
   cases q:f9 lv a x with
   | true=>
    rw[if_pos q]at h
    refine bE q (av (b:=cA (s.2.reverse.map iv++[iv x])) (aU (by simp;exact(aQ 0x3e832111042384322010004427) hs.2.1)) (fV (A:=s.2.reverse.map iv++[iv x]) (B:=(x::s.2).reverse.map iv) (by simp) (fun L=>K .nxt (yE O lv a [ll iv s.1,.lst L,iv x])) h))
   | false=>
    rw[if_neg (by rw[q];decide)]at h
    refine bC q ?_
    refine ak rfl (yE O lv a [ll iv (s.1++s.2),fl iv s.2.reverse,iv x]) (fun K h=>av (b:=cA (s.1.map iv++(((s.2.reverse.map iv).map af).reverse).map af)) (by rw[hrev];exact hok _ (by simp;exact(aQ 0x3e832100042384322010004427) hs.2.1)) (fV (hrev _ _) (fun L=>K .nxt (yE O lv a [.lst L,fl iv s.2.reverse,iv x])) h)) ?_
    refine ak rfl (yE O lv a [ll iv (s.1++s.2++[x]),fl iv s.2.reverse,iv x]) (fun K h=>lX (v:=iv) (F:=s.1++s.2) (x:=x) (by simp;exact(aQ 0x3e732100042384322010004427) hs.2.1) (fun L=>K .nxt (yE O lv a [.lst L,fl iv s.2.reverse,iv x])) h) ?_
    exact ak rfl [_,_,_,_,.lst [],_] (fun K h=>h) h
  ·obtain⟨h1,h2,h3⟩:=hs
   have h3:∀y ∈ r,y<lv.length:=fun y hy=>h3 y (mem_cons_of_mem _ hy)
   rw[length_cons]at h2
   have h1:s.1++(if f9 lv a x then aO (f9 lv a) (x::s.2) r else s.2++x::aO (f9 lv a) [] r)=aO (f9 lv a) [] o:=h1
   unfold Hf
   split
   ·rename_i q
    rw[if_pos q]at h1
    exact⟨h1,by simp;exact(aQ 0x38432201110400442384321120410004427) h2,h3⟩
   ·rename_i q
    rw[if_neg q]at h1
    exact⟨by rw[←h1];simp,by simp;exact(aQ 0x38432201110400442384321120410004427) h2,h3⟩
 ·refine ak rfl (yE O lv a [ll iv (F++R),fl iv R.reverse,j]) (fun K h=>av (b:=cA (F.map iv++(((R.reverse.map iv).map af).reverse).map af)) (by rw[hrev];exact hok _ (by simp at h2⊢;exact(az 0x3e832100042384321000427) h2)) (fV (hrev _ _) (fun L=>K .nxt (yE O lv a [.lst L,fl iv R.reverse,j])) h)) ?_
  have h1:F++R=aO (f9 lv a) [] o:=h1
  rw[h1]
  exact h
end
section
variable {m:Nat} {Q:PV->PV->Om} {c:List Kd} {t:List Cd} {lv:List Lv}
theorem yG {σ α:Type} (E:σ->Env) (f:σ->α->σ) (q:α->Bool) (o:α->PV) {g:α->PV} {bind:PV->Env->Option Env} {turn:List PV->M (List PV)} {P:List PV->Env->Om}
  (hb:∀x a s (K:List PV->Env->Om),(q x=true->bK (cA (a++[o x])) (K (a++[o x]) (E (f s x))))->(q x=false->K a (E (f s x)))->aP (bind (g x) (E s)) fun ρ=>turn a ρ K):
  ∀(l:List α) (a:List PV) (s:σ),a.length+l.length<1000->(∀s,P (a++(l.filter q).map o) (E s))->cK bind turn (l.map g) a (E s) P
 | [],a,s,_,hP=>by have:=hP s;rwa [List.filter_nil,map_nil,append_nil]at this
 | x::r,a,s,h,hP=>by
  refine hb x a s _ (fun e=>av (aU (by simp at h⊢;exact(az 0x3e8321100423e8321110400427) h)) (yG E f q o hb r _ _ (by simp at h⊢;exact(az 0x3e8321011004423e8321110400427) h) fun s=>?_)) fun e=>yG E f q o hb r _ _ (by simp at h⊢;exact(az 0x3e8321000423e8321110400427) h) fun s=>?_
  ·have:=hP s
   rwa [filter_cons,if_pos e,map_cons,List.append_cons]at this
  ·have:=hP s
   rwa [filter_cons,if_neg (by rw[e];decide)]at this
theorem Bx {σ α:Type} {L R:List PV} {l:List α} {g:α->PV} (hL:L=l.map g) (q:α->Bool) (o:α->PV) (hR:(l.filter q).map o=R) (E:σ->Env) (s:σ) (f:σ->α->σ) {bind:PV->Env->Option Env} {turn:List PV->M (List PV)} {P:List PV->Env->Om}
  (h:l.length<1000) (hb:∀x a s (K:List PV->Env->Om),(q x=true->bK (cA (a++[o x])) (K (a++[o x]) (E (f s x))))->(q x=false->K a (E (f s x)))->aP (bind (g x) (E s)) fun ρ=>turn a ρ K)
  (hP:∀s,P R (E s)):cK bind turn L [] (E s) P:=by
 cases hL
 subst hR
 exact yG E f q o hb l [] s (by simpa using h) hP
noncomputable def vQ:Lv->Bool
 | .l0=>true
 | _=>false
noncomputable def gN:Lv->Bool
 | .l1=>true
 | _=>false
noncomputable def kC:Lv->Bool
 | .l2=>true
 | _=>false
noncomputable def bx (l:List Lv):List Lv:=l.filter vQ++(l.filter gN++l.filter kC)
theorem vR (x:Lv) (l:List Lv):oP x.i ((bx l).map Lv.i)=(bx (x::l)).map Lv.i:=by
 have h0:∀y ∈ l.filter vQ,y=.l0:=fun y hy=>by have:=(mem_filter.mp hy).2;rcases y with _|_<;>first|rfl|exact nomatch this
 have h1:∀y ∈ l.filter gN,y=.l1:=fun y hy=>by have:=(mem_filter.mp hy).2;rcases y with _|_<;>first|rfl|exact nomatch this
 have h2:∀y ∈ l.filter kC,y=.l2:=fun y hy=>by have:=(mem_filter.mp hy).2;rcases y with _|_<;>first|rfl|exact nomatch this
 have key:∀(p:List Lv),(∀y ∈ p,y.i<x.i)->∀r:List Int,(∀y ∈ r,x.i<=y)->oP x.i (p.map Lv.i++r)=p.map Lv.i++x.i::r:=by
  intro p
  induction p with
  | nil=>
   intro zz r hr
   cases r with
   | nil=>rfl
   | cons y r=>exact if_pos (decide_eq_true (hr y mem_cons_self))
  | cons y p ih=>
   intro hp r hr
   have:=hp y mem_cons_self
   refine(if_neg (by simp;exact(oG 0x10005100057) this)).trans ?_
   exact congrArg (y.i::·) (ih (fun z hz=>hp z (mem_cons_of_mem _ hz)) r hr)
 unfold bx
 cases x
 ·have:=key [] (fun zz h=>absurd h not_mem_nil) ((l.filter vQ++(l.filter gN++l.filter kC)).map Lv.i) (fun y hy=>by obtain⟨z,zz,rfl⟩:=mem_map.mp hy;rcases z with _|_<;>decide)
  exact this
 ·have:=key (l.filter vQ) (fun y hy=>by rw[h0 y hy];decide) ((l.filter gN++l.filter kC).map Lv.i) (fun y hy=>by
   obtain⟨z,hz,rfl⟩:=mem_map.mp hy
   rcases mem_append.mp hz with hz|hz
   ·rw[h1 z hz];decide
   ·rw[h2 z hz];decide)
  simpa [filter_cons,vQ,gN,kC] using this
 ·have:=key (l.filter vQ++l.filter gN) (fun y hy=>by
   rcases mem_append.mp hy with hz|hz
   ·rw[h0 y hz];decide
   ·rw[h1 y hz];decide) ((l.filter kC).map Lv.i) (fun y hy=>by
   obtain⟨z,hz,rfl⟩:=mem_map.mp hy
   rw[h2 z hz];decide)
  simpa [filter_cons,vQ,gN,kC] using this
theorem tZ:∀l:List Lv,jN (l.map Lv.i)=(bx l).map Lv.i
 | []=>rfl
 | x::l=>by
  show oP x.i (jN (l.map Lv.i))=_
  rw[tZ l]
  exact vR x l
theorem ints_of:∀l:List Lv,eh (l.map Lv.v)=some (l.map Lv.i)
 | []=>rfl
 | x::l=>by
  show(eh (l.map Lv.v)).map _=_
  rw[ints_of l]
  rfl
theorem vS {L:List PV} {l:List Lv} (hL:L.map af=l.map Lv.v) (h:l.length<64):builtin .sorted [.lst L]=some (ll Lv.v (bx l)):=by
 show(if blt (L.map af).length 64 then(eh (L.map af)).map fun x=>PV.lst ((jN x).map .int)else none)=_
 rw[hL,if_pos (blt_eq.mpr (by rwa [length_map])),ints_of,map_some,tZ,map_map]
 rfl
theorem qV (n:Nat):aZ 0 1 n=(range' 0 n).map iv:=by
 rw[eA]
 exact map_congr_left fun i zz=>by simp[iv]
theorem sP {bind:PV->Env->Option Env} {body:M Fl} {x:PV} {r:List PV} {ρ:Env} {P:Fl->Env->Om} (ρ':Env) (hb:bind x ρ=some ρ') (h:body ρ' fun fl ρ=>match fl with
  | .nxt=>a9 bind body r ρ P
  | .cnt=>a9 bind body r ρ P
  | .brk=>P .nxt ρ
  | fl=>P fl ρ):a9 bind body (x::r) ρ P:=ae hb h
noncomputable def cR (lv:List Lv) (a:Lv) (o:List Nat):List Nat:=aO (f9 lv a) [] o
noncomputable def fA (lv:List Lv):List Nat:=range' 0 lv.length
noncomputable def cW (lv:List Lv):List Nat:=if lv.any gN then cR lv .l1 (if lv.any kC then cR lv .l2 (fA lv)else fA lv)else fA lv
theorem iV {p:Nat->Bool}:∀(o R:List Nat) (x:Nat),x ∈ aO p R o↔x ∈ R∨x ∈ o
 | [],R,x=>by simp[tY]
 | y::o,R,x=>by
  rw[cn]
  split
  ·rw[iV]
   simp only[mem_cons]
   constructor
   ·rintro((h|h)|h)
    ·exact .inr (.inl h)
    ·exact .inl h
    ·exact .inr (.inr h)
   ·rintro(h|h|h)
    ·exact .inl (.inr h)
    ·exact .inl (.inl h)
    ·exact .inr h
  ·rw[mem_append,mem_cons,iV]
   simp
theorem fm {p:Nat->Bool}:∀(o R:List Nat),(aO p R o).length=R.length+o.length
 | [],R=>by simp[tY]
 | y::o,R=>by
  rw[cn]
  split
  ·rw[fm]
   simp;exact(az 0x11104004101100443)
  ·rw[length_append,length_cons,fm]
   simp
theorem yH (l:List Lv):(l.map Lv.v).all (plain 7)=true:=by
 induction l with
 | nil=>rfl
 | cons x l ih=>
  rw[map_cons,List.all_cons,ih]
  rfl
theorem By {lv:List Lv} (h:lv.any gN=false):(bx lv).filter gN=[]:=by
 refine filter_eq_nil_iff.mpr fun x hx hq=>?_
 have:x ∈ lv:=by
  rcases mem_append.mp hx with hx|hx
  ·exact(mem_filter.mp hx).1
  ·rcases mem_append.mp hx with hx|hx
   ·exact(mem_filter.mp hx).1
   ·exact(mem_filter.mp hx).1
 have:=List.any_eq_false.mp h x this
 exact this hq
theorem yI {lv:List Lv} (h:lv.any gN=true):∃r,(bx lv).filter gN=.l1::r:=by
 obtain⟨x,hx,hq⟩:=any_eq_true.mp h
 have hm:x ∈ (bx lv).filter gN:=mem_filter.mpr ⟨mem_append_right _ (mem_append_left _ (mem_filter.mpr ⟨hx,hq⟩)),hq⟩
 cases e:(bx lv).filter gN with
 | nil=>rw[e]at hm;exact absurd hm not_mem_nil
 | cons y r=>
  have:y ∈ (bx lv).filter gN:=by rw[e];exact mem_cons_self
  have:=(mem_filter.mp this).2
  cases y
  ·exact nomatch this
  ·exact⟨r,rfl⟩
  ·exact nomatch this
theorem JR {lv:List Lv} (h:lv.any kC=true):(bx lv).getLast?=some .l2:=by
 obtain⟨x,hx,hq⟩:=any_eq_true.mp h
 unfold bx
 have hm:x ∈ lv.filter kC:=mem_filter.mpr ⟨hx,hq⟩
 have hne:lv.filter kC≠[]:=fun e=>by rw[e]at hm;exact absurd hm not_mem_nil
 rw[←append_assoc,List.getLast?_append,List.getLast?_eq_some_getLast hne,some_or]
 have:=(mem_filter.mp (List.getLast_mem hne)).2
 generalize (lv.filter kC).getLast hne=y at this
 rcases y with _|_<;>first|rfl|exact nomatch this
theorem JS {lv:List Lv} (h:lv.any kC=false) (h1:lv.any gN=true):(bx lv).getLast?=some .l1:=by
 obtain⟨x,hx,hq⟩:=any_eq_true.mp h1
 unfold bx
 have hm:x ∈ lv.filter gN:=mem_filter.mpr ⟨hx,hq⟩
 have hne:lv.filter gN≠[]:=fun e=>by rw[e]at hm;exact absurd hm not_mem_nil
 have h2:lv.filter kC=[]:=filter_eq_nil_iff.mpr fun x hx hq=>List.any_eq_false.mp h x hx hq
 rw[h2,append_nil,List.getLast?_append,List.getLast?_eq_some_getLast hne,some_or]
 have:=(mem_filter.mp (List.getLast_mem hne)).2
 generalize (lv.filter gN).getLast hne=y at this
 rcases y with _|_<;>first|rfl|exact nomatch this
section
variable {T:Tab} {Φ:Calls} {r:Ev} {n:Nat} {cx:bF} {tt:Expr} {a b:List Stmt} {p:Pos} {s:Stmt} {ρ ρ':Env}
theorem wh {K:Fl->Env->Om} (hs:s=.If (j0 s) (mR s) (GW s) p) (ρ':Env) (ht:∀F:Bool->Env->Om,F true ρ'->r.t cx (j0 s) ρ F) (h:aV (ex T Φ r n cx) (mR s) ρ' K):ex T Φ r (n+1) cx s ρ K:=by
 generalize j0 s=tt,mR s=a,GW s=b at *
 cases hs
 exact show r.t cx tt ρ (fun q ρ=>if q then aV (ex T Φ r n cx) a ρ K else aV (ex T Φ r n cx) b ρ K)from ht _ h
theorem zu {K:Fl->Env->Om} (hs:s=.If (j0 s) (mR s) (GW s) p) (ρ':Env) (ht:∀F:Bool->Env->Om,F false ρ'->r.t cx (j0 s) ρ F) (h:aV (ex T Φ r n cx) (GW s) ρ' K):ex T Φ r (n+1) cx s ρ K:=by
 generalize j0 s=tt,mR s=a,GW s=b at *
 cases hs
 exact show r.t cx tt ρ (fun q ρ=>if q then aV (ex T Φ r n cx) a ρ K else aV (ex T Φ r n cx) b ρ K)from ht _ h
end
theorem JT (hm:2<=m) (hl:lv.length<64) (h:Q (fl iv (cW lv)) .LZ):aW TT m 46 [fl Lv.v lv] Q:=by
 refine pin (ρ:=[_,.LZ,.LZ,.LZ,.LZ]) hm rfl rfl fun n hn=>?_
 have hid:(fA lv).length=lv.length:=length_range'
 have hmem:∀i ∈ fA lv,i<lv.length:=fun i hi=>bw hi
 refine ak rfl [fl Lv.v lv,ll iv (fA lv),.LZ,.LZ,.LZ] (fun K h=>ae (o:=cv [.int ((lv.map Lv.v).map af).length]) (by rw[sO];exact lY (by exact(ba 0x7d03200240220027) hl)) (fZ (qV _) iv rfl (fun j:PV=>[j,fl Lv.v lv,.LZ,.LZ,.LZ,.LZ]) .LZ (fun zz i=>iv i) (by rw[length_range'];exact(ba 0x3e83200240220027) hl) (fun i hi zz zz zz h=>ae (o:=aw (fl Lv.v lv) (iv i)) (b5 Lv.vz Lv.l0 (bw hi)) h) fun zz=>h)) ?_
 refine ak rfl [fl Lv.v lv,fl iv (fA lv),ll Lv.v (bx lv),.LZ,.LZ] (fun K h=>fZ (mm kB (fA lv)) (fun i=>(lv.getD i .l0).v) (jv Lv.v lv _ fun i x hx=>by rw[kA hx]) (fun j:PV=>[j,fl Lv.v lv,fl iv (fA lv),.LZ,.LZ,.LZ]) .LZ (fun zz i=>iv i) (by exact(az 0x3e83210200103740220027) hl hid)
  (fun i hi zz zz zz h=>ae (o:=aw (fl Lv.v lv) (iv i)) (b5 Lv.vz Lv.l0 (hmem i hi)) h) fun zz=>ae (o:=builtin .sorted [.lst (lv.map Lv.v)]) (vS (mm Lv.vz lv) hl) h) ?_
 have hs:(bx lv).length<1000:=by
  have h0:=length_filter_le vQ lv
  have h1:=length_filter_le gN lv
  have h2:=length_filter_le kC lv
  unfold bx
  rw[length_append,length_append]
  exact(b6 0x3e83230204104200301700201700101740220027) hl h0 h1 h2
 refine ak rfl [fl Lv.v lv,fl iv (fA lv),fl Lv.v (bx lv),.LZ,ll Lv.v ((bx lv).filter gN)] (fun K h=>Bx (mm Lv.vz (bx lv)) gN Lv.v rfl (fun j:PV=>[j,fl Lv.v lv,fl iv (fA lv),fl Lv.v (bx lv),.LZ,.LZ]) .LZ (fun zz x=>x.v) hs (fun x zz j K h1 h2=>by cases x;exact h2 rfl;exact h1 rfl;exact h2 rfl) fun zz=>h) ?_
 have last {x:Lv} (e:(bx lv).getLast?=some x):((iG (bb ((bx lv).map Lv.v))).bind fun q=>kH (af q))=some x.v:=by rw[dI e];rfl
 cases q1:lv.any gN with
 | false=>
  have e:cW lv=fA lv:=by
   unfold cW
   rw[q1]
   rfl
  rw[By q1]
  rw[e]at h
  exact h
 | true=>
  obtain⟨r,hr⟩:=yI q1
  rw[hr]
  have h0:fR (.lst ((.l1::r).map Lv.v)) (.int 0)=some Lv.l1.v:=l9 (k:=0) rfl rfl
  refine fU (fun j:PV=>[fl Lv.v lv,fl iv (cW lv),fl Lv.v (bx lv),j,ll Lv.v (.l1::r)]) rfl (fun K h=>?_) fun zz=>h
  refine wh rfl [fl Lv.v lv,fl iv (fA lv),fl Lv.v (bx lv),.LZ,ll Lv.v (.l1::r)] (fun F h=>av (b:=((.l1::r).map Lv.v).all (plain 7)) (yH _) h) ?_
  refine fU (fun j:PV=>[fl Lv.v lv,fl iv (cW lv),fl Lv.v (bx lv),j,ll Lv.v (.l1::r)]) rfl (fun K h=>?_) h
  cases q2:lv.any kC with
  | true=>
   have e:cW lv=cR lv .l1 (cR lv .l2 (fA lv)):=by
    unfold cW
    rw[q1,q2]
    rfl
   rw[e]at h
   refine c7 (ρ':=[fl Lv.v lv,fl iv (fA lv),fl Lv.v (bx lv),.LZ,ll Lv.v (.l1::r)]) rfl [.int 2,.int 1] rfl (fun F h=>ae (last (JR q2)) (ae h0 h)) ?_
   refine sP [fl Lv.v lv,fl iv (fA lv),fl Lv.v (bx lv),.int 2,ll Lv.v (.l1::r)] rfl ?_
   refine ak rfl [fl Lv.v lv,fl iv (cR lv .l2 (fA lv)),fl Lv.v (bx lv),.int 2,ll Lv.v (.l1::r)] (fun K h=>Ex (a:=.l2) (o:=fA lv) hn (mm kB _) hmem (by exact(az 0x3843210200103740220027) hl hid) h) ?_
   refine sP [fl Lv.v lv,fl iv (cR lv .l2 (fA lv)),fl Lv.v (bx lv),.int 1,ll Lv.v (.l1::r)] rfl ?_
   exact ak rfl [fl Lv.v lv,fl iv (cR lv .l1 (cR lv .l2 (fA lv))),fl Lv.v (bx lv),.int 1,ll Lv.v (.l1::r)] (fun K h=>Ex (a:=.l1) (o:=cR lv .l2 (fA lv)) hn (mm kB _) (fun x hx=>hmem x (((iV _ _ _).mp hx).resolve_left not_mem_nil)) (by unfold cR;rw[fm];simp;exact(az 0x3843210200103740220027) hl hid) h) (h _)
  | false=>
   have e:cW lv=cR lv .l1 (fA lv):=by
    unfold cW
    rw[q1,q2]
    rfl
   rw[e]at h
   refine c7 (ρ':=[fl Lv.v lv,fl iv (fA lv),fl Lv.v (bx lv),.LZ,ll Lv.v (.l1::r)]) rfl [.int 1] rfl (fun F h=>ae (last (JS q2 q1)) (ae h0 h)) ?_
   refine sP [fl Lv.v lv,fl iv (fA lv),fl Lv.v (bx lv),.int 1,ll Lv.v (.l1::r)] rfl ?_
   exact ak rfl [fl Lv.v lv,fl iv (cR lv .l1 (fA lv)),fl Lv.v (bx lv),.int 1,ll Lv.v (.l1::r)] (fun K h=>Ex (a:=.l1) (o:=fA lv) hn (mm kB _) hmem (by exact(az 0x3843210200103740220027) hl hid) h) (h _)
end
section
variable {m:Nat} {Q:PV->PV->Om} {c:List Kd} {t:List Cd} {lv:List Lv}
noncomputable def Cd.isM:Cd->Bool
 | .m=>true
 | _=>false
theorem Hg (hm:4<=m) {x:Lv} {c:Cd} (h:Q (.bool (gN x&&c.isM)) .LZ):aW TT m 47 [c.v,x.v,dat] Q:=by
 refine pin (ρ:=[_,_,_]) hm rfl rfl fun n hn=>?_
 cases x
 case l1=>exact tW hn .gc c (by rcases c with _|_<;>exact h)
 all_goals exact h
noncomputable def brk (lv:List Lv) (x g:Nat):Bool:=!((lv.getD x .l0).i==(lv.getD g .l0).i)||decide ((g:Int)<x)
noncomputable def mS (lv:List Lv) (t:List Cd) (x:Nat):Bool:=gN (lv.getD x .l0)&&(t.getD x .a).isM
noncomputable def iq (lv:List Lv) (s:List Nat×List Nat) (x:Nat):List Nat×List Nat:=match s.2.getLast? with
 | none=>s
 | some g=>if brk lv x g then(s.1++s.2,[])else s
noncomputable def f0 (lv:List Lv) (t:List Cd) (s:List Nat×List Nat) (x:Nat):List Nat×List Nat:=if mS lv t x then(s.1,s.2++[x])else(s.1++[x]++s.2.reverse,[])
noncomputable def nS (lv:List Lv) (t:List Cd) (s:List Nat×List Nat) (x:Nat):List Nat×List Nat:=f0 lv t (iq lv s x) x
noncomputable def pP (lv:List Lv) (t:List Cd) (o:List Nat):List Nat:=(o.foldl (nS lv t) ([],[])).1++(o.foldl (nS lv t) ([],[])).2
theorem kD {α:Type} (l:List α):l=[]∨∃p x,l=p++[x]:=(List.eq_nil_or_concat l).imp_right fun⟨p,x,e⟩=>⟨p,x,e.trans List.concat_eq_append⟩
theorem gz (l:List Nat):(l.map iv).all (plain 7)=true:=by
 induction l with
 | nil=>rfl
 | cons x l ih=>
  rw[map_cons,List.all_cons,ih]
  rfl
theorem qW (s:List Nat×List Nat) (x:Nat):(iq lv s x).1.length+(iq lv s x).2.length=s.1.length+s.2.length:=by
 unfold iq
 split
 ·rfl
 ·split
  ·simp
  ·rfl
theorem yJ {s:List Nat×List Nat} {x y:Nat} (h:y ∈ (iq lv s x).2):y ∈ s.2:=by
 unfold iq at h
 split at h
 ·exact h
 ·split at h
  ·exact absurd h not_mem_nil
  ·exact h
theorem t3 (s:List Nat×List Nat) (x:Nat):(nS lv t s x).1.length+(nS lv t s x).2.length=s.1.length+s.2.length+1:=by
 have:=qW (lv:=lv) s x
 unfold nS f0
 split
 ·simp;exact(b6 0x11302044111040043302041000437) this
 ·simp;exact(b6 0x11302044111040043302041000437) this
theorem Bz {s:List Nat×List Nat} {x y:Nat} (h:y ∈ (nS lv t s x).2):y ∈ s.2∨y=x:=by
 unfold nS f0 at h
 split at h
 ·rcases mem_append.mp h with h|h
  ·exact .inl (yJ h)
  ·exact .inr (mem_singleton.mp h)
 ·exact absurd h not_mem_nil
noncomputable def pB (O:List PV) (lv:List Lv) (t:List Cd) (r:List PV):Env:=.fz (.lst O)::fl Lv.v lv::fl Cd.v t::dat::r
theorem JU (hm:5<=m) {o:List Nat} {O:List PV} (hO:O.map af=o.map iv) (ho:∀x ∈ o,x<lv.length) (ht:t.length=lv.length) (hl:o.length<900) (h:Q (fl iv (pP lv t o)) .LZ):aW TT m 48 [.fz (.lst O),fl Lv.v lv,fl Cd.v t,dat] Q:=by
 refine pin (ρ:=[_,_,_,_,.LZ,.LZ,.LZ]) hm rfl rfl fun n hn=>?_
 have hok (F G:List Nat) (k:F.length+G.length<1000):cA (F.map iv++(G.map iv).map af)=true:=aU (by simp;exact(az 0x3e8321000423e8321000427) k)
 have hap (F G:List Nat):F.map iv++(G.map iv).map af=(F++G).map iv:=by rw[mm kB,map_append]
 refine ak rfl [_,_,_,_,.lst [],.LZ,.LZ] (fun K h=>h) ?_
 refine ak rfl [_,_,_,_,_,.lst [],.LZ] (fun K h=>h) ?_
 refine fU (fun s:{s:List Nat×List Nat // s.1++s.2=pP lv t o∧s.1.length+s.2.length<900}×PV=>(pB O lv t [ll iv s.1.1.1,ll iv s.1.1.2,s.2])) rfl (fun K h=>?_) fun⟨⟨⟨F,G⟩,h1,h2⟩,j⟩=>?_
 ·refine c7 rfl (O.map af) rfl (fun F h=>h) ?_
  refine iU (τ:=List Nat×List Nat) (ι:=PV) hO (fun r s=>r.foldl (nS lv t) s=o.foldl (nS lv t) ([],[])∧s.1.length+s.2.length+r.length<900∧(∀x ∈ s.2,x<lv.length)∧∀x ∈ r,x<lv.length) (nS lv t) (fun s j=>(pB O lv t [ll iv s.1,ll iv s.2,j])) ([],[]) .LZ ⟨rfl,by simpa using hl,fun zz h=>absurd h not_mem_nil,ho⟩ (fun x r s j K hs h=>?_) (fun x r s hs=>?_) fun s j hs=>h (⟨s,by rw[pP,←hs.1];rfl,by simpa using hs.2.1⟩,j)
  ·refine ae (a:=(pB O lv t [ll iv s.1,ll iv s.2,iv x])) rfl ?_
   refine ak rfl (pB O lv t [ll iv (iq lv s x).1,ll iv (iq lv s x).2,iv x]) (fun K h=>?_) ?_
   ·obtain⟨F,W⟩:=s
    rcases kD W with rfl|⟨W',g,rfl⟩
    ·exact h
    ·have hg:(W'++[g]).getLast?=some g:=by simp
     have hs1:iq lv (F,W'++[g]) x=if brk lv x g then(F++(W'++[g]),[])else(F,W'++[g]):=by
      unfold iq
      rw[hg]
     have hgl:=b5 Lv.vz Lv.l0 (hs.2.2.1 g (by simp))
     have hxl:=b5 Lv.vz Lv.l0 (hs.2.2.2 x mem_cons_self)
     have last:iG (bb ((W'++[g]).map iv))=some (iv g):=by rw[dI hg];rfl
     rw[hs1]at h
     cases q:brk lv x g with
     | true=>
      rw[if_pos q]at h
      refine wh rfl (pB O lv t [ll iv F,ll iv (W'++[g]),iv x]) (fun A hA=>av (b:=((W'++[g]).map iv).all (plain 7)) (gz _) (bE (b:=!((W'++[g]).map iv).isEmpty) (by simp) (ae (o:=aw (fl Lv.v lv) (iv x)) hxl (ae (o:=iG (bb ((W'++[g]).map iv))) last (ae (o:=aw (fl Lv.v lv) (iv g)) hgl ?_))))) ?_
      ·cases q1:!((lv.getD x .l0).i==(lv.getD g .l0).i)with
       | true=>exact bE (b:=!((lv.getD x .l0).i==(lv.getD g .l0).i)) q1 hA
       | false=>
        unfold brk at q
        rw[q1,Bool.false_or]at q
        exact bC (b:=!((lv.getD x .l0).i==(lv.getD g .l0).i)) q1 (ae (o:=iG (bb ((W'++[g]).map iv))) last (bE (b:=decide ((g:Int)<x)) q hA))
      ·have hlen:F.length+(W'++[g]).length+(x::r).length<900:=hs.2.1
       rw[length_cons]at hlen
       refine ak rfl (pB O lv t [ll iv (F++(W'++[g])),fl iv (W'++[g]),iv x]) (fun K h=>av (b:=cA (F.map iv++((W'++[g]).map iv).map af)) (hok _ _ (by exact(aQ 0x3e832100042384322010004427) hs.2.1)) (fV (hap _ _) (fun L=>K .nxt (pB O lv t [.lst L,fl iv (W'++[g]),iv x])) h)) ?_
       exact ak rfl [_,_,_,_,_,.lst [],_] (fun K h=>h) h
     | false=>
      rw[if_neg (by rw[q];decide)]at h
      unfold brk at q
      obtain⟨q1,q2⟩:=Bool.or_eq_false_iff.mp q
      exact zu rfl (pB O lv t [ll iv F,ll iv (W'++[g]),iv x]) (fun A hA=>av (b:=((W'++[g]).map iv).all (plain 7)) (gz _) (bE (b:=!((W'++[g]).map iv).isEmpty) (by simp) (ae (o:=aw (fl Lv.v lv) (iv x)) hxl (ae (o:=iG (bb ((W'++[g]).map iv))) last (ae (o:=aw (fl Lv.v lv) (iv g)) hgl (bC (b:=!((lv.getD x .l0).i==(lv.getD g .l0).i)) q1 (ae (o:=iG (bb ((W'++[g]).map iv))) last (bC (b:=decide ((g:Int)<x)) q2 hA)))))))) h
   ·have hlen:=qW (lv:=lv) s x
    have hl2:=hs.2.1
    rw[length_cons]at hl2
    have h:=h (iv x)
    unfold nS at h
    generalize iq lv s x=s' at h hlen⊢
    have hxl:=b5 Lv.vz Lv.l0 (hs.2.2.2 x mem_cons_self)
    have hxt:=b5 Cd.vz Cd.a (l:=t) (k:=x) (by rw[ht];exact hs.2.2.2 x mem_cons_self)
    unfold f0 at h
    cases q:mS lv t x with
    | true=>
     rw[if_pos q]at h
     have q:(gN (lv.getD x .l0)&&(t.getD x .a).isM)=true:=q
     refine ak rfl (pB O lv t [ll iv s'.1,ll iv (s'.2++[x]),iv x]) (fun K h=>wh rfl (pB O lv t [ll iv s'.1,ll iv s'.2,iv x]) (fun A hA=>ae (o:=aw (fl Cd.v t) (iv x)) hxt (ae (o:=aw (fl Lv.v lv) (iv x)) hxl (Hg (fu hn) (by rw[q];exact hA)))) ?_) h
     exact lX (v:=iv) (F:=s'.2) (x:=x) (by exact(mG 0x3e732402100044030437384322010004427) hs.2.1 hlen) (fun L=>K .nxt (pB O lv t [ll iv s'.1,.lst L,iv x])) h
    | false=>
     rw[if_neg (by rw[q];decide)]at h
     have q:(gN (lv.getD x .l0)&&(t.getD x .a).isM)=false:=q
     refine ak rfl (pB O lv t [ll iv (s'.1++[x]++s'.2.reverse),.lst [],iv x]) (fun K h=>zu rfl (pB O lv t [ll iv s'.1,ll iv s'.2,iv x]) (fun A hA=>ae (o:=aw (fl Cd.v t) (iv x)) hxt (ae (o:=aw (fl Lv.v lv) (iv x)) hxl (Hg (fu hn) (by rw[q];exact hA)))) ?_) h
     refine ak rfl (pB O lv t [ll iv (s'.1++[x]),ll iv s'.2,iv x]) (fun K h=>lX (v:=iv) (F:=s'.1) (x:=x) (by exact(mG 0x3e732302100044030437384322010004427) hs.2.1 hlen) (fun L=>K .nxt (pB O lv t [.lst L,ll iv s'.2,iv x])) h) ?_
     have hr:(s'.1++[x]).map iv++(((s'.2.map iv).map af).reverse).map af=(s'.1++[x]++s'.2.reverse).map iv:=by rw[mm kB,←List.map_reverse,mm kB];exact map_append.symm
     refine ak rfl (pB O lv t [ll iv (s'.1++[x]++s'.2.reverse),fl iv s'.2,iv x]) (fun K h=>av (b:=cA ((s'.1++[x]).map iv++(((s'.2.map iv).map af).reverse).map af)) (aU (by simp;exact(mG 0x3e832114043042100044030437384322010004427) hs.2.1 hlen)) (fV hr (fun L=>K .nxt (pB O lv t [.lst L,fl iv s'.2,iv x])) h)) ?_
     exact ak rfl [_,_,_,_,_,.lst [],_] (fun K h=>h) h
  ·obtain⟨h1,h2,h3,h4⟩:=hs
   refine⟨h1,?_,fun y hy=>?_,fun y hy=>h4 y (mem_cons_of_mem _ hy)⟩
   ·rw[t3]
    simp at h2;exact(aQ 0x38432201110004442384321120410004427) h2
   ·rcases Bz hy with hy|rfl
    ·exact h3 y hy
    ·exact h4 _ mem_cons_self
 ·refine ak rfl (pB O lv t [ll iv (F++G),fl iv G,j]) (fun K h=>av (b:=cA (F.map iv++(G.map iv).map af)) (hok _ _ (Nat.lt_trans h2 (by decide))) (fV (hap _ _) (fun L=>K .nxt (pB O lv t [.lst L,fl iv G,j])) h)) ?_
  have h1:F++G=pP lv t o:=h1
  rw[h1]
  exact h
theorem JV (hm:4<=m) {T:List PV} (hT:T.map af=t.map Cd.v) (hl:t.length=lv.length) (hb:lv.length<900) (h:Q (fl Cd.v t) .LZ):aW TT m 49 [.fz (.lst T),fl Lv.v lv,dat] Q:=by
 refine pin (ρ:=[_,_,_,.LZ,.LZ,.LZ,.LZ,.LZ]) hm rfl rfl fun n hn=>?_
 refine ak rfl [_,_,_,.lst [],.LZ,.LZ,.LZ,.LZ] (fun K h=>h) ?_
 refine fU (fun j:(PV×PV)×PV×PV=>[.fz (.lst T),fl Lv.v lv,dat,ll Cd.v t,j.1.1,j.1.2,j.2.1,j.2.2]) rfl (fun K h=>?_) fun zz=>h
 refine c7 rfl (dT 0 (T.map af)) rfl (fun F h=>h) ?_
 refine iU (τ:=List Cd) (ι:=(PV×PV)×PV×PV) (by rw[hT];exact ee t 0) (fun r s=>s++r.map (·.1)=t∧s.length+r.length<900∧∀q ∈ r,q.2<lv.length) (fun s q=>s++[q.1]) (fun s j=>[.fz (.lst T),fl Lv.v lv,dat,ll Cd.v s,j.1.1,j.1.2,j.2.1,j.2.2]) [] ((.LZ,.LZ),.LZ,.LZ) ⟨by simp,by simp;exact(az 0x38432002384321027100037) hl hb,fun q hq=>hl▸snd_lt_of_mem_zipIdx hq⟩ (fun q r s j K hs h=>?_) (fun q r s hs=>?_) fun s j hs=>?_
 ·have h3:=b5 Lv.vz Lv.l0 (hs.2.2 q mem_cons_self)
  have h2:=hs.2.1
  rw[length_cons]at h2
  refine ae (a:=[.fz (.lst T),fl Lv.v lv,dat,ll Cd.v s,.int q.2,q.1.v,j.2.1,j.2.2]) rfl ?_
  refine ak rfl [.fz (.lst T),fl Lv.v lv,dat,ll Cd.v s,.int q.2,q.1.v,(lv.getD q.2 .l0).v,j.2.2] (fun K h=>ae (o:=aw (fl Lv.v lv) (.int q.2)) h3 h) ?_
  generalize lv.getD q.2 Lv.l0=x
  refine ak rfl [.fz (.lst T),fl Lv.v lv,dat,ll Cd.v s,.int q.2,q.1.v,x.v,.none] (fun K h=>?_) ?_
  ·cases x
   case l1=>exact tW hn .bm q.1 h
   all_goals exact h
  ·exact lX (v:=Cd.v) (F:=s) (x:=q.1) (by exact(az 0x3e732002384321000427) hs.2.1) (fun L=>K .nxt [.fz (.lst T),fl Lv.v lv,dat,.lst L,.int q.2,q.1.v,x.v,.none]) (h ((_,_),_,_))
 ·refine⟨by rw[←hs.1];simp,by have:=hs.2.1;simp at this⊢;exact(az 0x38432101100442384321110400427) this,fun y hy=>hs.2.2 y (mem_cons_of_mem _ hy)⟩
 ·have e:s=t:=by have:=hs.1;simpa using this
  rw[e]
  exact h _
theorem t4 {x:Nat} (h:x ∈ cW lv):x<lv.length:=by
 have hid {x:Nat} (h:x ∈ fA lv):x<lv.length:=bw h
 have ht {a:Lv} {o:List Nat} (k:∀y ∈ o,y<lv.length) {x:Nat} (h:x ∈ cR lv a o):x<lv.length:=k x (((iV _ _ _).mp h).resolve_left not_mem_nil)
 unfold cW at h
 split at h
 ·split at h
  ·exact ht (fun y hy=>ht (fun y hy=>hid hy) hy) h
  ·exact ht (fun y hy=>hid hy) h
 ·exact hid h
theorem t5:(cW lv).length=lv.length:=by
 have hid:(fA lv).length=lv.length:=length_range'
 unfold cW cR
 split
 ·split
  ·rw[fm,fm,hid]
   simp
  ·rw[fm,hid]
   simp
 ·exact hid
theorem yK {i j:Nat} {b:Bool} (hj:j<=lv.length):(eC lv c i j b).length=j-i:=by
 unfold eC
 have key:∀(r:List Nat) (s:List Lv×Bool),(r.foldl (zt c i j b) s).1.length=s.1.length:=by
  intro r
  induction r with
  | nil=>exact fun zz=>rfl
  | cons q r ih=>
   intro s
   rw[foldl_cons,ih]
   unfold zt
   split
   ·exact length_set
   ·rfl
 rw[key]
 simp
 exact(aQ 0x20005201000653100017) hj
noncomputable def slice (t:List Cd) (q:Nat×Nat):List Cd:=(t.take q.2).drop q.1
noncomputable def c9 (lv:List Lv) (t:List Cd) (b:Bool) (q:Nat×Nat):List Cd:=
 (pP (eC lv (t.map Cd.bc) q.1 q.2 b) (slice t q) (cW (eC lv (t.map Cd.bc) q.1 q.2 b))).map fun p=>(slice t q).getD p .a
end
section
variable {m:Nat} {Q:PV->PV->Om} {c:List Kd} {t:List Cd} {lv:List Lv}
noncomputable def sQ (t:List Cd) (w:Wd):List Lv:=nR (pO (t.map Cd.bc) w) (t.map Cd.bc)
theorem Ey {o:List Nat}:(pP lv t o).length=o.length:=by
 have key:∀(o:List Nat) (s:List Nat×List Nat),(o.foldl (nS lv t) s).1.length+(o.foldl (nS lv t) s).2.length=s.1.length+s.2.length+o.length:=by
  intro o
  induction o with
  | nil=>exact fun zz=>rfl
  | cons x o ih=>
   intro s
   rw[foldl_cons,ih,t3,length_cons]
   exact(aQ 0x11204100044201110004443)
 have:=key o ([],[])
 rw[pP,length_append,this]
 simp
theorem Ez {o:List Nat} {y:Nat} (h:y ∈ pP lv t o):y ∈ o:=by
 have key:∀(o:List Nat) (s:List Nat×List Nat),y ∈ (o.foldl (nS lv t) s).1∨y ∈ (o.foldl (nS lv t) s).2->(y ∈ s.1∨y ∈ s.2)∨y ∈ o:=by
  intro o
  induction o with
  | nil=>exact fun zz h=>.inl h
  | cons x o ih=>
   intro s h
   rcases ih _ h with h|h
   ·have h1:y ∈ (nS lv t s x).1∨y ∈ (nS lv t s x).2->(y ∈ s.1∨y ∈ s.2)∨y=x:=by
     unfold nS f0 iq
     split<;>split
     all_goals (try split)
     all_goals simp
     all_goals grind
    rcases h1 h with h|rfl
    ·exact .inl h
    ·exact .inr mem_cons_self
   ·exact .inr (mem_cons_of_mem _ h)
 rcases key o ([],[]) (mem_append.mp h)with(h|h)|h
 ·exact absurd h not_mem_nil
 ·exact absurd h not_mem_nil
 ·exact h
noncomputable def wi (t:List Cd) (w:Wd) (L:List PV) (lv:List Lv) (r:List PV):Env:=fl Cd.v t::dat::w.v::.fz (.lst L)::fl Lv.v lv::r
theorem JW (R:l8) (hm:8<=m) {w:Wd} {ls:List (Nat×Nat)} {L:List PV} (h0:t≠[]) (hl:t.length<64) (hp:iR t=[(0,t.length)]) (hL:L.map af=ls.map aG) (hk:ls.length<900) (hs:∀q ∈ ls,q.1<=q.2∧q.2<=t.length)
  (h:Q (.fz (.lst (ls.map fun q=>ll Cd.v (c9 (sQ t w) t (pO (t.map Cd.bc) w) q)))) .LZ):aW TT m 50 [fl Cd.v t,dat,w.v,.fz (.lst L)] Q:=by
 refine pin (ρ:=[_,_,_,_,.LZ,.LZ,.LZ,.LZ,.LZ,.LZ,.LZ,.LZ,.LZ]) hm rfl rfl fun n hn=>?_
 obtain⟨b,hb⟩:∃b,b=pO (t.map Cd.bc) w:=⟨_,rfl⟩
 obtain⟨lv,hlv⟩:∃lv,lv=sQ t w:=⟨_,rfl⟩
 obtain⟨c,hc⟩:∃c,c=t.map Cd.bc:=⟨_,rfl⟩
 have hcl:c.length=t.length:=by rw[hc,length_map]
 have hll:lv.length=t.length:=by rw[hlv,sQ,pA,length_map]
 have hlc:nR (pO c w) c=lv:=by rw[hlv,sQ,←hc]
 have hbc:pO c w=b:=by rw[hb,hc]
 refine ak rfl (wi t w L lv [ll Kd.v c,.LZ,.LZ,.LZ,.LZ,.LZ,.LZ,.LZ]) (fun K h=>JP R hn h0 (by exact(ba 0x3203200240220027) hl) hp (Jj (fu hn) rfl (by exact(ba 0x3e83200240220027) hl) (by rw[←hc,hlc];exact h))) ?_
 refine ak rfl (wi t w L lv [ll Kd.v c,.int (bi b),.LZ,.LZ,.LZ,.LZ,.LZ,.LZ]) (fun K h=>LK (fu hn) (by exact(ba 0x3e83200240220027) hl) (by rw[←hc,hbc];exact h)) ?_
 refine ak rfl [_,_,_,_,_,_,_,.lst [],.LZ,.LZ,.LZ,.LZ,.LZ] (fun K h=>h) ?_
 rw[←hlv,←hb]at h
 refine fU (fun j:Bool×(PV×PV)×(PV×PV)×PV=>(wi t w L lv [bif j.1 then fl Kd.v c else ll Kd.v c,.int (bi b),.lst (ls.map fun q=>ll Cd.v (c9 lv t b q)),j.2.1.1,j.2.1.2,j.2.2.1.1,j.2.2.1.2,j.2.2.2])) rfl (fun K h=>?_) fun zz=>h
 refine c7 rfl (L.map af) rfl (fun F h=>h) ?_
 refine iU (τ:=List (Nat×Nat)) (ι:=Bool×(PV×PV)×(PV×PV)×PV) hL (fun r s=>s++r=ls∧s.length+r.length<900∧∀q ∈ r,q.1<=q.2∧q.2<=t.length) (fun s q=>s++[q]) (fun s j=>(wi t w L lv [bif j.1 then fl Kd.v c else ll Kd.v c,.int (bi b),.lst (s.map fun q=>ll Cd.v (c9 lv t b q)),j.2.1.1,j.2.1.2,j.2.2.1.1,j.2.2.1.2,j.2.2.2])) [] (false,(.LZ,.LZ),(.LZ,.LZ),.LZ) ⟨rfl,by simpa using hk,hs⟩ (fun q r s j K hs h=>?_) (fun q r s hs=>?_) fun s j hs=>?_
 ·obtain⟨h1,h2⟩:=hs.2.2 q mem_cons_self
  have hlen:=hs.2.1
  rw[length_cons]at hlen
  have hth:(eC lv c q.1 q.2 b).length=q.2-q.1:=yK (by exact(aQ 0x201102017100037) hll h2)
  have hsl:(slice t q).length=q.2-q.1:=by unfold slice;simp;exact(aQ 0x20005201000653100017) h2
  refine ae (a:=(wi t w L lv [bif j.1 then fl Kd.v c else ll Kd.v c,.int (bi b),.lst (s.map fun q=>ll Cd.v (c9 lv t b q)),aG q,j.2.1.2,j.2.2.1.1,j.2.2.1.2,j.2.2.2])) rfl ?_
  generalize hG:(s.map fun q=>ll Cd.v (c9 lv t b q))=G at h⊢
  refine ak rfl (wi t w L lv [fl Kd.v c,.int (bi b),.lst G,aG q,fl Lv.v (eC lv c q.1 q.2 b),j.2.2.1.1,j.2.2.1.2,j.2.2.2]) (fun K h=>?_) ?_
  ·obtain⟨z,zz⟩:=j
   rcases z with _|_<;>exact JQ (fu hn) (hcl.trans hll.symm) (by exact(az 0x3843210200103740220027) hl hll) h1 (by exact(aQ 0x201102017100037) hll h2) h
  generalize hT:eC lv c q.1 q.2 b=th at hth⊢
  refine ak rfl (wi t w L lv [fl Kd.v c,.int (bi b),.lst G,aG q,fl Lv.v th,ll Cd.v (slice t q),j.2.2.1.2,j.2.2.2]) (fun K h=>fV (iT Cd.vz) (fun L'=>K .nxt (wi t w L lv [fl Kd.v c,.int (bi b),.lst G,aG q,fl Lv.v th,.lst L',j.2.2.1.2,j.2.2.2])) h) ?_
  refine ak rfl (wi t w L lv [fl Kd.v c,.int (bi b),.lst G,aG q,fl Lv.v th,fl Cd.v (slice t q),fl iv (pP th (slice t q) (cW th)),j.2.2.2]) (fun K h=>JT (fu hn) (by exact(b6 0x402220230105203700101740220027) hl h2 hth) (JU (fu hn) (mm kB (cW th)) (fun x hx=>t4 hx) (hsl.trans hth.symm) (by rw[t5];exact(b6 0x3843220230105203700101740220027) hl h2 hth) h)) ?_
  refine ak rfl (wi t w L lv [fl Kd.v c,.int (bi b),.lst G,aG q,fl Lv.v th,fl Cd.v (slice t q),fl iv (pP th (slice t q) (cW th)),fl Cd.v (slice t q)]) (fun K h=>JV (fu hn) (mm Cd.vz (slice t q)) (hsl.trans hth.symm) (by exact(b6 0x3843220230105203700101740220027) hl h2 hth) h) ?_
  have hsh:(pP th (slice t q) (cW th)).map (fun i=>((slice t q).getD i .a).v)=(c9 lv t b q).map Cd.v:=by
   unfold c9
   rw[←hc,hT,map_map]
   rfl
  have hG2:G++[ll Cd.v (c9 lv t b q)]=(s++[q]).map fun q=>ll Cd.v (c9 lv t b q):=by rw[←hG];simp
  refine ak rfl (wi t w L lv [fl Kd.v c,.int (bi b),.lst ((s++[q]).map fun q=>ll Cd.v (c9 lv t b q)),aG q,fl Lv.v th,fl Cd.v (slice t q),fl iv (pP th (slice t q) (cW th)),fl Cd.v (slice t q)]) (fun K h=>?_) (h (true,(_,_),(_,_),_))
  exact fZ (mm kB (pP th (slice t q) (cW th))) (fun i=>((slice t q).getD i .a).v) hsh (fun j:PV=>[j,fl Cd.v t,dat,w.v,.fz (.lst L),fl Lv.v lv,fl Kd.v c,.int (bi b),.lst G,aG q,fl Lv.v th,fl Cd.v (slice t q),fl iv (pP th (slice t q) (cW th)),fl Cd.v (slice t q)]) .LZ (fun zz i=>iv i) (by rw[Ey,t5];exact(b6 0x3e83220230105203700101740220027) hl h2 hth)
   (fun i hi zz zz zz h=>ae (o:=aw (fl Cd.v (slice t q)) (iv i)) (b5 Cd.vz Cd.a (by rw[hsl,←hth];exact t4 (Ez hi))) h)
   fun zz=>av (b:=cA (G++[ll Cd.v (c9 lv t b q)])) (aU (by rw[←hG];simp;exact(az 0x3e832110042384321000427) hs.2.1)) (fV hG2 (fun L'=>K .nxt (wi t w L lv [fl Kd.v c,.int (bi b),.lst L',aG q,fl Lv.v th,fl Cd.v (slice t q),fl iv (pP th (slice t q) (cW th)),fl Cd.v (slice t q)])) h)
 ·exact⟨by rw[←hs.1];simp,by have:=hs.2.1;simp at this⊢;exact(az 0x38432101100442384321110400427) this,fun y hy=>hs.2.2 y (mem_cons_of_mem _ hy)⟩
 ·have e:s=ls:=by have:=hs.1;simpa using this
  rw[e]
  exact h j
end
section
variable {m:Nat} {Q:PV->PV->Om} {t:List Cd}
set_option genCtorIdx false in
mutual
inductive Gk|O|LF|X
inductive Cl|a|b|ra|rb|w|sp|lf|am|bm|ram|rbm|wm
end
noncomputable def Gk.ctorIdx (x:Gk):Nat:=x.casesOn 0 1 2
noncomputable def Cl.ctorIdx (x:Cl):Nat:=x.casesOn 0 1 2 3 4 5 6 7 8 9 10 11
noncomputable def Gk.s:Gk->Str
 | .O=>Internal.s "Other"
 | .LF=>Internal.s "LF"
 | .X=>Internal.s "Extend"
noncomputable def Cd.gk:Cd->Gk
 | .lf=>.LF
 | .m=>.X
 | _=>.O
noncomputable def LN:Option Gk->PV
 | none=>.none
 | some g=>.str g.s
noncomputable def j5 (p:Option Gk):PV:=.obj 4 [s "data_asked",s "is_legacy",s "kind",s "is_odd",s "picture",s "conjunct"] [dat,.bool false,LN p,.bool false,.int 0,.int 0]
noncomputable def told:Option Gk->Gk->Bool
 | none,_=>true
 | some .LF,_=>true
 | _,.X=>false
 | _,_=>true
theorem Hh (n:Nat) (Q:PV->PV->Om) (p:Option Gk) (c:Cd):aW TT (n+6) 57 [j5 p,c.v] Q=Q (.bool (told p c.gk)) (j5 (some c.gk)):=by
 rcases c with _|_<;>(cases p with
  | none=>kernel_rfl
  | some g=>cases g<;>kernel_rfl)
theorem JX (hm:6<=m) (p:Option Gk) (c:Cd) (h:Q (.bool (told p c.gk)) (j5 (some c.gk))):aW TT m 57 [j5 p,c.v] Q:=by
 obtain⟨n,rfl⟩:=exists_eq_add_of_le' hm
 rw[Hh]
 exact h
theorem JY (hm:1<=m) (h:Q .none (j5 none)):aW TT m 56 [.obj 4 [] [],dat,.bool false] Q:=pin (ρ:=[_,_,_]) hm rfl rfl fun zz zz=>h
noncomputable def Cl.codes:Cl->List Cd
 | .a=>[.a]
 | .b=>[.b]
 | .ra=>[.ra]
 | .rb=>[.rb]
 | .w=>[.w]
 | .sp=>[.sp]
 | .lf=>[.lf]
 | .am=>[.a,.m]
 | .bm=>[.b,.m]
 | .ram=>[.ra,.m]
 | .rbm=>[.rb,.m]
 | .wm=>[.w,.m]
noncomputable def Cl.isLf:Cl->Bool
 | .lf=>true
 | _=>false
noncomputable def Cl.wd:Cl->Int
 | .w=>2
 | .wm=>2
 | .lf=>0
 | _=>1
theorem Hi (n:Nat) (Q:PV->PV->Om) (c:Cl):aW TT (n+7) 97 [fl Cd.v c.codes,dat,.bool false] Q=if c.isLf=true then Q .exc .LZ else Q (.int c.wd) .LZ:=by
 rcases c with _|_<;>kernel_rfl
theorem JZ (hm:7<=m) (c:Cl) (h:if c.isLf=true then Q .exc .LZ else Q (.int c.wd) .LZ):aW TT m 97 [fl Cd.v c.codes,dat,.bool false] Q:=by
 obtain⟨n,rfl⟩:=exists_eq_add_of_le' hm
 rw[Hi]
 exact h
noncomputable def fp:PV:=.obj 5 [s "strictness",s "keep_all",s "numbers"] [st "strict",.bool false,st "pairs"]
theorem J0 (hm:1<=m) (h:Q .none fp):aW TT m 62 [.obj 5 [] []] Q:=pin (ρ:=[_,st "strict",.bool false,st "pairs"]) hm rfl rfl fun zz zz=>h
theorem Hj (n:Nat) (Q:PV->PV->Om) (c:Cd):aW TT (n+5) 63 [c.v,dat,.fz fp] Q=Q (.str c.lb) .LZ:=by
 rcases c with _|_<;>kernel_rfl
theorem Hk (hm:5<=m) (c:Cd) (h:Q (.str c.lb) .LZ):aW TT m 63 [c.v,dat,.fz fp] Q:=by
 obtain⟨n,rfl⟩:=exists_eq_add_of_le' hm
 rw[Hj]
 exact h
end
section
variable {m:Nat} {Q:PV->PV->Om} {t:List Cd}
theorem Cp {τ ι α β:Type} (v:β->PV) (out:τ->α->Option β) (nx:τ->α->τ) (jn:τ->α->ι->ι) (E:τ->ι->Env) {g:α->PV} {bind:PV->Env->Option Env} {turn:List PV->M (List PV)} {P:List PV->Env->Om}
  (hb:∀x a t j (K:List PV->Env->Om),mQ (gd v a (out t x)) (K (wc v a (out t x)) (E (nx t x) (jn t x j)))->aP (bind (g x) (E t j)) fun ρ=>turn a ρ K):
  ∀(l:List α) (a:List PV) (t:τ) (j:ι),a.length+l.length<1000->(∀j,P (a++(dU out nx t l).map v) (E (l.foldl nx t) j))->cK bind turn (l.map g) a (E t j) P
 | [],a,t,j,_,hP=>by have:=hP j;rwa [yz,map_nil,append_nil]at this
 | x::r,a,t,j,h,hP=>by
  refine hb x a t j _ ?_
  have ih:=Cp v out nx jn E hb r (wc v a (out t x)) (nx t x) (jn t x j) (P:=P)
  rw[lU]at hP
  cases q:out t x with
  | none=>
   rw[q]at hP ih
   exact ih (by simp[wc]at h⊢;exact(az 0x3e8321000423e8321110400427) h) hP
  | some y=>
   rw[q]at hP ih
   refine av (aU (by simp at h⊢;exact(az 0x3e8321100423e8321110400427) h)) (ih (by simp[wc]at h⊢;exact(az 0x3e8321011004423e8321110400427) h) fun j=>?_)
   show P ((a++[v y])++_) (E _ _)
   rw[append_assoc]
   exact hP j
theorem J1 {τ ι α β:Type} {L R:List PV} {l:List α} {g:α->PV} (hL:L=l.map g) (v:β->PV) (out:τ->α->Option β) (nx:τ->α->τ) (jn:τ->α->ι->ι) (E:τ->ι->Env) (t:τ) (j:ι) {bind:PV->Env->Option Env} {turn:List PV->M (List PV)} {P:List PV->Env->Om}
  (h:l.length<1000) (hR:(dU out nx t l).map v=R) (hb:∀x a t j (K:List PV->Env->Om),mQ (gd v a (out t x)) (K (wc v a (out t x)) (E (nx t x) (jn t x j)))->aP (bind (g x) (E t j)) fun ρ=>turn a ρ K)
  (hP:∀j,P R (E (l.foldl nx t) j)):cK bind turn L [] (E t j) P:=by
 cases hL
 subst hR
 exact Cp v out nx jn E hb l [] t j (by simpa using h) hP
noncomputable def nU (p:Option Gk) (q:Cd×Nat):Option Nat:=if told p q.1.gk then some q.2 else none
noncomputable def pC (_:Option Gk) (q:Cd×Nat):Option Gk:=some q.1.gk
noncomputable def ir (t:List Cd):List Nat:=dU nU pC none (t.zipIdx 0)++[t.length]
theorem yL (t:List Cd):(t.map Cd.v).all (plain 7)=true:=by
 induction t with
 | nil=>rfl
 | cons x t ih=>
  rw[map_cons,List.all_cons,ih]
  rfl
theorem EA (hm:7<=m) (h0:t≠[]) (hl:t.length<800) (h:Q (ll iv (ir t)) .LZ):aW TT m 60 [fl Cd.v t,dat,.bool false] Q:=by
 refine pin (ρ:=[_,_,_,.LZ,.LZ]) hm rfl rfl fun n hn=>?_
 refine ak rfl [_,_,_,j5 none,.LZ] (fun K h=>JY (fu hn) h) ?_
 refine ak rfl [fl Cd.v t,dat,.bool false,j5 ((t.zipIdx 0).foldl pC none),ll iv (dU nU pC none (t.zipIdx 0))] (fun K h=>?_) ?_
 ·refine J1 (em Cd.vz t 0) iv nU pC (fun zz q zz=>(iv q.2,q.1.v)) (fun p j=>[j.1,j.2,fl Cd.v t,dat,.bool false,j5 p,.LZ]) none (.LZ,.LZ) (by rw[length_zipIdx];exact(ba 0x3e832002320320027) hl) rfl (fun q a p j K h=>?_) fun zz=>h
  refine JX hn p q.1 ?_
  unfold nU at h
  generalize told p q.1.gk=b at h⊢
  rcases b with _|_<;>exact h
 ·have hF:=pr (out:=nU) (nx:=pC) (t.zipIdx 0) none
  rw[length_zipIdx]at hF
  have e:((dU nU pC none (t.zipIdx 0)).map iv).map af++[.int ((t.map Cd.v).map af).length]=(ir t).map iv:=by rw[mm kB,sO,ir,map_append];rfl
  have hk:cA (((dU nU pC none (t.zipIdx 0)).map iv).map af++[.int ((t.map Cd.v).map af).length])=true:=aU (by rw[mm kB];simp;exact(az 0x3e832111042001017320320027) hl hF)
  have hq:Q (.lst (((dU nU pC none (t.zipIdx 0)).map iv).map af++[.int ((t.map Cd.v).map af).length])) .LZ:=fV e (fun L=>Q (.lst L) .LZ) h
  generalize dU nU pC none (t.zipIdx 0)=F at hk hq⊢
  generalize (t.zipIdx 0).foldl pC none=p
  cases t with
  | nil=>exact absurd rfl h0
  | cons x r=>
   refine av (b:=((x::r).map Cd.v).all (plain 7)&&([]:List PV).all (plain 7)) (by rw[yL];rfl) ?_
   exact av (b:=cA ((F.map iv).map af++[.int (((x::r).map Cd.v).map af).length])) hk hq
theorem Cq {m:Nat} {Q:PV->PV->Om} {p:PV} (h:aW TT m 60 [p,dat,.bool false] Q):aW TT m 60 [p,dat] Q:=by
 cases m with
 | zero=>exact h
 | succ n=>exact h
noncomputable def ah (cs:List Cl):List Cd:=cs.flatMap Cl.codes
noncomputable def dJ:Nat->List Cl->List Nat
 | k,[]=>[k]
 | k,c::cs=>k::dJ (k+c.codes.length) cs
noncomputable def zv:Nat->List Cl->List (Nat×Nat)
 | _,[]=>[]
 | k,c::cs=>(k,k+c.codes.length)::zv (k+c.codes.length) cs
theorem Hl {k:Nat} {c:Cl} {cs:List Cl}:zv k (c::cs)=(k,k+c.codes.length)::zv (k+c.codes.length) cs:=rfl
theorem aT (c:Cl) (cs:List Cl):ah (c::cs)=c.codes++ah cs:=flatMap_cons
theorem t6 {p:Option Gk} {x:Cd} {k:Nat} {r:List (Cd×Nat)} (e:told p x.gk=true):dU nU pC p ((x,k)::r)=k::dU nU pC (some x.gk) r:=by
 have h:nU p (x,k)=some k:=if_pos e
 conv=>lhs;rw[lU]
 rw[h]
 rfl
theorem BA {p:Option Gk} {x:Cd} {k:Nat} {r:List (Cd×Nat)} (e:told p x.gk=false):dU nU pC p ((x,k)::r)=dU nU pC (some x.gk) r:=by
 have h:nU p (x,k)=none:=if_neg (by rw[e];decide)
 conv=>lhs;rw[lU]
 rw[h]
 rfl
theorem qX (cs:List Cl):∀(k:Nat) (p:Option Gk),dU nU pC p ((ah cs).zipIdx k)++[k+(ah cs).length]=dJ k cs:=by
 induction cs with
 | nil=>exact fun zz zz=>rfl
 | cons c cs ih=>
  intro k p
  have tO:told p .O=true:=by
   cases p with
   | none=>rfl
   | some g=>cases g<;>rfl
  have tL:told p .LF=true:=by
   cases p with
   | none=>rfl
   | some g=>cases g<;>rfl
  rw[aT]
  have one {x:Cd} (e:told p x.gk=true):dU nU pC p (([x]++ah cs).zipIdx k)++[k+([x]++ah cs).length]=k::dJ (k+1) cs:=by
   rw[←ih (k+1) (some x.gk)]
   show dU nU pC p ((x,k)::(ah cs).zipIdx (k+1))++_=_
   rw[t6 e]
   simp
   exact(az 0x10110044111040043)
  have two {x:Cd} (e:told p x.gk=true) (hx:x.gk=.O):dU nU pC p (([x,Cd.m]++ah cs).zipIdx k)++[k+([x,Cd.m]++ah cs).length]=k::dJ (k+2) cs:=by
   rw[←ih (k+2) (some .X)]
   show dU nU pC p ((x,k)::(Cd.m,k+1)::(ah cs).zipIdx (k+1+1))++_=_
   rw[t6 e,BA (by rw[hx];rfl)]
   simp
   constructor
   ·rfl
   ·exact(az 0x10210044111110440043)
  cases c
  case lf=>exact one (x:=.lf) tL
  case am=>exact two (x:=.a) tO rfl
  case bm=>exact two (x:=.b) tO rfl
  case ram=>exact two (x:=.ra) tO rfl
  case rbm=>exact two (x:=.rb) tO rfl
  case wm=>exact two (x:=.w) tO rfl
  case a=>exact one (x:=.a) tO
  case b=>exact one (x:=.b) tO
  case ra=>exact one (x:=.ra) tO
  case rb=>exact one (x:=.rb) tO
  case w=>exact one (x:=.w) tO
  case sp=>exact one (x:=.sp) tO
theorem j6 (cs:List Cl):ir (ah cs)=dJ 0 cs:=by
 rw[←qX cs 0 none,Nat.zero_add]
 rfl
theorem qY:∀(cs:List Cl) (k:Nat),(dJ k cs).zip ((dJ k cs).drop 1)=zv k cs
 | [],_=>rfl
 | [_],_=>rfl
 | c::d::cs,k=>congrArg (_::·) (qY (d::cs) (k+c.codes.length))
theorem nV:∀(cs:List Cl) (p:List Cd),(zv p.length cs).map (fun q=>slice (p++ah cs) q)=cs.map Cl.codes
 | [],_=>rfl
 | c::cs,p=>by
  have:=nV cs (p++c.codes)
  rw[length_append,append_assoc,←aT]at this
  rw[Hl,map_cons,this,map_cons]
  refine congrArg (·::_) ?_
  unfold slice
  rw[aT,←append_assoc,←length_append,List.take_left,List.drop_left]
theorem qZ:∀(cs:List Cl) (k:Nat),(dJ k cs).length=cs.length+1
 | [],_=>rfl
 | _::cs,_=>congrArg (·+1) (qZ cs _)
theorem t7:∀(cs:List Cl) (k:Nat),(zv k cs).length=cs.length
 | [],_=>rfl
 | _::cs,_=>congrArg (·+1) (t7 cs _)
theorem J2 (P:List Nat) (h:1<=P.length):cut ((P.map iv).map af) (some 1) none=(P.drop 1).map iv:=by
 rw[mm kB]
 show((P.map iv).take (P.map iv).length).drop (be 1 (P.map iv).length)=_
 have:be 1 (P.map iv).length=1:=by
  show min 1 (P.map iv).length=1
  rw[length_map]
  exact(ba 0x11001163001117) h
 rw[this,take_length,map_drop]
theorem J3 (hm:8<=m) {cs:List Cl} (ht:ah cs=t) (h0:t≠[]) (hl:t.length<800) (hc:cs.length<800) (h:Q (.lst (cs.map fun c=>ll Cd.v c.codes)) .LZ):aW TT m 61 [fl Cd.v t,dat,.bool false] Q:=by
 refine pin (ρ:=[_,_,_,.LZ]) hm rfl rfl fun n hn=>?_
 have hz:gb (((dJ 0 cs).map iv).map af) ((cut (((dJ 0 cs).map iv).map af) (some 1) none).map af)=(zv 0 cs).map fun q=>.tup [iv q.1,iv q.2]:=by
  rw[J2 _ (by rw[qZ];exact(ba 0x11004111)),mm kB,mm kB,lT,qY]
 have hR:(zv 0 cs).map (fun q=>PV.lst (cut (((ah cs).map Cd.v).map af) (some q.1) (some q.2)))=cs.map fun c=>ll Cd.v c.codes:=by
  have e1:(zv 0 cs).map (fun q=>PV.lst (cut (((ah cs).map Cd.v).map af) (some q.1) (some q.2)))=(zv 0 cs).map (fun q=>ll Cd.v (slice (ah cs) q)):=map_congr_left fun q zz=>congrArg PV.lst (iT Cd.vz (l:=ah cs) (i:=q.1) (j:=q.2))
  rw[e1,mp (slice (ah cs)) (ll Cd.v),mp Cl.codes (ll Cd.v)]
  exact congrArg (List.map (ll Cd.v)) (nV cs [])
 rw[ht]at hR
 obtain⟨P,hP⟩:∃P,P=dJ 0 cs:=⟨_,rfl⟩
 rw[←hP]at hz
 have hp:ir t=P:=by rw[←ht,j6,hP]
 refine ak rfl [fl Cd.v t,dat,.bool false,ll iv P] (fun K h=>EA hn h0 hl (by rw[hp];exact h)) ?_
 refine fZ hz (fun q=>PV.lst (cut ((t.map Cd.v).map af) (some q.1) (some q.2))) hR (fun j:PV×PV=>[j.1,j.2,fl Cd.v t,dat,.bool false,fl iv P]) (.LZ,.LZ) (fun zz q=>(iv q.1,iv q.2)) (by rw[t7];exact(ba 0x3e832002320320027) hc) (fun q zz a j K h=>?_) fun zz=>?_
 ·exact h
 ·exact h
theorem Hm {m:Nat} {Q:PV->PV->Om} {p:PV} (h:aW TT m 61 [p,dat,.bool false] Q):aW TT m 61 [p,dat] Q:=by
 cases m with
 | zero=>exact h
 | succ n=>exact h
noncomputable def Cl.wds (c:Cl):List Int:=c.wd::replicate (c.codes.length-1) 0
noncomputable def aI (cs:List Cl):List Int:=cs.flatMap Cl.wds
end
section
variable {m:Nat} {Q:PV->PV->Om} {t:List Cd} {cs:List Cl}
theorem q5 (c:Cl):(∃x,c.codes=[x]∧c.wds=[c.wd])∨∃x y,c.codes=[x,y]∧c.wds=[c.wd,0]:=by
 cases c
 case am=>exact .inr ⟨_,_,rfl,rfl⟩
 case bm=>exact .inr ⟨_,_,rfl,rfl⟩
 case ram=>exact .inr ⟨_,_,rfl,rfl⟩
 case rbm=>exact .inr ⟨_,_,rfl,rfl⟩
 case wm=>exact .inr ⟨_,_,rfl,rfl⟩
 all_goals exact .inl ⟨_,rfl,rfl⟩
theorem Hn {c:Cl} (h:c.isLf=true):c.wd=0:=by
 cases c
 case lf=>rfl
 all_goals exact nomatch h
theorem q6 (s:List Cl) (c:Cl):aI (s++[c])=aI s++c.wds:=by
 unfold aI
 rw[List.flatMap_append,List.flatMap_singleton]
theorem sR (s:List Cl):(aI s).length<=2*s.length:=by
 induction s with
 | nil=>exact Nat.le_refl _
 | cons c s ih=>
  have h:aI (c::s)=c.wds++aI s:=flatMap_cons
  rw[h,length_append,length_cons]
  rcases q5 c with⟨x,zz,e⟩|⟨x,y,zz,e⟩
  ·rw[e];simp;exact(az 0x11104218001141102180017) ih
  ·rw[e];simp;exact(az 0x11104218002141102180017) ih
noncomputable def zw (t:List Cd) (r:List PV):Env:=fl Cd.v t::dat::.bool false::r
theorem J4 (hm:9<=m) (ht:ah cs=t) (h0:t≠[]) (hl:t.length<800) (hc:cs.length<400) (h:Q (fl PV.int (aI cs)) .LZ):aW TT m 98 [fl Cd.v t,dat] Q:=by
 refine pin (ρ:=[_,_,.bool false,.LZ,.LZ,.LZ]) hm rfl rfl fun n hn=>?_
 refine ak rfl [_,_,_,.lst [],.LZ,.LZ] (fun K h=>h) ?_
 refine fU (fun j:PV×PV=>(zw t [ll PV.int (aI cs),j.1,j.2])) rfl (fun K h=>?_) fun zz=>h
 refine c7 (ρ':=(zw t [.lst [],.LZ,.LZ])) rfl ((cs.map fun c:Cl=>ll Cd.v c.codes).map af) rfl (fun F h=>Hm (J3 hn ht h0 hl (by exact(ba 0x32032002190320027) hc) h)) ?_
 refine iU (τ:=List Cl) (ι:=PV×PV) (l:=cs) (g:=fun c:Cl=>fl Cd.v c.codes) (by rw[map_map];rfl) (fun r s=>s++r=cs) (fun s c=>s++[c]) (fun s j=>(zw t [ll PV.int (aI s),j.1,j.2])) [] (.LZ,.LZ) rfl (fun c r s j K hs h=>?_) (fun c r s hs=>by rw[append_assoc];exact hs) fun s j hs=>by rw[show s=cs by rw[←hs,append_nil]];exact h j
 have hw:=sR s
 have hsl:s.length<400:=by
  have:=congrArg length hs
  simp at this
  exact(aQ 0x19032102001120410437190320027) hc this
 refine ae (a:=(zw t [ll PV.int (aI s),fl Cd.v c.codes,j.2])) rfl ?_
 refine ak rfl (zw t [ll PV.int (aI s),fl Cd.v c.codes,.int c.wd]) (fun K h=>JZ (fu hn) c ?_) ?_
 ·cases q:c.isLf with
  | true=>
   rw[Hn q]at h
   exact bE rfl h
  | false=>exact bC rfl h
 refine ak rfl (zw t [.lst ((aI s).map PV.int++[PV.int c.wd]),fl Cd.v c.codes,.int c.wd]) (fun K h=>av (b:=cA ((aI s).map PV.int++[PV.int c.wd])) (aU (by simp;exact(az 0x3e832110042190321027102180017) hw hsl)) h) ?_
 have h:=h (fl Cd.v c.codes,.int c.wd)
 rw[q6]at h
 rcases q5 c with⟨x,e,e2⟩|⟨x,y,e,e2⟩
 ·rw[e]at h⊢
  rw[e2]at h
  exact ak rfl (zw t [ll PV.int (aI s++[c.wd]),fl Cd.v [x],.int c.wd]) (fun K h=>av (b:=cA ((aI s).map PV.int++[PV.int c.wd]++[])) (aU (by simp;exact(az 0x3e832110042190321027102180017) hw hsl)) (fV (A:=(aI s).map PV.int++[PV.int c.wd]++[]) (B:=(aI s++[c.wd]).map PV.int) (by simp) (fun L=>K .nxt (zw t [.lst L,fl Cd.v [x],.int c.wd])) h)) h
 ·rw[e]at h⊢
  rw[e2]at h
  exact ak rfl (zw t [ll PV.int (aI s++[c.wd,0]),fl Cd.v [x,y],.int c.wd]) (fun K h=>av (b:=cA ((aI s).map PV.int++[PV.int c.wd]++[PV.int 0])) (aU (by simp;exact(az 0x3e832210042190321027102180017) hw hsl)) (fV (A:=(aI s).map PV.int++[PV.int c.wd]++[PV.int 0]) (B:=(aI s++[c.wd,0]).map PV.int) (by simp) (fun L=>K .nxt (zw t [.lst L,fl Cd.v [x,y],.int c.wd])) h)) h
end
section
variable {m:Nat} {Q:PV->PV->Om} {t:List Cd} {cs:List Cl}
set_option genCtorIdx false in
mutual
inductive Uw|AL|ID|SP|LF
inductive Bs|a|b|ra|rb|w|sp|lf
end
noncomputable def Uw.ctorIdx (x:Uw):Nat:=x.casesOn 0 1 2 3
noncomputable def Bs.ctorIdx (x:Bs):Nat:=x.casesOn 0 1 2 3 4 5 6
noncomputable def Uw.s:Uw->Str
 | .AL=>Internal.s "AL"
 | .ID=>Internal.s "ID"
 | .SP=>Internal.s "SP"
 | .LF=>Internal.s "LF"
noncomputable def Cd.u:Cd->Option Uw
 | .sp=>some .SP
 | .lf=>some .LF
 | .w=>some .ID
 | .m=>none
 | _=>some .AL
noncomputable abbrev Un:=Uw×Cd×Nat
noncomputable def eI (u:Un):PV:=.obj 6 [s "word",s "code",s "at",s "is_joined"] [.str u.1.s,u.2.1.v,.int u.2.2,.bool false]
noncomputable def K9 (u:Un):PV:=.fz (eI u)
noncomputable def dK (q:Cd×Nat):Option Un:=q.1.u.map fun w=>(w,q.1,q.2)
noncomputable def units (t:List Cd):List Un:=(t.zipIdx 0).filterMap dK
noncomputable def t8:Bool->List Cd->Bool
 | _,[]=>true
 | p,.m::r=>p&&t8 p r
 | _,.sp::r=>t8 false r
 | _,.lf::r=>t8 false r
 | _,_::r=>t8 true r
noncomputable def iW (s:List Un):Bool:=match s.getLast? with
 | some (.AL,_)=>true
 | some (.ID,_)=>true
 | _=>false
theorem mc:∀(cs:List Cl) (p:Bool),t8 p (ah cs)=true
 | [],_=>rfl
 | c::cs,p=>by
  rw[aT]
  have h1:=mc cs true
  have h2:=mc cs false
  rcases c with _|_<;>first|exact h1|exact h2
theorem J5 (hm:1<=m) {w:Uw} {c:Cd} {k:Nat} (h:Q .none (eI (w,c,k))):aW TT m 64 [.obj 6 [] [],.str w.s,c.v,.int k] Q:=pin (ρ:=[_,_,_,_]) hm rfl rfl fun zz zz=>h
theorem iX {x:PV}:∀p:List PV,iH (p++[x]) x=p++[x]
 | []=>rfl
 | [_]=>rfl
 | a::b::p=>congrArg (a::·) (iX (b::p))
theorem J6 {c:Cd} {w:Uw} (h:c.u=some w):c.lb=w.s:=by
 rcases c with _|_<;>first|(cases h;rfl)|exact no h
theorem eU {x:PV}:∀p:List PV,bb (p++[x])=x
 | []=>rfl
 | [_]=>rfl
 | _::b::p=>eU (b::p)
theorem J7 {S:Stmt->M Fl} {s:Stmt} {rest B:List Stmt} {P:Fl->Env->Om} {ρ:Env} (hB:B=s::rest) (ρ':Env) (h:∀K:Fl->Env->Om,K .cnt ρ'->S s ρ K) (q:P .cnt ρ'):aV S B ρ P:=by
 cases hB
 exact h _ q
theorem yM {τ ι α:Type} (I:List α->τ->Prop) (nx:τ->α->τ) (E:τ->ι->Env) {g:α->PV} {bind:PV->Env->Option Env} {body:M Fl} {P:Fl->Env->Om}
  (hb:∀x r t j (K:Fl->Env->Om),I (x::r) t->(∀j,K .nxt (E (nx t x) j))->(∀j,K .cnt (E (nx t x) j))->aP (bind (g x) (E t j)) fun ρ=>body ρ K) (hI:∀x r t,I (x::r) t->I r (nx t x)) (hP:∀t j,I [] t->P .nxt (E t j)):
  ∀(l:List α) (t:τ) (j:ι),I l t->a9 bind body (l.map g) (E t j) P
 | [],t,j,h=>hP t j h
 | x::r,t,j,h=>hb x r t j _ h (fun j=>yM I nx E hb hI hP r _ j (hI x r t h)) fun j=>yM I nx E hb hI hP r _ j (hI x r t h)
theorem J8 {τ ι α:Type} {L:List PV} {l:List α} {g:α->PV} (hL:L=l.map g) (I:List α->τ->Prop) (nx:τ->α->τ) (E:τ->ι->Env) (t:τ) (j:ι) {bind:PV->Env->Option Env} {body:M Fl} {P:Fl->Env->Om}
  (h:I l t) (hb:∀x r t j (K:Fl->Env->Om),I (x::r) t->(∀j,K .nxt (E (nx t x) j))->(∀j,K .cnt (E (nx t x) j))->aP (bind (g x) (E t j)) fun ρ=>body ρ K) (hI:∀x r t,I (x::r) t->I r (nx t x)) (hP:∀t j,I [] t->P .nxt (E t j)):a9 bind body L (E t j) P:=by
 cases hL
 exact yM I nx E hb hI hP l t j h
noncomputable def LP:Uw->Bool
 | .AL=>true
 | .ID=>true
 | _=>false
theorem sS {s:List Un} {w:Uw} {c:Cd} {k:Nat}:iW (s++[(w,c,k)])=LP w:=by
 unfold iW
 rw[getLast?_concat]
 rcases w with _|_<;>rfl
theorem vT {s:List Un} (h:iW s=true):∃p w c k,s=p++[(w,c,k)]∧(w=.AL∨w=.ID):=by
 rcases kD s with rfl|⟨p,⟨w,c,k⟩,rfl⟩
 ·exact nomatch h
 ·refine⟨p,w,c,k,rfl,?_⟩
  unfold iW at h
  rw[getLast?_concat]at h
  cases w
  ·exact .inl rfl
  ·exact .inr rfl
  ·exact nomatch h
  ·exact nomatch h
noncomputable def wj (t:List Cd) (r:List PV):Env:=fl Cd.v t::dat::.fz fp::r
theorem J9 (hm:6<=m) (hok:t8 false t=true) (hl:t.length<900) (h:Q (.fz (.lst ((units t).map eI))) .LZ):aW TT m 65 [fl Cd.v t,dat,.fz fp] Q:=by
 refine pin (ρ:=[_,_,_,.LZ,.LZ,.LZ,.LZ]) hm rfl rfl fun n hn=>?_
 refine ak rfl [_,_,_,.lst [],.LZ,.LZ,.LZ] (fun K h=>h) ?_
 refine fU (fun j:PV×PV×PV=>(wj t [.lst ((units t).map eI),j.1,j.2.1,j.2.2])) rfl (fun K h=>?_) fun zz=>h
 refine c7 rfl (dT 0 ((t.map Cd.v).map af)) rfl (fun F h=>h) ?_
 refine J8 (τ:=List Un) (ι:=PV×PV×PV) (em Cd.vz t 0) (fun r s=>s++r.filterMap dK=units t∧t8 (iW s) (r.map (·.1))=true∧s.length+r.length<900) (fun s q=>s++(dK q).toList) (fun s j=>(wj t [.lst (s.map eI),j.1,j.2.1,j.2.2])) [] (.LZ,.LZ,.LZ) ⟨rfl,by rw[show(t.zipIdx 0).map (·.1)=t by simp];exact hok,by simpa using hl⟩ (fun q r s j K hs h h'=>?_) (fun q r s hs=>?_) fun s j hs=>by rw[show s=units t by rw[←hs.1];simp];exact h j
 ·obtain⟨h1,h2,h3⟩:=hs
  rw[length_cons]at h3
  refine ae (a:=(wj t [.lst (s.map eI),.int q.2,q.1.v,j.2.2])) rfl ?_
  refine ak rfl (wj t [.lst (s.map eI),.int q.2,q.1.v,.str q.1.lb]) (fun K h=>Hk hn q.1 h) ?_
  cases e:q.1.u with
  | some w=>
   have hu:dK q=some (w,q.1,q.2):=by unfold dK;rw[e];rfl
   have h':=h' (.int q.2,q.1.v,.str w.s)
   rw[hu]at h'
   rw[J6 e]
   refine J7 rfl (wj t [.lst ((s++[(w,q.1,q.2)]).map eI),.int q.2,q.1.v,.str w.s]) (fun K h=>?_) h'
   refine wh rfl (wj t [.lst (s.map eI),.int q.2,q.1.v,.str w.s]) (fun F hF=>by rcases w with _|_<;>exact hF) ?_
   refine ak rfl (wj t [.lst ((s++[(w,q.1,q.2)]).map eI),.int q.2,q.1.v,.str w.s]) (fun K h=>J5 (fu hn) (lX (v:=eI) (F:=s) (x:=(w,q.1,q.2)) (by exact(az 0x3e732002384321110400427) h3) (fun L=>K .nxt (wj t [.lst L,.int q.2,q.1.v,.str w.s])) h)) ?_
   exact h
  | none=>
   have hc:q.1=.m:=by
    have e:=e
    generalize q.1=x at e
    rcases x with _|_<;>first|rfl|exact nomatch e
   have hu:dK q=none:=by unfold dK;rw[e];rfl
   rw[hu]at h
   rw[hc]
   have h2:(iW s&&t8 (iW s) (r.map (·.1)))=true:=by
    have h2:t8 (iW s) (q.1::r.map (·.1))=true:=h2
    rw[hc]at h2
    exact h2
   obtain⟨p,w,c,k,rfl,hw⟩:=vT (bA h2).1
   have h:=h (.int q.2,q.1.v,.str Cd.m.lb)
   rw[hc]at h
   have hL:(p++[(w,c,k)]).map eI=p.map eI++[eI (w,c,k)]:=by simp
   have hlast:bb ((p++[(w,c,k)]).map eI)=eI (w,c,k):=by rw[hL,eU]
   have hw1:((iG (bb ((p++[(w,c,k)]).map eI))).bind (gK (.at (Internal.s "word"))))=some (.str w.s):=by rw[hlast];rfl
   have h0:(none:Option Un).toList=[]:=rfl
   rw[h0,append_nil]at h
   refine ak rfl (wj t [.lst ((p++[(w,c,k)]).map eI),.int q.2,Cd.m.v,.str Cd.m.lb]) (fun K h=>h) ?_
   refine ak rfl (wj t [.lst ((p++[(w,c,k)]).map eI),.int q.2,Cd.m.v,.str Cd.m.lb]) (fun K h=>?_) ?_
   ·refine bC (b:=((((p++[(w,c,k)]).map eI)).isEmpty)) (by simp) ?_
    refine ae (o:=(iG (bb ((p++[(w,c,k)]).map eI))).bind (gK (.at (Internal.s "word")))) hw1 ?_
    rcases hw with rfl|rfl
    ·exact h
    ·exact h
   ·refine ak rfl (wj t [.lst ((p++[(w,c,k)]).map eI),.int q.2,Cd.m.v,.str Cd.m.lb]) (fun K h=>?_) h
    refine ae (o:=((iG (bb ((p++[(w,c,k)]).map eI))).bind fun q=>if jJ q then some (((3,[PE.last]):f8),q)else none).bind fun q=>(mW q.2).map fun l=>(q.1,l)) (a:=((3,[PE.last]),6,[Internal.s "word",Internal.s "code",Internal.s "at",Internal.s "is_joined"],[.str w.s,c.v,.int k,.bool false])) (by rw[hlast];rfl) ?_
    exact fV (A:=iH ((p++[(w,c,k)]).map eI) (eI (w,c,k))) (B:=((p++[(w,c,k)]).map eI)) (by rw[hL,iX]) (fun L'=>K .nxt (wj t [.lst L',.int q.2,Cd.m.v,.str Cd.m.lb])) h
 ·obtain⟨h1,h2,h3⟩:=hs
  rw[length_cons]at h3
  have hl:(s++(dK q).toList).length<=s.length+1:=by
   cases dK q<;>simp
  refine⟨?_,?_,by exact(aQ 0x38432102042110042017384321110400427) h3 hl⟩
  ·rw[←h1,append_assoc]
   congr 1
   cases e:dK q with
   | none=>rw[List.filterMap_cons_none e];rfl
   | some u=>rw[List.filterMap_cons_some e];rfl
  ·have h2:t8 (iW s) (q.1::r.map (·.1))=true:=h2
   cases e:q.1.u with
   | none=>
    have hc:q.1=.m:=by
     have e:=e
     generalize q.1=x at e
     rcases x with _|_<;>first|rfl|exact nomatch e
    have hu:dK q=none:=by unfold dK;rw[e];rfl
    rw[hu]
    rw[hc]at h2
    have h3:s++(none:Option Un).toList=s:=by simp
    rw[h3]
    exact(bA h2).2
   | some w=>
    have hu:dK q=some (w,q.1,q.2):=by unfold dK;rw[e];rfl
    rw[hu]
    rw[show(some (w,q.1,q.2)).toList=[(w,q.1,q.2)]from rfl,sS]
    clear hu
    generalize q.1=x at e h2
    rcases x with _|_<;>first|(cases e;exact h2)|exact no e
end
section
variable {m:Nat} {Q:PV->PV->Om} {t:List Cd} {us:List Un}
noncomputable def Ka:Uw->Bool
 | .SP=>true
 | _=>false
noncomputable def Ik (l:Int) (q:Un×Nat):Int:=if Ka q.1.1 then l else q.2
noncomputable def iu (us:List Un):List Int:=dU (fun l q=>some (Ik l q)) Ik (-1) (us.zipIdx 0)
noncomputable def Il (us:List Un) (a b c:List PV):PV:=.obj 7 [s "data",s "how",s "units",s "solid",s "regional",s "numeric"] [dat,.fz fp,.fz (.lst (us.map eI)),.lst a,.lst b,.lst c]
noncomputable def cf (us:List Un):PV:=Il us ((iu us).map .int) ((iu us).map fun zz=>.int 0) ((iu us).map fun zz=>.bool false)
theorem Ho (us:List Un):(us.map eI).map af=us.map K9:=by
 rw[map_map]
 rfl
theorem Kb (hm:7<=m) (hok:t8 false t=true) (hl:t.length<900) (hu:(units t).length<900) (h:Q .none (cf (units t))):aW TT m 66 [.obj 7 [] [],fl Cd.v t,dat,.fz fp] Q:=by
 refine pin (ρ:=[_,_,_,_,.LZ,.LZ,.LZ,.LZ,.LZ]) hm rfl rfl fun n hn=>?_
 refine ak rfl [.obj 7 [s "data"] [dat],_,_,_,_,_,_,_,_] (fun K h=>h) ?_
 refine ak rfl [.obj 7 [s "data",s "how"] [dat,.fz fp],_,_,_,_,_,_,_,_] (fun K h=>h) ?_
 refine ak rfl [.obj 7 [s "data",s "how",s "units"] [dat,.fz fp,.fz (.lst ((units t).map eI))],fl Cd.v t,dat,.fz fp,.LZ,.LZ,.LZ,.LZ,.LZ] (fun K h=>J9 hn hok hl h) ?_
 generalize units t=us at h hu⊢
 refine ak rfl [.obj 7 [s "data",s "how",s "units",s "solid"] [dat,.fz fp,.fz (.lst (us.map eI)),.lst []],_,_,_,_,_,_,_,_] (fun K h=>h) ?_
 refine ak rfl [.obj 7 [s "data",s "how",s "units",s "solid",s "regional"] [dat,.fz fp,.fz (.lst (us.map eI)),.lst [],.lst []],_,_,_,_,_,_,_,_] (fun K h=>h) ?_
 refine ak rfl [Il us [] [] [],_,_,_,_,_,_,_,_] (fun K h=>h) ?_
 refine ak rfl [_,_,_,_,.int (-1),.int 0,.bool false,.LZ,.LZ] (fun K h=>h) ?_
 refine fU (fun j:Int×PV×PV=>[cf us,fl Cd.v t,dat,.fz fp,.int j.1,.int 0,.bool false,j.2.1,j.2.2]) rfl (fun K h=>?_) fun zz=>h
 refine c7 rfl (dT 0 ((us.map eI).map af)) rfl (fun F h=>h) ?_
 refine GS (τ:=Int) (ι:=PV×PV) (by rw[Ho];exact ee us 0) PV.int (fun zz=>.int 0) (fun zz=>.bool false) Ik Ik (fun zz q zz=>(.int q.2,K9 q.1)) (fun a b c l j=>[Il us a b c,fl Cd.v t,dat,.fz fp,.int l,.int 0,.bool false,j.1,j.2]) 3 [] [] [] (-1) (.LZ,.LZ) (by rw[length_zipIdx];exact(ba 0x3de32002384320027) hu) (by decide) (by decide) (by decide) ?_ fun j=>h (_,_,_)
 rintro⟨⟨w,c,k⟩,i⟩ a b c' l j K h
 rcases w with _|_<;>exact h
theorem Hp {α:Type} {l:List α} {i:Nat} (h:l.length<=i):l[i]?=none:=List.getElem?_eq_none h
noncomputable def vU (us:List Un) (i:Int):Option Uw:=if 0<=i then(us[i.toNat]?).map (·.1)else none
noncomputable def wS:Option Uw->Str
 | none=>s ""
 | some w=>w.s
noncomputable def wV (o:Option Uw):PV:=.str (wS o)
theorem dS (hm:1<=m) {a b c:List PV} {i:Int} (h:Q (wV (vU us i)) .LZ):aW TT m 67 [.fz (Il us a b c),.int i] Q:=by
 refine pin (ρ:=[_,_]) hm rfl rfl fun n hn=>?_
 have hlen:((us.map eI).map af).length=us.length:=by simp
 unfold vU at h
 by_cases c1:0<=i
 ·rw[if_pos c1]at h
  by_cases c2:i.toNat<us.length
  ·have hx:=List.getElem?_eq_getElem c2
   rw[hx]at h
   refine bE (b:=decide (0<=i)) (decide_eq_true c1) (bE (b:=decide (i<((us.map eI).map af).length)) (decide_eq_true (by rw[hlen];exact(mE 0x30050000327) c2)) ?_)
   exact ae (o:=aw (.fz (.lst (us.map eI))) (.int i)) (d7 (Ho us) (k:=i.toNat) (by exact(pM 0x33006000147) c1) hx) h
  ·rw[Hp (by exact(mE 0x3001000003277) c2)]at h
   exact bE (b:=decide (0<=i)) (decide_eq_true c1) (bC (b:=decide (i<((us.map eI).map af).length)) (decide_eq_false (by rw[hlen];exact(mE 0x30057000003277000147) c1 c2)) h)
 ·rw[if_neg c1]at h
  exact bC (b:=decide (0<=i)) (decide_eq_false c1) h
end
section
variable {m:Nat} {Q:PV->PV->Om} {us:List Un} {k:Nat} {a b:Uw} {z:Int}
structure At (us:List Un) (k:Nat) (a b:Uw) (z:Int):Prop where
 ha:vU us ((k:Int)-1)=some a
 hb:vU us k=some b
 hz:(iu us)[k-1]?=some z
 h1:1<=k
 h2:k<us.length
theorem EB (hm:2<=m) (A:At us k a b z) (h:Q (wV (vU us z)) .LZ):aW TT m 68 [.fz (cf us),.int ((k:Int)-1)] Q:=by
 have h1:=A.h1
 refine pin (ρ:=[_,_]) hm rfl rfl fun n hn=>?_
 exact ae (o:=aw (.fz (.lst ((iu us).map .int))) (.int ((k:Int)-1))) (bj (g:=PV.int) (fun zz=>rfl) (k:=k-1) (by exact(ba 0x1100531100356001117) h1) A.hz) (dS hn h)
theorem Hq (hm:2<=m) {i:Int} {x:String} (h:Q (.bool false) .LZ):aW TT m 69 [.fz (cf us),.int i,st x] Q:=by
 refine pin (ρ:=[.fz (cf us),.int i,st x]) hm rfl rfl fun n hn=>?_
 obtain⟨w,hw⟩:∃w,w=vU us i:=⟨_,rfl⟩
 refine dS hn ?_
 rw[←hw]
 cases w with
 | none=>exact h
 | some w=>rcases w with _|_<;>exact h
noncomputable def rv:Option (String×String)->PV
 | none=>.none
 | some q=>.tup [st q.1,st q.2]
noncomputable def Hr:Uw->Uw->Option (String×String)
 | .LF,_=>some ("must", "LB5")
 | _,.LF=>some ("no", "LB6")
 | _,_=>none
noncomputable def EZ:Uw->Option (String×String)
 | .SP=>some ("no", "LB7")
 | _=>none
noncomputable def E0:Uw->Option (String×String)
 | .SP=>some ("may", "LB18")
 | _=>none
noncomputable def E1:Uw->Uw->Option (String×String)
 | .AL,.AL=>some ("no", "LB28")
 | _,_=>none
theorem Kc (hm:2<=m) (A:At us k a b z) (h:Q (rv (Hr a b)) .LZ):aW TT m 70 [.fz (cf us),.int k] Q:=by
 refine pin (ρ:=[_,_,.LZ,.LZ]) hm rfl rfl fun n hn=>?_
 refine ak rfl [.fz (cf us),.int k,.str a.s,.str b.s] (fun K h=>dS hn (by rw[A.ha];exact dS hn (by rw[A.hb];exact h))) ?_
 rcases a with _|_<;>rcases b with _|_<;>exact h
theorem Ke (hm:2<=m) (A:At us k a b z) (h:Q .none .LZ):aW TT m 72 [.fz (cf us),.int k] Q:=by
 refine pin (ρ:=[_,_,.LZ,.LZ]) hm rfl rfl fun n hn=>?_
 refine ak rfl [.fz (cf us),.int k,.str a.s,.str b.s] (fun K h=>dS hn (by rw[A.ha];exact dS hn (by rw[A.hb];exact h))) ?_
 rcases a with _|_<;>rcases b with _|_<;>exact h
theorem Kf (hm:2<=m) (A:At us k a b z) (h:Q .none .LZ):aW TT m 77 [.fz (cf us),.int k] Q:=by
 refine pin (ρ:=[_,_,.LZ,.LZ]) hm rfl rfl fun n hn=>?_
 refine ak rfl [.fz (cf us),.int k,.str a.s,.str b.s] (fun K h=>dS hn (by rw[A.ha];exact dS hn (by rw[A.hb];exact h))) ?_
 rcases a with _|_<;>rcases b with _|_<;>exact h
theorem Kg (hm:2<=m) (A:At us k a b z) (h:Q .none .LZ):aW TT m 76 [.fz (cf us),.int k] Q:=by
 refine pin (ρ:=[_,_,.LZ,.LZ,.LZ]) hm rfl rfl fun n hn=>?_
 refine ak rfl [.fz (cf us),.int k,.str a.s,.str b.s,.LZ] (fun K h=>dS hn (by rw[A.ha];exact dS hn (by rw[A.hb];exact h))) ?_
 rcases a with _|_<;>rcases b with _|_<;>exact h
theorem Kh (hm:2<=m) (A:At us k a b z) (h:Q (rv (E1 a b)) .LZ):aW TT m 79 [.fz (cf us),.int k] Q:=by
 refine pin (ρ:=[_,_,.LZ,.LZ]) hm rfl rfl fun n hn=>?_
 refine ak rfl [.fz (cf us),.int k,.str a.s,.str b.s] (fun K h=>dS hn (by rw[A.ha];exact dS hn (by rw[A.hb];exact h))) ?_
 rcases a with _|_<;>rcases b with _|_<;>exact h
theorem Ki (hm:2<=m) (A:At us k a b z) (h:Q .none .LZ):aW TT m 82 [.fz (cf us),.int k] Q:=by
 refine pin (ρ:=[_,_,.LZ,.LZ]) hm rfl rfl fun n hn=>?_
 refine ak rfl [.fz (cf us),.int k,.str a.s,.str b.s] (fun K h=>dS hn (by rw[A.ha];exact dS hn (by rw[A.hb];exact h))) ?_
 rcases a with _|_<;>rcases b with _|_<;>exact h
theorem Kj (hm:2<=m) (A:At us k a b z) (h:Q .none .LZ):aW TT m 83 [.fz (cf us),.int k] Q:=by
 refine pin (ρ:=[_,_,.LZ,.LZ,.LZ]) hm rfl rfl fun n hn=>?_
 refine ak rfl [.fz (cf us),.int k,.str a.s,.str b.s,.LZ] (fun K h=>dS hn (by rw[A.ha];exact dS hn (by rw[A.hb];exact h))) ?_
 rcases a with _|_<;>rcases b with _|_<;>exact h
theorem Kk (hm:2<=m) (A:At us k a b z) (h:Q .none .LZ):aW TT m 78 [.fz (cf us),.int k] Q:=by
 refine pin (ρ:=[_,_]) hm rfl rfl fun n hn=>?_
 exact dS hn (by rw[A.ha];exact dS hn (by rw[A.hb];rcases a with _|_<;>rcases b with _|_<;>exact h))
end
section
variable {m:Nat} {Q:PV->PV->Om} {us:List Un} {k:Nat} {a b:Uw} {z:Int}
theorem t9 (A:At us k a b z):∃u,us[k-1]?=some u∧u.1=a:=by
 have h:=A.ha
 have h1:=A.h1
 unfold vU at h
 rw[if_pos (by exact(ba 0x110035014001117) h1),show((k:Int)-1).toNat=k-1 by exact(ba 0x1100511003533)]at h
 obtain⟨u,hu,e⟩:=map_eq_some_iff.mp h
 exact⟨u,hu,e⟩
theorem yN (A:At us k a b z):∃u,us[k]?=some u∧u.1=b:=by
 have h:=A.hb
 unfold vU at h
 rw[if_pos (by exact(ba 0x3014)),show((k:Int)).toNat=k by exact(ba 0x333)]at h
 obtain⟨u,hu,e⟩:=map_eq_some_iff.mp h
 exact⟨u,hu,e⟩
theorem Cr (o:Option Uw) {w:Str} (h:aM (s "") w=false∧aM (s "AL") w=false∧aM (s "ID") w=false∧aM (s "SP") w=false∧aM (s "LF") w=false):aM (wS o) w=false:=by
 cases o with
 | none=>exact h.1
 | some x=>
  cases x
  ·exact h.2.1
  ·exact h.2.2.1
  ·exact h.2.2.2.1
  ·exact h.2.2.2.2
theorem Kl (hm:3<=m) (A:At us k a b z) (h:Q (rv (EZ b)) .LZ):aW TT m 71 [.fz (cf us),.int k] Q:=by
 have h1:=A.h1
 obtain⟨u,hu,zz⟩:=t9 A
 refine pin (ρ:=[.fz (cf us),.int k]) hm rfl rfl fun n hn=>?_
 obtain⟨w,hw⟩:∃w,w=vU us z:=⟨_,rfl⟩
 cases b
 case SP=>exact dS (fu hn) (by rw[A.hb];exact h)
 all_goals
  refine ak rfl [.fz (cf us),.int k] (fun K h=>dS (fu hn) (by rw[A.hb];exact h)) ?_
  refine ak rfl [.fz (cf us),.int k] (fun K h=>EB hn A (by rw[←hw];exact bC (b:=aM (wS w) (s "ZW")) (Cr w ⟨rfl,rfl,rfl,rfl,rfl⟩) h)) ?_
  exact ae (o:=aw (.fz (.lst (us.map eI))) (.int ((k:Int)-1))) (d7 (Ho us) (k:=k-1) (by exact(ba 0x1100531100356001117) h1) hu) h
theorem Km (hm:3<=m) (A:At us k a b z) (h:Q .none .LZ):aW TT m 73 [.fz (cf us),.int k] Q:=by
 refine pin (ρ:=[.fz (cf us),.int k,.LZ,.LZ]) hm rfl rfl fun n hn=>?_
 obtain⟨w,hw⟩:∃w,w=vU us z:=⟨_,rfl⟩
 refine ak rfl [.fz (cf us),.int k,.str b.s,.LZ] (fun K h=>dS (fu hn) (by rw[A.hb];exact h)) ?_
 refine ak rfl [.fz (cf us),.int k,.str b.s,.LZ] (fun K h=>by rcases b with _|_<;>exact h) ?_
 exact EB hn A (by rw[←hw];exact bC (b:=aM (wS w) (s "OP")) (Cr w ⟨rfl,rfl,rfl,rfl,rfl⟩) h)
theorem Kn (hm:3<=m) (A:At us k a b z) (h:Q .none .LZ):aW TT m 74 [.fz (cf us),.int k] Q:=by
 have h1:=A.h1
 refine pin (ρ:=[.fz (cf us),.int k,.LZ]) hm rfl rfl fun n hn=>?_
 refine ak rfl [.fz (cf us),.int k,.int z] (fun K h=>ae (o:=aw (.fz (.lst ((iu us).map .int))) (.int ((k:Int)-1))) (bj (g:=PV.int) (fun zz=>rfl) (k:=k-1) (by exact(ba 0x1100531100356001117) h1) A.hz) h) ?_
 refine ak rfl [.fz (cf us),.int k,.int z] (fun K h=>Hq hn h) ?_
 exact ak rfl [.fz (cf us),.int k,.int z] (fun K h=>Hq hn h) h
theorem Ko (hm:3<=m) (A:At us k a b z) (h:Q (rv (E0 a)) .LZ):aW TT m 75 [.fz (cf us),.int k] Q:=by
 refine pin (ρ:=[.fz (cf us),.int k,.LZ,.LZ]) hm rfl rfl fun n hn=>?_
 obtain⟨w,hw⟩:∃w,w=vU us z:=⟨_,rfl⟩
 refine ak rfl [.fz (cf us),.int k,wV w,.str b.s] (fun K h=>EB hn A (by rw[←hw];exact dS (fu hn) (by rw[A.hb];exact h))) ?_
 refine ak rfl [.fz (cf us),.int k,wV w,.str b.s] (fun K h=>by cases w with
  | none=>exact h
  | some w=>rcases w with _|_<;>exact h) ?_
 refine ak rfl [.fz (cf us),.int k,wV w,.str b.s] (fun K h=>by cases w with
  | none=>exact h
  | some w=>rcases w with _|_<;>exact h) ?_
 exact dS (fu hn) (by rw[A.ha];rcases a with _|_<;>exact h)
theorem Hs (hm:1<=m) {i:Nat} {u:Un} {x:PV} (hx:x=.tup [st "AK",st "AS"]∨x=.tup [st "AK"]) (hu:us[i]?=some u) (h:Q (.bool false) .LZ):aW TT m 80 [.fz (cf us),.int i,x] Q:=by
 have hlen:((us.map eI).map af).length=us.length:=by simp
 have hi:=pq hu
 have hit:=d7 (Ho us) (i:=i) rfl hu
 refine pin (ρ:=[.fz (cf us),.int i,x]) hm rfl rfl fun n hn=>?_
 have hdec:decide ((i:Int)<((us.map eI).map af).length)=true:=decide_eq_true (by rw[hlen];exact(az 0x1030035100027) hi)
 have hcd:(u.2.1.i==9676)=false:=by cases u.2.1<;>rfl
 refine ak rfl [.fz (cf us),.int i,x] (fun K h=>zu rfl [.fz (cf us),.int i,x] (fun F hF=>(congrArg (fun b=>F (!b) [.fz (cf us),.int i,x]) hdec).mpr hF) h) ?_
 refine ae (o:=aw (.fz (.lst (us.map eI))) (.int i)) hit ?_
 have h:Q (.bool (u.2.1.i==9676)) .LZ:=(congrArg (fun b=>Q (.bool b) .LZ) hcd).mpr h
 obtain⟨w,c,j⟩:=u
 cases hx with
 | inl e=>
  cases e
  rcases w with _|_<;>exact ae (o:=aw (.fz (.lst (us.map eI))) (.int i)) hit h
 | inr e=>
  cases e
  rcases w with _|_<;>exact ae (o:=aw (.fz (.lst (us.map eI))) (.int i)) hit h
theorem Kp (hm:2<=m) (A:At us k a b z) (h:Q .none .LZ):aW TT m 81 [.fz (cf us),.int k] Q:=by
 have h1:=A.h1
 obtain⟨u,hu,zz⟩:=t9 A
 obtain⟨u',hu',zz⟩:=yN A
 have e:(k:Int)-1=((k-1:Nat):Int):=by exact(ba 0x1100531100356001117) h1
 refine pin (ρ:=[.fz (cf us),.int k,.LZ,.LZ,.LZ,.LZ,.LZ,.LZ]) hm rfl rfl fun n hn=>?_
 refine ak rfl [.fz (cf us),.int k,.str a.s,.str b.s,.tup [st "AK",st "AS"],.LZ,.LZ,.LZ] (fun K h=>dS hn (by rw[A.ha];exact dS hn (by rw[A.hb];exact h))) ?_
 refine ak rfl [.fz (cf us),.int k,.str a.s,.str b.s,.tup [st "AK",st "AS"],.bool false,.bool false,.LZ] (fun K h=>?_) ?_
 ·have q (Q:PV->PV->Om) (h:Q (.bool false) .LZ):aW TT n 80 [.fz (cf us),.int ((k:Int)-1),.tup [st "AK",st "AS"]] Q:=by
   rw[e]
   exact Hs hn (.inl rfl) hu h
  exact q _ (Hs hn (.inl rfl) hu' h)
 refine ak rfl [.fz (cf us),.int k,.str a.s,.str b.s,.tup [st "AK",st "AS"],.bool false,.bool false,.bool false] (fun K h=>by rcases a with _|_<;>exact h) ?_
 refine ak rfl [.fz (cf us),.int k,.str a.s,.str b.s,.tup [st "AK",st "AS"],.bool false,.bool false,.bool false] (fun K h=>by rcases a with _|_<;>exact h) ?_
 refine ak rfl [.fz (cf us),.int k,.str a.s,.str b.s,.tup [st "AK",st "AS"],.bool false,.bool false,.bool false] (fun K h=>h) ?_
 exact h
noncomputable def zA (a b:Uw):String×String:=((((Hr a b).or (EZ b)).or (E0 a)).or (E1 a b)).getD ("may", "LB31")
theorem Ht (hm:4<=m) (A:At us k a b z) (h:Q (rv (some (zA a b))) .LZ):aW TT m 84 [.fz (cf us),.int k] Q:=by
 refine pin (ρ:=[.fz (cf us),.int k,.LZ]) hm rfl rfl fun n hn=>?_
 refine ak rfl [.fz (cf us),.int k,rv ((Hr a b).or (EZ b))] (fun K h=>Kc (fu hn) A ?_) ?_
 ·generalize Hr a b=r at h⊢
  cases r with
  | some x=>exact h
  | none=>
   have h:K .nxt [.fz (cf us),.int k,rv (EZ b)]:=by rwa [none_or]at h
   refine Kl (fu hn) A ?_
   generalize EZ b=r at h⊢
   cases r with
   | some x=>exact h
   | none=>exact Ke (fu hn) A h
 unfold zA at h
 generalize (Hr a b).or (EZ b)=r at h⊢
 refine ak rfl [.fz (cf us),.int k,rv (r.or (E0 a))] (fun K h=>?_) ?_
 ·cases r with
  | some x=>exact h
  | none=>
   have h:K .nxt [.fz (cf us),.int k,rv (E0 a)]:=by rwa [none_or]at h
   refine Km (fu hn) A (Kn (fu hn) A (Ko (fu hn) A ?_))
   generalize E0 a=r at h⊢
   cases r<;>exact h
 generalize r.or (E0 a)=r at h⊢
 refine ak rfl [.fz (cf us),.int k,rv r] (fun K h=>?_) ?_
 ·cases r with
  | some x=>exact h
  | none=>exact Kg (fu hn) A (Kf (fu hn) A (Kk (fu hn) A h))
 refine ak rfl [.fz (cf us),.int k,rv (r.or (E1 a b))] (fun K h=>?_) ?_
 ·cases r with
  | some x=>exact h
  | none=>
   have h:K .nxt [.fz (cf us),.int k,rv (E1 a b)]:=by rwa [none_or]at h
   refine Kh (fu hn) A ?_
   generalize E1 a b=r at h⊢
   cases r with
   | some x=>exact h
   | none=>exact Kp (fu hn) A (Ki (fu hn) A h)
 generalize r.or (E1 a b)=r at h⊢
 cases r with
 | some x=>exact h
 | none=>exact Kj (fu hn) A h
end
section
variable {m:Nat} {Q:PV->PV->Om} {t:List Cd} {us:List Un}
noncomputable def pv (q:String×String):PV:=.tup [st q.1,st q.2]
theorem LQ (q:String×String):af (pv q)=pv q:=rfl
noncomputable def nW (n:Nat):List (String×String):=((replicate (n+1) ("no", "LB9")).set n ("must", "LB3")).set 0 ("no", "LB2")
noncomputable def mD (us:List Un) (i:Nat):Un:=us.getD i (.AL,.a,0)
noncomputable def wk (us:List Un) (l:List (String×String)) (i:Nat):List (String×String):=l.set (mD us (i+1)).2.2 (zA (mD us i).1 (mD us (i+1)).1)
noncomputable def mT (t:List Cd):List (String×String):=(range' 0 ((units t).length-1)).foldl (wk (units t)) (nW t.length)
theorem sT:(iu us).length=us.length:=(pz _ _).trans length_zipIdx
theorem Hu {i:Nat} (h:i+1<us.length):∃z,At us (i+1) (mD us i).1 (mD us (i+1)).1 z:=by
 have h1:us[i]?=some (mD us i):=aF _ (by exact(az 0x10002101100427) h)
 have h2:us[i+1]?=some (mD us (i+1)):=aF _ h
 refine⟨_,?_,?_,List.getElem?_eq_getElem (by rw[sT];exact(az 0x10111100452101100427) h),by exact(ba 0x11004111),h⟩
 ·unfold vU
  rw[if_pos (by exact(ba 0x111100435014)),show(((i+1:Nat):Int)-1).toNat=i by exact(ba 0x11110043533),h1]
  rfl
 ·unfold vU
  rw[if_pos (by exact(ba 0x110043014)),show((i+1:Nat):Int).toNat=i+1 by exact(ba 0x1100411004333),h2]
  rfl
theorem BB {u:Un} (h:u ∈ units t):u.2.2<t.length:=by
 obtain⟨q,hq,e⟩:=mem_filterMap.mp h
 have:=snd_lt_of_mem_zipIdx hq
 unfold dK at e
 obtain⟨w,zz,rfl⟩:=map_eq_some_iff.mp e
 exact this
theorem vV:(units t).length<=t.length:=by
 have:=List.length_filterMap_le dK (t.zipIdx 0)
 rwa [length_zipIdx]at this
theorem q7 (n:Nat):aZ 1 1 n=(range' 0 n).map fun i:Nat=>.int ((i+1:Nat):Int):=by
 rw[eA]
 exact map_congr_left fun i zz=>by congr 1;exact(ba 0x1100430031146)
theorem n85_len {l:List (String×String)} {i:Nat}:(wk us l i).length=l.length:=length_set
noncomputable def ua (t:List Cd) (r:List PV):Env:=fl Cd.v t::dat::.fz fp::r
theorem Kq (hm:8<=m) (hok:t8 false t=true) (hl:t.length<800) (h:Q (fl pv (mT t)) .LZ):aW TT m 85 [fl Cd.v t,dat,.fz fp] Q:=by
 have hul:=vV (t:=t)
 refine pin (ρ:=(ua t [.LZ,.LZ,.LZ])) hm rfl rfl fun n hn=>?_
 have hlen:((t.map Cd.v).map af).length=t.length:=sO t
 have hb:bin .Mult (.lst [pv ("no", "LB9")]) (.int (((t.map Cd.v).map af).length+1))=some (ll pv (replicate (t.length+1) ("no", "LB9"))):=by
  show(if small ((((t.map Cd.v).map af).length:Int)+1)then some (PV.lst (replicate ((((t.map Cd.v).map af).length:Int)+1).toNat [af (pv ("no", "LB9"))]).flatten)else none)=_
  rw[hlen,if_pos (gy (by exact(ba 0x7d1321100345110034017d132958320320027) hl)),show((t.length:Int)+1).toNat=t.length+1 by exact(ba 0x1100411003433)]
  unfold ll
  rw[List.map_replicate]
  congr 2
  generalize t.length+1=N
  induction N with
  | zero=>rfl
  | succ N ih=>rw[replicate_succ,flatten_cons,ih,replicate_succ];rfl
 refine ak rfl (ua t [ll pv (replicate (t.length+1) ("no", "LB9")),.LZ,.LZ]) (fun K h=>ae (o:=bin .Mult (.lst [pv ("no", "LB9")]) (.int (((t.map Cd.v).map af).length+1))) hb (av (b:=cA ((replicate (t.length+1) ("no", "LB9")).map pv)) (aU (by simp;exact(ba 0x3e832110042320320027) hl)) h)) ?_
 refine ak rfl (ua t [ll pv ((replicate (t.length+1) ("no", "LB9")).set t.length ("must", "LB3")),.LZ,.LZ]) (fun K h=>ae (o:=cw (.lst ((replicate (t.length+1) ("no", "LB9")).map pv)) (.int ((t.map Cd.v).map af).length) (pv ("must", "LB3"))) (c8 (k:=t.length) (by rw[hlen]) (by simp)) (fV (eB pv _ _ _) (fun L=>K .nxt (ua t [.lst L,.LZ,.LZ])) h)) ?_
 refine ak rfl (ua t [ll pv (nW t.length),.LZ,.LZ]) (fun K h=>ae (o:=cw (.lst (((replicate (t.length+1) ("no", "LB9")).set t.length ("must", "LB3")).map pv)) (.int 0) (pv ("no", "LB2"))) (c8 (k:=0) rfl (by simp)) (fV (eB pv _ _ _) (fun L=>K .nxt (ua t [.lst L,.LZ,.LZ])) h)) ?_
 refine ak rfl (ua t [ll pv (nW t.length),cf (units t),.LZ]) (fun K h=>Kb hn hok (by exact(ba 0x38432002320320027) hl) (by exact(az 0x38432102001017320320027) hl hul) h) ?_
 have hun:∀i,i<(units t).length->(mD (units t) i).2.2<t.length:=fun i hi=>BB (mem_of_getElem? (aF _ hi))
 unfold mT at h
 generalize units t=us at h hul hun⊢
 have hlu:((us.map eI).map af).length=us.length:=by simp
 refine fU (fun j:Bool×PV=>(ua t [ll pv ((range' 0 (us.length-1)).foldl (wk us) (nW t.length)),bif j.1 then .fz (cf us)else cf us,j.2])) rfl (fun K h=>?_) fun zz=>h
 refine c7 (ρ':=(ua t [ll pv (nW t.length),cf us,.LZ])) rfl (aZ 1 1 (us.length-1)) rfl (fun F h=>ae (o:=cv [.int 1,.int ((us.map eI).map af).length]) (cL (by rw[hlu];exact(ba 0x1100511003533)) (by exact(aQ 0x7d0322035203017d0329587d0321158110148102037001017320320027) hl hul hlu)) h) ?_
 refine lV (τ:=List (String×String)) (ι:=Bool×PV) (q7 _) (fun l=>l.length=t.length+1) (wk us) (fun l j=>(ua t [ll pv l,bif j.1 then .fz (cf us)else cf us,j.2])) (nW t.length) (false,.LZ) (by unfold nW;simp) (fun i hi l j K hll h=>?_) (fun i zz l hll=>n85_len.trans hll) fun j=>h j
 have hi:=bw hi
 obtain⟨z,A⟩:=Hu (us:=us) (i:=i) (by exact(az 0x10110042111050027) hi)
 have hit:=d7 (Ho us) (i:=((i+1:Nat):Int)) (k:=i+1) rfl (aF (.AL,.a,0) (by exact(az 0x10110042111050027) hi))
 have hn85:(wk us l i)=l.set (mD us (i+1)).2.2 (zA (mD us i).1 (mD us (i+1)).1):=rfl
 refine ae (a:=(ua t [ll pv l,bif j.1 then .fz (cf us)else cf us,.int ((i+1:Nat):Int)])) rfl ?_
 refine ak rfl (ua t [ll pv (wk us l i),.fz (cf us),.int ((i+1:Nat):Int)]) (fun K h=>?_) (h (true,_))
 have dY:aP (aw (.fz (.lst (us.map eI))) (.int ((i+1:Nat):Int))) fun v=>aP (s7 (s "at") v) fun k=>aP (cw (.lst (l.map pv)) k (pv (zA (mD us i).1 (mD us (i+1)).1))) fun o=>K .nxt (ua t [o,.fz (cf us),.int ((i+1:Nat):Int)]):=
  ae hit (ae (o:=cw (.lst (l.map pv)) (.int (mD us (i+1)).2.2) (pv (zA (mD us i).1 (mD us (i+1)).1))) (c8 (k:=(mD us (i+1)).2.2) rfl (by have:=hun (i+1) (by exact(az 0x10110042111050027) hi);simp;exact(aQ 0x202102027111040037) hll this)) (fV (eB pv _ _ _) (fun L=>K .nxt (ua t [.lst L,.fz (cf us),.int ((i+1:Nat):Int)])) h))
 cases hj:j.1 with
 | false=>
  exact Ht (fu hn) A dY
 | true=>
  exact Ht (fu hn) A dY
theorem ub:(mT t).length=t.length+1:=by
 unfold mT
 have h0:(nW t.length).length=t.length+1:=by unfold nW;simp
 generalize range' 0 ((units t).length-1)=r
 generalize nW t.length=l at h0⊢
 induction r generalizing l with
 | nil=>exact h0
 | cons i r ih=>exact ih _ (n85_len.trans h0)
theorem Kr (hm:9<=m) (hok:t8 false t=true) (hl:t.length<800) (h:Q (.lst ((mT t).map fun q=>st q.1)) .LZ):aW TT m 91 [.fz (.obj 9 [s "data",s "how"] [dat,fp]),fl Cd.v t] Q:=by
 refine pin (ρ:=[.fz (.obj 9 [s "data",s "how"] [dat,fp]),fl Cd.v t]) hm rfl rfl fun n hn=>?_
 refine Kq hn hok hl ?_
 refine fZ (mm LQ (mT t)) (fun q=>st q.1) rfl (fun j:PV×PV=>[j.1,j.2,.fz (.obj 9 [s "data",s "how"] [dat,fp]),fl Cd.v t]) (.LZ,.LZ) (fun zz q=>(st q.1,st q.2)) ?_ (fun q zz a j K h=>?_) fun zz=>?_
 ·rw[ub]
  exact(ba 0x3e832110042320320027) hl
 ·exact h
 ·exact h
end
section
variable {m:Nat} {Q:PV->PV->Om} {t:List Cd} {ws:List Int} {hs:List Bool}
noncomputable def eJ:Int->List Int->List Int
 | S,[]=>[S]
 | S,w::r=>S::eJ (S+w) r
noncomputable def eK (hs:List Bool):Int->List Nat->List Int
 | e,[]=>[e]
 | e,i::r=>e::eK hs (if hs.getD i false then e else(i:Int)+1) r
noncomputable def jy (F G:List Int):PV:=.obj 8 [s "sums",s "ends"] [ll PV.int F,ll PV.int G]
noncomputable abbrev Ks:=(List Int×Int)×(List Int×Int)
noncomputable def LR (hs:List Bool) (τ:Ks) (q:Int×Nat):Ks:=((τ.1.1++[τ.1.2],τ.1.2+q.1),(τ.2.1++[τ.2.2],if hs.getD q.2 false then τ.2.2 else(q.2:Int)+1))
noncomputable def bv (b:Bool):PV:=.bool b
theorem Kt (hm:1<=m) (hl:hs.length=ws.length) (hb:ws.length<900) (h:Q .none (jy (eJ 0 ws) (eK hs 0 (range' 0 ws.length)))):aW TT m 86 [.obj 8 [] [],fl PV.int ws,fl bv hs] Q:=by
 refine pin (ρ:=[.obj 8 [] [],fl PV.int ws,fl bv hs,.LZ,.LZ]) hm rfl rfl fun n hn=>?_
 refine ak rfl [.obj 8 [s "sums"] [.lst [.int 0]],fl PV.int ws,fl bv hs,.LZ,.LZ] (fun K h=>h) ?_
 refine ak rfl [jy [0] [0],fl PV.int ws,fl bv hs,.LZ,.LZ] (fun K h=>h) ?_
 refine fU (fun j:PV×PV=>[jy (eJ 0 ws) (eK hs 0 (range' 0 ws.length)),fl PV.int ws,fl bv hs,j.1,j.2]) rfl (fun K h=>?_) fun zz=>h
 refine c7 rfl (dT 0 ((ws.map PV.int).map af)) rfl (fun F h=>h) ?_
 refine iU (τ:=Ks) (ι:=PV×PV) (em (g:=PV.int) (fun zz=>rfl) ws 0) (fun r τ=>τ.1.1++eJ τ.1.2 (r.map (·.1))=eJ 0 ws∧τ.2.1++eK hs τ.2.2 (r.map (·.2))=eK hs 0 (range' 0 ws.length)∧τ.1.1.length+r.length<900∧τ.2.1.length+r.length<900∧∀q ∈ r,q.2<hs.length) (LR hs)
  (fun τ j=>[jy (τ.1.1++[τ.1.2]) (τ.2.1++[τ.2.2]),fl PV.int ws,fl bv hs,j.1,j.2]) (([],0),([],0)) (.LZ,.LZ) ⟨by simp,by simp[List.zipIdx_map_snd],by simpa using hb,by simpa using hb,fun q hq=>hl▸snd_lt_of_mem_zipIdx hq⟩ (fun q r τ j K hs' h=>?_) (fun q r τ hs'=>?_) fun τ j hs'=>?_
 ·obtain⟨⟨F,S⟩,⟨G,e⟩⟩:=τ
  obtain⟨h1,h2,h3,h4,h5⟩:=hs'
  rw[length_cons]at h3 h4
  have h3:F.length+(r.length+1)<900:=h3
  have h4:G.length+(r.length+1)<900:=h4
  have hF:bb ((F++[S]).map PV.int)=.int S:=by rw[map_append];exact eU _
  have hG:bb ((G++[e]).map PV.int)=.int e:=by rw[map_append];exact eU _
  have hq:=h5 q mem_cons_self
  refine ae (a:=[jy (F++[S]) (G++[e]),fl PV.int ws,fl bv hs,.int q.2,.int q.1]) rfl ?_
  refine ak rfl [jy (F++[S]++[S+q.1]) (G++[e]),fl PV.int ws,fl bv hs,.int q.2,.int q.1] (fun K h=>?_) ?_
  ·refine ae (o:=(((iG (bb ((F++[S]).map PV.int))).bind kH).bind fun x=>(some (PV.int q.1)).bind fun y=>(j9 x y).bind (Ix .Add))) (a:=.int (S+q.1)) (by rw[hF];rfl) ?_
   refine av (b:=cA ((F++[S]).map PV.int++[PV.int (S+q.1)])) (aU (by simp;exact(az 0x3e832210042384321110400427) (by assumption))) ?_
   exact fV (A:=(F++[S]).map PV.int++[PV.int (S+q.1)]) (B:=(F++[S]++[S+q.1]).map PV.int) (by simp) (fun L=>K .nxt [.obj 8 [s "sums",s "ends"] [.lst L,ll PV.int (G++[e])],fl PV.int ws,fl bv hs,.int q.2,.int q.1]) h
  ·refine ak rfl [jy (F++[S]++[S+q.1]) (G++[e]++[if hs.getD q.2 false then e else(q.2:Int)+1]),fl PV.int ws,fl bv hs,.int q.2,.int q.1] (fun K h=>?_) (h (_,_))
   have hsp:(((bg q.2 ((hs.map bv).map af).length).map (aK ((hs.map bv).map af))).bind fun x=>(oV x).bind fun r=>if r then(iG (bb ((G++[e]).map PV.int))).bind kH else some (PV.int ((q.2:Int)+1)))=some (.int (if hs.getD q.2 false then e else(q.2:Int)+1)):=by
    rw[mm (g:=bv) fun zz=>rfl,ky (k:=q.2) rfl (by rw[length_map];exact hq),map_some,iQ (aF false hq),hG]
    show(if hs.getD q.2 false then(iG (.int e)).bind kH else some (PV.int ((q.2:Int)+1)))=_
    cases hs.getD q.2 false<;>rfl
   refine ae (o:=(((bg q.2 ((hs.map bv).map af).length).map (aK ((hs.map bv).map af))).bind fun x=>(oV x).bind fun r=>if r then(iG (bb ((G++[e]).map PV.int))).bind kH else some (PV.int ((q.2:Int)+1)))) hsp ?_
   generalize (if hs.getD q.2 false then e else(q.2:Int)+1)=E' at h⊢
   refine av (b:=cA ((G++[e]).map PV.int++[PV.int E'])) (aU (by simp;exact(az 0x3e832210042384321110400427) (by assumption))) ?_
   exact fV (A:=(G++[e]).map PV.int++[PV.int E']) (B:=(G++[e]++[E']).map PV.int) (by simp) (fun L=>K .nxt [.obj 8 [s "sums",s "ends"] [ll PV.int (F++[S]++[S+q.1]),.lst L],fl PV.int ws,fl bv hs,.int q.2,.int q.1]) h
 ·obtain⟨⟨F,S⟩,⟨G,e⟩⟩:=τ
  obtain⟨h1,h2,h3,h4,h5⟩:=hs'
  refine⟨?_,?_,?_,?_,fun y hy=>h5 y (mem_cons_of_mem _ hy)⟩
  ·rw[←h1]
   show F++[S]++eJ (S+q.1) (r.map (·.1))=F++(S::eJ (S+q.1) (r.map (·.1)))
   simp
  ·rw[←h2]
   show G++[e]++eK hs _ (r.map (·.2))=G++(e::eK hs _ (r.map (·.2)))
   rw[append_assoc]
   rfl
  ·show(F++[S]).length+r.length<900
   have h3:F.length+(q::r).length<900:=h3
   simp at h3⊢;exact(az 0x38432101100442384321110400427) h3
  ·show(G++[e]).length+r.length<900
   have h4:G.length+(q::r).length<900:=h4
   simp at h4⊢;exact(az 0x38432101100442384321110400427) h4
 ·have e1:τ.1.1++[τ.1.2]=eJ 0 ws:=hs'.1
  have e2:τ.2.1++[τ.2.2]=eK hs 0 (range' 0 ws.length):=hs'.2.1
  rw[e1,e2]
  exact h j
theorem Ku (hm:1<=m) {F G:List Int} {a e k:Nat} {x p q:Int} (hx:G[e]?=some x) (hk:(if(a:Int)<x then x else a)=(k:Int)) (hp:F[k]?=some p) (hq:F[a]?=some q) (h:Q (.int (p-q)) .LZ):aW TT m 87 [.fz (jy F G),.int a,.int e] Q:=by
 have hz:∀x:Int,af (PV.int x)=.int x:=fun zz=>rfl
 refine pin (ρ:=[.fz (jy F G),.int a,.int e,.LZ]) hm rfl rfl fun n hn=>?_
 refine ak rfl [.fz (jy F G),.int a,.int e,.int k] (fun K h=>ae (o:=aw (fl PV.int G) (.int e)) (bj hz rfl hx) ?_) ?_
 ·have e1:(if decide ((a:Int)<x)=true then x else(a:Int))=k:=by
   rw[←hk]
   simp
  exact(congrArg (fun y:Int=>K .nxt [.fz (jy F G),.int a,.int e,.int y]) e1).mpr h
 ·exact ae (o:=aw (fl PV.int F) (.int k)) (bj hz rfl hp) (ae (o:=aw (fl PV.int F) (.int a)) (bj hz rfl hq) h)
noncomputable def Cd.isB:Cd->Bool
 | .sp=>true
 | .lf=>true
 | _=>false
noncomputable def cS:PV:=.obj 9 [s "data",s "how"] [dat,fp]
theorem Kv (hm:6<=m) (hl:ws.length=t.length) (hb:t.length<800) (h:Q (jy (eJ 0 ws) (eK (t.map Cd.isB) 0 (range' 0 t.length))) .LZ):aW TT m 92 [.fz cS,fl Cd.v t,fl PV.int ws] Q:=by
 refine pin (ρ:=[.fz cS,fl Cd.v t,fl PV.int ws,.LZ]) hm rfl rfl fun n hn=>?_
 refine ak rfl [.fz cS,fl Cd.v t,fl PV.int ws,ll bv (t.map Cd.isB)] (fun K h=>?_) ?_
 ·exact fZ (mm Cd.vz t) (fun c=>bv c.isB) (mp Cd.isB bv t) (fun j:PV=>[j,.fz cS,fl Cd.v t,fl PV.int ws,.LZ]) .LZ (fun zz c=>c.v) (by exact(ba 0x3e832002320320027) hb) (fun c zz a j K h=>Hk hn c (by rcases c with _|_<;>exact h)) fun zz=>h
 ·rw[←hl]at h
  exact Kt (fu hn) (by rw[length_map,hl]) (by exact(az 0x38432002320321027100037) hl hb) h
noncomputable def mU (wid:Nat->Nat->Int) (M:Int) (a e p:Nat):Bool:=decide (a<p)&&decide (p<e)&&decide (wid a p<=M)
noncomputable def rL (wid:Nat->Nat->Int) (M:Int) (a e:Nat) (f:Option Nat) (p:Nat):Option Nat:=if mU wid M a e p then some p else f
def yO (d:Nat) (ms:PV) (wid:Nat->Nat->Int) (N:Nat):Prop:=∀(m:Nat) (Q:PV->PV->Om) (a e:Nat),d<=m->a<=e->e<=N->Q (.int (wid a e)) .LZ->aW TT m 87 [.fz ms,.int a,.int e] Q
theorem Hv (hm:3<=m) {N:Nat} {F G:List Int} {wid:Nat->Nat->Int} {M:Int} {a e:Nat} {P:List Nat} {O:List PV} (hms:yO 2 (jy F G) wid N) (he:e<=N) (hO:O.map af=P.map iv) (h:Q (eW (P.foldl (rL wid M a e) none)) .LZ):aW TT m 88 [.fz (.lst O),.int a,.int e,.fz (jy F G),.int M] Q:=by
 refine pin (ρ:=[.fz (.lst O),.int a,.int e,.fz (jy F G),.int M,.LZ,.LZ]) hm rfl rfl fun n hn=>?_
 refine ak rfl [.fz (.lst O),.int a,.int e,.fz (jy F G),.int M,.none,.LZ] (fun K h=>h) ?_
 refine fU (fun j:PV=>[.fz (.lst O),.int a,.int e,.fz (jy F G),.int M,eW (P.foldl (rL wid M a e) none),j]) rfl (fun K h=>?_) fun zz=>?_
 ·refine c7 rfl (O.map af) rfl (fun F h=>h) ?_
  refine En (τ:=Option Nat) (ι:=PV) hO (rL wid M a e) (fun zz p zz=>iv p) (fun f j=>[.fz (.lst O),.int a,.int e,.fz (jy F G),.int M,eW f,j]) none .LZ (fun p f j K h=>?_) h
  refine ae (a:=[.fz (.lst O),.int a,.int e,.fz (jy F G),.int M,eW f,iv p]) rfl ?_
  refine ak rfl [.fz (.lst O),.int a,.int e,.fz (jy F G),.int M,eW (rL wid M a e f p),iv p] (fun K h=>?_) h
  unfold rL at h
  cases q:mU wid M a e p with
  | true=>
   rw[if_pos q]at h
   unfold mU at q
   obtain⟨q12,q3⟩:=bA q
   obtain⟨q1,q2⟩:=bA q12
   have q1:=of_decide_eq_true q1
   have q2:=of_decide_eq_true q2
   have d2:decide ((p:Int)<(e:Int))=true:=decide_eq_true (ofNat_lt.mpr q2)
   refine wh rfl [.fz (.lst O),.int a,.int e,.fz (jy F G),.int M,eW f,iv p] (fun A hA=>bE (b:=decide ((a:Int)<p)) (decide_eq_true (ofNat_lt.mpr q1)) (bE (b:=decide ((p:Int)<e)) d2 (hms n _ a p hn (by exact(az 0x10001100027) q1) (by exact(aQ 0x1020100320357100017) he (of_decide_eq_true d2 :)) (bE (b:=decide (wid a p<=M)) q3 hA)))) ?_
   exact h
  | false=>
   rw[if_neg (by rw[q];decide)]at h
   refine zu rfl [.fz (.lst O),.int a,.int e,.fz (jy F G),.int M,eW f,iv p] (fun A hA=>?_) h
   by_cases q1:a<p
   ·refine bE (b:=decide ((a:Int)<p)) (decide_eq_true (ofNat_lt.mpr q1)) ?_
    by_cases q2:p<e
    ·have d2:decide ((p:Int)<(e:Int))=true:=decide_eq_true (ofNat_lt.mpr q2)
     refine bE (b:=decide ((p:Int)<e)) d2 (hms n _ a p hn (by exact(az 0x10001100027) q1) (by exact(aQ 0x10201002027100017) he q2) (bC (b:=decide (wid a p<=M)) ?_ hA))
     unfold mU at q
     rw[decide_eq_true q1,decide_eq_true q2]at q
     exact q
    ·have d2:decide ((p:Int)<(e:Int))=false:=decide_eq_false fun h=>q2 (ofNat_lt.mp h)
     exact bC (b:=decide ((p:Int)<e)) d2 hA
   ·exact bC (b:=decide ((a:Int)<p)) (decide_eq_false fun h=>q1 (ofNat_lt.mp h)) hA
 ·generalize P.foldl (rL wid M a e) none=f at h⊢
  rcases f with _|_<;>exact h
end
section
variable {m:Nat} {Q:PV->PV->Om}
section
variable {T:Tab} {Φ:Calls} {r:Ev} {n:Nat} {c:bF} {t:Expr} {b rest:List Stmt} {p:Pos} {P:Fl->Env->Om}
theorem BC {σ:Type} {B:List Stmt} (hB:B=.While (j0 (qR B)) (mR (qR B)) [] p::B.tail) (E:σ->Env) (I:Nat->σ->Prop) (J:σ->Prop) (k:Nat) (s:σ) (hk:k<10000) (h:I k s)
  (hr:∀s,J s->aV (ex T Φ r (n+1) c) B.tail (E s) P)
  (hb:∀k s (W R:Env->Om),I k s->(∀s' k',k'<k->I k' s'->W (E s'))->(∀s',J s'->R (E s'))->r.t c (j0 (qR B)) (E s) fun q ρ=>if q then aV (ex T Φ r n c) (mR (qR B)) ρ fun fl ρ=>match fl with
   | .nxt=>W ρ
   | .cnt=>W ρ
   | .brk=>R ρ
   | .exc=>eO
   | .ret v=>P (.ret v) ρ else R ρ):aV (ex T Φ r (n+1) c) B (E s) P:=
 GZ hB E I k s hk h fun k s W q hW=>hb k s W _ q hW hr
end
theorem sU {σ α:Type} (E:σ->Env) (f:σ->α->σ) (q:α->Bool) (o:α->PV) {g:α->PV} {bind:PV->Env->Option Env} {turn:List PV->M (List PV)} {P:List PV->Env->Om}:
  ∀(l:List α) (hb:∀x,x ∈ l->∀a s (K:List PV->Env->Om),(q x=true->bK (cA (a++[o x])) (K (a++[o x]) (E (f s x))))->(q x=false->K a (E (f s x)))->aP (bind (g x) (E s)) fun ρ=>turn a ρ K)
   (a:List PV) (s:σ),a.length+l.length<1000->(∀s,P (a++(l.filter q).map o) (E s))->cK bind turn (l.map g) a (E s) P
 | [],_,a,s,_,hP=>by have:=hP s;rwa [List.filter_nil,map_nil,append_nil]at this
 | x::r,hb,a,s,h,hP=>by
  have hb':=fun y hy=>hb y (mem_cons_of_mem _ hy)
  refine hb x mem_cons_self a s _ (fun e=>av (aU (by simp at h⊢;exact(az 0x3e8321100423e8321110400427) h)) (sU E f q o r hb' _ _ (by simp at h⊢;exact(az 0x3e8321011004423e8321110400427) h) fun s=>?_)) fun e=>sU E f q o r hb' _ _ (by simp at h⊢;exact(az 0x3e8321000423e8321110400427) h) fun s=>?_
  ·have:=hP s
   rwa [filter_cons,if_pos e,map_cons,List.append_cons]at this
  ·have:=hP s
   rwa [filter_cons,if_neg (by rw[e];decide)]at this
theorem uc {σ α:Type} {L R:List PV} {l:List α} {g:α->PV} (hL:L=l.map g) (q:α->Bool) (o:α->PV) (hR:(l.filter q).map o=R) (E:σ->Env) (s:σ) (f:σ->α->σ) {bind:PV->Env->Option Env} {turn:List PV->M (List PV)} {P:List PV->Env->Om}
  (h:l.length<1000) (hb:∀x,x ∈ l->∀a s (K:List PV->Env->Om),(q x=true->bK (cA (a++[o x])) (K (a++[o x]) (E (f s x))))->(q x=false->K a (E (f s x)))->aP (bind (g x) (E s)) fun ρ=>turn a ρ K)
  (hP:∀s,P R (E s)):cK bind turn L [] (E s) P:=by
 cases hL
 subst hR
 exact sU E f q o l hb [] s (by simpa using h) hP
theorem Kw {S:Stmt->M Fl} {s:Stmt} {rest B:List Stmt} {P:Fl->Env->Om} {ρ:Env} (hB:B=s::rest) (ρ':Env) (h:∀K:Fl->Env->Om,K .brk ρ'->S s ρ K) (q:P .brk ρ'):aV S B ρ P:=by
 cases hB
 exact h _ q
noncomputable def fB (wid:Nat->Nat->Int) (M:Int) (P:List Nat) (cut:Nat):Nat->Nat->List (Nat×Nat)×Nat
 | 0,s=>([],s)
 | k+1,s=>if wid s cut<=M then([],s)else match P.foldl (rL wid M s cut) none with
  | none=>([],s)
  | some p=>((s,p)::(fB wid M P cut k p).1,(fB wid M P cut k p).2)
theorem md {wid:Nat->Nat->Int} {M:Int} {P:List Nat} {cut k s:Nat}:fB wid M P cut (k+1) s=if wid s cut<=M then([],s)else match P.foldl (rL wid M s cut) none with
  | none=>([],s)
  | some p=>((s,p)::(fB wid M P cut k p).1,(fB wid M P cut k p).2):=rfl
set_option tactic.hygienic true in
theorem ud {wid:Nat->Nat->Int} {M:Int} {P:List Nat} {a e p:Nat} (h:P.foldl (rL wid M a e) none=some p):a<p∧p<e:=by
 have key:∀(P:List Nat) (f:Option Nat),(∀p,f=some p->a<p∧p<e)->∀p,P.foldl (rL wid M a e) f=some p->a<p∧p<e:=by
  intro P
  induction P with
  | nil=>exact fun f h=>h
  | cons x P ih=>
   intro f hf
   refine ih _ fun p hp=>?_
   unfold rL mU at hp
   split at hp
   ·rename_i q
    simp at q
    cases hp
    exact⟨q.1.1,q.1.2⟩
   ·exact hf p hp
 exact key P none (fun zz h=>no h) p h
noncomputable abbrev BD:=List (Nat×Nat)×Nat×Option Nat
noncomputable def eX (wid:Nat->Nat->Int) (M:Int) (s:BD) (cut:Nat):List (Nat×Nat)×Nat:=match s.2.2 with
 | none=>(s.1,s.2.1)
 | some c=>if wid s.2.1 cut<=M then(s.1,s.2.1)else(s.1++[(s.2.1,c)],c)
noncomputable def dc (V:List (String×String)) (i:Nat):Bool:=aM (s (V.getD i ("", "")).1) (s "must")
noncomputable def gA (V:List (String×String)) (i:Nat):Bool:=aM (s (V.getD i ("", "")).1) (s "no")
noncomputable def wl (V:List (String×String)) (wid:Nat->Nat->Int) (M:Int) (P:List Nat) (st:BD) (cut:Nat):BD:=
 let a:=eX wid M st cut
 let e:=fB wid M P cut (cut-a.2) a.2
 if dc V cut then(a.1++e.1++[(e.2,cut)],cut,none)else(a.1++e.1,e.2,some cut)
noncomputable def me (V:List (String×String)):List Nat:=((range' 0 (V.length-1)).filter fun i=>!gA V (i+1)).map (·+1)
noncomputable def jz (V:List (String×String)) (wid:Nat->Nat->Int) (M:Int) (P:List Nat):List (Nat×Nat):=((me V).foldl (wl V wid M P) ([],0,none)).1
set_option tactic.hygienic true in
theorem sV {wid:Nat->Nat->Int} {M:Int} {P:List Nat} {cut:Nat}:∀(k s:Nat),s<cut->s<=(fB wid M P cut k s).2∧(fB wid M P cut k s).2<cut∧(fB wid M P cut k s).1.length+s<=(fB wid M P cut k s).2
 | 0,s,h=>⟨Nat.le_refl _,h,by exact show 0+s<=s from(ba 0x141)⟩
 | k+1,s,h=>by
  rw[md]
  split
  ·exact⟨Nat.le_refl _,h,by exact show 0+s<=s from(ba 0x141)⟩
  ·split
   ·exact⟨Nat.le_refl _,h,by exact show 0+s<=s from(ba 0x141)⟩
   ·rename_i p hp
    obtain⟨h1,h2⟩:=ud hp
    obtain⟨h3,h4,h5⟩:=sV k p h2
    refine⟨?_,h4,?_⟩
    ·exact show s<=(fB wid M P cut k p).2 from(aQ 0x20001201017100027) h1 h3
    ·show((s,p)::(fB wid M P cut k p).1).length+s<=(fB wid M P cut k p).2
     rw[length_cons]
     exact(b6 0x30001120441301020417100027) h1 h5
theorem ue {wid:Nat->Nat->Int} {M:Int} {st:BD} {cut:Nat} (h2:st.1.length<=st.2.1) (hc1:st.2.1<cut) (h5:∀c,st.2.2=some c->st.2.1<c∧c<cut):(eX wid M st cut).2<cut∧(eX wid M st cut).1.length<=(eX wid M st cut).2:=by
 obtain⟨F0,a,ch⟩:=st
 cases ch with
 | none=>exact⟨hc1,h2⟩
 | some c=>
  obtain⟨h6,h7⟩:=h5 c rfl
  have h2:F0.length<=a:=h2
  have h6:a<c:=h6
  by_cases q:wid a cut<=M
  ·rw[show eX wid M (F0,a,some c) cut=(F0,a)from if_pos q]
   exact⟨hc1,h2⟩
  ·rw[show eX wid M (F0,a,some c) cut=(F0++[(a,c)],c)from if_neg q]
   exact⟨h7,by simp;exact(aQ 0x20110041201027100017) (by assumption) (by assumption)⟩
noncomputable def wq (q:String×String):PV:=Internal.P.st q.1
noncomputable def iw (W:List PV) (F G:List Int) (M:Int) (O:List PV) (r:List PV):Env:=.fz (.lst W)::.fz (jy F G)::.int M::.fz (.lst O)::r
theorem Kx (hm:4<=m) {N:Nat} {F G:List Int} {wid:Nat->Nat->Int} {M:Int} {V:List (String×String)} {W O:List PV} {P:List Nat} (hms:yO 2 (jy F G) wid N) (hW:W.map af=V.map wq) (hV:V.length=N+1) (hN:N<800) (hO:O.map af=P.map iv)
  (h:Q (fl aG (jz V wid M P)) .LZ):aW TT m 89 [.fz (.lst W),.fz (jy F G),.int M,.fz (.lst O)] Q:=by
 refine pin (ρ:=(iw W F G M O [.LZ,.LZ,.LZ,.LZ,.LZ])) hm rfl rfl fun n hn=>?_
 refine ak rfl (iw W F G M O [.lst [],.int 0,.none,.LZ,.LZ]) (fun K h=>h) ?_
 refine fU (fun j:(Int×Option Nat)×PV×PV=>(iw W F G M O [ll aG (jz V wid M P),.int j.1.1,eW j.1.2,j.2.1,j.2.2])) rfl (fun K h=>?_) fun zz=>h
 have hlenW:(W.map af).length=N+1:=by rw[hW,length_map,hV]
 have hit:∀i,i<=N->aw (.fz (.lst W)) (.int i)=some (wq (V.getD i ("", ""))):=fun i hi=>d7 hW rfl (aF _ (by exact(aQ 0x202102017111040037) hV hi))
 have hR:(((range' 0 N).filter fun i=>!gA V (i+1)).map fun i=>iv (i+1)).map af=(me V).map iv:=by
  unfold me
  rw[hV,mp (·+1) iv,mm kB]
  rfl
 refine c7 (ρ':=(iw W F G M O [.lst [],.int 0,.none,.LZ,.LZ])) rfl ((((range' 0 N).filter fun i=>!gA V (i+1)).map fun i=>iv (i+1)).map af) rfl (fun A h=>ae (o:=cv [.int 1,.int (W.map af).length]) (cL (n:=N) (by rw[hlenW];exact(ba 0x11110043533)) (by exact(az 0x7d0321035103017d0329587d0321158110148110041037320320027) hN hlenW)) ?_) ?_
 ·refine uc (q7 N) (fun i=>!gA V (i+1)) (fun i=>iv (i+1)) rfl (fun j:PV=>[j,.fz (.lst W),.fz (jy F G),.int M,.fz (.lst O),.lst [],.int 0,.none,.LZ,.LZ]) .LZ (fun zz i=>iv (i+1)) (by rw[length_range'];exact(ba 0x3e832002320320027) hN) (fun i hi a j K h1 h2=>?_) fun zz=>h
  refine ae (o:=aw (.fz (.lst W)) (.int ((i+1:Nat):Int))) (hit (i+1) (by have:=bw hi;exact(az 0x10110041100027) this)) ?_
  cases e:gA V (i+1)with
  | true=>exact bC (b:=!gA V (i+1)) (by rw[e];rfl) (h2 (by rw[e];rfl))
  | false=>exact bE (b:=!gA V (i+1)) (by rw[e];rfl) (h1 (by rw[e];rfl))
 have hsort:(me V).Pairwise (·<·):=by
  unfold me
  exact List.Pairwise.map _ (fun a b h=>Nat.succ_lt_succ h) (List.Pairwise.filter _ List.pairwise_lt_range')
 have hcut:∀c ∈ me V,0<c∧c<=N:=fun c hc=>by
  obtain⟨i,hi,rfl⟩:=mem_map.mp hc
  have:=bw (mem_filter.mp hi).1
  exact(aQ 0x10112041112040128110052027111040037) hV this
 refine iU (τ:=BD) (ι:=PV×PV) hR (fun r st=>r.foldl (wl V wid M P) st=(me V).foldl (wl V wid M P) ([],0,none)∧st.1.length<=st.2.1∧(∀c ∈ r,st.2.1<c∧c<=N)∧r.Pairwise (·<·)∧∀c',st.2.2=some c'->st.2.1<c'∧∀c ∈ r,c'<c) (wl V wid M P)
  (fun st j=>(iw W F G M O [ll aG st.1,.int st.2.1,eW st.2.2,j.1,j.2])) ([],0,none) (.LZ,.LZ) ⟨rfl,Nat.le_refl _,hcut,hsort,fun zz h=>no h⟩ (fun cut r st j K hs h=>?_) (fun cut r st hs=>?_) fun st j hs=>?_
 ·obtain⟨zz,h2,h3,h4,h5⟩:=hs
  obtain⟨hc1,hc2⟩:=h3 cut mem_cons_self
  refine ae (a:=(iw W F G M O [ll aG st.1,.int st.2.1,eW st.2.2,iv cut,j.2])) rfl ?_
  refine ak rfl (iw W F G M O [ll aG (eX wid M st cut).1,.int (eX wid M st cut).2,eW st.2.2,iv cut,j.2]) (fun K h=>?_) ?_
  ·obtain⟨F0,a,ch⟩:=st
   have h2:F0.length<=a:=h2
   have hc1:a<cut:=hc1
   cases ch with
   | none=>exact h
   | some c=>
    obtain⟨h6,h7⟩:=h5 c rfl
    have h6:a<c:=h6
    have h7:=h7 cut mem_cons_self
    by_cases q:wid a cut<=M
    ·rw[show eX wid M (F0,a,some c) cut=(F0,a)from if_pos q]at h
     exact zu rfl (iw W F G M O [ll aG F0,.int a,.int c,iv cut,j.2]) (fun A hA=>hms n _ a cut (fu hn) (by exact(az 0x10001100027) (by assumption)) hc2 (bC (b:=decide (M<wid a cut)) (decide_eq_false (by exact(oG 0x1057100047) q)) hA)) h
    ·rw[show eX wid M (F0,a,some c) cut=(F0++[(a,c)],c)from if_neg q]at h
     refine wh rfl (iw W F G M O [ll aG F0,.int a,.int c,iv cut,j.2]) (fun A hA=>hms n _ a cut (fu hn) (by exact(az 0x10001100027) (by assumption)) hc2 (bE (b:=decide (M<wid a cut)) (decide_eq_true (by exact(oG 0x10501000477) q)) hA)) ?_
     refine ak rfl (iw W F G M O [ll aG (F0++[(a,c)]),.int a,.int c,iv cut,j.2]) (fun K h=>lX (v:=aG) (F:=F0) (x:=(a,c)) (by exact(b6 0x3e732202103027302017001017320320027) hN hc2 (by assumption) (by assumption)) (fun L=>K .nxt (iw W F G M O [.lst L,.int a,.int c,iv cut,j.2])) h) ?_
     exact ak rfl (iw W F G M O [ll aG (F0++[(a,c)]),.int c,.int c,iv cut,j.2]) (fun K h=>h) h
  ·have hA:=ue (wid:=wid) (M:=M) h2 hc1 fun c' e=>⟨(h5 c' e).1,(h5 c' e).2 cut mem_cons_self⟩
   unfold wl at h
   generalize eX wid M st cut=A1 at h hA⊢
   generalize st.2.2=ch
   obtain⟨F1,a⟩:=A1
   obtain⟨ha1,ha2⟩:=hA
   have ha1:a<cut:=ha1
   have ha2:F1.length<=a:=ha2
   obtain⟨T,hT⟩:∃T,T=fB wid M P cut (cut-a) a:=⟨_,rfl⟩
   have hTo:=sV (wid:=wid) (M:=M) (P:=P) (cut:=cut) (cut-a) a ha1
   rw[←hT]at hTo
   have h:∀j:PV×PV,K .nxt (iw W F G M O [ll aG (if dc V cut then(F1++T.1++[(T.2,cut)],cut,none)else(F1++T.1,T.2,some cut):BD).1,.int (if dc V cut then(F1++T.1++[(T.2,cut)],cut,none)else(F1++T.1,T.2,some cut):BD).2.1,eW (if dc V cut then(F1++T.1++[(T.2,cut)],cut,none)else(F1++T.1,T.2,some cut):BD).2.2,j.1,j.2]):=by
    rw[hT]
    exact h
   refine BC rfl (fun x:List (Nat×Nat)×Nat×PV=>(iw W F G M O [ll aG x.1,.int x.2.1,eW ch,iv cut,x.2.2])) (fun k x=>x.1++(fB wid M P cut k x.2.1).1=F1++T.1∧(fB wid M P cut k x.2.1).2=T.2∧cut<=k+x.2.1∧x.2.1<cut∧x.1.length<=x.2.1) (fun x=>x.1=F1++T.1∧x.2.1=T.2) (cut-a) (F1,a,j.2) (by exact(aQ 0x271042201052001017320320027) hN hc2) ⟨by rw[hT],by rw[hT],by exact show cut<=cut-a+a from(az 0x10100054001),ha1,ha2⟩ (fun x hx=>?_) (fun k x Wf R hI hW hRR=>?_)
   ·obtain⟨x1,x2,x3⟩:=x
    obtain⟨e1,e2⟩:=hx
    have e1:x1=F1++T.1:=e1
    have e2:x2=T.2:=e2
    refine ak rfl (iw W F G M O [ll aG x1,.int x2,iv cut,iv cut,x3]) (fun K h=>h) ?_
    have hi:=hit cut hc2
    have h:=h (iv cut,x3)
    rw[←e1,←e2]at h
    cases e:dc V cut with
    | true=>
     rw[if_pos e]at h
     refine ak rfl (iw W F G M O [ll aG (x1++[(x2,cut)]),iv cut,.none,iv cut,x3]) (fun K h=>wh rfl (iw W F G M O [ll aG x1,.int x2,iv cut,iv cut,x3]) (fun A hA=>ae (o:=aw (.fz (.lst W)) (.int cut)) hi ((congrArg (fun b=>A b (iw W F G M O [ll aG x1,.int x2,iv cut,iv cut,x3])) e).mpr hA)) ?_) h
     refine ak rfl (iw W F G M O [ll aG (x1++[(x2,cut)]),.int x2,iv cut,iv cut,x3]) (fun K h=>lX (v:=aG) (F:=x1) (x:=(x2,cut)) (by rw[e1];simp;exact(H9 0x3e732502042403050411040284030187302017001017320320027) hN hc2 (by assumption) hTo) (fun L=>K .nxt (iw W F G M O [.lst L,.int x2,iv cut,iv cut,x3])) h) ?_
     exact ak rfl (iw W F G M O [ll aG (x1++[(x2,cut)]),iv cut,.none,iv cut,x3]) (fun K h=>h) h
    | false=>
     rw[if_neg (by rw[e];decide)]at h
     exact ak rfl (iw W F G M O [ll aG x1,.int x2,iv cut,iv cut,x3]) (fun K h=>zu rfl (iw W F G M O [ll aG x1,.int x2,iv cut,iv cut,x3]) (fun A hA=>ae (o:=aw (.fz (.lst W)) (.int cut)) hi ((congrArg (fun b=>A b (iw W F G M O [ll aG x1,.int x2,iv cut,iv cut,x3])) e).mpr hA)) h) h
   ·obtain⟨x1,x2,x3⟩:=x
    obtain⟨i1,i2,i3,i4,i5⟩:=hI
    have i3:cut<=k+x2:=i3
    have i4:x2<cut:=i4
    have i5:x1.length<=x2:=i5
    cases k with
    | zero=>exact absurd i4 (by exact(az 0x1027100140017) (by assumption))
    | succ k=>
     by_cases q:wid x2 cut<=M
     ·have e:fB wid M P cut (k+1) x2=([],x2):=if_pos q
      refine hms n _ x2 cut (fu hn) (by exact(az 0x10001100027) i4) hc2 (bC (b:=decide (M<wid x2 cut)) (decide_eq_false (by exact(oG 0x1057100047) q)) (hRR (x1,x2,x3) ⟨?_,?_⟩))
      ·have i1:x1++(fB wid M P cut (k+1) x2).1=F1++T.1:=i1
       rw[e,append_nil]at i1
       exact i1
      ·have i2:(fB wid M P cut (k+1) x2).2=T.2:=i2
       rw[e]at i2
       exact i2
     ·refine hms n _ x2 cut (fu hn) (by exact(az 0x10001100027) (by assumption)) hc2 (bE (b:=decide (M<wid x2 cut)) (decide_eq_true (by exact(oG 0x10501000477) q)) ?_)
      cases e:P.foldl (rL wid M x2 cut) none with
      | none=>
       have em:fB wid M P cut (k+1) x2=([],x2):=by
        conv=>lhs;rw[md]
        rw[if_neg q,e]
       refine ak rfl (iw W F G M O [ll aG x1,.int x2,eW ch,iv cut,.none]) (fun K h=>Hv hn hms hc2 hO (by rw[e];exact h)) ?_
       refine Kw rfl (iw W F G M O [ll aG x1,.int x2,eW ch,iv cut,.none]) (fun K h=>h) (hRR (x1,x2,.none) ⟨?_,?_⟩)
       ·have i1:x1++(fB wid M P cut (k+1) x2).1=F1++T.1:=i1
        rw[em,append_nil]at i1
        exact i1
       ·have i2:(fB wid M P cut (k+1) x2).2=T.2:=i2
        rw[em]at i2
        exact i2
      | some p=>
       obtain⟨p1,p2⟩:=ud e
       have em:fB wid M P cut (k+1) x2=((x2,p)::(fB wid M P cut k p).1,(fB wid M P cut k p).2):=by
        conv=>lhs;rw[md]
        rw[if_neg q,e]
       refine ak rfl (iw W F G M O [ll aG x1,.int x2,eW ch,iv cut,iv p]) (fun K h=>Hv hn hms hc2 hO (by rw[e];exact h)) ?_
       refine ak rfl (iw W F G M O [ll aG x1,.int x2,eW ch,iv cut,iv p]) (fun K h=>h) ?_
       refine ak rfl (iw W F G M O [ll aG (x1++[(x2,p)]),.int x2,eW ch,iv cut,iv p]) (fun K h=>lX (v:=aG) (F:=x1) (x:=(x2,p)) (by lia) (fun L=>K .nxt (iw W F G M O [.lst L,.int x2,eW ch,iv cut,iv p])) h) ?_
       refine ak rfl (iw W F G M O [ll aG (x1++[(x2,p)]),iv p,eW ch,iv cut,iv p]) (fun K h=>h) ?_
       refine hW (x1++[(x2,p)],p,iv p) k (lt_succ_self k) ⟨?_,?_,?_,p2,?_⟩
       ·have i1:x1++(fB wid M P cut (k+1) x2).1=F1++T.1:=i1
        rw[em]at i1
        rw[←i1]
        show x1++[(x2,p)]++(fB wid M P cut k p).1=x1++((x2,p)::(fB wid M P cut k p).1)
        simp
       ·have i2:(fB wid M P cut (k+1) x2).2=T.2:=i2
        rw[em]at i2
        exact i2
       ·exact show cut<=k+p from(b6 0x30104001302027201110440017) (by assumption) p1
       ·show(x1++[(x2,p)]).length<=p
        simp
        exact(aQ 0x20110041201027100017) (by assumption) p1
 ·obtain⟨h1,h2,h3,h4,h5⟩:=hs
  obtain⟨hc1,hc2⟩:=h3 cut mem_cons_self
  obtain⟨h6,h7⟩:=pairwise_cons.mp h4
  obtain⟨ha1,ha2⟩:=ue (wid:=wid) (M:=M) h2 hc1 fun c' e=>⟨(h5 c' e).1,(h5 c' e).2 cut mem_cons_self⟩
  refine⟨h1,?_⟩
  obtain⟨T,hT⟩:∃T,T=fB wid M P cut (cut-(eX wid M st cut).2) (eX wid M st cut).2:=⟨_,rfl⟩
  have hn:wl V wid M P st cut=if dc V cut then((eX wid M st cut).1++T.1++[(T.2,cut)],cut,none)else((eX wid M st cut).1++T.1,T.2,some cut):=by rw[hT];rfl
  obtain⟨k1,k2,k3⟩:=sV (wid:=wid) (M:=M) (P:=P) (cut-(eX wid M st cut).2) (eX wid M st cut).2 ha1
  rw[←hT]at k1 k2 k3
  rw[hn]
  clear hn hT
  generalize eX wid M st cut=A1 at ha1 ha2 k1 k2 k3⊢
  cases dc V cut with
  | true=>
   refine⟨?_,fun c hc=>⟨h6 c hc,(h3 c (mem_cons_of_mem _ hc)).2⟩,h7,fun zz h=>no h⟩
   show(A1.1++T.1++[(T.2,cut)]).length<=cut
   simp
   exact(mG 0x10114042041003040417302017100027) k2 ha2 k3
  | false=>
   refine⟨?_,fun c hc=>⟨Nat.lt_trans k2 (h6 c hc),(h3 c (mem_cons_of_mem _ hc)).2⟩,h7,fun c' h=>?_⟩
   ·show(A1.1++T.1).length<=T.2
    simp
    exact(b6 0x30200041301020417100017) ha2 k3
   ·cases h
    exact⟨k2,h6⟩
 ·have e:st=(me V).foldl (wl V wid M P) ([],0,none):=hs.1
  have h:=h ((st.2.1,st.2.2),j.1,j.2)
  unfold jz at h
  rw[←e]at h
  exact h
end
section
variable {m:Nat} {Q:PV->PV->Om} {t:List Cd} {ws:List Int} {hs:List Bool}
theorem Ky (hm:2<=m) (h:Q .none cS):aW TT m 90 [.obj 9 [] [],dat,.none] Q:=by
 refine pin (ρ:=[.obj 9 [] [],dat,.none]) hm rfl rfl fun n hn=>?_
 refine ak rfl [.obj 9 [s "data"] [dat],dat,.none] (fun K h=>h) ?_
 exact J0 hn h
theorem Kz (hm:1<=m) {i j:Int} {l:List Cd} (h:Q .none (.obj 10 [s "begin",s "end",s "codes"] [.int i,.int j,fl Cd.v l])):aW TT m 99 [.obj 10 [] [],.int i,.int j,fl Cd.v l] Q:=
 pin (ρ:=[.obj 10 [] [],.int i,.int j,fl Cd.v l]) hm rfl rfl fun zz zz=>h
noncomputable def Hw (F G:List Int) (a e:Nat):Int:=F.getD (max a (G.getD e 0).toNat) 0-F.getD a 0
theorem mf:∀(ws:List Int) (S:Int),(eJ S ws).length=ws.length+1
 | [],_=>rfl
 | _::ws,_=>congrArg (·+1) (mf ws _)
theorem q8:∀(r:List Nat) (e:Int),(eK hs e r).length=r.length+1
 | [],_=>rfl
 | _::r,_=>congrArg (·+1) (q8 r _)
theorem uf:∀(n k:Nat) (e:Int),0<=e->e<=k->∀i,i<=n->0<=(eK hs e (range' k n)).getD i 0∧(eK hs e (range' k n)).getD i 0<=k+i
 | 0,k,e,h1,h2,i,hi=>by
  obtain rfl:i=0:=by exact(ba 0x1003010017) hi
  exact⟨h1,by exact show e<=(k:Int)+((0:Nat):Int)from(mE 0x1300340040030047) h2⟩
 | n+1,k,e,h1,h2,0,_=>⟨h1,by exact show e<=(k:Int)+((0:Nat):Int)from(mE 0x1300340040030047) h2⟩
 | n+1,k,e,h1,h2,i+1,hi=>by
  have:=uf n (k+1) (if hs.getD k false then e else(k:Int)+1) (by split;exact(pM 0x14000147) h1;exact(ba 0x110034014)) (by split;exact(mE 0x1100430040030047) h2;exact(ba 0x1100431100344)) i (by exact(az 0x10001111041100417) hi)
  have e1:(eK hs e (range' k (n+1))).getD (i+1) 0=(eK hs (if hs.getD k false then e else(k:Int)+1) (range' (k+1) n)).getD i 0:=rfl
  rw[e1]
  exact⟨this.1,by exact(H8 0x111043003400410311004340040001487) this⟩
theorem yP {N:Nat} (hw:ws.length=N):yO 2 (jy (eJ 0 ws) (eK hs 0 (range' 0 N))) (Hw (eJ 0 ws) (eK hs 0 (range' 0 N))) N:=by
 intro m Q a e hm hae heN h
 have hG:=uf (hs:=hs) N 0 0 (Int.le_refl 0) (Int.le_refl 0) e heN
 refine Ku (fu hm) (k:=max a ((eK hs 0 (range' 0 N)).getD e 0).toNat) (aF 0 (by rw[q8,length_range'];exact(az 0x11104002100017) heN)) ?_ (aF 0 (by rw[mf];exact(KH 0x11004003207230301340040001487103017302017100037) hw hae heN hG)) (aF 0 (by rw[mf];exact(b6 0x11004202103017302017100037) hw hae heN)) h
 split
 ·exact(mE 0x300730060000357) (by assumption)
 ·exact(mE 0x300730036000003577) (by assumption)
noncomputable def ug (t:List Cd) (ws:List Int):Nat->Nat->Int:=Hw (eJ 0 ws) (eK (t.map Cd.isB) 0 (range' 0 t.length))
theorem LS (q:String×String):af (wq q)=wq q:=rfl
theorem KA (hm:10<=m) {M:Int} {P:List Nat} {O:List PV} (hok:t8 false t=true) (hl:t.length<800) (hw:ws.length=t.length) (hO:O.map af=P.map iv) (h:Q (fl aG (jz (mT t) (ug t ws) M P)) .LZ):
  aW TT m 93 [.fz cS,fl Cd.v t,fl PV.int ws,.int M,.fz (.lst O)] Q:=by
 refine pin (ρ:=[.fz cS,fl Cd.v t,fl PV.int ws,.int M,.fz (.lst O)]) hm rfl rfl fun n hn=>?_
 exact Kr hn hok hl (Kv (fu hn) hw hl (Kx (fu hn) (yP hw) (mm LS (mT t)) ub hl hO h))
end
section
variable {m:Nat} {Q:PV->PV->Om} {t:List Cd}
noncomputable def b3 (M:Int) (p:List Cl):List (Nat×Nat):=jz (mT (ah p)) (ug (ah p) (aI p)) M (dJ 0 p)
noncomputable def uh (w:Wd) (p:List Cl) (q:Nat×Nat):List Cd:=c9 (sQ (ah p) w) (ah p) (pO ((ah p).map Cd.bc) w) q
noncomputable abbrev Ld:=Nat×Nat×List Cd
noncomputable def dW (M:Int) (w:Wd) (x:Nat×List Cl):List Ld:=(b3 M x.2).map fun q=>(x.1+q.1,x.1+q.2,uh w x.2 q)
noncomputable def cI:Nat->List (List Cl)->List (Nat×List Cl)
 | _,[]=>[]
 | k,p::ps=>(k,p)::cI (k+(ah p).length) ps
theorem EC {k:Nat}:cI k []=[]:=rfl
noncomputable def spP (x:Nat×List Cl):Nat×Nat:=(x.1,x.1+(ah x.2).length)
noncomputable def eY (x:Ld):PV:=.obj 10 [s "begin",s "end",s "codes"] [.int x.1,.int x.2.1,fl Cd.v x.2.2]
structure Cs (M:Int) (p:List Cl):Prop where
 ne:ah p≠[]
 one:iR (ah p)=[(0,(ah p).length)]
 len:(ah p).length<64
 cl:p.length<64
 ws:(aI p).length=(ah p).length
 fit:∀q ∈ b3 M p,q.1<=q.2∧q.2<=(ah p).length
 few:(b3 M p).length<900
noncomputable def gU (t:List Cd) (M:Int) (w:Wd) (r:List PV):Env:=fl Cd.v t::dat::.int M::w.v::.none::r
theorem Hx (R:l8) (hm:11<=m) {M:Int} {w:Wd} {PS:List (List Cl)} (hl:t.length<900) (hp:iR t=(cI 0 PS).map spP) (hsl:∀x ∈ cI 0 PS,slice t (spP x)=ah x.2) (hg:∀x ∈ cI 0 PS,Cs M x.2) (hfew:((cI 0 PS).flatMap (dW M w)).length<900)
  (h:Q (.fz (.lst (((cI 0 PS).flatMap (dW M w)).map eY))) .LZ):aW TT m 100 [fl Cd.v t,dat,.int M,w.v] Q:=by
 refine pin (ρ:=(gU t M w [.LZ,.LZ,.LZ,.LZ,.LZ,.LZ,.LZ,.LZ,.LZ])) hm rfl rfl fun n hn=>?_
 refine ak rfl (gU t M w [cS,.LZ,.LZ,.LZ,.LZ,.LZ,.LZ,.LZ,.LZ]) (fun K h=>Ky (fu hn) h) ?_
 refine ak rfl (gU t M w [cS,.lst [],.LZ,.LZ,.LZ,.LZ,.LZ,.LZ,.LZ]) (fun K h=>h) ?_
 refine fU (fun j:Bool×(PV×PV×PV)×(PV×PV×PV)×PV=>(gU t M w [bif j.1 then .fz cS else cS,.lst (((cI 0 PS).flatMap (dW M w)).map eY),j.2.1.1,j.2.1.2.1,j.2.1.2.2,j.2.2.1.1,j.2.2.1.2.1,j.2.2.1.2.2,j.2.2.2])) rfl (fun K h=>?_) fun zz=>h
 refine c7 (ρ':=(gU t M w [cS,.lst [],.LZ,.LZ,.LZ,.LZ,.LZ,.LZ,.LZ])) rfl (((iR t).map aG).map af) rfl (fun F h=>K7 (fu hn) hl h) ?_
 have hL:((iR t).map aG).map af=(cI 0 PS).map fun x=>aG (spP x):=by
  rw[mm (g:=aG) fun zz=>rfl,hp,map_map]
  rfl
 generalize cI 0 PS=X at hL hsl hg hfew h⊢
 refine iU (τ:=List Ld) (ι:=Bool×(PV×PV×PV)×(PV×PV×PV)×PV) hL (fun r F=>F++r.flatMap (dW M w)=X.flatMap (dW M w)∧∀x ∈ r,x ∈ X) (fun F x=>F++dW M w x)
  (fun F j=>(gU t M w [bif j.1 then .fz cS else cS,.lst (F.map eY),j.2.1.1,j.2.1.2.1,j.2.1.2.2,j.2.2.1.1,j.2.2.1.2.1,j.2.2.1.2.2,j.2.2.2])) [] (false,(.LZ,.LZ,.LZ),(.LZ,.LZ,.LZ),.LZ) ⟨rfl,fun zz h=>h⟩ (fun x r F j K hs h=>?_) (fun x r F hs=>⟨by rw[←hs.1,flatMap_cons,append_assoc],fun y hy=>hs.2 y (mem_cons_of_mem _ hy)⟩) fun F j hs=>?_
 ·have hx:=hs.2 x mem_cons_self
  have hF:(F++dW M w x).length<900:=by
   have e:F++(dW M w x++r.flatMap (dW M w))=X.flatMap (dW M w):=by rw[←flatMap_cons];exact hs.1
   have:=congrArg length e
   simp at this hfew⊢
   exact(b6 0x38432100042384323027302010400437) this hfew
  obtain⟨g1,g2,g3,g4,g5,g6,g7⟩:=hg x hx
  have hsx:=hsl x hx
  obtain⟨k,p⟩:=x
  have hsx:slice t (k,k+(ah p).length)=ah p:=hsx
  have g1:ah p≠[]:=g1
  have g2:iR (ah p)=[(0,(ah p).length)]:=g2
  have g3:(ah p).length<64:=g3
  have g4:p.length<64:=g4
  have g5:(aI p).length=(ah p).length:=g5
  have g6:∀q ∈ b3 M p,q.1<=q.2∧q.2<=(ah p).length:=g6
  have g7:(b3 M p).length<900:=g7
  have hcut:cut ((t.map Cd.v).map af) (some (k:Int)) (some ((k+(ah p).length:Nat):Int))=(ah p).map Cd.v:=(iT Cd.vz).trans (congrArg (List.map Cd.v) hsx)
  refine ae (a:=(gU t M w [bif j.1 then .fz cS else cS,.lst (F.map eY),.int k,.int (k+(ah p).length:Nat),j.2.1.2.2,j.2.2.1.1,j.2.2.1.2.1,j.2.2.1.2.2,j.2.2.2])) rfl ?_
  refine ak rfl (gU t M w [bif j.1 then .fz cS else cS,.lst (F.map eY),.int k,.int (k+(ah p).length:Nat),ll Cd.v (ah p),j.2.2.1.1,j.2.2.1.2.1,j.2.2.1.2.2,j.2.2.2]) (fun K h=>fV hcut (fun L=>K .nxt (gU t M w [bif j.1 then .fz cS else cS,.lst (F.map eY),.int k,.int (k+(ah p).length:Nat),.lst L,j.2.2.1.1,j.2.2.1.2.1,j.2.2.1.2.2,j.2.2.2])) h) ?_
  refine ak rfl (gU t M w [bif j.1 then .fz cS else cS,.lst (F.map eY),.int k,.int (k+(ah p).length:Nat),fl Cd.v (ah p),fl PV.int (aI p),j.2.2.1.2.1,j.2.2.1.2.2,j.2.2.2]) (fun K h=>J4 (fu hn) rfl g1 (by exact(ba 0x3203200240220027) (by assumption)) (by exact(ba 0x1903200240220027) (by assumption)) h) ?_
  refine ak rfl (gU t M w [.fz cS,.lst (F.map eY),.int k,.int (k+(ah p).length:Nat),fl Cd.v (ah p),fl PV.int (aI p),fl aG (b3 M p),j.2.2.1.2.2,j.2.2.2]) (fun K h=>?_) ?_
  ·have go (Q:PV->PV->Om) (h:Q (fl aG (b3 M p)) .LZ):aW TT n 93 [.fz cS,fl Cd.v (ah p),fl PV.int (aI p),.int M,fl iv (ir (ah p))] Q:=by
    rw[j6]
    exact KA hn (mc p false) (by exact(ba 0x3203200240220027) (by assumption)) g5 (mm kB (dJ 0 p)) h
   cases hj:j.1 with
   | false=>exact Cq (EA (fu hn) g1 (by exact(ba 0x3203200240220027) (by assumption)) (go _ h))
   | true=>exact Cq (EA (fu hn) g1 (by exact(ba 0x3203200240220027) (by assumption)) (go _ h))
  obtain⟨mk,hmk⟩:∃mk:Nat×Nat->Ld,mk=fun q=>(k+q.1,k+q.2,uh w p q):=⟨_,rfl⟩
  have hlp:dW M w (k,p)=(b3 M p).map mk:=by rw[hmk];rfl
  refine fU (fun j:PV×PV=>(gU t M w [.fz cS,.lst ((F++dW M w (k,p)).map eY),.int k,.int (k+(ah p).length:Nat),fl Cd.v (ah p),fl PV.int (aI p),fl aG (b3 M p),j.1,j.2])) rfl (fun K h=>?_) fun j=>h (true,(_,_,_),(_,_,_),_)
  have hz:gb (((b3 M p).map aG).map af) (((b3 M p).map fun q=>ll Cd.v (uh w p q)).map af)=(b3 M p).map fun q=>.tup [aG q,fl Cd.v (uh w p q)]:=by
   rw[mm (g:=aG) fun zz=>rfl,map_map]
   generalize b3 M p=l
   induction l with
   | nil=>rfl
   | cons q l ih=>exact congrArg (_::·) ih
  refine c7 rfl (gb (((b3 M p).map aG).map af) (((b3 M p).map fun q=>ll Cd.v (uh w p q)).map af)) rfl (fun F h=>JW R (fu hn) g1 g3 g2 (mm (g:=aG) (fun zz=>rfl) _) g7 g6 h) ?_
  rw[hlp]at h hF
  generalize b3 M p=ls at hz h hF⊢
  refine iU (τ:=List Ld) (ι:=PV×PV) hz (fun r G=>G++r.map mk=F++ls.map mk) (fun G q=>G++[mk q]) (fun G j=>(gU t M w [.fz cS,.lst (G.map eY),.int k,.int (k+(ah p).length:Nat),fl Cd.v (ah p),fl PV.int (aI p),fl aG ls,j.1,j.2])) F (_,_) rfl (fun q r G j K hs h=>?_) (fun q r G hs=>by rw[←hs];simp) fun G j hs=>?_
  ·have hG:G.length+1<=(F++ls.map mk).length:=by rw[←hs];simp
   refine ae (a:=(gU t M w [.fz cS,.lst (G.map eY),.int k,.int (k+(ah p).length:Nat),fl Cd.v (ah p),fl PV.int (aI p),fl aG ls,aG q,fl Cd.v (uh w p q)])) rfl ?_
   refine ak rfl (gU t M w [.fz cS,.lst ((G++[mk q]).map eY),.int k,.int (k+(ah p).length:Nat),fl Cd.v (ah p),fl PV.int (aI p),fl aG ls,aG q,fl Cd.v (uh w p q)]) (fun K h=>Kz (i:=(k:Int)+q.1) (j:=(k:Int)+q.2) (fu hn) ?_) (h (_,_))
   have hobj:eY (mk q)=.obj 10 [s "begin",s "end",s "codes"] [.int ((k:Int)+q.1),.int ((k:Int)+q.2),fl Cd.v (uh w p q)]:=by
    rw[hmk]
    rfl
   refine av (b:=cA (G.map eY++[.obj 10 [s "begin",s "end",s "codes"] [.int ((k:Int)+q.1),.int ((k:Int)+q.2),fl Cd.v (uh w p q)]])) (aU (by simp;exact(az 0x3e832111042001110417384320027) hF hG)) ?_
   exact fV (A:=G.map eY++[.obj 10 [s "begin",s "end",s "codes"] [.int ((k:Int)+q.1),.int ((k:Int)+q.2),fl Cd.v (uh w p q)]]) (B:=(G++[mk q]).map eY) (by rw[←hobj];simp) (fun L=>K .nxt (gU t M w [.fz cS,.lst L,.int k,.int (k+(ah p).length:Nat),fl Cd.v (ah p),fl PV.int (aI p),fl aG ls,aG q,fl Cd.v (uh w p q)])) h
  ·have hs:G=F++ls.map mk:=by have:=hs;simpa using this
   rw[hs]
   exact h j
 ·have e:F=X.flatMap (dW M w):=by have:=hs.1;simpa using this
  rw[e]
  exact h j
end
section
variable {m:Nat} {Q:PV->PV->Om}
section
variable {T:Tab} {Φ:Calls} {r:Ev} {n:Nat} {c:bF} {t e:Expr} {b:List Stmt} {p:Pos} {s:Stmt} {ρ:Env}
theorem KB {K:Fl->Env->Om} (hs:s=.For t e b [] p) (i:Nat) (L:List PV) (h1:ib c e ρ=some ((i,[]),L)) (h2:(hH t&&L.all aL)=true)
  (h:a9 (cq (wJ i c) t) (aV (ex T Φ r n (wJ i c)) b) L (aS ρ i .LZ) fun fl ρ=>match fl,aK ρ i with
   | .nxt,.LZ=>K .nxt (aS ρ i (.lst L))
   | _,_=>eO):ex T Φ r (n+1) c s ρ K:=by
 cases hs
 show fb T r c (ex T Φ r n) t e b ρ K
 unfold fb
 rw[h1]
 exact av h2 h
end
noncomputable def bn (L:List Int) (x:Int):PV:=.dct [s "left",s "mixed"] [ll PV.int L,.int x]
def wo (x:Int):Prop:=0<=x∧x<1000003
theorem ui {x:Int} (h:0<=x∧x<100000000000):small x=true:=by
 cases x with
 | ofNat n=>exact blt_eq.mpr (by have:(n:Int)<100000000000:=h.2;lia)
 | negSucc n=>exact absurd h.1 (by lia)
theorem Ct {x y:Int} (hx:0<=x∧x<100000000000) (hy:0<=y∧y<100000000000):bin .Mult (.int x) (.int y)=some (.int (x*y)):=by
 show(if small x&&small y then some (PV.int (x*y))else none)=_
 rw[ui hx,ui hy]
 rfl
theorem Cu {x y:Int} (hy:0<y):bin .Mod (.int x) (.int y)=some (.int (x % y)):=by
 show(if decide (0<y)then some (PV.int (x % y))else none)=_
 rw[decide_eq_true hy]
 rfl
theorem vW (l:List Int):(l.map PV.int).all aL=true:=by
 induction l with
 | nil=>rfl
 | cons x l ih=>
  rw[map_cons,List.all_cons,ih]
  rfl
theorem Hy (l:List Int):(cut ((l.map PV.int).map af) none (some 40)).map af=(l.take 40).map PV.int:=by
 rw[mm (g:=PV.int) fun zz=>rfl]
 show(((l.map PV.int).take (be 40 (l.map PV.int).length)).drop 0).map af=_
 have:be 40 (l.map PV.int).length=min 40 l.length:=by
  show min 40 (l.map PV.int).length=_
  rw[length_map]
 rw[this,List.drop_zero]
 have e:(l.map PV.int).take (min 40 l.length)=(l.take 40).map PV.int:=by
  rw[map_take]
  by_cases c:40<=l.length
  ·rw[Nat.min_eq_left c]
  ·rw[Nat.min_eq_right (by exact(ba 0x28220010002822177) c),take_of_length_le (by simp),take_of_length_le (by simp;exact(ba 0x28220010002822177) c)]
 rw[e,mm (g:=PV.int) fun zz=>rfl]
theorem Hz (hm:1<=m) {l:List Int} (h:∀L x,wo x->Q (bn L x) .LZ):aW TT m 110 [fl PV.int l] Q:=by
 refine pin (ρ:=[fl PV.int l,.LZ,.LZ,.LZ]) hm rfl rfl fun n hn=>?_
 refine ak rfl [fl PV.int l,.LZ,ll PV.int ((l.take 40).map (· % 1000003)),.int 113] (fun K h=>fZ (Hy l) (fun x=>.int (x % 1000003)) (mp (· % 1000003) PV.int (l.take 40)) (fun j:PV=>[j,fl PV.int l,.LZ,.LZ,.LZ]) .LZ (fun zz x=>.int x) (by simp;exact(ba 0x3e83200282262)) (fun x zz a j K h=>h) fun zz=>h) ?_
 generalize (l.take 40).map (· % 1000003)=L
 refine fU (fun j:{x:Int // wo x}×PV=>[fl PV.int l,j.2,ll PV.int L,.int j.1.1]) rfl (fun K h=>?_) fun j=>h L j.1.1 j.1.2
 refine KB rfl 2 (L.map PV.int) rfl (by rw[vW];rfl) ?_
 refine iU (τ:=Int) (ι:=PV) (l:=L) (g:=PV.int) rfl (fun zz x=>wo x) (fun x c=>(x*31+c+1) % 1000003) (fun x j=>[fl PV.int l,j,.LZ,.int x]) 113 .LZ (by unfold wo;exact(Z.Z [] [] 0xf4243527122571220148 (by kernel_rfl))) (fun c zz x j K hx h=>?_) (fun c zz x hx=>by unfold wo;lia) fun x j hx=>h (⟨x,hx⟩,j)
 refine ae (a:=[fl PV.int l,.int c,.LZ,.int x]) rfl ?_
 exact ak rfl [fl PV.int l,.int c,.LZ,.int ((x*31+c+1) % 1000003)] (fun K h=>ae (o:=bin .Mult (.int x) (.int 31)) (Ct ⟨hx.1,Int.lt_trans hx.2 (by decide)⟩ (by decide)) h) (h _)
theorem HA {S:Stmt->M Fl} {s:Stmt} {rest B:List Stmt} {P:Fl->Env->Om} {ρ:Env} (hB:B=s::rest) (v:PV) (ρ':Env) (h:∀K:Fl->Env->Om,K (.ret v) ρ'->S s ρ K) (q:P (.ret v) ρ'):aV S B ρ P:=by
 cases hB
 exact h _ q
theorem vX (l:List Int):(l.map PV.int).all (plain 7)=true:=by
 induction l with
 | nil=>rfl
 | cons x l ih=>
  rw[map_cons,List.all_cons,ih]
  rfl
theorem q9 (hm:1<=m) {L:List Int} {x k:Int} (hx:wo x) (hk:0<k) (h:∀r L' x',0<=r->r<k->wo x'->Q (.int r) (bn L' x')):aW TT m 111 [bn L x,.int k] Q:=by
 cases hL:L with
 | nil=>
  refine pin (ρ:=[bn [] x,.int k]) hm rfl rfl fun n hn=>?_
  refine ak rfl [bn [] x,.int k] (fun K h=>h) ?_
  have hx':wo ((x*4801+97) % 1000003):=by unfold wo;lia
  refine ak rfl [bn [] ((x*4801+97) % 1000003),.int k] (fun K h=>ae (o:=bin .Mult (.int x) (.int 4801)) (Ct ⟨hx.1,Int.lt_trans hx.2 (by decide)⟩ (by decide)) h) ?_
  have h:=h ((x*4801+97) % 1000003 / 7 % k) [] _ (Int.emod_nonneg _ (by exact(pM 0x10067000157) hk)) (Int.emod_lt_of_pos _ hk) hx'
  exact ae (o:=bin .Mod (.int ((x*4801+97) % 1000003 / 7)) (.int k)) (Cu hk) h
 | cons y L=>
  have h:=h (y % k) L x (Int.emod_nonneg _ (by exact(pM 0x10067000157) hk)) (Int.emod_lt_of_pos _ hk) hx
  refine pin (ρ:=[bn (y::L) x,.int k]) hm rfl rfl fun n hn=>?_
  refine HA rfl (.int (y % k)) [bn L x,.int k] (fun K h=>?_) h
  refine wh rfl [bn (y::L) x,.int k] (fun F hF=>av (b:=((y::L).map PV.int).all (plain 7)) (vX _) hF) ?_
  exact ae (o:=bin .Mod (.int y) (.int k)) (Cu hk) h
end
section
variable {m:Nat} {Q:PV->PV->Om}
noncomputable def Bs.c:Bs->Cd
 | .a=>.a
 | .b=>.b
 | .ra=>.ra
 | .rb=>.rb
 | .w=>.w
 | .sp=>.sp
 | .lf=>.lf
noncomputable def Bs.size:Bs->Int
 | .w=>2
 | .lf=>0
 | _=>1
noncomputable def Bs.v (b:Bs):PV:=.tup [b.c.v,b.c.bc.v,.str b.c.lb,.int b.size,.str b.c.gc,.str b.c.gcb]
noncomputable def Cl.bs:Cl->Bs
 | .a=>.a
 | .b=>.b
 | .ra=>.ra
 | .rb=>.rb
 | .w=>.w
 | .sp=>.sp
 | .lf=>.lf
 | .am=>.a
 | .bm=>.b
 | .ram=>.ra
 | .rbm=>.rb
 | .wm=>.w
noncomputable def aD (c:Cl):PV:=.tup [c.bs.v,fl Cd.v c.codes]
noncomputable def Bs.cl:Bs->Bool->Cl
 | .a,false=>.a
 | .b,false=>.b
 | .ra,false=>.ra
 | .rb,false=>.rb
 | .w,false=>.w
 | .a,true=>.am
 | .b,true=>.bm
 | .ra,true=>.ram
 | .rb,true=>.rbm
 | .w,true=>.wm
 | .sp,_=>.sp
 | .lf,_=>.lf
noncomputable def z3:Bool->Int
 | false=>0
 | true=>1
noncomputable def KC:Bool->List PV
 | false=>[]
 | true=>[Cd.m.v]
theorem ED {r:Int} {z:Bool} (e:r / 3=z3 z):bin .Mult (.lst [.int 769]) (.int (r / 3))=some (.lst (KC z)):=by
 rw[e]
 rcases z with _|_<;>rfl
noncomputable abbrev Dk:={x:Int // wo x}
theorem Cv {τ α:Type} (I:List α->τ->Prop) (E:τ->Env) {g:α->PV} {bind:PV->Env->Option Env} {body:M Fl} {P:Fl->Env->Om}
  (hb:∀x r t (K:Fl->Env->Om),I (x::r) t->(∀t',I r t'->K .nxt (E t'))->aP (bind (g x) (E t)) fun ρ=>body ρ K) (hP:∀t,I [] t->P .nxt (E t)):
  ∀(l:List α) (t:τ),I l t->a9 bind body (l.map g) (E t) P
 | [],t,h=>hP t h
 | x::r,t,h=>hb x r t _ h fun t' h'=>Cv I E hb hP r t' h'
theorem HD {τ α:Type} {L:List PV} {l:List α} {g:α->PV} (hL:L=l.map g) (I:List α->τ->Prop) (E:τ->Env) (t:τ) {bind:PV->Env->Option Env} {body:M Fl} {P:Fl->Env->Om}
  (h:I l t) (hb:∀x r t (K:Fl->Env->Om),I (x::r) t->(∀t',I r t'->K .nxt (E t'))->aP (bind (g x) (E t)) fun ρ=>body ρ K) (hP:∀t,I [] t->P .nxt (E t)):a9 bind body L (E t) P:=by
 cases hL
 exact Cv I E hb hP l t h
noncomputable abbrev HE:=List Cl×(List Int×Dk)×PV×PV×PV
theorem HF (hm:2<=m) {L:List Int} {x:Int} {k:Nat} (hx:wo x) (hk:k<100) (h:∀(cs:List Cl) (L':List Int) (x':Int),cs.length=k->wo x'->Q (.fz (.lst (cs.map aD))) (bn L' x')):aW TT m 113 [bn L x,.int k] Q:=by
 refine pin (ρ:=[bn L x,.int k,.LZ,.LZ,.LZ,.LZ]) hm rfl rfl fun n hn=>?_
 refine ak rfl [bn L x,.int k,.lst [],.LZ,.LZ,.LZ] (fun K h=>h) ?_
 refine fU (fun j:{j:HE // j.1.length=k}=>[bn j.1.2.1.1 j.1.2.1.2.1,.int k,.lst (j.1.1.map aD),j.1.2.2.1,j.1.2.2.2.1,j.1.2.2.2.2]) rfl (fun K h=>?_) fun j=>h j.1.1 _ _ j.2 j.1.2.1.2.2
 refine c7 (ρ':=[bn L x,.int k,.lst [],.LZ,.LZ,.LZ]) rfl (aZ 0 1 k) rfl (fun F h=>ae (o:=cv [.int k]) (lY (by exact(ba 0x7d03200264220027) hk)) h) ?_
 refine HD (τ:=HE) (qV k) (fun r j=>j.1.length+r.length=k) (fun j=>[bn j.2.1.1 j.2.1.2.1,.int k,.lst (j.1.map aD),j.2.2.1,j.2.2.2.1,j.2.2.2.2]) ([],(L,⟨x,hx⟩),.LZ,.LZ,.LZ) (by simp) (fun i r j K hs h=>?_) fun j hs=>h ⟨j,hs⟩
 obtain⟨cs,⟨L,⟨x,hx⟩⟩,j1,j2,j3⟩:=j
 have hs:cs.length+(r.length+1)=k:=hs
 refine ae (a:=[bn L x,.int k,.lst (cs.map aD),iv i,j2,j3]) rfl ?_
 refine fU (fun q:(List Int×Dk)×Bs=>[bn q.1.1 q.1.2.1,.int k,.lst (cs.map aD),iv i,q.2.v,j3]) rfl (fun K h=>?_) fun q=>?_
 ·refine q9 hn hx (by decide) fun r L' x' h0 h1 hx'=>?_
  have h:=fun b=>h ((L',⟨x',hx'⟩),b)
  have hr:r=0∨r=1∨r=2∨r=3∨r=4∨r=5∨r=6∨r=7∨r=8∨r=9:=by exact(pM 0x91006810069710069610069510069410069310069210069110069010069a10057000147) h0 h1
  rcases hr with e|e|e|e|e|e|e|e|e|e<;>cases e
  ·exact h .a
  ·exact h .b
  ·exact h .ra
  ·exact h .rb
  ·exact h .w
  ·exact h .sp
  ·exact h .sp
  ·exact h .lf
  ·exact h .a
  ·exact h .ra
 obtain⟨⟨L,⟨x,hx⟩⟩,b⟩:=q
 refine ak rfl [bn L x,.int k,.lst (cs.map aD),iv i,b.v,.lst [b.c.v]] (fun K h=>by rcases b with _|_<;>exact h) ?_
 refine fU (fun q:(List Int×Dk)×Bool=>[bn q.1.1 q.1.2.1,.int k,.lst (cs.map aD),iv i,b.v,ll Cd.v (b.cl q.2).codes]) rfl (fun K h=>?_) fun q=>?_
 ·have draw (Q:PV->PV->Om) (h:∀(r:Int) (z:Bool) (L':List Int) (x':Dk),r / 3=z3 z->Q (.int r) (bn L' x'.1)):aW TT n 111 [bn L x,.int 5] Q:=by
   refine q9 hn hx (by decide) fun r L' x' h0 h1 hx'=>?_
   by_cases c:r<3
   ·exact h r false L' ⟨x',hx'⟩ (by show r / 3=0;lia)
   ·exact h r true L' ⟨x',hx'⟩ (by show r / 3=1;lia)
  cases b
  case sp=>exact h ((L,⟨x,hx⟩),false)
  case lf=>exact h ((L,⟨x,hx⟩),false)
  all_goals exact draw _ fun r z L' x' e=>ae (o:=bin .Mult (.lst [.int 769]) (.int (r / 3))) (ED e) (by cases hz:z;exact h ((L',x'),false);exact h ((L',x'),true))
 ·obtain⟨⟨L,⟨x,hx⟩⟩,z⟩:=q
  have hv:PV.tup [b.v,fl Cd.v (b.cl z).codes]=aD (b.cl z):=by
   unfold aD
   rw[show(b.cl z).bs=b by rcases b with _|_<;>rcases z with _|_<;>rfl]
  refine ak rfl [bn L x,.int k,.lst ((cs++[b.cl z]).map aD),iv i,b.v,fl Cd.v (b.cl z).codes] (fun K h=>?_) ?_
  ·exact av (b:=cA (cs.map aD++[PV.tup [b.v,fl Cd.v (b.cl z).codes]])) (aU (by simp;exact(aQ 0x3e83211104200112041043764220027) hk hs)) (fV (A:=cs.map aD++[PV.tup [b.v,fl Cd.v (b.cl z).codes]]) (B:=(cs++[b.cl z]).map aD) (by rw[hv];simp) (fun L'=>K .nxt [bn L x,.int k,.lst L',iv i,b.v,fl Cd.v (b.cl z).codes]) h)
  ·exact h (cs++[b.cl z],(L,⟨x,hx⟩),_,_,_) (by show(cs++[b.cl z]).length+r.length=k;simp;exact(aQ 0x20101100443201110400437) hs)
end
section
variable {m:Nat} {Q:PV->PV->Om} {cs:List Cl}
noncomputable def aN:List Cl->List Cl->List (List Cl)
 | [],[]=>[]
 | a::h,[]=>[a::h]
 | h,c::r=>if c.isLf then(h++[c])::aN [] r else aN (h++[c]) r
theorem rM (c:Cl):af (aD c)=aD c:=rfl
theorem EE (c:Cl):aM c.bs.c.bc.s (s "B")=c.isLf:=by rcases c with _|_<;>rfl
theorem yQ (l:List Cl):(l.map aD).all (plain 7)=true:=by
 induction l with
 | nil=>rfl
 | cons c l ih=>
  rw[map_cons,List.all_cons,ih]
  rcases c with _|_<;>rfl
theorem HG (hm:1<=m) (hl:cs.length<400) (h:Q (.lst ((aN [] cs).map (fl aD))) .LZ):aW TT m 114 [fl aD cs] Q:=by
 refine pin (ρ:=[fl aD cs,.LZ,.LZ,.LZ]) hm rfl rfl fun n hn=>?_
 refine ak rfl [fl aD cs,.lst [],.lst [],.LZ] (fun K h=>h) ?_
 refine fU (fun j:{j:List (List Cl)×List Cl // j.1++aN j.2 []=aN [] cs∧j.1.length+j.2.length<=900}×PV=>[fl aD cs,.lst (j.1.1.1.map (fl aD)),ll aD j.1.1.2,j.2]) rfl (fun K h=>?_) fun⟨⟨⟨F,hr⟩,h1,h2⟩,j⟩=>?_
 ·refine c7 rfl ((cs.map aD).map af) rfl (fun F h=>h) ?_
  refine iU (τ:=List (List Cl)×List Cl) (ι:=PV) (mm rM cs) (fun r j=>j.1++aN j.2 r=aN [] cs∧j.1.length+j.2.length+r.length<=900) (fun j c=>if c.isLf then(j.1++[j.2++[c]],[])else(j.1,j.2++[c])) (fun j o=>[fl aD cs,.lst (j.1.map (fl aD)),ll aD j.2,o]) ([],[]) .LZ ⟨rfl,by simp;exact(ba 0x38432001190320027) hl⟩ (fun c r j o K hs h=>?_) (fun c r j hs=>?_) fun j o hs=>h (⟨j,hs.1,by simpa using hs.2⟩,o)
  ·obtain⟨F,hr⟩:=j
   obtain⟨zz,h2⟩:=hs
   have h2:F.length+hr.length+(r.length+1)<=900:=h2
   refine ae (a:=[fl aD cs,.lst (F.map (fl aD)),ll aD hr,aD c]) rfl ?_
   refine ak rfl [fl aD cs,.lst (F.map (fl aD)),ll aD (hr++[c]),aD c] (fun K h=>lX (v:=aD) (F:=hr) (x:=c) (by exact(aQ 0x3e732102384322010004417) (by assumption)) (fun L=>K .nxt [fl aD cs,.lst (F.map (fl aD)),.lst L,aD c]) h) ?_
   have h:=h (aD c)
   have hb:=EE c
   cases e:c.isLf with
   | true=>
    rw[e]at hb
    rw[if_pos e]at h
    refine ak rfl [fl aD cs,.lst ((F++[hr++[c]]).map (fl aD)),.lst [],aD c] (fun K h=>wh rfl [fl aD cs,.lst (F.map (fl aD)),ll aD (hr++[c]),aD c] (fun A hA=>(congrArg (fun b=>A b [fl aD cs,.lst (F.map (fl aD)),ll aD (hr++[c]),aD c]) hb).mpr hA) ?_) h
    refine ak rfl [fl aD cs,.lst ((F++[hr++[c]]).map (fl aD)),fl aD (hr++[c]),aD c] (fun K h=>lX (v:=(fl aD)) (F:=F) (x:=hr++[c]) (by exact(aQ 0x3e732002384322010004417) (by assumption)) (fun L=>K .nxt [fl aD cs,.lst L,fl aD (hr++[c]),aD c]) h) ?_
    exact ak rfl [fl aD cs,.lst ((F++[hr++[c]]).map (fl aD)),.lst [],aD c] (fun K h=>h) h
   | false=>
    rw[e]at hb
    rw[if_neg (by rw[e];decide)]at h
    exact ak rfl [fl aD cs,.lst (F.map (fl aD)),ll aD (hr++[c]),aD c] (fun K h=>zu rfl [fl aD cs,.lst (F.map (fl aD)),ll aD (hr++[c]),aD c] (fun A hA=>(congrArg (fun b=>A b [fl aD cs,.lst (F.map (fl aD)),ll aD (hr++[c]),aD c]) hb).mpr hA) h) h
  ·obtain⟨F,hr⟩:=j
   obtain⟨h1,h2⟩:=hs
   have h2:F.length+hr.length+(r.length+1)<=900:=h2
   have h1:F++(if c.isLf then(hr++[c])::aN [] r else aN (hr++[c]) r)=aN [] cs:=by
    rw[←h1]
    cases hr<;>rfl
   cases e:c.isLf with
   | true=>
    rw[if_pos e]at h1
    rw[if_pos rfl]
    exact⟨by rw[←h1];simp,by simp;exact(aQ 0x38432201100441384321120410004417) h2⟩
   | false=>
    rw[if_neg (by rw[e];decide)]at h1
    rw[if_neg (by decide)]
    exact⟨h1,by simp;exact(aQ 0x38432201110400441384321120410004417) h2⟩
 ·have hz:∀F:List (List Cl),(F.map (fl aD)).map af=F.map (fl aD):=fun F=>mm (g:=fl aD) (fun zz=>rfl) F
  have h1:F++aN hr []=aN [] cs:=h1
  have h2:F.length+hr.length<=900:=h2
  rw[←h1]at h
  show aV _ _ [fl aD cs,.lst (F.map (fl aD)),ll aD hr,j] _
  clear h1
  cases e:hr with
  | nil=>
   rw[e]at h
   refine av (b:=cA ((F.map (fl aD)).map af++[])) (aU (by simp;exact(az 0x3e832002384321000417) (by assumption))) ?_
   exact fV (A:=(F.map (fl aD)).map af++[]) (B:=(F++[]).map (fl aD)) (by rw[hz];simp) (fun L=>Q (.lst L) .LZ) h
  | cons a hr'=>
   rw[e]at h
   refine av (b:=((a::hr').map aD).all (plain 7)) (yQ _) ?_
   refine av (b:=cA ((F.map (fl aD)).map af++[fl aD (a::hr')])) (aU (by simp;exact(az 0x3e832110042384321000417) (by assumption))) ?_
   exact fV (A:=(F.map (fl aD)).map af++[fl aD (a::hr')]) (B:=(F++[a::hr']).map (fl aD)) (by rw[hz];simp) (fun L=>Q (.lst L) .LZ) h
end
section
variable {m:Nat} {Q:PV->PV->Om} {p:List Cl}
noncomputable def Cl.k (c:Cl):Kd:=c.bs.c.bc
noncomputable def re:Kd->Bool
 | .L=>true
 | .R=>true
 | _=>false
noncomputable def kR:Kd->Bool
 | .R=>true
 | _=>false
noncomputable def f6 (p:List Cl):List Kd:=(p.filter fun c=>re c.k).map Cl.k
noncomputable def pD (p:List Cl):Wd->Bool
 | .ltr=>false
 | .rtl=>true
 | .auto=>match f6 p with
  | []=>false
  | k::_=>kR k
theorem HI {α:Type} {g:α->PV} (hg:∀x,af (g x)=g x) (l:List α) (i:Nat):cut ((l.map g).map af) none (some i)=(l.take i).map g:=by
 rw[mm hg]
 show((l.map g).take (be i (l.map g).length)).drop 0=_
 have:be i (l.map g).length=min i l.length:=by
  unfold be
  rw[if_neg (by simp),length_map]
  rfl
 rw[this,List.drop_zero,map_take]
 by_cases c:i<=l.length
 ·rw[Nat.min_eq_left c]
 ·rw[Nat.min_eq_right (by exact(az 0x10101000177) c),take_of_length_le (by simp),take_of_length_le (by simp;exact(az 0x10101000177) c)]
theorem HJ (hm:1<=m) {w:Wd} (hl:p.length<400) (h:Q (.int (bi (pD p w))) .LZ):aW TT m 115 [fl aD p,w.v] Q:=by
 refine pin (ρ:=[fl aD p,w.v,.LZ]) hm rfl rfl fun n hn=>?_
 have hR:(p.filter fun c=>re c.k).map (fun c=>c.k.v)=(f6 p).map Kd.v:=(mp Cl.k Kd.v _)
 refine ak rfl [fl aD p,w.v,ll Kd.v (f6 p)] (fun K h=>?_) ?_
 ·refine Bx (mm rM p) (fun c=>re c.k) (fun c=>c.k.v) hR (fun j:PV×PV=>[j.1,j.2,fl aD p,w.v,.LZ]) (.LZ,.LZ) (fun zz c=>(c.bs.v,fl Cd.v c.codes)) (by exact(ba 0x3e832002190320027) hl) (fun c a j K h1 h2=>?_) fun zz=>?_
  ·rcases c with _|_<;>first|exact h1 rfl|exact h2 rfl
  ·exact h
 ·unfold pD at h
  cases w
  case ltr=>exact h
  case rtl=>exact h
  case auto=>
   cases hs:f6 p with
   | nil=>
    rw[hs]at h
    exact h
   | cons k r=>
    rw[hs]at h
    rcases k with _|_<;>exact h
noncomputable def Cl.u (c:Cl):Uw:=match c.bs with
 | .w=>.ID
 | .sp=>.SP
 | .lf=>.LF
 | _=>.AL
theorem yR (c:Cl):c.bs.c.lb=c.u.s:=by rcases c with _|_<;>rfl
noncomputable def HK (a b:Uw):Bool:=match b with
 | .SP=>false
 | .LF=>false
 | .ID=>true
 | .AL=>match a with
  | .SP=>true
  | .ID=>true
  | _=>false
noncomputable def cl (p:List Cl) (k:Nat):Cl:=p.getD k .a
noncomputable def cT (p:List Cl) (k:Nat):Bool:=if k=p.length then true else HK (cl p (k-1)).u (cl p k).u
theorem HL (hm:1<=m) {k:Nat} (h1:1<=k) (h2:k<=p.length) (h:Q (.bool (cT p k)) .LZ):aW TT m 119 [fl aD p,.int k] Q:=by
 refine pin (ρ:=[fl aD p,.int k,.LZ,.LZ]) hm rfl rfl fun n hn=>?_
 have hlen:((p.map aD).map af).length=p.length:=sO p
 unfold cT at h
 by_cases c:k=p.length
 ·rw[if_pos c]at h
  have hb:((k:Int)==(((p.map aD).map af).length:Int))=true:=by rw[hlen,c];simp
  exact HA rfl (.bool true) [fl aD p,.int k,.LZ,.LZ] (fun K h=>wh rfl [fl aD p,.int k,.LZ,.LZ] (fun A hA=>(congrArg (fun b=>A b [fl aD p,.int k,.LZ,.LZ]) hb).mpr hA) h) h
 ·rw[if_neg c]at h
  have hb:((k:Int)==(((p.map aD).map af).length:Int))=false:=by rw[hlen];simp;exact(az 0x1030036701000377) c
  refine ak rfl [fl aD p,.int k,.LZ,.LZ] (fun K h=>zu rfl [fl aD p,.int k,.LZ,.LZ] (fun A hA=>(congrArg (fun b=>A b [fl aD p,.int k,.LZ,.LZ]) hb).mpr hA) h) ?_
  have i1:=bj rM (l:=p) (i:=(k:Int)-1) (k:=k-1) (by exact(ba 0x1100531100356001117) h1) (aF Cl.a (by exact(az 0x1011005201000377100017) h2 c))
  have i2:=bj rM (l:=p) (i:=(k:Int)) (k:=k) rfl (aF Cl.a (by exact(az 0x1000201000377100017) h2 c))
  refine ak rfl [fl aD p,.int k,.str (cl p (k-1)).u.s,.str (cl p k).u.s] (fun K h=>ae (o:=aw (fl aD p) (.int ((k:Int)-1))) i1 (ae (o:=aw (fl aD p) (.int k)) i2 ?_)) ?_
  ·rw[←yR,←yR]at h
   exact h
  ·generalize (cl p (k-1)).u=a at h⊢
   generalize (cl p k).u=b at h⊢
   rcases a with _|_<;>rcases b with _|_<;>exact h
end
section
variable {m:Nat} {Q:PV->PV->Om} {p:List Cl}
noncomputable def cg:Uw->Bool
 | .SP=>true
 | .LF=>true
 | _=>false
noncomputable def cF (p:List Cl) (b:Nat):Nat->Nat
 | 0=>0
 | e+1=>if b<e+1∧cg (cl p e).u=true then cF p b e else e+1
theorem gB {p:List Cl} {b e:Nat}:cF p b (e+1)=if b<e+1∧cg (cl p e).u=true then cF p b e else e+1:=rfl
noncomputable def cJ (p:List Cl) (b e:Nat):Int:=(((p.take (cF p b e)).drop b).map fun c=>c.bs.size).sum
theorem gO (p:List Cl) (b:Nat):∀e,cF p b e<=e
 | 0=>Nat.le_refl _
 | e+1=>by
  rw[gB]
  split
  ·exact Nat.le_succ_of_le (gO p b e)
  ·exact Nat.le_refl _
theorem yS (u:Uw):uL (.str u.s) [st "SP",st "LF"]=cg u:=by rcases u with _|_<;>rfl
theorem uj:∀l:List Int,eh (l.map PV.int)=some l
 | []=>rfl
 | x::l=>by
  show(eh (l.map PV.int)).map _=_
  rw[uj l]
  rfl
theorem yT (l:List Int):builtin .sum [.lst (l.map PV.int)]=some (.int l.sum):=by
 show(eh ((l.map PV.int).map af)).map (fun x=>PV.int x.sum)=_
 rw[mm (g:=PV.int) fun zz=>rfl,uj]
 rfl
theorem Cw (hm:1<=m) {b e:Nat} (he:e<=p.length) (hl:p.length<400) (h:Q (.int (cJ p b e)) .LZ):aW TT m 120 [fl aD p,.int b,.int e] Q:=by
 refine pin (ρ:=[fl aD p,.int b,.int e]) hm rfl rfl fun n hn=>?_
 refine BC rfl (fun x:Nat=>[fl aD p,.int b,.int x]) (fun k x=>k=x∧x<=p.length∧cF p b x=cF p b e) (fun x=>x=cF p b e) e e (by exact(az 0x271042002190321027100017) he hl) ⟨rfl,he,rfl⟩ (fun x hx=>?_) (fun k x W R hI hW hR=>?_)
 ·have hx:x=cF p b e:=hx
  have hxl:x<=p.length:=by have:=gO p b e;exact(b6 0x10201003017302037100017) he (by assumption) this
  have hs:(((p.take x).drop b).map fun c=>PV.int c.bs.size)=(((p.take x).drop b).map fun c=>c.bs.size).map PV.int:=mp (fun c:Cl=>c.bs.size) PV.int _
  have hL:(cut ((p.map aD).map af) (some b) (some x)).map af=((p.take x).drop b).map aD:=by rw[iT rM,mm rM]
  unfold cJ at h
  rw[←hx]at h
  refine fZ hL (fun c=>PV.int c.bs.size) hs (fun j:PV×PV=>[j.1,j.2,fl aD p,.int b,.int x]) (.LZ,.LZ) (fun zz c=>(c.bs.v,fl Cd.v c.codes)) (by simp;exact(aQ 0x3e832200010652190320027) hl) (fun c zz a j K h=>?_) fun zz=>?_
  ·exact h
  ·refine ae (o:=builtin .sum [.lst ((((p.take x).drop b).map fun c=>c.bs.size).map PV.int)]) (yT _) ?_
   exact h
 ·obtain⟨e1,e2,e3⟩:=hI
  cases x with
  | zero=>
   refine hR 0 ?_
   show 0=cF p b e
   rw[←e3]
   rfl
  | succ x=>
   by_cases c1:b<x+1
   ·refine bE (b:=decide ((b:Int)<(x+1:Nat))) (decide_eq_true (by exact(az 0x1110430035111040027) c1)) ?_
    refine ae (o:=aw (fl aD p) (.int (((x+1:Nat):Int)-1))) (bj rM (k:=x) (by exact(ba 0x31111004356)) (aF Cl.a (by exact(az 0x10002101100417) e2))) ?_
    have hb:uL (.str (cl p x).bs.c.lb) [st "SP",st "LF"]=cg (cl p x).u:=by rw[yR];exact yS _
    cases q:cg (cl p x).u with
    | true=>
     refine bE (b:=uL (.str (cl p x).bs.c.lb) [st "SP",st "LF"]) (hb.trans q) ?_
     refine ak rfl [fl aD p,.int b,.int x] (fun K h=>?_) (hW x x (by exact(az 0x102111040037) e1) ⟨rfl,by exact(az 0x10001101100417) e2,?_⟩)
     ·have e:((x+1:Nat):Int)-1=x:=by exact(ba 0x31111004356)
      exact(congrArg (fun y:Int=>K .nxt [fl aD p,.int b,.int y]) e).mpr h
     ·rw[←e3]
      conv=>rhs;rw[gB]
      rw[if_pos ⟨c1,q⟩]
    | false=>
     refine bC (b:=uL (.str (cl p x).bs.c.lb) [st "SP",st "LF"]) (hb.trans q) (hR (x+1) ?_)
     show x+1=cF p b e
     rw[←e3]
     conv=>rhs;rw[gB]
     rw[if_neg fun h=>by rw[q]at h;exact nomatch h.2]
   ·refine bC (b:=decide ((b:Int)<(x+1:Nat))) (decide_eq_false (by exact(az 0x1110430035701110400277) c1)) (hR (x+1) ?_)
    show x+1=cF p b e
    rw[←e3]
    conv=>rhs;rw[gB]
    rw[if_neg fun h=>c1 h.1]
end
section
variable {m:Nat} {Q:PV->PV->Om} {p:List Cl}
theorem HM (k:Kd):af k.v=k.v:=rfl
noncomputable def cU (p:List Cl) (b:Bool) (i:Nat):Kd:=(f6 (p.take (i+1))).getLast?.getD (ds b).k
noncomputable def jA (p:List Cl) (b:Bool) (i:Nat):Kd:=(f6 (p.drop i)).head?.getD (ds b).k
noncomputable def eD (p:List Cl) (b:Bool) (i:Nat):Kd:=if aM (cU p b i).s (jA p b i).s then cU p b i else(ds b).k
theorem yU {l:List Kd}:cut ((l.map Kd.v).map af) (some (-1)) none=(l.drop (l.length-1)).map Kd.v:=by
 rw[mm HM]
 show((l.map Kd.v).take (l.map Kd.v).length).drop (be (-1) (l.map Kd.v).length)=_
 have:be (-1) (l.map Kd.v).length=l.length-1:=by
  unfold be
  rw[if_pos (by decide),length_map]
  exact(ba 0x1100500301119433)
 rw[this,take_length,map_drop]
theorem yV {l:List Cl} {i:Nat} {j:Int} (hj:j=i):cut ((l.map aD).map af) none (some j)=(l.take i).map aD:=by
 rw[hj]
 exact HI rM l i
theorem yW {l:List Cl} {i:Nat} (h:i<=l.length):cut ((l.map aD).map af) (some i) none=(l.drop i).map aD:=by
 rw[mm rM]
 show((l.map aD).take (l.map aD).length).drop (be i (l.map aD).length)=_
 have:be i (l.map aD).length=i:=by
  unfold be
  rw[if_neg (by simp),length_map]
  exact show min i l.length=i from(az 0x100063100017) h
 rw[this,take_length,map_drop]
theorem BE (l:List Kd) (o:Kd):aw (.lst (((l.drop (l.length-1)).map Kd.v).map af++[o.v])) (.int 0)=some (l.getLast?.getD o).v:=by
 rw[mm HM]
 rcases kD l with rfl|⟨q,x,rfl⟩
 ·rfl
 ·have:(q++[x]).drop ((q++[x]).length-1)=[x]:=by simp
  rw[this,getLast?_concat]
  rfl
theorem EF (l:List Kd) (o:Kd):aw (.lst (((l.take 1).map Kd.v).map af++[o.v])) (.int 0)=some (l.head?.getD o).v:=by
 rw[mm HM]
 cases l with
 | nil=>rfl
 | cons x l=>rfl
noncomputable def LT (c:Cl):Bool:=re c.k
theorem yX (l:List Cl):(l.filter fun c=>re c.k).map (fun c=>c.k.v)=(f6 l).map Kd.v:=mp Cl.k Kd.v _
noncomputable def ka (p:List Cl) (b:Bool) (r:List PV):Env:=fl aD p::.int (bi b)::(ds b).k.v::r
theorem HO (hm:1<=m) {b:Bool} (hl:p.length<400) (h:Q (fl Kd.v ((range' 0 p.length).map (eD p b))) .LZ):aW TT m 116 [fl aD p,.int (bi b)] Q:=by
 refine pin (ρ:=[fl aD p,.int (bi b),.LZ,.LZ,.LZ,.LZ,.LZ,.LZ,.LZ,.LZ]) hm rfl rfl fun n hn=>?_
 refine ak rfl (ka p b [.lst [],.LZ,.LZ,.LZ,.LZ,.LZ,.LZ]) (fun K h=>by cases hb:b<;>(rw[hb]at h;exact h)) ?_
 refine fU (fun j:(PV×PV)×(PV×PV)×PV×PV=>(ka p b [ll Kd.v ((range' 0 p.length).map (eD p b)),j.1.1,j.1.2,j.2.1.1,j.2.1.2,j.2.2.1,j.2.2.2])) rfl (fun K h=>?_) fun zz=>h
 refine c7 rfl (dT 0 ((p.map aD).map af)) rfl (fun F h=>h) ?_
 refine iU (τ:=List Kd) (ι:=(PV×PV)×(PV×PV)×PV×PV) (em rM p 0) (fun r s=>s++(r.map (·.2)).map (eD p b)=(range' 0 p.length).map (eD p b)∧s.length+r.length<400∧∀q ∈ r,q.2<p.length) (fun s q=>s++[eD p b q.2]) (fun s j=>(ka p b [ll Kd.v s,j.1.1,j.1.2,j.2.1.1,j.2.1.2,j.2.2.1,j.2.2.2])) [] ((.LZ,.LZ),(.LZ,.LZ),.LZ,.LZ) ⟨by simp[List.zipIdx_map_snd],by simpa using hl,fun q hq=>snd_lt_of_mem_zipIdx hq⟩ (fun q r s j K hs h=>?_) (fun q r s hs=>?_) fun s j hs=>?_
 ·obtain⟨zz,h2,h3⟩:=hs
  rw[length_cons]at h2
  have hi:=h3 q mem_cons_self
  obtain⟨c,i⟩:=q
  have hi:i<p.length:=hi
  refine ae (a:=(ka p b [ll Kd.v s,.int i,aD c,j.2.1.1,j.2.1.2,j.2.2.1,j.2.2.2])) rfl ?_
  obtain⟨A,hA⟩:∃A,A=f6 (p.take (i+1)):=⟨_,rfl⟩
  obtain⟨B,hB⟩:∃B,B=f6 (p.drop i):=⟨_,rfl⟩
  have l1:(cut ((p.map aD).map af) none (some ((i:Int)+1))).map af=(p.take (i+1)).map aD:=by rw[yV (i:=i+1) (by exact(ba 0x1100431100346)),mm rM]
  have l2:(cut ((p.map aD).map af) (some (i:Int)) none).map af=(p.drop i).map aD:=by rw[yW (by exact(az 0x10001100027) (by assumption)),mm rM]
  refine ak rfl (ka p b [ll Kd.v s,.int i,aD c,ll Kd.v (A.drop (A.length-1)),j.2.1.2,j.2.2.1,j.2.2.2]) (fun K h=>?_) ?_
  ·refine Bx l1 (fun c=>re c.k) (fun c=>c.k.v) ((yX _).trans (by rw[←hA])) (fun o:PV×PV=>[o.1,o.2,fl aD p,.int (bi b),(ds b).k.v,ll Kd.v s,.int i,aD c,j.2.1.1,j.2.1.2,j.2.2.1,j.2.2.2]) (.LZ,.LZ) (fun zz c=>(c.bs.v,fl Cd.v c.codes)) (by simp;exact(az 0x3e832001110462190320027) hl) (fun c a j K h1 h2=>?_) fun zz=>?_
   ·rcases c with _|_<;>first|exact h1 rfl|exact h2 rfl
   ·exact fV (A:=cut ((A.map Kd.v).map af) (some (-1)) none) yU (fun L=>K .nxt (ka p b [ll Kd.v s,.int i,aD c,.lst L,j.2.1.2,j.2.2.1,j.2.2.2])) h
  refine ak rfl (ka p b [ll Kd.v s,.int i,aD c,ll Kd.v (A.drop (A.length-1)),ll Kd.v (B.take 1),j.2.2.1,j.2.2.2]) (fun K h=>?_) ?_
  ·refine Bx l2 (fun c=>re c.k) (fun c=>c.k.v) ((yX _).trans (by rw[←hB])) (fun o:PV×PV=>[o.1,o.2,fl aD p,.int (bi b),(ds b).k.v,ll Kd.v s,.int i,aD c,ll Kd.v (A.drop (A.length-1)),j.2.1.2,j.2.2.1,j.2.2.2]) (.LZ,.LZ) (fun zz c=>(c.bs.v,fl Cd.v c.codes)) (by simp;exact(az 0x3e832100052190320027) hl) (fun c a j K h1 h2=>?_) fun zz=>?_
   ·rcases c with _|_<;>first|exact h1 rfl|exact h2 rfl
   ·exact fV (A:=cut ((B.map Kd.v).map af) none (some 1)) (HI HM B 1) (fun L=>K .nxt (ka p b [ll Kd.v s,.int i,aD c,ll Kd.v (A.drop (A.length-1)),.lst L,j.2.2.1,j.2.2.2])) h
  have hn1:A.getLast?.getD (ds b).k=cU p b i:=by rw[hA];rfl
  have hf1:B.head?.getD (ds b).k=jA p b i:=by rw[hB];rfl
  have near:=BE A (ds b).k
  have far:=EF B (ds b).k
  rw[hn1]at near
  rw[hf1]at far
  have hj:=h ((.int i,aD c),(fl Kd.v (A.drop (A.length-1)),fl Kd.v (B.take 1)),(cU p b i).v,(jA p b i).v)
  have hs:eD p b i=if aM (cU p b i).s (jA p b i).s then cU p b i else(ds b).k:=rfl
  refine ak rfl (ka p b [ll Kd.v s,.int i,aD c,fl Kd.v (A.drop (A.length-1)),fl Kd.v (B.take 1),(cU p b i).v,(jA p b i).v]) (fun K h=>?_) ?_
  ·refine av (b:=cA (((A.drop (A.length-1)).map Kd.v).map af++[(ds b).k.v])) (aU (by simp;exact(ba 0x3e832111100500542))) ?_
   refine ae (o:=aw (.lst (((A.drop (A.length-1)).map Kd.v).map af++[(ds b).k.v])) (.int 0)) near ?_
   refine av (b:=cA (((B.take 1).map Kd.v).map af++[(ds b).k.v])) (aU (by simp;exact(ba 0x3e832110011642))) ?_
   exact ae (o:=aw (.lst (((B.take 1).map Kd.v).map af++[(ds b).k.v])) (.int 0)) far h
  refine ak rfl (ka p b [ll Kd.v (s++[eD p b i]),.int i,aD c,fl Kd.v (A.drop (A.length-1)),fl Kd.v (B.take 1),(cU p b i).v,(jA p b i).v]) (fun K h=>?_) hj
  rw[hs]at h
  cases e:aM (cU p b i).s (jA p b i).s with
  | true=>
   rw[if_pos e]at h
   refine bE (b:=aM (cU p b i).s (jA p b i).s) e (av (b:=cA (s.map Kd.v++[(cU p b i).v])) (aU (by simp;exact(az 0x3e832110042190321110400427) h2)) ?_)
   exact fV (A:=s.map Kd.v++[(cU p b i).v]) (B:=(s++[cU p b i]).map Kd.v) (by simp) (fun L=>K .nxt (ka p b [.lst L,.int i,aD c,fl Kd.v (A.drop (A.length-1)),fl Kd.v (B.take 1),(cU p b i).v,(jA p b i).v])) h
  | false=>
   rw[if_neg (by rw[e];decide)]at h
   refine bC (b:=aM (cU p b i).s (jA p b i).s) e (av (b:=cA (s.map Kd.v++[(ds b).k.v])) (aU (by simp;exact(az 0x3e832110042190321110400427) h2)) ?_)
   exact fV (A:=s.map Kd.v++[(ds b).k.v]) (B:=(s++[(ds b).k]).map Kd.v) (by simp) (fun L=>K .nxt (ka p b [.lst L,.int i,aD c,fl Kd.v (A.drop (A.length-1)),fl Kd.v (B.take 1),(cU p b i).v,(jA p b i).v])) h
 ·refine⟨by rw[←hs.1];simp,by have:=hs.2.1;simp at this⊢;exact(az 0x19032101100442190321110400427) this,fun y hy=>hs.2.2 y (mem_cons_of_mem _ hy)⟩
 ·have e:s=(range' 0 p.length).map (eD p b):=by have:=hs.1;simpa using this
  rw[e]
  exact h j
noncomputable def BF:Bool->Kd->Lv
 | false,.L=>.l0
 | false,_=>.l1
 | true,.R=>.l1
 | true,_=>.l2
noncomputable def eM (p:List Cl) (b:Bool):List Lv:=((range' 0 p.length).map (eD p b)).map (BF b)
theorem HP (hm:2<=m) {b:Bool} (hl:p.length<400) (h:Q (ll Lv.v (eM p b)) .LZ):aW TT m 117 [fl aD p,.int (bi b)] Q:=by
 refine pin (ρ:=[fl aD p,.int (bi b)]) hm rfl rfl fun n hn=>?_
 refine HO hn hl ?_
 unfold eM at h
 have hlen:((range' 0 p.length).map (eD p b)).length<1000:=by simp;exact(ba 0x3e832002190320027) hl
 generalize (range' 0 p.length).map (eD p b)=S at h hlen⊢
 refine fZ (mm HM S) (fun k=>(BF b k).v) (mp (BF b) Lv.v S) (fun o:PV=>[o,fl aD p,.int (bi b)]) .LZ (fun zz k=>k.v) hlen (fun k zz a j K h=>?_) fun zz=>h
 cases hb:b<;>(rw[hb]at h;cases hk:k<;>(rw[hk]at h;exact h))
end
section
variable {m:Nat} {Q:PV->PV->Om} {lv:List Lv}
noncomputable def gV (f:List Nat->List Nat) (pc:List Nat):List (List Nat):=match pc with
 | []=>[]
 | x::r=>[f (x::r)]
noncomputable def mh (f:List Nat->List Nat) (gt:Nat->Bool):List Nat->List Nat->List (List Nat)
 | pc,[]=>gV f pc
 | pc,x::r=>if gt x then mh f gt (pc++[x]) r else gV f pc++[x]::mh f gt [] r
theorem yY {f:List Nat->List Nat} {gt:Nat->Bool} {pc r:List Nat} {x:Nat}:mh f gt pc (x::r)=if gt x then mh f gt (pc++[x]) r else gV f pc++[x]::mh f gt [] r:=rfl
noncomputable def iE (lv:List Lv) (a:Nat) (x:Nat):Bool:=decide ((a:Int)<(lv.getD x .l0).i)
noncomputable def cN (lv:List Lv):Nat->Nat->List Nat->List Nat
 | 0,_,o=>o
 | k+1,a,o=>if a % 2=1 then(mh (cN lv k (a+1)) (iE lv a) [] o).reverse.flatten else(mh (cN lv k (a+1)) (iE lv a) [] o).flatten
theorem EG {lv:List Lv} {k a:Nat} {o:List Nat}:cN lv (k+1) a o=if a % 2=1 then(mh (cN lv k (a+1)) (iE lv a) [] o).reverse.flatten else(mh (cN lv k (a+1)) (iE lv a) [] o).flatten:=rfl
theorem rf {f:List Nat->List Nat} (hf:∀q,(f q).Perm q):∀pc,(gV f pc).flatten.Perm pc
 | []=>.refl _
 | x::r=>by
  show(f (x::r)++[]).Perm _
  rw[append_nil]
  exact hf _
theorem iY {f:List Nat->List Nat} (hf:∀q,(f q).Perm q) (gt:Nat->Bool):∀o pc,(mh f gt pc o).flatten.Perm (pc++o)
 | [],pc=>by rw[append_nil];exact rf hf pc
 | x::r,pc=>by
  rw[yY]
  by_cases c:gt x=true
  ·rw[if_pos c]
   have:=iY hf gt r (pc++[x])
   rwa [append_assoc]at this
  ·rw[if_neg c,flatten_append]
   exact(rf hf pc).append ((iY hf gt r []).cons x)
theorem rg (l:List (List Nat)):l.reverse.flatten.Perm l.flatten:=by
 induction l with
 | nil=>exact .refl _
 | cons x l ih=>
  rw[reverse_cons,flatten_append]
  show(l.reverse.flatten++(x++[])).Perm (x++l.flatten)
  rw[append_nil]
  exact(ih.append_right x).trans List.perm_append_comm
theorem de:∀k a o,(cN lv k a o).Perm o
 | 0,_,_=>.refl _
 | k+1,a,o=>by
  have:=iY (fun q=>de k (a+1) q) (iE lv a) o []
  rw[EG]
  split
  ·exact(rg _).trans this
  ·exact this
theorem Cx {σ α:Type} (E:σ->Env) (o:α->List PV) {g:α->PV} {bind:PV->Env->Option Env} {turn:List PV->M (List PV)} {P:List PV->Env->Om}:
  ∀(l:List α) (hb:∀x,x ∈ l->∀a s (K:List PV->Env->Om),a.length+(o x).length<1000->(∀s,K (a++o x) (E s))->aP (bind (g x) (E s)) fun ρ=>turn a ρ K)
   (a:List PV) (s:σ),a.length+(l.flatMap o).length<1000->(∀s,P (a++l.flatMap o) (E s))->cK bind turn (l.map g) a (E s) P
 | [],_,a,s,_,hP=>by have:=hP s;rwa [List.flatMap_nil,append_nil]at this
 | x::r,hb,a,s,h,hP=>by
  rw[flatMap_cons,length_append]at h
  rw[flatMap_cons]at hP
  exact hb x mem_cons_self a s _ (by exact(aQ 0x3e8321000423e8322010400427) h) fun s=>Cx E o r (fun x hx=>hb x (mem_cons_of_mem _ hx)) _ _ (by rw[length_append];exact(aQ 0x3e8322010004423e8322010400427) h) fun s=>by have:=hP s;rwa [append_assoc]
theorem BG {σ α:Type} {L R:List PV} {l:List α} {g:α->PV} (hL:L=l.map g) (o:α->List PV) (hR:l.flatMap o=R) (E:σ->Env) (s:σ) {bind:PV->Env->Option Env} {turn:List PV->M (List PV)} {P:List PV->Env->Om}
  (h:R.length<1000) (hb:∀x,x ∈ l->∀a s (K:List PV->Env->Om),a.length+(o x).length<1000->(∀s,K (a++o x) (E s))->aP (bind (g x) (E s)) fun ρ=>turn a ρ K)
  (hP:∀s,P R (E s)):cK bind turn L [] (E s) P:=by
 cases hL
 subst hR
 exact Cx E o l hb [] s (by simpa using h) hP
theorem BH {σ α:Type} {L R:List PV} {l:List α} {g:α->PV} (hL:L=l.map g) (o:α->PV) (hR:l.map o=R) (E:σ->Env) (s:σ) (f:σ->α->σ) {a:List PV} {bind:PV->Env->Option Env} {turn:List PV->M (List PV)} {P:List PV->Env->Om}
  (h:a.length+R.length<1000) (hb:∀x,x ∈ l->∀a s (K:List PV->Env->Om),bK (cA (a++[o x])) (K (a++[o x]) (E (f s x)))->aP (bind (g x) (E s)) fun ρ=>turn a ρ K)
  (hP:∀s,P (a++R) (E s)):cK bind turn L a (E s) P:=by
 cases hL
 subst hR
 exact Eo E f o l hb a s (by simpa using h) hP
theorem fv {X:List PV} {v:PV} (h:X.length<900):cA (X++[v])=true:=aU (by simp;exact(ba 0x3e832110042384320027) h)
noncomputable def f7 (o:List Nat) (lv:List Lv) (a:Nat) (r:List PV):Env:=fl iv o::fl Lv.v lv::.int a::r
theorem HQ:∀{k a m:Nat} {o:List Nat} {Q:PV->PV->Om},k<=m->1<=k->a+k<100->o.length<400->(∀x ∈ o,x<lv.length∧(lv.getD x .l0).i<(a+k:Nat))->Q (ll iv (cN lv k a o)) .LZ->aW TT m 118 [fl iv o,fl Lv.v lv,.int a] Q:=by
 intro k
 induction k with
 | zero=>exact fun zz h=>absurd h (by decide)
 | succ k ih=>
 intro a m o Q hm zz ha hl hx h
 refine pin (ρ:=(f7 o lv a [.LZ,.LZ,.LZ])) hm rfl rfl fun n hn=>?_
 obtain⟨f,hf⟩:∃f,f=cN lv k (a+1):=⟨_,rfl⟩
 have call (y:Nat) (q:List Nat) (hq:(y::q).length<400) (h3:∀x ∈ y::q,x ∈ o∧iE lv a x=true) (Q:PV->PV->Om) (h:Q (ll iv (f (y::q))) .LZ):aW TT n 118 [fl iv (y::q),fl Lv.v lv,.int ((a:Int)+1)] Q:=by
  have h3':=h3 y mem_cons_self
  have hy:=(hx y h3'.1).2
  have hy':(a:Int)<(lv.getD y .l0).i:=of_decide_eq_true h3'.2
  rw[hf]at h
  exact ih (a:=a+1) hn (by exact(H8 0x1011100003571110400430057) hy hy') (by exact(az 0x642210110044264221110400427) ha) hq (fun z hz=>by have:=h3 z hz;have:=hx z this.1;exact⟨this.1,by exact(KH 0x3011204430051130420430051000287) this⟩) h
 have h:Q (ll iv (if a % 2=1 then(mh f (iE lv a) [] o).reverse.flatten else(mh f (iE lv a) [] o).flatten)) .LZ:=by rw[hf];exact h
 have hf:∀q,(f q).Perm q:=fun q=>by rw[hf];exact de k (a+1) q
 refine ak rfl (f7 o lv a [.lst [],.lst [],.LZ]) (fun K h=>h) ?_
 refine fU (fun j:{j:List PV×List (List Nat)×List Nat // j.1.map af=j.2.1.map (fl iv)∧j.2.1++gV f j.2.2=mh f (iE lv a) [] o∧j.2.1.length+j.2.2.length<=o.length∧∀x ∈ j.2.2,x ∈ o∧iE lv a x=true}×PV=>(f7 o lv a [.lst j.1.1.1,ll iv j.1.1.2.2,j.2])) rfl (fun K h=>?_) fun⟨⟨⟨X,F,pc⟩,h0,h1,h2,h3⟩,j⟩=>?_
 ·refine c7 rfl ((o.map iv).map af) rfl (fun F h=>h) ?_
  refine iU (τ:=List PV×List (List Nat)×List Nat) (ι:=PV) (mm kB o) (fun r j=>j.1.map af=j.2.1.map (fl iv)∧j.2.1++mh f (iE lv a) j.2.2 r=mh f (iE lv a) [] o∧j.2.1.length+j.2.2.length+r.length<=o.length∧(∀x ∈ j.2.2,x ∈ o∧iE lv a x=true)∧∀x ∈ r,x ∈ o) (fun j x=>if iE lv a x then(j.1,j.2.1,j.2.2++[x])else(j.1++(gV f j.2.2).map (fl iv)++[ll iv [x]],j.2.1++gV f j.2.2++[[x]],[])) (fun j y=>(f7 o lv a [.lst j.1,ll iv j.2.2,y])) ([],[],[]) .LZ ⟨rfl,rfl,by simp,fun x hx=>absurd hx not_mem_nil,fun zz h=>h⟩ (fun x r j y K hs h=>?_) (fun x r j hs=>?_) fun j y hs=>h (⟨j,hs.1,hs.2.1,hs.2.2.1,hs.2.2.2.1⟩,y)
  ·obtain⟨X,F,pc⟩:=j
   obtain⟨h0,zz,h2,h3,h4⟩:=hs
   have h2:F.length+pc.length+(r.length+1)<=o.length:=h2
   have hX:X.length=F.length:=by have:=congrArg length h0;simpa using this
   have hxo:=hx x (h4 x mem_cons_self)
   refine ae (a:=(f7 o lv a [.lst X,ll iv pc,.int x])) rfl ?_
   have h:=h (.int x)
   have hi:aw (fl Lv.v lv) (.int (x:Nat))=some (lv.getD x .l0).v:=b5 Lv.vz .l0 hxo.1
   cases e:iE lv a x with
   | true=>
    rw[if_pos e]at h
    refine ak rfl (f7 o lv a [.lst X,ll iv (pc++[x]),.int x]) (fun K h=>wh rfl (f7 o lv a [.lst X,ll iv pc,.int x]) (fun A hA=>ae (o:=aw (fl Lv.v lv) (.int x)) hi ((congrArg (fun b=>A b (f7 o lv a [.lst X,ll iv pc,.int x])) e).mpr hA)) ?_) h
    exact ak rfl (f7 o lv a [.lst X,ll iv (pc++[x]),.int x]) (fun K h=>lX (v:=iv) (F:=pc) (x:=x) (by exact(b6 0x3e732202003020104417190320027) hl (by assumption)) (fun L=>K .nxt (f7 o lv a [.lst X,.lst L,.int x])) h) h
   | false=>
    rw[if_neg (by rw[e];decide)]at h
    refine ak rfl (f7 o lv a [.lst (X++(gV f pc).map (fl iv)++[ll iv [x]]),.lst [],.int x]) (fun K h=>zu rfl (f7 o lv a [.lst X,ll iv pc,.int x]) (fun A hA=>ae (o:=aw (fl Lv.v lv) (.int x)) hi ((congrArg (fun b=>A b (f7 o lv a [.lst X,ll iv pc,.int x])) e).mpr hA)) ?_) h
    refine fU (fun z:PV=>(f7 o lv a [.lst (X++(gV f pc).map (fl iv)),z,.int x])) rfl (fun K h=>?_) fun z=>?_
    ·cases e:pc with
     | nil=>
      rw[e]at h
      exact av (b:=cA (X++[])) (aU (by simp;exact(mG 0x3e832402104037003020104417190320027) hl (by assumption) hX)) (h (.lst []))
     | cons y q=>
      rw[e]at h h3 h2
      refine av (b:=((y::q).map iv).all (plain 7)) (gz _) ?_
      refine call y q (by exact(b6 0x19032202001130420104417190320027) hl h2) h3 _ ?_
      refine av (b:=bS (ll iv (f (y::q)))) rfl ?_
      exact av (b:=cA (X++[fl iv (f (y::q))])) (fv (by exact(mG 0x38432402104037003020104417190320027) hl (by assumption) hX)) (h (fl iv (y::q)))
    refine ak rfl (f7 o lv a [.lst (X++(gV f pc).map (fl iv)++[ll iv [x]]),z,.int x]) (fun K h=>av (b:=cA (X++(gV f pc).map (fl iv)++[ll iv [x]])) (fv (by rcases pc with _|_;(simp[gV]at h2⊢;exact(b6 0x38432102001130420417201037190320027) hl hX h2);(simp[gV]at h2⊢;exact(mG 0x38432111042001140411304204417201037190320027) hl hX h2))) h) ?_
    exact ak rfl (f7 o lv a [.lst (X++(gV f pc).map (fl iv)++[ll iv [x]]),.lst [],.int x]) (fun K h=>h) h
  ·obtain⟨X,F,pc⟩:=j
   obtain⟨h0,h1,h2,h3,h4⟩:=hs
   have h2:F.length+pc.length+(r.length+1)<=o.length:=h2
   have h0:X.map af=F.map (fl iv):=h0
   have h1:F++(if iE lv a x then mh f (iE lv a) (pc++[x]) r else gV f pc++[x]::mh f (iE lv a) [] r)=mh f (iE lv a) [] o:=h1
   cases e:iE lv a x with
   | true=>
    rw[if_pos e]at h1
    rw[if_pos rfl]
    refine⟨h0,h1,by simp;exact(b6 0x30201110400441301120410004417) h2,fun y hy=>?_,fun y hy=>h4 y (mem_cons_of_mem _ hy)⟩
    rcases mem_append.mp hy with hy|hy
    ·exact h3 y hy
    ·cases mem_singleton.mp hy
     exact⟨h4 x mem_cons_self,e⟩
   | false=>
    rw[if_neg (by rw[e];decide)]at h1
    rw[if_neg (by decide)]
    refine⟨?_,by rw[←h1];simp,by rcases pc with _|_;(simp[gV]at h2⊢;exact(aQ 0x20101100441201110400417) h2);(simp[gV]at h2⊢;exact(b6 0x30202100441301120411104004417) h2),fun y hy=>absurd hy not_mem_nil,fun y hy=>h4 y (mem_cons_of_mem _ hy)⟩
    show(X++(gV f pc).map (fl iv)++[ll iv [x]]).map af=(F++gV f pc++[[x]]).map (fl iv)
    rw[map_append,map_append,map_append,map_append,h0,mm fun zz=>rfl]
    rfl
 ·have h0:X.map af=F.map (fl iv):=h0
  have h1:F++gV f pc=mh f (iE lv a) [] o:=h1
  have h2:F.length+pc.length<=o.length:=h2
  have h3:∀x ∈ pc,x ∈ o∧iE lv a x=true:=h3
  have hX:X.length=F.length:=by have:=congrArg length h0;simpa using this
  show aV _ _ (f7 o lv a [.lst X,ll iv pc,j]) _
  have hGf:(F++gV f pc).flatten.length<400:=by rw[h1,(iY hf (iE lv a) o []).length_eq];exact hl
  rw[←h1]at h
  clear h1
  refine fU (fun z:PV=>(f7 o lv a [.lst (X++(gV f pc).map (fl iv)),z,j])) rfl (fun K h=>?_) fun z=>?_
  ·cases e:pc with
   | nil=>
    rw[e]at h
    exact av (b:=cA (X++[])) (aU (by simp;exact(b6 0x3e832302103037002010417190320027) hl (by assumption) hX)) (h (.lst []))
   | cons y q=>
    rw[e]at h h3 h2
    refine av (b:=((y::q).map iv).all (plain 7)) (gz _) ?_
    refine call y q (by exact(aQ 0x19032202002010417190320027) hl h2) h3 _ ?_
    refine av (b:=bS (ll iv (f (y::q)))) rfl ?_
    exact av (b:=cA (X++[fl iv (f (y::q))])) (fv (by exact(b6 0x38432302103037002010417190320027) hl (by assumption) hX)) (h (fl iv (y::q)))
  have hG:(X++(gV f pc).map (fl iv)).map af=(F++gV f pc).map (fl iv):=by rw[map_append,map_append,h0,mm fun zz=>rfl]
  have hGl:(F++gV f pc).length<=o.length:=by rcases pc with _|_;(simp[gV]at h2⊢;exact(az 0x10001100017) h2);(simp[gV]at h2⊢;exact(aQ 0x20110041201110400417) h2)
  generalize X++(gV f pc).map (fl iv)=Y at hG⊢
  generalize F++gV f pc=G at h hG hGl hGf⊢
  have hp:∀{G':List (List Nat)},G'.flatten.length<400->(G'.flatMap fun q=>q.map iv)=G'.flatten.map iv∧(G'.flatten.map iv).length<1000:=fun h=>⟨by rw[List.map_flatten,flatMap_def],by rw[length_map];exact(ba 0x3e832002190320027) h⟩
  cases e:decide (a % 2=1)with
  | true=>
   have e:=of_decide_eq_true e
   have hp2:G.reverse.flatten.length<400:=by rw[(rg G).length_eq];exact hGf
   rw[if_pos e]at h
   refine bE (b:=(((a:Int) % 2)==1)) (by rw[beq_iff_eq];lia) ?_
   refine BG (L:=(Y.map af).reverse.map af) (l:=G.reverse) (g:=fl iv) (by rw[hG,←List.map_reverse];exact mm (fun zz=>rfl) _) (fun q=>q.map iv) (hp hp2).1 (fun s:PV×PV=>[s.1,s.2,fl iv o,fl Lv.v lv,.int a,.fz (.lst Y),z,j]) (.LZ,.LZ) (hp hp2).2 (fun q hq A s K h1 h2=>?_) fun zz=>h
   refine ae (a:=[fl iv q,s.2,fl iv o,fl Lv.v lv,.int a,.fz (.lst Y),z,j]) rfl ?_
   exact BH (mm kB q) iv rfl (fun x:PV=>[fl iv q,x,fl iv o,fl Lv.v lv,.int a,.fz (.lst Y),z,j]) s.2 (fun zz x=>iv x) (by simpa using h1) (fun x zz a s K h=>h) fun x=>h2 (_,_)
  | false=>
   have e:=of_decide_eq_false e
   rw[if_neg e]at h
   refine bC (b:=(((a:Int) % 2)==1)) (by rw[beq_eq_false_iff_ne];lia) ?_
   refine BG (L:=Y.map af) (l:=G) (g:=fl iv) hG (fun q=>q.map iv) (hp hGf).1 (fun s:PV×PV=>[s.1,s.2,fl iv o,fl Lv.v lv,.int a,.fz (.lst Y),z,j]) (.LZ,.LZ) (hp hGf).2 (fun q hq A s K h1 h2=>?_) fun zz=>h
   refine ae (a:=[fl iv q,s.2,fl iv o,fl Lv.v lv,.int a,.fz (.lst Y),z,j]) rfl ?_
   exact BH (mm kB q) iv rfl (fun x:PV=>[fl iv q,x,fl iv o,fl Lv.v lv,.int a,.fz (.lst Y),z,j]) s.2 (fun zz x=>iv x) (by simpa using h1) (fun x zz a s K h=>h) fun x=>h2 (_,_)
end
section
variable {m:Nat} {Q:PV->PV->Om} {p:List Cl} {M:Int}
theorem fP (a n:Nat):aZ (a:Int) 1 n=(range' a n).map iv:=by
 rw[eA]
 refine ext_getElem? fun i=>?_
 by_cases c:i<n
 ·simp[c,iv]
 ·rw[List.getElem?_eq_none (by simp;exact(az 0x10101000277) c),List.getElem?_eq_none (by simp;exact(az 0x10101000277) c)]
noncomputable def aB (p:List Cl) (b:Nat):List Nat:=(range' (b+1) (p.length-b)).filter (cT p)
noncomputable def eE (p:List Cl) (M:Int) (b:Nat) (l:List Nat):List Nat:=l.filter fun x=>decide (cJ p b x<=M)
noncomputable def cr (p:List Cl) (b:Nat):Nat:=(aB p b).headD 0
noncomputable def bJ (p:List Cl) (M:Int) (b:Nat):Nat:=
 match (eE p M b (aB p b)).getLast? with
 | some x=>x
 | none=>((eE p M b (range' (b+1) (cr p b-(b+1)))).getLast?).getD (cr p b)
noncomputable def bo (p:List Cl) (M:Int):Nat->Nat->List (Nat×Nat)
 | 0,_=>[]
 | k+1,b=>if b<p.length then(b,bJ p M b)::bo p M k (bJ p M b)else[]
theorem fw {p:List Cl} {M:Int} {k b:Nat}:bo p M (k+1) b=if b<p.length then(b,bJ p M b)::bo p M k (bJ p M b)else[]:=rfl
theorem mi {b x:Nat} (h:x ∈ aB p b):b<x∧x<=p.length:=by
 have:=(mem_filter.mp h).1
 rw[mem_range'_1]at this
 exact(aQ 0x20101100028002051100441021011004187) this
theorem nX {b:Nat} (h:b<p.length):∃r,aB p b=cr p b::r:=by
 have:p.length ∈ aB p b:=mem_filter.mpr ⟨by rw[mem_range'_1];exact(az 0x105110044102101100418100027) h,by unfold cT;rw[if_pos rfl]⟩
 unfold cr
 cases e:aB p b with
 | nil=>rw[e]at this;cases this
 | cons x r=>exact⟨r,rfl⟩
theorem mj {b:Nat} (h:b<p.length):b<cr p b∧cr p b<=p.length:=by
 obtain⟨r,e⟩:=nX h
 exact mi (by rw[e];exact mem_cons_self)
theorem pE {b:Nat} (h:b<p.length):b<bJ p M b∧bJ p M b<=p.length:=by
 unfold bJ
 have h0:=mj h
 cases e:(eE p M b (aB p b)).getLast? with
 | some x=>exact mi (mem_filter.mp (List.mem_of_getLast? e)).1
 | none=>
  show b<((eE p M b (range' (b+1) (cr p b-(b+1)))).getLast?).getD (cr p b)∧_
  cases e:(eE p M b (range' (b+1) (cr p b-(b+1)))).getLast? with
  | none=>exact h0
  | some x=>
   have:=(mem_filter.mp (List.mem_of_getLast? e)).1
   rw[mem_range'_1]at this
   exact show b<x∧x<=_ from(b6 0x20301300028110041051100443023011004187201011000287) h0 this
theorem EH {T:Tab} {Φ:Calls} {n m:Nat} {c:bF} {b s i:Expr} {ρ:Env} {x:Str} {q p p2:Pos} {K:Fl->Env->Om} {S:Stmt} (hS:S=.Assign [.Name x q] (.Subscript b s p) p2) (hp:ja c.names 5 (.Subscript b s p)=none) (hs:mY s=.i i) (hm:kJ c b ρ=none) (h:aP (ix x c.names) fun j=>(ev T Φ m).e c b ρ fun x ρ=>(ev T Φ m).e c i ρ fun k ρ=>aP (aw x k) fun v=>if eP v then K .exc ρ else bK (bS v) (aP (du c j v ρ) fun ρ=>K .nxt ρ)):ex T Φ (ev T Φ (m+1)) (n+1) c S ρ K:=by
 cases hS
 refine Jg ?_ h
 show(aP (ix x c.names) fun j=>fX (ja c.names 5 (.Subscript b s p)) (fun p=>Ib p ρ fun v ρ=>if eP v then K .exc ρ else bK (bS v) (aP (du c j v ρ) fun ρ=>K .nxt ρ)) (kK (ev T Φ m) c b s ρ fun v ρ=>if eP v then K .exc ρ else bK (bS v) (aP (du c j v ρ) fun ρ=>K .nxt ρ)))=_
 unfold kK
 rw[hp,hs,hm]
 rfl
noncomputable def jB (p:List Cl) (M:Int) (r:List PV):Env:=fl aD p::.int M::r
theorem HR (hm:2<=m) (hl:p.length<400) (h:Q (fl aG (bo p M p.length 0)) .LZ):aW TT m 121 [fl aD p,.int M] Q:=by
 refine pin (ρ:=(jB p M [.LZ,.LZ,.LZ,.LZ])) hm rfl rfl fun n hn=>?_
 refine ak rfl (jB p M [.lst [],.int 0,.LZ,.LZ]) (fun K h=>h) ?_
 have hlen:((p.map aD).map af).length=p.length:=sO p
 refine BC rfl (fun s:List (Nat×Nat)×Nat×PV×PV=>(jB p M [ll aG s.1,.int s.2.1,s.2.2.1,s.2.2.2])) (fun k s=>s.1++bo p M k s.2.1=bo p M p.length 0∧p.length<=s.2.1+k∧s.1.length<=s.2.1∧s.2.1<=p.length) (fun s=>s.1=bo p M p.length 0) p.length ([],0,.LZ,.LZ) (by exact(ba 0x271042002190320027) hl) ⟨rfl,by simp,Nat.le_refl _,zero_le _⟩ (fun s hs=>?_) (fun k s W R hI hW hR=>?_)
 ·rw[hs]
  exact h
 ·obtain⟨F,b,st,ft⟩:=s
  obtain⟨h1,h2,h3,h4⟩:=hI
  have h1:F++bo p M k b=bo p M p.length 0:=h1
  have h2:p.length<=b+k:=h2
  have h3:F.length<=b:=h3
  have h4:b<=p.length:=h4
  by_cases c:b<p.length
  ·have hk:∃j,k=j+1:=⟨k-1,by exact(aQ 0x11112054203001027201040017) (by assumption) c⟩
   obtain⟨j,rfl⟩:=hk
   refine bE (b:=decide ((b:Int)<((p.map aD).map af).length)) (decide_eq_true (by rw[hlen];exact(az 0x1030035100027) c)) ?_
   refine ak rfl (jB p M [ll aG F,.int b,ll iv (aB p b),ft]) (fun K h=>?_) ?_
   ·refine ae (o:=cv [.int ((b:Int)+1),.int ((((p.map aD).map af).length:Int)+1)]) (cL (n:=p.length-b) (by rw[hlen];exact(az 0x10005111034110034533)) (by rw[hlen];exact(az 0x7d0321100345110034017d0329587d032111034581110340148001027190320027) hl c)) ?_
    refine uc (l:=range' (b+1) (p.length-b)) (fP (b+1) _) (cT p) iv rfl (fun x:PV=>[x,fl aD p,.int M,ll aG F,.int b,st,ft]) .LZ (fun zz x=>iv x) (by simp;exact(az 0x3e832100052190320027) hl) (fun x hx a s K h1 h2=>?_) fun zz=>h
    rw[mem_range'_1]at hx
    refine ae (a:=[iv x,fl aD p,.int M,ll aG F,.int b,st,ft]) rfl ?_
    refine HL (k:=x) (fu hn) (by exact(aQ 0x10111002051100441021011004187) hx) (by exact(aQ 0x20101002051100441021011004187) hx) ?_
    cases e:cT p x with
    | true=>exact h1 e
    | false=>exact h2 e
   obtain⟨S,hS⟩:=nX c
   have hin:=mj c
   have hin:=mj c
   have hl1:(aB p b).length<500:=by
    have:=length_filter_le (cT p) (range' (b+1) (p.length-b))
    rw[length_range']at this
    exact lt_of_le_of_lt this (by exact(az 0x1f432100052190320027) hl)
   have hnx:=pE (M:=M) c
   refine ak rfl (jB p M [ll aG F,.int b,fl iv (aB p b),ll iv (eE p M b (aB p b))]) (fun K h=>?_) ?_
   ·refine uc (mm kB (aB p b)) (fun x=>decide (cJ p b x<=M)) iv rfl (fun x:PV=>[x,fl aD p,.int M,ll aG F,.int b,fl iv (aB p b),ft]) .LZ (fun zz x=>iv x) (by exact(ba 0x3e8320021f4320027) hl1) (fun x hx a s K h1 h2=>?_) fun zz=>h
    have hx:=mi hx
    refine ae (a:=[iv x,fl aD p,.int M,ll aG F,.int b,fl iv (aB p b),ft]) rfl ?_
    refine Cw (e:=x) (fu hn) (by exact(aQ 0x20101201011000287) hx) hl ?_
    cases e:decide (cJ p b x<=M)with
    | true=>exact bE (b:=decide (cJ p b x<=M)) e (h1 e)
    | false=>exact bC (b:=decide (cJ p b x<=M)) e (h2 e)
   obtain⟨G,hG⟩:∃G,G=match eE p M b (aB p b)with
    | []=>eE p M b (range' (b+1) (cr p b-(b+1)))
    | l=>l:=⟨_,rfl⟩
   have hGl:G.length<900:=by
    have hf (l:List Nat):(eE p M b l).length<=l.length:=length_filter_le _ _
    have a1:=hf (aB p b)
    have a2:=hf (range' (b+1) (cr p b-(b+1)))
    rw[length_range']at a2
    rw[hG]
    split
    ·exact(b6 0x38432302111042053017002012010287190320027) hl (by assumption) a2
    ·exact(az 0x384321020010171f4320027) hl1 a1
   have hnext:bJ p M b=G.getLast?.getD (cr p b):=by
    rw[hG]
    unfold bJ
    cases eE p M b (aB p b)with
    | nil=>rfl
    | cons y q=>rw[List.getLast?_eq_some_getLast (cons_ne_nil _ _)];rfl
   have h0:aw (fl iv (aB p b)) (.int 0)=some (iv (cr p b)):=bj kB (k:=0) rfl (by rw[hS];rfl)
   refine ak rfl (jB p M [ll aG F,.int b,fl iv (aB p b),ll iv G]) (fun K h=>?_) ?_
   ·cases e:eE p M b (aB p b)with
    | nil=>
     rw[e]at hG
     refine wh rfl (jB p M [ll aG F,.int b,fl iv (aB p b),.lst []]) (fun A hA=>hA) ?_
     refine ak rfl (jB p M [ll aG F,.int b,fl iv (aB p b),ll iv G]) (fun K h=>?_) h
     refine ae (o:=aw (fl iv (aB p b)) (.int 0)) h0 ?_
     refine ae (o:=cv [.int ((b:Int)+1),iv (cr p b)]) (cL (n:=cr p b-(b+1)) (by exact(az 0x11104005111034003533)) (by exact(aQ 0x7d0322035203017d0329587d032111034581110340148002012010287190320027) hl (by assumption))) ?_
     rw[hG]at h
     refine uc (l:=range' (b+1) (cr p b-(b+1))) (fP (b+1) _) (fun x=>decide (cJ p b x<=M)) iv rfl (fun x:PV=>[x,fl aD p,.int M,ll aG F,.int b,fl iv (aB p b),.lst []]) .LZ (fun zz x=>iv x) (by simp;exact(aQ 0x3e832111042052002012010287190320027) hl (by assumption)) (fun x hx a s K h1 h2=>?_) fun zz=>h
     rw[mem_range'_1]at hx
     refine ae (a:=[iv x,fl aD p,.int M,ll aG F,.int b,fl iv (aB p b),.lst []]) rfl ?_
     refine Cw (e:=x) (fu hn) (by exact(b6 0x20301110041051100443023011004187201011000287) (by assumption) hx) hl ?_
     cases e:decide (cJ p b x<=M)with
     | true=>exact bE (b:=decide (cJ p b x<=M)) e (h1 e)
     | false=>exact bC (b:=decide (cJ p b x<=M)) e (h2 e)
    | cons y q=>
     rw[e]at hG
     rw[hG]at h
     exact zu rfl (jB p M [ll aG F,.int b,fl iv (aB p b),ll iv (y::q)]) (fun A hA=>hA) h
   refine ak rfl (jB p M [ll aG (F++[(b,bJ p M b)]),.int b,fl iv (aB p b),ll iv G]) (fun K h=>?_) ?_
   ·rw[hnext]at h
    cases e:G with
    | nil=>
     rw[e]at h
     refine ae (o:=aw (fl iv (aB p b)) (.int 0)) h0 ?_
     refine av (b:=cA (F.map aG++[aG (b,cr p b)])) (fv (by simp;exact(aQ 0x38432102002027201017190320027) hl (by assumption) c)) ?_
     exact fV (A:=F.map aG++[aG (b,cr p b)]) (B:=(F++[(b,cr p b)]).map aG) (by simp) (fun L=>K .nxt (jB p M [.lst L,.int b,fl iv (aB p b),.lst []])) h
    | cons y q=>
     have hne:∃x,(y::q).getLast?=some x:=⟨_,List.getLast?_eq_some_getLast (cons_ne_nil _ _)⟩
     obtain⟨x,hx⟩:=hne
     rw[e,hx]at h
     refine av (b:=((y::q).map iv).all (plain 7)) (gz _) ?_
     refine ae (o:=iG (bb ((y::q).map iv))) (by rw[dI hx];rfl) ?_
     refine av (b:=aL (iv x)) rfl ?_
     refine av (b:=cA (F.map aG++[aG (b,x)])) (fv (by simp;exact(aQ 0x38432102002027201017190320027) hl (by assumption) c)) ?_
     exact fV (A:=F.map aG++[aG (b,x)]) (B:=(F++[(b,x)]).map aG) (by simp) (fun L=>K .nxt (jB p M [.lst L,.int b,fl iv (aB p b),ll iv (y::q)])) h
   refine ak rfl (jB p M [ll aG (F++[(b,bJ p M b)]),.int (bJ p M b),fl iv (aB p b),ll iv G]) (fun K h=>?_) ?_
   ·have hx:(F++[(b,bJ p M b)]).getLast?=some (b,bJ p M b):=getLast?_concat
    generalize F++[(b,bJ p M b)]=F' at h hx⊢
    refine EH rfl rfl rfl ((congrArg (fun v=>(iG v).bind fun q=>if jJ q then some (((2,[.last]):f8),q)else none) (dI hx)).trans rfl) ?_
    refine ae (o:=iG (bb (F'.map aG))) (by rw[dI hx];rfl) ?_
    exact h
   refine hW (F++[(b,bJ p M b)],bJ p M b,fl iv (aB p b),ll iv G) j (by exact(ba 0x11004002)) ⟨?_,by exact show p.length<=bJ p M b+j from(b6 0x20304001003013010287112041040017) (by assumption) hnx,by simp;exact(b6 0x20110041302012010287100017) (by assumption) hnx,hnx.2⟩
   rw[←h1]
   conv=>rhs;rw[fw];rw[if_pos c]
   simp
  ·have e:bo p M k b=[]:=by
    cases k with
    | zero=>rfl
    | succ k=>rw[fw];rw[if_neg c]
   refine bC (b:=decide ((b:Int)<((p.map aD).map af).length)) (decide_eq_false (by rw[hlen];exact(az 0x1030035701000277) c)) (hR (F,b,st,ft) ?_)
   rw[e,append_nil]at h1
   exact h1
end
section
variable {m:Nat} {Q:PV->PV->Om} {p:List Cl} {lv:List Lv}
noncomputable def eN (p:List Cl) (B:Lv) (b:Nat):Nat->List Lv->List Lv
 | 0,l=>l
 | e+1,l=>if b<e+1∧cg (cl p e).u=true then eN p B b e (l.set e B)else l
theorem iy {p:List Cl} {B:Lv} {b e:Nat} {l:List Lv}:eN p B b (e+1) l=if b<e+1∧cg (cl p e).u=true then eN p B b e (l.set e B)else l:=rfl
theorem iZ (B:Lv) (b:Nat):∀e l,(eN p B b e l).length=l.length
 | 0,_=>rfl
 | e+1,l=>by
  rw[iy]
  split
  ·rw[iZ B b e,length_set]
  ·rfl
theorem BJ (c:Cl):uL (.str c.bs.c.bc.s) [st "WS",st "B"]=cg c.u:=by rcases c with _|_<;>rfl
theorem LU (x:Lv):x.i<((0+3:Nat):Int):=by rcases x with _|_<;>decide
noncomputable def bR (p:List Cl) (lv:List Lv) (B:Lv) (q:Nat×Nat):List Cd:=(cN (eN p B q.1 q.2 lv) 3 0 (range' q.1 (q.2-q.1))).flatMap fun x=>(cl p x).codes
noncomputable def rh (p:List Cl) (lv:List Lv) (b:Bool) (s e:Nat) (r:List PV):Env:=fl aD p::fl Lv.v lv::.int (bi b)::.int s::.int e::r
theorem HT (hm:4<=m) {b:Bool} {q:Nat×Nat} (hq:q.1<=q.2∧q.2<=p.length) (hl:p.length<400) (hlv:lv.length=p.length) (hs:(bR p lv (bl b) q).length<1000) (h:Q (ll Cd.v (bR p lv (bl b) q)) .LZ):aW TT m 122 [fl aD p,fl Lv.v lv,.int (bi b),.int q.1,.int q.2] Q:=by
 obtain⟨s,e⟩:=q
 have hq:s<=e∧e<=p.length:=hq
 refine pin (ρ:=(rh p lv b s e [.LZ,.LZ])) hm rfl rfl fun n hn=>?_
 refine ak rfl (rh p lv b s e [ll Lv.v lv,.int e]) (fun K h=>fV (mm Lv.vz lv) (fun L=>K .nxt (rh p lv b s e [.lst L,.int e])) h) ?_
 refine BC rfl (fun j:List Lv×Nat=>(rh p lv b s e [ll Lv.v j.1,.int j.2])) (fun k j=>k=j.2∧j.2<=p.length∧j.1.length=p.length∧eN p (bl b) s j.2 j.1=eN p (bl b) s e lv) (fun j=>j.1=eN p (bl b) s e lv) e (lv,e) (by exact(aQ 0x271042202002012010187190320027) hl (by assumption)) ⟨rfl,hq.2,hlv,rfl⟩ (fun j hj=>?_) (fun k j W R hI hW hR=>?_)
 ·obtain⟨L,y⟩:=j
  have hj:L=eN p (bl b) s e lv:=hj
  have hL:L.length=p.length:=by rw[hj,iZ,hlv]
  have h:Q (ll Cd.v ((cN L 3 0 (range' s (e-s))).flatMap fun x=>(cl p x).codes)) .LZ:=by rw[hj];exact h
  have hs:((cN L 3 0 (range' s (e-s))).flatMap fun x=>(cl p x).codes).length<1000:=by rw[hj];exact hs
  clear hj
  show aV _ _ (rh p lv b s e [ll Lv.v L,.int y]) _
  refine ae (o:=cv [.int s,.int e]) (cL (n:=e-s) (by exact(az 0x10005103003533)) (by exact(aQ 0x7d0322035203017d0329587d032103581030148002012010187190320027) hl (by assumption))) ?_
  have hr:=fP s (e-s)
  have hord:=de (lv:=L) 3 0 (range' s (e-s))
  have call (Q:PV->PV->Om) (h:Q (ll iv (cN L 3 0 (range' s (e-s)))) .LZ):aW TT n 118 [.fz (.lst (aZ (s:Int) 1 (e-s))),fl Lv.v L,.int 0] Q:=by
   rw[hr]
   exact HQ (k:=3) (a:=0) hn (by decide) (by decide) (by simp;exact(aQ 0x19032102052002012010187190320027) hl (by assumption)) (fun x hx=>by rw[mem_range'_1]at hx;exact⟨by exact(mG 0x30402001050044024000187203037201011000187) (by assumption) hL hx,LU _⟩) h
  refine av (b:=bS (.lst (aZ (s:Int) 1 (e-s)))) rfl ?_
  refine call _ ?_
  refine av (b:=bS (ll iv (cN L 3 0 (range' s (e-s))))) rfl ?_
  generalize cN L 3 0 (range' s (e-s))=O at h hs hord⊢
  refine BG (mm kB O) (fun x=>(cl p x).codes.map Cd.v) (R:=(O.flatMap fun x=>(cl p x).codes).map Cd.v) (by rw[List.map_flatMap]) (fun j:PV×PV=>[j.1,j.2,fl aD p,fl Lv.v lv,.int (bi b),.int s,.int e,fl Lv.v L,.int y]) (.LZ,.LZ) (by rw[length_map];exact hs) (fun x hx a j K h1 h2=>?_) fun zz=>h
  have hxp:x<p.length:=by
   have:=hord.mem_iff.mp hx
   rw[mem_range'_1]at this
   exact(b6 0x20302001050043023000187201011000187) (by assumption) this
  refine ae (a:=[iv x,j.2,fl aD p,fl Lv.v lv,.int (bi b),.int s,.int e,fl Lv.v L,.int y]) rfl ?_
  refine ae (o:=aw (fl aD p) (.int x)) (b5 rM .a hxp) ?_
  exact BH (mm Cd.vz (cl p x).codes) Cd.v rfl (fun z:PV=>[iv x,z,fl aD p,fl Lv.v lv,.int (bi b),.int s,.int e,fl Lv.v L,.int y]) j.2 (fun zz x=>x.v) (by simpa using h1) (fun x zz a s K h=>h) fun z=>h2 (_,_)
 ·obtain⟨L,x⟩:=j
  obtain⟨e1,e2,e3,e4⟩:=hI
  have e1:k=x:=e1
  have e2:x<=p.length:=e2
  have e3:L.length=p.length:=e3
  have e4:eN p (bl b) s x L=eN p (bl b) s e lv:=e4
  cases x with
  | zero=>exact hR (L,0) e4
  | succ x=>
   by_cases c1:s<x+1
   ·refine bE (b:=decide ((s:Int)<(x+1:Nat))) (decide_eq_true (by exact(az 0x1110430035111040027) c1)) ?_
    refine ae (o:=aw (fl aD p) (.int (((x+1:Nat):Int)-1))) (bj rM (k:=x) (by exact(ba 0x31111004356)) (aF Cl.a (by exact(az 0x10002101100417) e2))) ?_
    have hb:uL (.str (cl p x).bs.c.bc.s) [st "WS",st "B"]=cg (cl p x).u:=BJ _
    cases q:cg (cl p x).u with
    | true=>
     refine bE (b:=uL (.str (cl p x).bs.c.bc.s) [st "WS",st "B"]) (hb.trans q) ?_
     have ex:((x+1:Nat):Int)-1=x:=by exact(ba 0x31111004356)
     refine ak rfl (rh p lv b s e [ll Lv.v L,.int x]) (fun K h=>(congrArg (fun y:Int=>K .nxt (rh p lv b s e [ll Lv.v L,.int y])) ex).mpr h) ?_
     refine ak rfl (rh p lv b s e [ll Lv.v (L.set x (bl b)),.int x]) (fun K h=>ae (o:=cw (ll Lv.v L) (.int x) (.int (bi b))) ((c8 rfl (by rw[length_map];exact(aQ 0x202101120417100037) e3 e2)).trans (congrArg (fun l=>some (PV.lst l)) (eB Lv.v L x (bl b)))) h) ?_
     refine hW (L.set x (bl b),x) x (by exact(az 0x102111040037) e1) ⟨rfl,by exact show x<=_ from(az 0x10001101100417) e2,by rw[length_set];exact e3,?_⟩
     rw[←e4]
     conv=>rhs;rw[iy]
     rw[if_pos ⟨c1,q⟩]
    | false=>
     refine bC (b:=uL (.str (cl p x).bs.c.bc.s) [st "WS",st "B"]) (hb.trans q) (hR (L,x+1) ?_)
     show L=_
     rw[←e4]
     conv=>rhs;rw[iy]
     rw[if_neg fun h=>by rw[q]at h;exact nomatch h.2]
   ·refine bC (b:=decide ((s:Int)<(x+1:Nat))) (decide_eq_false (by exact(az 0x1110430035701110400277) c1)) (hR (L,x+1) ?_)
    show L=_
    rw[←e4]
    conv=>rhs;rw[iy]
    rw[if_neg fun h=>c1 h.1]
end
section
variable {m:Nat} {Q:PV->PV->Om} {p:List Cl} {M:Int} {w:Wd}
theorem eF:∀k b,(bo p M k b).length<=k
 | 0,_=>Nat.le_refl _
 | k+1,b=>by
  rw[fw]
  split
  ·exact succ_le_succ (eF k _)
  ·exact zero_le _
set_option tactic.hygienic true in
theorem jC:∀k b,b<=p.length->∀q ∈ bo p M k b,q.1<=q.2∧q.2<=p.length
 | 0,_,_,q,h=>nomatch h
 | k+1,b,hb,q,h=>by
  rw[fw]at h
  split at h
  ·rename_i c
   have:=pE (M:=M) c
   cases h with
   | head=>exact⟨le_of_lt this.1,this.2⟩
   | tail _ h=>exact jC k _ this.2 q h
  ·first|subst h|cases h
noncomputable def ai (p:List Cl) (i:Nat):Nat:=((p.take i).map fun c=>c.codes.length).sum
noncomputable def fQ (M:Int) (w:Wd) (x:Nat×List Cl):List Ld:=(bo x.2 M x.2.length 0).map fun q=>(x.1+ai x.2 q.1,x.1+ai x.2 q.2,bR x.2 (eM x.2 (pD x.2 w)) (bl (pD x.2 w)) q)
noncomputable def fW (x:Ld):PV:=.tup [.int x.1,.int x.2.1,fl Cd.v x.2.2]
theorem bf:∀p:List Cl,(ah p).length=ai p p.length:=fun p=>by unfold ah ai;rw[take_length,List.length_flatMap]
theorem yZ (p:List Cl) (i:Nat):((p.take i).map fun c=>(c.codes.length:Int)).sum=(ai p i:Int):=by
 unfold ai
 generalize p.take i=l
 induction l with
 | nil=>rfl
 | cons c l ih=>rw[map_cons,map_cons,sum_cons,sum_cons,ih];exact(az 0x10004310300346)
theorem eG:∀(cs h:List Cl),(aN h cs).flatten=h++cs
 | [],[]=>rfl
 | [],a::h=>by show[a::h].flatten=_;simp
 | c::r,h=>by
  have:aN h (c::r)=if c.isLf then(h++[c])::aN [] r else aN (h++[c]) r:=by cases h<;>rfl
  rw[this]
  split
  ·rw[flatten_cons,eG r []];simp
  ·rw[eG r];simp
theorem kE {α β:Type} {f:α->List β} (hf:∀x,(f x).length<=2):∀l:List α,(l.flatMap f).length<=2*l.length
 | []=>zero_le _
 | x::l=>by
  have:=kE hf l
  have:=hf x
  rw[flatMap_cons,length_append,length_cons]
  exact(aQ 0x11104218002041212017102180017) (by assumption) this
theorem sW (c:Cl):c.codes.length<=2:=by rcases c with _|_<;>decide
theorem sX (p:List Cl) (lv:List Lv) (B:Lv) (q:Nat×Nat):(bR p lv B q).length<=2*(q.2-q.1):=by
 have:=kE (fun x=>sW (cl p x)) (cN (eN p B q.1 q.2 lv) 3 0 (range' q.1 (q.2-q.1)))
 rwa [(de 3 0 _).length_eq,length_range']at this
def Cy (cs:List Cl):Prop:=iR (ah cs)=(cI 0 (aN [] cs)).map spP∧(∀x ∈ cI 0 (aN [] cs),slice (ah cs) (spP x)=ah x.2)∧∀M w,(0:Int)<=M->M<8->∀x ∈ cI 0 (aN [] cs),Cs M x.2∧dW M w x=fQ M w x
theorem ml {α:Type} (f:α->PV):∀l:List α,fD (l.map f)=l.map fun x=>oO (f x)
 | []=>rfl
 | x::l=>congrArg (_::·) (ml f l)
theorem iz {α:Type} (f:α->PyData) (h:∀x,PyData.eqv (f x) (f x)=true):∀l:List α,PyData.eqvAll (l.map f) (l.map f)=true
 | []=>rfl
 | x::l=>by show(PyData.eqv (f x) (f x)&&PyData.eqvAll (l.map f) (l.map f))=true;rw[h x,iz f h l];rfl
theorem nY (k:Nat) (l:List Cd):(l.map Cd.v).all (plain k)=true:=by
 induction l with
 | nil=>rfl
 | cons x l ih=>rw[map_cons,List.all_cons,ih];rcases k with _|_<;>rfl
theorem y3 (l:List Cd):PyData.eqvAll (fD (l.map Cd.v)) (fD (l.map Cd.v))=true:=by
 rw[ml]
 exact iz _ (fun x=>beq_self_eq_true x.i) l
theorem y4 (l:List Ld):(l.map fW).all (plain 7)=true:=by
 induction l with
 | nil=>rfl
 | cons x l ih=>
  rw[map_cons,List.all_cons,ih]
  have:=nY 5 x.2.2
  show(true&&(true&&((x.2.2.map Cd.v).all (plain 5)&&true))&&true)=true
  rw[this]
  rfl
theorem uk (D:List Ld):(plain 8 (ll fW D)&&plain 8 (fl fW D))=true∧eqv (ll fW D) (fl fW D)=true:=by
 refine⟨?_,?_⟩
 ·show((D.map fW).all (plain 7)&&(D.map fW).all (plain 7))=true
  rw[y4]
  rfl
 ·show PyData.eqv (.list (fD (D.map fW))) (.list (fD (D.map fW)))=true
  show PyData.eqvAll (fD (D.map fW)) (fD (D.map fW))=true
  rw[ml]
  refine iz _ (fun x=>?_) D
  show(((x.1:Int)==x.1)&&(((x.2.1:Int)==x.2.1)&&(PyData.eqvAll (fD (x.2.2.map Cd.v)) (fD (x.2.2.map Cd.v))&&true)))=true
  rw[beq_self_eq_true,beq_self_eq_true,y3]
  rfl
theorem um (l:List Cd):(plain 8 (fl Cd.v l)&&plain 8 (fl Cd.v l))=true∧eqv (fl Cd.v l) (fl Cd.v l)=true:=by
 refine⟨?_,?_⟩
 ·show((l.map Cd.v).all (plain 7)&&(l.map Cd.v).all (plain 7))=true
  rw[nY]
  rfl
 ·show PyData.eqv (.list (fD (l.map Cd.v))) (.list (fD (l.map Cd.v)))=true
  exact y3 l
noncomputable def gW (l L:List Int) (x:Int) (w:Wd) (M:Int) (cs:List Cl) (r:List PV):Env:=fl PV.int l::bn L x::w.v::.int M::fl aD cs::r
theorem HU (R:l8) (H:∀cs:List Cl,cs.length<12->Cy cs) (hm:12<=m) {l:List Int} (h:Q (.bool true) .LZ):aW TT m 123 [fl PV.int l] Q:=by
 refine pin (ρ:=[fl PV.int l,.LZ,.LZ,.LZ,.LZ,.LZ,.LZ,.LZ,.LZ,.LZ,.LZ,.LZ,.LZ,.LZ,.LZ,.LZ]) hm rfl rfl fun n hn=>?_
 refine fU (fun d:List Int×Dk=>[fl PV.int l,bn d.1 d.2.1,.LZ,.LZ,.LZ,.LZ,.LZ,.LZ,.LZ,.LZ,.LZ,.LZ,.LZ,.LZ,.LZ,.LZ]) rfl (fun K h=>Hz (fu hn) fun L x hx=>h (L,⟨x,hx⟩)) fun⟨L,x,hx⟩=>?_
 refine fU (fun d:(List Int×Dk)×Wd×{M:Int // 0<=M∧M<8}=>[fl PV.int l,bn d.1.1 d.1.2.1,d.2.1.v,.int d.2.2.1,.LZ,.LZ,.LZ,.LZ,.LZ,.LZ,.LZ,.LZ,.LZ,.LZ,.LZ,.LZ]) rfl (fun K h=>?_) fun⟨⟨L,x,hx⟩,w,M,hM⟩=>?_
 ·refine q9 (fu hn) hx (by decide) fun r L' x' h0 h1 hx'=>?_
  have hr:r=0∨r=1∨r=2:=by exact(pM 0x21006110069010069310057000147) h0 h1
  rcases hr with e|e|e
  all_goals
   first|subst e|cases e
   refine q9 (fu hn) hx' (by decide) fun r' L2 x2 h0 h1 hx2=>?_
  ·exact h ((L2,⟨x2,hx2⟩),.auto,⟨r',h0,h1⟩)
  ·exact h ((L2,⟨x2,hx2⟩),.ltr,⟨r',h0,h1⟩)
  ·exact h ((L2,⟨x2,hx2⟩),.rtl,⟨r',h0,h1⟩)
 refine fU (fun d:(List Int×Dk)×{cs:List Cl // cs.length<12}=>[fl PV.int l,bn d.1.1 d.1.2.1,w.v,.int M,fl aD d.2.1,.LZ,.LZ,.LZ,.LZ,.LZ,.LZ,.LZ,.LZ,.LZ,.LZ,.LZ]) rfl (fun K h=>?_) fun⟨⟨L,x,hx⟩,cs,hcs⟩=>?_
 ·refine q9 (fu hn) hx (by decide) fun r L' x' h0 h1 hx'=>?_
  obtain⟨k,rfl⟩:=Int.eq_ofNat_of_zero_le h0
  exact HF (fu hn) hx' (by exact(ba 0x6422002c100357) h1) fun cs L2 x2 hc hx2=>h ((L2,⟨x2,hx2⟩),⟨cs,by exact(az 0xc1102001037c100357) h1 hc⟩)
 obtain⟨h1,h2,h3⟩:=H cs hcs
 have h3:=h3 M w hM.1 hM.2
 have hfl:(ah cs).length<64:=by have:=kE sW cs;unfold ah;exact(az 0x4022102002181017c10027) hcs this
 refine ak rfl (gW l L x w M cs [ll Cd.v (ah cs),.lst [],.int 0,.LZ,.LZ,.LZ,.LZ,.LZ,.LZ,.LZ,.LZ]) (fun K h=>?_) ?_
 ·refine BG (mm rM cs) (fun c=>c.codes.map Cd.v) (R:=(ah cs).map Cd.v) (by unfold ah;rw[List.map_flatMap]) (fun j:PV×PV×PV=>[j.1,j.2.1,j.2.2,fl PV.int l,bn L x,w.v,.int M,fl aD cs,.LZ,.LZ,.LZ,.LZ,.LZ,.LZ,.LZ,.LZ,.LZ,.LZ,.LZ]) (.LZ,.LZ,.LZ) (by rw[length_map];exact(ba 0x3e83200240220027) hfl) (fun c hc a j K h1 h2=>?_) fun zz=>h
  refine ae (a:=[c.bs.v,fl Cd.v c.codes,j.2.2,fl PV.int l,bn L x,w.v,.int M,fl aD cs,.LZ,.LZ,.LZ,.LZ,.LZ,.LZ,.LZ,.LZ,.LZ,.LZ,.LZ]) rfl ?_
  exact BH (mm Cd.vz c.codes) Cd.v rfl (fun z:PV=>[c.bs.v,fl Cd.v c.codes,z,fl PV.int l,bn L x,w.v,.int M,fl aD cs,.LZ,.LZ,.LZ,.LZ,.LZ,.LZ,.LZ,.LZ,.LZ,.LZ,.LZ]) j.2.2 (fun zz x=>x.v) (by simpa using h1) (fun x zz a s K h=>h) fun z=>h2 (_,_,_)
 refine fU (fun j:(PV×PV×PV×PV)×(PV×PV×PV)=>(gW l L x w M cs [ll Cd.v (ah cs),.lst (((cI 0 (aN [] cs)).flatMap (fQ M w)).map fW),j.1.1,j.1.2.1,j.1.2.2.1,j.1.2.2.2,j.2.1,j.2.2.1,j.2.2.2,.LZ,.LZ])) rfl (fun K h=>?_) fun j=>?_
 ·refine c7 rfl (((aN [] cs).map (fl aD)).map af) rfl (fun F h=>HG (fu hn) (by exact(ba 0x19032002c10027) hcs) h) ?_
  refine HD (τ:=List Ld×Nat×(PV×PV×PV)×(PV×PV×PV)) (mm (g:=fl aD) (fun zz=>rfl) _) (fun r j=>j.1++(cI j.2.1 r).flatMap (fQ M w)=(cI 0 (aN [] cs)).flatMap (fQ M w)∧j.1.length+r.flatten.length<12) (fun j=>(gW l L x w M cs [ll Cd.v (ah cs),.lst (j.1.map fW),.int j.2.1,j.2.2.1.1,j.2.2.1.2.1,j.2.2.1.2.2,j.2.2.2.1,j.2.2.2.2.1,j.2.2.2.2.2,.LZ,.LZ])) ([],0,(.LZ,.LZ,.LZ),(.LZ,.LZ,.LZ)) ⟨rfl,by rw[eG];simpa using hcs⟩ (fun p r j K hs h=>?_) fun j hs=>?_
  ·obtain⟨F,k,⟨u1,u2,u3⟩,⟨u4,u5,u6⟩⟩:=j
   obtain⟨hF,hn1⟩:=hs
   have hF:F++(fQ M w (k,p)++(cI (k+(ah p).length) r).flatMap (fQ M w))=(cI 0 (aN [] cs)).flatMap (fQ M w):=by rw[←hF];simp[cI]
   have hn1:F.length+(p.length+r.flatten.length)<12:=by simpa using hn1
   have h (u:PV×PV×PV) (v:PV×PV×PV):=h (F++fQ M w (k,p),k+(ah p).length,u,v) ⟨by rw[←hF,append_assoc],by
    have:=eF (p:=p) (M:=M) p.length 0
    have e:(fQ M w (k,p)).length=(bo p M p.length 0).length:=length_map _
    rw[length_append,e]
    exact(b6 0xc1203000442103017c12010400427) hn1 this⟩
   obtain⟨b,hb⟩:∃b,b=pD p w:=⟨_,rfl⟩
   obtain⟨lv,hlv⟩:∃lv,lv=eM p b:=⟨_,rfl⟩
   obtain⟨S,hS⟩:∃S,S=(range' 0 (p.length+1)).map fun i=>k+ai p i:=⟨_,rfl⟩
   refine ae (a:=(gW l L x w M cs [ll Cd.v (ah cs),.lst (F.map fW),.int k,fl aD p,u2,u3,u4,u5,u6,.LZ,.LZ])) rfl ?_
   refine ak rfl (gW l L x w M cs [ll Cd.v (ah cs),.lst (F.map fW),.int k,fl aD p,.int (bi b),u3,u4,u5,u6,.LZ,.LZ]) (fun K h=>HJ (fu hn) (by exact(aQ 0x19032102c12010400427) hn1) (by rw[←hb];exact h)) ?_
   refine ak rfl (gW l L x w M cs [ll Cd.v (ah cs),.lst (F.map fW),.int k,fl aD p,.int (bi b),ll Lv.v lv,u4,u5,u6,.LZ,.LZ]) (fun K h=>HP (fu hn) (by exact(aQ 0x19032102c12010400427) hn1) (by rw[←hlv];exact h)) ?_
   refine ak rfl (gW l L x w M cs [ll Cd.v (ah cs),.lst (F.map fW),.int k,fl aD p,.int (bi b),ll Lv.v lv,ll iv S,u5,u6,.LZ,.LZ]) (fun K h=>?_) ?_
   ·refine ae (o:=cv [.int ((((p.map aD).map af).length:Int)+1)]) (a:=aZ 0 1 (p.length+1)) ?_ ?_
    ·rw[sO,show(p.length:Int)+1=((p.length+1:Nat):Int)by exact(ba 0x1100431100346)]
     exact lY (by exact(aQ 0x7d032111042c12010400427) hn1)
    refine fZ (fP 0 (p.length+1)) (fun i=>iv (k+ai p i)) (R:=S.map iv) (by rw[hS,map_map];rfl) (fun z:PV=>[z,fl PV.int l,bn L x,w.v,.int M,fl aD cs,ll Cd.v (ah cs),.lst (F.map fW),.int k,fl aD p,.int (bi b),ll Lv.v lv,u4,u5,u6,.LZ,.LZ]) .LZ (fun zz i=>iv i) (by simp;exact(aQ 0x3e832111042c12010400427) hn1) (fun i hi a z K h=>?_) fun zz=>h
    have hi:i<p.length+1:=bw hi
    refine ae (a:=[iv i,fl PV.int l,bn L x,w.v,.int M,fl aD cs,ll Cd.v (ah cs),.lst (F.map fW),.int k,fl aD p,.int (bi b),ll Lv.v lv,u4,u5,u6,.LZ,.LZ]) rfl ?_
    have l1:(cut ((p.map aD).map af) none (some (i:Int))).map af=(p.take i).map aD:=by rw[yV (i:=i) rfl,mm rM]
    refine fZ l1 (fun c=>PV.int (c.codes.length:Int)) (R:=((p.take i).map fun c=>(c.codes.length:Int)).map PV.int) (mp (fun c:Cl=>(c.codes.length:Int)) PV.int _) (fun j:PV×PV=>[j.1,j.2,iv i,fl PV.int l,bn L x,w.v,.int M,fl aD cs,ll Cd.v (ah cs),.lst (F.map fW),.int k,fl aD p,.int (bi b),ll Lv.v lv,u4,u5,u6,.LZ,.LZ]) (.LZ,.LZ) (fun zz c=>(c.bs.v,fl Cd.v c.codes)) (by simp;exact(b6 0x3e832103062c12010400427) hn1) (fun c zz a j K h=>?_) fun zz=>?_
    ·rcases c with _|_<;>exact h
    ·refine ae (o:=builtin .sum [.lst (((p.take i).map fun c=>(c.codes.length:Int)).map PV.int)]) (yT _) ?_
     rw[yZ]
     exact h
   have hit (i:Nat) (hi:i<=p.length):fR (.lst (S.map iv)) (.int (i:Nat))=some (iv (k+ai p i)):=l9 (k:=i) rfl (by rw[hS,getElem?_map,List.getElem?_range' (by exact(az 0x11104002100017) hi)];simp)
   have hdl:=eF (p:=p) (M:=M) p.length 0
   have hin:=jC (p:=p) (M:=M) p.length 0 (zero_le _)
   have hdue:fQ M w (k,p)=(bo p M p.length 0).map fun q=>(k+ai p q.1,k+ai p q.2,bR p lv (bl b) q):=by rw[hlv,hb];rfl
   rw[hdue]at h
   obtain⟨ls,hls⟩:∃ls,ls=bo p M p.length 0:=⟨_,rfl⟩
   rw[←hls]at h hdl hin
   have hlvl:lv.length=p.length:=by rw[hlv];simp[eM]
   refine fU (fun j:Bool×PV×PV=>(gW l L x w M cs [ll Cd.v (ah cs),.lst ((F++ls.map fun q=>(k+ai p q.1,k+ai p q.2,bR p lv (bl b) q)).map fW),.int k,fl aD p,.int (bi b),bif j.1 then fl Lv.v lv else ll Lv.v lv,ll iv S,j.2.1,j.2.2,.LZ,.LZ])) rfl (fun K h=>?_) fun j=>?_
   ·refine c7 rfl ((ls.map aG).map af) rfl (fun F h=>HR (fu hn) (by exact(aQ 0x19032102c12010400427) hn1) (by rw[←hls];exact h)) ?_
    refine iU (τ:=List Ld) (ι:=Bool×PV×PV) (mm (g:=aG) (fun zz=>rfl) ls) (fun r G=>(G++(r.map fun q=>(k+ai p q.1,k+ai p q.2,bR p lv (bl b) q))=F++ls.map fun q=>(k+ai p q.1,k+ai p q.2,bR p lv (bl b) q))∧∀q ∈ r,q ∈ ls) (fun G q=>G++[(k+ai p q.1,k+ai p q.2,bR p lv (bl b) q)]) (fun G j=>(gW l L x w M cs [ll Cd.v (ah cs),.lst (G.map fW),.int k,fl aD p,.int (bi b),bif j.1 then fl Lv.v lv else ll Lv.v lv,ll iv S,j.2.1,j.2.2,.LZ,.LZ])) F (false,u5,u6) ⟨rfl,fun zz h=>h⟩ (fun q r G j K hs h=>?_) (fun q r G hs=>⟨by rw[←hs.1];simp,fun y hy=>hs.2 y (mem_cons_of_mem _ hy)⟩) fun G j hs=>?_
    ·obtain⟨jb,j1,j2⟩:=j
     refine ae (a:=(gW l L x w M cs [ll Cd.v (ah cs),.lst (G.map fW),.int k,fl aD p,.int (bi b),bif jb then fl Lv.v lv else ll Lv.v lv,ll iv S,.int q.1,.int q.2,.LZ,.LZ])) rfl ?_
     have hq:=hin q (hs.2 q mem_cons_self)
     have hG:G.length<24:=by have:=congrArg length hs.1;simp at this;exact(H9 0x1822402300041150440437103017c12010400427) hn1 hdl this
     have hsh:(bR p lv (bl b) q).length<1000:=by have:=sX p lv (bl b) q;exact(H9 0x3e832502304052185017104014030187c12010400427) hn1 hq this
     refine ak rfl (gW l L x w M cs [ll Cd.v (ah cs),.lst ((G++[(k+ai p q.1,k+ai p q.2,bR p lv (bl b) q)]).map fW),.int k,fl aD p,.int (bi b),fl Lv.v lv,ll iv S,.int q.1,.int q.2,.LZ,.LZ]) (fun K h=>?_) (h (true,_,_))
     refine ae (o:=fR (.lst (S.map iv)) (.int q.1)) (hit q.1 (by exact(aQ 0x20001201011000187) hq)) ?_
     refine av (b:=aL (iv (k+ai p q.1))) rfl ?_
     refine ae (o:=fR (.lst (S.map iv)) (.int q.2)) (hit q.2 (by exact(aQ 0x20101201011000187) hq)) ?_
     refine av (b:=aL (iv (k+ai p q.2))) rfl ?_
     have go (Q:PV->PV->Om) (h:Q (ll Cd.v (bR p lv (bl b) q)) .LZ):aW TT n 122 [fl aD p,fl Lv.v lv,.int (bi b),.int q.1,.int q.2] Q:=HT (fu hn) hq (by exact(aQ 0x19032102c12010400427) hn1) hlvl hsh h
     have dY:bK (cA (G.map fW++[fW (k+ai p q.1,k+ai p q.2,bR p lv (bl b) q)])) (K .nxt (gW l L x w M cs [ll Cd.v (ah cs),.lst (G.map fW++[fW (k+ai p q.1,k+ai p q.2,bR p lv (bl b) q)]),.int k,fl aD p,.int (bi b),fl Lv.v lv,ll iv S,.int q.1,.int q.2,.LZ,.LZ])):=by
      refine av (fv (by simp;exact(ba 0x3843200218220027) hG)) ?_
      rw[map_append]at h
      exact h
     cases hj:jb
     ·refine go _ ?_
      refine av (b:=bS (ll Cd.v (bR p lv (bl b) q))) rfl ?_
      exact dY
     ·refine go _ ?_
      refine av (b:=bS (ll Cd.v (bR p lv (bl b) q))) rfl ?_
      exact dY
    ·have e:G=F++ls.map fun q=>(k+ai p q.1,k+ai p q.2,bR p lv (bl b) q):=by simpa using hs.1
     rw[e]
     exact h j
   refine ak rfl (gW l L x w M cs [ll Cd.v (ah cs),.lst ((F++ls.map fun q=>(k+ai p q.1,k+ai p q.2,bR p lv (bl b) q)).map fW),.int ((k+(ah p).length:Nat):Int),fl aD p,.int (bi b),bif j.1 then fl Lv.v lv else ll Lv.v lv,ll iv S,j.2.1,j.2.2,.LZ,.LZ]) (fun K h=>ae (o:=iG (bb (S.map iv))) (a:=iv (k+(ah p).length)) ?_ h) (h (_,_,_) (_,_,_))
   have:S.getLast?=some (k+(ah p).length):=by rw[hS,bf,range'_1_concat];simp
   rw[dI this]
   rfl
  ·have e:j.1=(cI 0 (aN [] cs)).flatMap (fQ M w):=by have:=hs.1;rwa [EC,List.flatMap_nil,append_nil]at this
   have h:=h ((.int j.2.1,j.2.2.1.1,j.2.2.1.2.1,j.2.2.1.2.2),j.2.2.2.1,j.2.2.2.2.1,j.2.2.2.2.2)
   rw[←e]at h
   exact h
 have hlen:((cI 0 (aN [] cs)).flatMap (fQ M w)).length<12:=by
  have key:∀(ps:List (List Cl)) (k:Nat),((cI k ps).flatMap (fQ M w)).length<=ps.flatten.length:=by
   intro ps
   induction ps with
   | nil=>exact fun zz=>Nat.le_refl _
   | cons p ps ih=>
    intro k
    have:=ih (k+(ah p).length)
    have h1:=eF (p:=p) (M:=M) p.length 0
    show((fQ M w (k,p)::(cI (k+(ah p).length) ps).map (fQ M w)).flatten).length<=_
    rw[flatten_cons,length_append,flatten_cons,length_append]
    have e:(fQ M w (k,p)).length=(bo p M p.length 0).length:=length_map _
    rw[flatMap_def]at this
    exact(mG 0x10304004041204037302017100017) this h1 e
  have:=key (aN [] cs) 0
  rw[eG]at this
  exact lt_of_le_of_lt this (by simpa using hcs)
 have hleq:(cI 0 (aN [] cs)).flatMap (dW M w)=(cI 0 (aN [] cs)).flatMap (fQ M w):=by
  rw[flatMap_def,flatMap_def]
  exact congrArg flatten (map_congr_left fun x hx=>(h3 x hx).2)
 obtain⟨D,hD⟩:∃D,D=(cI 0 (aN [] cs)).flatMap (fQ M w):=⟨_,rfl⟩
 rw[←hD]at hlen hleq⊢
 refine ak rfl (gW l L x w M cs [fl Cd.v (ah cs),ll fW D,j.1.1,j.1.2.1,j.1.2.2.1,j.1.2.2.2,j.2.1,j.2.2.1,j.2.2.2,ll Cd.v (ah cs),.LZ]) (fun K h=>fV (mm Cd.vz (ah cs)) (fun A=>K .nxt (gW l L x w M cs [fl Cd.v (ah cs),ll fW D,j.1.1,j.1.2.1,j.1.2.2.1,j.1.2.2.2,j.2.1,j.2.2.1,j.2.2.2,.lst A,.LZ])) h) ?_
 refine ak rfl (gW l L x w M cs [fl Cd.v (ah cs),ll fW D,j.1.1,j.1.2.1,j.1.2.2.1,j.1.2.2.2,j.2.1,j.2.2.1,j.2.2.2,ll Cd.v (ah cs),fl eY D]) (fun K h=>?_) ?_
 ·refine G2 (fu hn) ?_
  refine Hx R (fu hn) (by exact(ba 0x3843200240220027) hfl) h1 h2 (fun x hx=>(h3 x hx).1) (by rw[hleq];exact(ba 0x38432002c10027) hlen) ?_
  rw[hleq]
  exact h
 refine fZ (σ:=PV) (L:=(D.map eY).map af) (l:=D) (g:=fun x=>.fz (eY x)) (by rw[map_map];rfl) (fun x=>.tup [.int x.1,.int x.2.1,.fz (.lst ((x.2.2.map Cd.v).map af))]) (R:=D.map fW) (map_congr_left fun x zz=>by rw[mm Cd.vz];rfl) (fun z=>[z,fl PV.int l,bn L x,w.v,.int M,fl aD cs,fl Cd.v (ah cs),ll fW D,j.1.1,j.1.2.1,j.1.2.2.1,j.1.2.2.2,j.2.1,j.2.2.1,j.2.2.2,ll Cd.v (ah cs),fl eY D]) .LZ (fun zz x=>.fz (eY x)) (by exact(ba 0x3e832002c10027) hlen) (fun y zz a z K h=>h) fun z=>?_
 refine av (b:=plain 8 (ll fW D)&&plain 8 (fl fW D)) (uk D).1 ?_
 refine bE (b:=eqv (ll fW D) (fl fW D)) (uk D).2 ?_
 refine av (b:=plain 8 (fl Cd.v (ah cs))&&plain 8 (fl Cd.v (ah cs))) (um _).1 ?_
 exact(congrArg (fun b=>Q (.bool b) .LZ) (um (ah cs)).2).mpr h
end
noncomputable def dL (b:Bool):Sd->Nat->List Sd->List Sd
 | u,n,[]=>replicate n (bP b u (ds b))
 | u,n,x::r=>if eS x then dL b u (n+1) r else replicate n (bP b u x)++x::dL b x 0 r
theorem gC {b:Bool} {u x:Sd} {n:Nat} {r:List Sd}:dL b u n (x::r)=if eS x then dL b u (n+1) r else replicate n (bP b u x)++x::dL b x 0 r:=rfl
theorem BK (b:Bool):eS (ds b)=false:=by rcases b with _|_<;>rfl
theorem vY {α:Type} (v:α) (r:List α):∀(N A:List α),j4 (A++N++r) A.length (A.length+N.length) v=A++replicate N.length v++r:=by
 have key:∀(n k:Nat) (N A:List α),N.length=n->(range' k n).foldl (fun l i=>l.set (A.length+i) v) (A++replicate k v++N++r)=A++replicate (k+n) v++r:=by
  intro n
  induction n with
  | zero=>
   intro k N A h
   cases length_eq_zero_iff.mp h
   simp
  | succ n ih=>
   intro k N A h
   obtain⟨y,N,rfl⟩:∃y N',N=y::N':=by cases N;cases h;exact⟨_,_,rfl⟩
   have e:(A++replicate k v++y::N++r).set (A.length+k) v=A++replicate (k+1) v++N++r:=by
    have:A.length+k=(A++replicate k v).length:=by simp
    rw[append_assoc (A++replicate k v),this,List.set_append_right _ _ (Nat.le_refl _),sub_self,List.replicate_succ']
    simp
   rw[range'_succ,foldl_cons,e,ih (k+1) N A (by simpa using h)]
   rw[show k+1+n=k+(n+1)by exact(az 0x11104004101100443)]
 intro N A
 have:=key N.length 0 N A rfl
 unfold j4
 rw[add_sub_cancel_left]
 simpa using this
theorem ri {α:Type} (D r:List α) (x d:α):(D++x::r).getD D.length d=x:=by simp[getD_eq_getElem?_getD]
noncomputable def zB (d:Nat) (β:Option Nat) (k:Nat) (r:List Sd):List (Nat×Nat):=dU Ew yB β (r.zipIdx k)++(((r.zipIdx k).foldl yB β).map fun k=>(k,d)).toList
theorem Cz {d k:Nat} {β:Option Nat} {x:Sd} {r:List Sd} (h:Ew β (x,k)=none):zB d β k (x::r)=zB d (yB β (x,k)) (k+1) r:=by
 unfold zB
 rw[List.zipIdx_cons,lU,h]
 rfl
theorem HV {d k:Nat} {β:Option Nat} {x:Sd} {r:List Sd} {y:Nat×Nat} (h:Ew β (x,k)=some y):zB d β k (x::r)=y::zB d (yB β (x,k)) (k+1) r:=by
 unfold zB
 rw[List.zipIdx_cons,lU,h]
 rfl
def Im (b:Bool) (d:List Sd) (L:List (Nat×Nat)) (A T:List Sd):Prop:=(∀q ∈ L,Cn b d q)∧L.foldl (l7 b d) A=T
def E8 (b:Bool) (d r:List Sd):Prop:=∀{D N A:List Sd} {u:Sd} {β:Option Nat},d=D++N++r->A.length=D.length->u=nP b d D.length->eS u=false->β=(if N.length=0 then none else some D.length) ->
 Im b d (zB d.length β (D.length+N.length) r) (A++N++r) (A++dL b u N.length r)
section
variable {b:Bool} {d D N A:List Sd} {u x:Sd} {r:List Sd}
theorem y5 {k:Nat} (hl:D.length<=k) (hk:k<=d.length) (hu:u=nP b d D.length) (hN:eS u=false) (hx:eS (rK b d k)=false):Cn b d (D.length,k):=
 ⟨hl,hk,by show eS (nP b d D.length)=false;rw[←hu];exact hN,hx⟩
theorem CA (hA:A.length=D.length) (hu:u=nP b d D.length) (hx:rK b d (D.length+N.length)=x):l7 b d (A++N++r) (D.length,D.length+N.length)=A++replicate N.length (bP b u x)++r:=by
 show j4 (A++N++r) D.length (D.length+N.length) (bP b (nP b d D.length) (rK b d (D.length+N.length)))=_
 rw[hx,←hu,←hA,vY]
theorem EI:E8 b d []:=fun{D N A u β} hd hA hu hN hβ=>by
 have hdl:d.length=D.length+N.length:=by rw[hd,append_nil,length_append]
 have ho:rK b d (D.length+N.length)=ds b:=if_neg (by rw[hdl];exact lt_irrefl _)
 by_cases c:N.length=0
 ·rw[if_pos c]at hβ
  cases hβ
  cases length_eq_zero_iff.mp c
  exact⟨fun q h=>(nomatch h),by rw[append_nil];rfl⟩
 ·rw[if_neg c]at hβ
  cases hβ
  refine⟨fun q h=>?_,?_⟩
  ·cases mem_singleton.mp h
   rw[hdl]
   exact y5 (le_add_right _ _) (Nat.le_of_eq hdl.symm) hu hN (by rw[ho];exact BK b)
  ·show l7 b d (A++N++[]) (D.length,d.length)=A++replicate N.length (bP b u (ds b))
   rw[hdl,CA hA hu ho,append_nil]
set_option tactic.hygienic true in
theorem KD (c:eS x=true) (ih:E8 b d r) (hd:d=D++N++x::r) (hA:A.length=D.length) (hu:u=nP b d D.length) (hN:eS u=false) {β:Option Nat} (hβ:β=(if N.length=0 then none else some D.length)):
  Im b d (zB d.length β (D.length+N.length) (x::r)) (A++N++x::r) (A++dL b u N.length (x::r)):=by
 have e1:Ew β (x,D.length+N.length)=none:=by
  cases β with
  | none=>rfl
  | some k=>exact if_pos c
 have e2:yB β (x,D.length+N.length)=some D.length:=by
  unfold yB
  rw[if_pos c,hβ]
  split
  ·rename_i h;rw[h];rfl
  ·rfl
 have e3:N++x::r=N++[x]++r:=by rw[append_assoc];rfl
 have nl:(N++[x]).length=N.length+1:=length_append
 have h:=ih (D:=D) (N:=N++[x]) (A:=A) (by rw[hd,append_assoc D,e3,append_assoc D]) hA hu hN (β:=some D.length) (by rw[nl];rfl)
 rw[nl,←Nat.add_assoc,append_assoc A,←e3,←append_assoc]at h
 rw[Cz e1,e2,gC,if_pos c]
 exact h
theorem KE (c:eS x=false) (ih:E8 b d r) (hd:d=D++N++x::r) (hA:A.length=D.length) (hu:u=nP b d D.length) (hN:eS u=false) {β:Option Nat} (hβ:β=(if N.length=0 then none else some D.length)) (hx:rK b d (D.length+N.length)=x) (hb':x=nP b d (D++N++[x]).length):
  Im b d (zB d.length β (D.length+N.length) (x::r)) (A++N++x::r) (A++dL b u N.length (x::r)):=by
 have c':¬eS x=true:=by rw[c];decide
 have e2:yB β (x,D.length+N.length)=none:=if_neg c'
 have el:(D++N++[x]).length=D.length+N.length+1:=by rw[length_append,length_append];rfl
 have h:=ih (D:=D++N++[x]) (N:=[]) (A:=A++replicate N.length (bP b u x)++[x]) (by rw[hd,append_nil,append_assoc _ [x]];rfl) (by rw[length_append,length_append,length_replicate,hA,el];rfl) hb' c (β:=none) rfl
 rw[el,append_nil,append_assoc _ [x],append_assoc _ [x],append_assoc A _ ([x]++dL _ _ _ _)]at h
 have h:Im b d (zB d.length none (D.length+N.length+1) r) (A++replicate N.length (bP b u x)++x::r) (A++(replicate N.length (bP b u x)++x::dL b x 0 r)):=h
 rw[gC,if_neg c']
 by_cases c2:N.length=0
 ·rw[if_pos c2]at hβ
  cases hβ
  cases length_eq_zero_iff.mp c2
  rw[Cz rfl,e2]
  rw[show A++replicate ([]:List Sd).length (bP b u x)=A++[]from rfl]at h
  exact h
 ·rw[if_neg c2]at hβ
  cases hβ
  have e1:Ew (some D.length) (x,D.length+N.length)=some (D.length,D.length+N.length):=if_neg c'
  rw[HV e1,e2]
  refine⟨fun q m=>?_,?_⟩
  ·cases m with
   | head=>exact y5 (le_add_right _ _) (by rw[hd,length_append,length_append];exact le_add_right _ _) hu hN (by rw[hx];exact c)
   | tail _ m=>exact h.1 q m
  ·show foldl (l7 b d) (l7 b d (A++N++x::r) (D.length,D.length+N.length)) _=_
   rw[CA hA hu hx]
   exact h.2
theorem BL (ih:E8 b d r):E8 b d (x::r):=fun{D N A u β} hd hA hu hN hβ=>by
 have hx:rK b d (D.length+N.length)=x:=by
  have e:d.getD (D.length+N.length) .L=x:=by
   rw[hd,←length_append]
   exact ri _ _ _ _
  unfold rK
  rw[e,if_pos (by rw[hd,length_append,length_append];exact Nat.lt_add_of_pos_right (succ_pos _))]
 have hb':x=nP b d (D++N++[x]).length:=by
  have e:(D++N++[x]).length=(D++N).length+1:=length_append
  unfold nP
  rw[e,if_pos (succ_pos _),add_sub_cancel,hd,ri]
 cases c:eS x with
 | true=>exact KD c ih hd hA hu hN hβ
 | false=>exact KE c ih hd hA hu hN hβ hx hb'
end
theorem rj (b:Bool) (d:List Sd):∀r:List Sd,E8 b d r
 | []=>EI
 | _::r=>BL (rj b d r)
theorem nZ (b:Bool) (d:List Sd):(∀q ∈ jx d,Cn b d q)∧He b d=dL b (ds b) 0 d:=by
 have:=rj b d d (D:=[]) (N:=[]) (A:=[]) (u:=ds b) (β:=none) rfl rfl rfl (BK b) rfl
 exact⟨this.1,this.2⟩
theorem BM:l8:=fun b d=>(nZ b d).1
section
noncomputable def Cl.sd:Cl->Sd
 | .sp=>.WS
 | .lf=>.B
 | .ra=>.R
 | .rb=>.R
 | .ram=>.R
 | .rbm=>.R
 | _=>.L
noncomputable def eH {α:Type}:List Cl->List α->List α
 | c::p,x::r=>replicate c.codes.length x++eH p r
 | _,_=>[]
theorem CB {α:Type} {x:List α}:eH [] x=[]:=rfl
theorem uo {α:Type}:∀{pp:List Cl} {ys:List α} (p:List Cl) (xs:List α),pp.length=ys.length->eH (pp++p) (ys++xs)=eH pp ys++eH p xs
 | [],[],_,_,_=>rfl
 | c::pp,y::ys,p,xs,h=>by
  show replicate _ y++eH (pp++p) (ys++xs)=(replicate _ y++eH pp ys)++_
  rw[uo p xs (Nat.succ.inj h),append_assoc]
theorem pF {α:Type} (v:α):∀pp:List Cl,eH pp (replicate pp.length v)=replicate (ah pp).length v
 | []=>rfl
 | c::pp=>by
  show replicate c.codes.length v++eH pp (replicate pp.length v)=_
  rw[pF v pp,List.replicate_append_replicate,aT,length_append]
theorem uq {α β:Type} (f:α->β):∀(p:List Cl) (xs:List α),(eH p xs).map f=eH p (xs.map f)
 | [],_=>rfl
 | _::_,[]=>rfl
 | c::p,x::xs=>by
  show(replicate c.codes.length x++eH p xs).map f=_
  rw[map_append,List.map_replicate,uq f p xs]
  rfl
theorem rk:∀(p:List Cl) (u:Sd),cY u ((ah p).map Cd.bc)=eH p (p.map Cl.sd)
 | [],_=>rfl
 | c::p,u=>by
  have ih:=rk p
  rw[aT,map_append]
  rcases c with _|_<;>first
   | exact congrArg (fun l=>_::l) (ih _)
   | exact congrArg (fun l=>_::_::l) (ih _)
theorem pG (c:Cl):∃k,c.codes.length=k+1:=by rcases c with _|_<;>exact⟨_,rfl⟩
variable {b:Bool}
theorem y6 {u x:Sd} {R:List Sd} (h:eS x=true):∀(n s:Nat),dL b u s (replicate n x++R)=dL b u (s+n) R
 | 0,_=>rfl
 | n+1,s=>by
  show dL b u s (x::(replicate n x++R))=_
  rw[gC]
  rw[if_pos h,y6 h n,show s+1+n=s+(n+1)by exact(az 0x11104004101100443)]
theorem y7 {x:Sd} {R:List Sd} (h:eS x=false):∀n:Nat,dL b x 0 (replicate n x++R)=replicate n x++dL b x 0 R
 | 0=>rfl
 | n+1=>by
  show dL b x 0 (x::(replicate n x++R))=x::(replicate n x++dL b x 0 R)
  rw[gC,if_neg (by rw[h];decide),y7 h n]
  rfl
theorem pH:∀(p:List Cl) (xs:List Sd) (pp:List Cl) (u:Sd),p.length=xs.length->dL b u (ah pp).length (eH p xs)=eH (pp++p) (dL b u pp.length xs)
 | [],[],pp,u,_=>by
  rw[append_nil]
  exact(pF _ pp).symm
 | c::p,x::xs,pp,u,h=>by
  have h:=Nat.succ.inj h
  show dL b u _ (replicate c.codes.length x++eH p xs)=_
  cases hx:eS x with
  | true=>
   have ih:=pH p xs (pp++[c]) u h
   have e:(ah (pp++[c])).length=(ah pp).length+c.codes.length:=by simp[ah]
   rw[y6 hx,←e,ih,append_assoc,length_append]
   conv=>rhs;rw[gC]
   rw[if_pos hx]
   rfl
  | false=>
   have ih:=pH p xs [] x h
   obtain⟨k,hk⟩:=pG c
   conv=>rhs;rw[gC]
   rw[if_neg (by rw[hx];decide),uo _ _ (by simp),pF]
   show _=_++(replicate c.codes.length x++eH p _)
   rw[hk]
   show dL b u _ (x::(replicate k x++eH p xs))=_
   rw[gC,if_neg (by rw[hx];decide),y7 hx]
   exact congrArg (fun l=>_++x::(replicate k x++l)) ih
noncomputable def eZ (b:Bool):List Sd->Sd
 | []=>ds b
 | x::r=>if eS x then eZ b r else x
theorem mq {b:Bool} {x:Sd} {r:List Sd}:eZ b (x::r)=if eS x then eZ b r else x:=rfl
noncomputable def i0 (b:Bool):Sd->List Sd->List Sd
 | _,[]=>[]
 | u,x::r=>bP b (if eS x then u else x) (eZ b (x::r))::i0 b (if eS x then u else x) r
theorem ur {b:Bool} {u x:Sd} {r:List Sd}:i0 b u (x::r)=bP b (if eS x then u else x) (eZ b (x::r))::i0 b (if eS x then u else x) r:=rfl
theorem vZ {x:Sd} (h:eS x=false):bP b x x=x:=by rcases x with _|_<;>first|rfl|cases h
theorem jD:∀(r:List Sd) (u:Sd) (n:Nat),dL b u n r=replicate n (bP b u (eZ b r))++i0 b u r
 | [],_,_=>(append_nil _).symm
 | x::r,u,n=>by
  rw[gC,ur,mq]
  cases h:eS x with
  | true=>
   rw[if_pos rfl,if_pos rfl,if_pos rfl,jD r,List.replicate_succ',append_assoc]
   rfl
  | false=>
   rw[if_neg (by decide),if_neg (by decide),if_neg (by decide),jD r,vZ h]
   rfl
theorem ut (b:Bool):∀r,eS (eZ b r)=false
 | []=>BK b
 | x::r=>by
  rw[mq]
  cases h:eS x with
  | true=>rw[if_pos rfl];exact ut b r
  | false=>rw[if_neg (by decide)];exact h
theorem EJ {u f:Sd} (hu:eS u=false) (hf:eS f=false):(if aM u.k.s f.k.s then u.k else(ds b).k)=(bP b u f).k:=by
 rcases u with _|_<;>rcases f with _|_<;>first|rfl|cases hu|cases hf
theorem HW (c:Cl):c.k=c.sd.k:=by rcases c with _|_<;>rfl
theorem HX (c:Cl):re c.k=!eS c.sd:=by rcases c with _|_<;>rfl
theorem oa (c:Cl) (p:List Cl):f6 (c::p)=if eS c.sd then f6 p else c.k::f6 p:=by
 unfold f6
 rw[filter_cons,HX]
 cases eS c.sd<;>rfl
theorem og:∀p:List Cl,(f6 p).head?.getD (ds b).k=(eZ b (p.map Cl.sd)).k
 | []=>rfl
 | c::p=>by
  rw[oa,map_cons,mq]
  cases h:eS c.sd with
  | true=>rw[if_pos rfl,if_pos rfl];exact og p
  | false=>rw[if_neg (by decide),if_neg (by decide)];exact HW c
theorem rn:∀(r pre:List Cl) (u:Sd),eS u=false->u.k=(f6 pre).getLast?.getD (ds b).k->(range' pre.length r.length).map (eD (pre++r) b)=(i0 b u (r.map Cl.sd)).map Sd.k
 | [],_,_,_,_=>rfl
 | c::r,pre,u,hu,hk=>by
  have e1:pre++c::r=(pre++[c])++r:=by simp
  have e2:(pre++[c]).length=pre.length+1:=length_append
  have hn:cU (pre++c::r) b pre.length=(if eS c.sd then u else c.sd).k:=by
   unfold cU
   rw[e1,←e2,take_left']
   ·unfold f6
    rw[filter_append,map_append,filter_cons,HX]
    cases h:eS c.sd with
    | true=>rw[if_neg (by decide),if_pos rfl,hk];simp[f6]
    | false=>rw[if_pos (by decide),if_neg (by decide),←HW];simp
   ·rfl
  have hf:jA (pre++c::r) b pre.length=(eZ b ((c::r).map Cl.sd)).k:=by
   unfold jA
   rw[List.drop_left']
   ·exact og _
   ·rfl
  have hu':eS (if eS c.sd then u else c.sd)=false:=by
   cases h:eS c.sd with
   | true=>exact hu
   | false=>exact h
  have ih:=rn r (pre++[c]) (if eS c.sd then u else c.sd) hu' (by
   rw[←hn]
   unfold cU
   rw[e1,←e2,take_left' rfl])
  rw[←e1,e2]at ih
  show eD _ b pre.length::(range' (pre.length+1) r.length).map _=_
  rw[ih]
  refine congrArg (·::_) ?_
  unfold eD
  rw[hn,hf]
  exact EJ hu' (ut b _)
theorem CC:∀(r:List Sd) (u:Sd),((i0 b u r).map Sd.k).map (BF b)=(i0 b u r).map (imp b)
 | [],_=>rfl
 | x::r,u=>by
  rw[ur]
  rw[map_cons,map_cons,map_cons,CC r]
  refine congrArg (·::_) ?_
  generalize (if eS x=true then u else x)=y
  generalize eZ b (x::r)=z
  rcases b with _|_<;>rcases y with _|_<;>rcases z with _|_<;>rfl
theorem EK (p:List Cl) (b:Bool):nR b ((ah p).map Cd.bc)=eH p (eM p b):=by
 have h1:=pH (b:=b) p (p.map Cl.sd) [] (ds b) (by simp)
 have h2:=rn (b:=b) p [] (ds b) (BK b) rfl
 have h3:=jD (b:=b) (p.map Cl.sd) (ds b) 0
 have h1:dL b (ds b) 0 (eH p (p.map Cl.sd))=eH p (dL b (ds b) 0 (p.map Cl.sd)):=h1
 have h2:(range' 0 p.length).map (eD p b)=(i0 b (ds b) (p.map Cl.sd)).map Sd.k:=h2
 have h3:dL b (ds b) 0 (p.map Cl.sd)=i0 b (ds b) (p.map Cl.sd):=h3
 unfold nR eM
 rw[rk,(nZ b _).2,h1,uq,h3,h2,CC]
def rN:List Cl->Prop
 | []=>True
 | c::r=>(c.isLf=true->r=[])∧rN r
theorem uu:∀{p:List Cl},rN p->∀w,pO ((ah p).map Cd.bc) w=pD p w:=by
 have key:∀p:List Cl,rN p->(fst ((ah p).map Cd.bc)==some true)=(match f6 p with
   | []=>false
   | k::_=>kR k):=by
  intro p
  induction p with
  | nil=>exact fun zz=>rfl
  | cons c r ih=>
   intro h
   rw[aT,map_append,oa]
   cases c
   case sp=>exact ih h.2
   case lf=>rw[h.1 rfl];rfl
   all_goals rfl
 intro p h w
 cases w
 ·exact key p h
 ·rfl
 ·rfl
end
section
variable {b:Bool} {p:List Cl}
noncomputable def tl (b:Bool):List Kd->List Lv->List Lv×Bool
 | k::ks,l::ls=>((if up (tl b ks ls).2 k then bl b else l)::(tl b ks ls).1,up (tl b ks ls).2 k)
 | _,_=>([],true)
theorem v4 {b:Bool} {k:Kd} {ks:List Kd} {l:Lv} {ls:List Lv}:tl b (k::ks) (l::ls)=((if up (tl b ks ls).2 k then bl b else l)::(tl b ks ls).1,up (tl b ks ls).2 k):=rfl
theorem EL {α:Type} {A B:List α} {x y:α} {i:Nat} (h:i=A.length):(A++x::B).set i y=A++y::B:=by
 rw[h,List.set_append_right _ _ (Nat.le_refl _),sub_self]
 rfl
theorem gP {α:Type} {l:List α} {i:Nat} (d:α) (h:i<l.length):l.take (i+1)=l.take i++[l.getD i d]:=by
 rw[List.take_add_one,aF d h]
 rfl
theorem uv {α:Type} {l:List α} {i:Nat} (d:α) (h:i<l.length):l.drop i=l.getD i d::l.drop (i+1):=by
 rw[List.drop_eq_getElem_cons h,getD_eq_getElem?_getD,List.getElem?_eq_getElem h]
 rfl
theorem iA {α:Type} (l:List α) (d:α) {i j m:Nat} (h:i+m<j):((l.take j).drop i).getD m d=l.getD (i+m) d:=by
 rw[getD_eq_getElem?_getD,getD_eq_getElem?_getD,getElem?_drop,List.getElem?_take_of_lt h]
theorem gQ {α:Type} {l:List α} {i j:Nat} (h:j<=l.length):((l.take j).drop i).length=j-i:=by simp;exact(aQ 0x20005201000653100017) h
theorem y8 {lv:List Lv} {kd:List Kd} {i j:Nat} (hij:i<=j) (h1:j<=lv.length) (h2:j<=kd.length):eC lv kd i j b=(tl b ((kd.take j).drop i) ((lv.take j).drop i)).1:=by
 have key:∀q n,q+n=j-i->(range' 0 q).foldl (zt kd i j b) ((lv.take j).drop i,true)=(((lv.take j).drop i).take n++(tl b (((kd.take j).drop i).drop n) (((lv.take j).drop i).drop n)).1,(tl b (((kd.take j).drop i).drop n) (((lv.take j).drop i).drop n)).2):=by
  have l1:=gQ (i:=i) h1
  have l2:=gQ (i:=i) h2
  intro q
  induction q with
  | zero=>
   intro n hn
   have a1:((lv.take j).drop i).take n=(lv.take j).drop i:=take_of_length_le (by exact(b6 0x30001201053001437201050037) l1 hn)
   have a2:((kd.take j).drop i).drop n=[]:=drop_of_length_le (by exact(b6 0x30001201053001437201050037) l2 hn)
   rw[a1,a2]
   show _=(_++[],true)
   rw[append_nil]
   rfl
  | succ q ih=>
   intro n hn
   rw[range'_1_concat,List.foldl_append,ih (n+1) (by exact(b6 0x30205111040043302051011004437) hn)]
   have ek:kd.getD (j-1-(0+q)) .L=((kd.take j).drop i).getD n .L:=by
    rw[iA _ _ (by exact(b6 0x20103042302051011004437) hn)]
    exact congrArg (fun x=>kd.getD x .L) (by exact(b6 0x10304000141120553302051011004437) hn)
   have d1:=uv .L (l:=(kd.take j).drop i) (i:=n) (by exact(mG 0x402201054011304437201050037) l2 hn)
   have d2:=uv .l0 (l:=(lv.take j).drop i) (i:=n) (by exact(mG 0x402201054011304437201050037) l1 hn)
   rw[d1,d2,v4,gP .l0 (by exact(mG 0x402201054011304437201050037) l1 hn)]
   show zt kd i j b _ (0+q)=_
   unfold zt
   rw[ek]
   generalize ((kd.take j).drop i).getD n .L=k
   rw[show(((lv.take j).drop i).take n++[((lv.take j).drop i).getD n .l0]++(tl b (((kd.take j).drop i).drop (n+1)) (((lv.take j).drop i).drop (n+1))).1)=((lv.take j).drop i).take n++((lv.take j).drop i).getD n .l0::(tl b (((kd.take j).drop i).drop (n+1)) (((lv.take j).drop i).drop (n+1))).1 by simp]
   rw[EL (by rw[length_take,l1];exact(b6 0x30205106300001411205553302051011004437) hn)]
   cases up (tl b (((kd.take j).drop i).drop (n+1)) (((lv.take j).drop i).drop (n+1))).2 k<;>rfl
 have:=key (j-i) 0 rfl
 unfold eC
 rw[this]
 rfl
theorem bI (c:Cl) (p:List Cl) (e:Nat):ai (c::p) (e+1)=c.codes.length+ai p e:=by
 unfold ai
 rw[List.take_succ_cons,map_cons,sum_cons]
theorem jE {s e:Nat} (h:s<=e):ai (p.take e) s=ai p s:=by
 unfold ai
 rw[take_take,Nat.min_eq_left h]
theorem fx:∀(p:List Cl) (e:Nat),(ah p).take (ai p e)=ah (p.take e)
 | [],e=>by simp[ah]
 | c::p,0=>rfl
 | c::p,e+1=>by
  rw[bI,aT,List.take_append,add_sub_cancel_left,take_of_length_le (le_add_right _ _),fx p e,List.take_succ_cons,aT]
theorem jF:∀(p:List Cl) (e:Nat),(ah p).drop (ai p e)=ah (p.drop e)
 | [],e=>by simp[ah]
 | c::p,0=>rfl
 | c::p,e+1=>by
  rw[bI,aT,List.drop_append,add_sub_cancel_left,drop_of_length_le (le_add_right _ _),jF p e]
  rfl
theorem ro {α:Type}:∀(p:List Cl) (xs:List α) (e:Nat),p.length=xs.length->(eH p xs).take (ai p e)=eH (p.take e) (xs.take e)
 | [],[],e,_=>by simp[CB]
 | c::p,x::xs,0,_=>rfl
 | c::p,x::xs,e+1,h=>by
  show(replicate c.codes.length x++eH p xs).take _=replicate c.codes.length x++eH (p.take e) (xs.take e)
  rw[bI,List.take_append,length_replicate,add_sub_cancel_left,take_of_length_le (by simp),ro p xs e (Nat.succ.inj h)]
theorem rp {α:Type}:∀(p:List Cl) (xs:List α) (e:Nat),p.length=xs.length->(eH p xs).drop (ai p e)=eH (p.drop e) (xs.drop e)
 | [],[],e,_=>by simp[CB]
 | c::p,x::xs,0,_=>rfl
 | c::p,x::xs,e+1,h=>by
  show(replicate c.codes.length x++eH p xs).drop _=eH (p.drop e) (xs.drop e)
  rw[bI,List.drop_append,length_replicate,add_sub_cancel_left,drop_of_length_le (by simp),rp p xs e (Nat.succ.inj h)]
  rfl
theorem pI {α:Type}:∀(p:List Cl) (xs:List α),p.length=xs.length->(eH p xs).length=(ah p).length
 | [],[],_=>rfl
 | c::p,x::xs,h=>by
  show(replicate c.codes.length x++eH p xs).length=_
  rw[aT,length_append,length_append,length_replicate,pI p xs (Nat.succ.inj h)]
theorem CD:∀(p:List Cl) (xs:List Lv),p.length=xs.length->tl b ((ah p).map Cd.bc) (eH p xs)=(eH p (tl b (p.map Cl.k) xs).1,(tl b (p.map Cl.k) xs).2)
 | [],[],_=>rfl
 | c::p,x::xs,h=>by
  have ih:=CD p xs (Nat.succ.inj h)
  rw[aT,map_append]
  show tl b _ (replicate c.codes.length x++eH p xs)=_
  generalize hT:tl b (p.map Cl.k) xs=T at ih
  have e:tl b ((c::p).map Cl.k) (x::xs)=((if up T.2 c.k then bl b else x)::T.1,up T.2 c.k):=by rw[←hT];rfl
  rw[e]
  cases c
  case am|bm|ram|rbm|wm=>
   show tl b (_::_::((ah p).map Cd.bc)) (x::x::eH p xs)=_
   rw[v4,v4,ih]
   rfl
  all_goals
   show tl b (_::((ah p).map Cd.bc)) (x::eH p xs)=_
   rw[v4,ih]
   rfl
theorem HY {k:Kd} {l:Lv} (hk:up true k=false):∀(ks:List Kd) (ls:List Lv),ks.length=ls.length->(∀x ∈ ks,up false x=false)->tl b (ks++[k]) (ls++[l])=(ls++[l],false)
 | [],[],_,_=>by show([if up true k then bl b else l],up true k)=_;rw[hk];rfl
 | x::ks,y::ls,h,hx=>by
  show tl b (x::(ks++[k])) (y::(ls++[l]))=_
  rw[v4,HY hk ks ls (Nat.succ.inj h) fun z hz=>hx z (mem_cons_of_mem _ hz),hx x mem_cons_self]
  rfl
theorem HZ {k:Kd} {l:Lv} (hk:up true k=true):∀(ks:List Kd) (ls:List Lv),ks.length=ls.length->tl b (ks++[k]) (ls++[l])=((tl b ks ls).1++[bl b],(tl b ks ls).2)
 | [],[],_=>by show([if up true k then bl b else l],up true k)=_;rw[hk];rfl
 | x::ks,y::ls,h=>by
  show tl b (x::(ks++[k])) (y::(ls++[l]))=_
  rw[v4,HZ hk ks ls (Nat.succ.inj h)]
  rfl
theorem mr:∀{p:List Cl},rN p->∀e,e<p.length->∀c ∈ p.take e,c.isLf=false
 | [],_,_,h,_,_=>absurd h (not_lt_zero _)
 | _::_,_,0,_,_,hc=>nomatch hc
 | x::p,h,e+1,he,c,hc=>by
  have he:=lt_of_succ_lt_succ he
  cases hc with
  | head=>
   cases q:x.isLf with
   | false=>rfl
   | true=>rw[h.1 q]at he;exact absurd he (not_lt_zero _)
  | tail _ hc=>exact mr h.2 e he c hc
theorem rq (c:Cl):up true c.k=cg c.u:=by rcases c with _|_<;>rfl
theorem H3 (c:Cl):up false c.k=c.isLf:=by rcases c with _|_<;>rfl
theorem rs (B:Lv) (s:Nat):∀e l,(eN p B s e l).drop e=l.drop e
 | 0,_=>rfl
 | e+1,l=>by
  rw[iy]
  split
  ·have:=congrArg (List.drop 1) (rs B s e (l.set e B))
   rw[drop_drop,drop_drop]at this
   rw[this,List.drop_set_of_lt (by exact(ba 0x11004002))]
  ·rfl
theorem y9 (hp:rN p) (s:Nat):∀(e:Nat) (l:List Lv),s<=e->e<=p.length->p.length=l.length->((eN p (bl b) s e l).take e).drop s=(tl b (((p.take e).drop s).map Cl.k) ((l.take e).drop s)).1
 | 0,l,h,_,_=>by
  cases le_zero.mp h
  rfl
 | e+1,l,h,he,hl=>by
  by_cases c:s<e+1
  ·have ih:=y9 hp s e (l.set e (bl b)) (by exact(az 0x10001111040027) c) (by exact(az 0x10001101100417) he) (by rw[length_set];exact hl)
   have t1:(p.take (e+1)).drop s=(p.take e).drop s++[cl p e]:=by
    rw[gP .a (by exact(az 0x10002101100417) he),List.drop_append_of_le_length (by simp;exact(aQ 0x10006201110042027101100417) he c)]
    rfl
   have t2:(l.take (e+1)).drop s=(l.take e).drop s++[l.getD e .l0]:=by rw[gP .l0 (by exact(aQ 0x20002201037101100417) he hl),List.drop_append_of_le_length (by simp;exact(b6 0x20006301110043027201037101100417) he hl c)]
   have hlen:(((p.take e).drop s).map Cl.k).length=((l.take e).drop s).length:=by simp;exact(b6 0x30102065300020653100037) hl
   rw[t1,t2,map_append]
   show _=(tl b (_++[(cl p e).k]) _).1
   rw[iy]
   cases q:cg (cl p e).u with
   | true=>
    rw[if_pos ⟨c,rfl⟩,HZ ((rq _).trans q) _ _ hlen]
    rw[List.take_set_of_le (Nat.le_refl _)]at ih
    rw[←ih]
    have hb:(eN p (bl b) s e (l.set e (bl b))).getD e .l0=bl b:=by
     have:=congrArg (fun l:List Lv=>l.getD 0 .l0) (rs (p:=p) (bl b) s e (l.set e (bl b)))
     simp only[getD_eq_getElem?_getD,getElem?_drop,Nat.add_zero]at this
     rw[getD_eq_getElem?_getD,this,List.getElem?_set_self (by exact(aQ 0x20002201037101100417) he hl)]
     rfl
    have hol:(eN p (bl b) s e (l.set e (bl b))).length=l.length:=by rw[iZ,length_set]
    rw[gP .l0 (by exact(b6 0x30002203037201037101100417) he hl hol),List.drop_append_of_le_length (by rw[length_take];exact(mG 0x40006301204037110043027201037101100417) he hl c hol),hb]
   | false=>
    have hno:∀x ∈ ((p.take e).drop s).map Cl.k,up false x=false:=fun x hx=>by
     obtain⟨y,hy,rfl⟩:=mem_map.mp hx
     rw[H3]
     exact mr hp e (by exact(az 0x10002101100417) he) y (List.mem_of_mem_drop hy)
    rw[if_neg (fun h=>nomatch h.2),HY ((rq _).trans q) _ _ hlen hno,t2]
  ·have:s=e+1:=by exact(az 0x1110400301110400277111040017) h c
   subst this
   rw[drop_of_length_le (by simp;exact(az 0x11004101100461)),drop_of_length_le (by simp;exact(az 0x11004101100461))]
   rfl
theorem zb (hp:rN p) {l:List Lv} {q:Nat×Nat} (hq:q.1<=q.2∧q.2<=p.length) (hl:p.length=l.length):eC (eH p l) ((ah p).map Cd.bc) (ai p q.1) (ai p q.2) b=eH ((p.take q.2).drop q.1) (((eN p (bl b) q.1 q.2 l).take q.2).drop q.1):=by
 have hs:ai p q.1<=ai p q.2:=by
  have:=congrArg length (fx (p.take q.2) q.1)
  rw[jE hq.1,length_take,take_take,Nat.min_eq_left hq.1]at this
  have h2:(ah (p.take q.2)).length=ai p q.2:=by rw[bf,ai,length_take,Nat.min_eq_left hq.2,take_take,Nat.min_self];rfl
  have h1:(ah (p.take q.1)).length=ai p q.1:=by rw[bf,ai,length_take,Nat.min_eq_left (by exact(aQ 0x20001201011000187) hq),take_take,Nat.min_self];rfl
  exact(b6 0x30001002037301037201000637) this h2 h1
 have hf:ai p q.2<=(ah p).length:=by
  have h2:=congrArg length (fx p q.2)
  have h3:(ah (p.take q.2)).length=ai p q.2:=by rw[bf,ai,length_take,Nat.min_eq_left hq.2,take_take,Nat.min_self];rfl
  rw[length_take]at h2
  exact(aQ 0x10001002037201000637) h2 h3
 rw[y8 hs (by rw[pI p l hl];exact hf) (by rw[length_map];exact hf),←map_take,←map_drop,fx,ro p l _ hl,←jE hq.1,jF,rp _ _ _ (by simp;exact(aQ 0x10206002063100037) hl),CD _ _ (by simp;exact(b6 0x30102065300020653100037) hl),y9 hp _ _ _ hq.1 hq.2 hl]
end
section
theorem gR {P:Nat->Bool}:∀{l:List Nat},(∀x ∈ l,P x=false)->aO P [] l=l
 | [],_=>rfl
 | x::l,h=>by
  rw[cn]
  rw[if_neg (by rw[h x mem_cons_self];decide),gR fun y hy=>h y (mem_cons_of_mem _ hy)]
  rfl
theorem gD {P:Nat->Bool}:∀{l:List Nat} (R:List Nat),(∀x ∈ l,P x=true)->aO P R l=l.reverse++R
 | [],_,_=>rfl
 | x::l,R,h=>by
  rw[cn]
  rw[if_pos (h x mem_cons_self),gD _ fun y hy=>h y (mem_cons_of_mem _ hy)]
  simp
theorem mt {P:Nat->Bool} (l:List Nat):∀(f R:List Nat),(∀y ∈ f,P y=true)->aO P R (f++l)=aO P (f.reverse++R) l
 | [],_,_=>rfl
 | y::f,R,h=>by
  show aO P R (y::(f++l))=_
  rw[cn,if_pos (h y mem_cons_self),mt l f _ fun z hz=>h z (mem_cons_of_mem _ hz)]
  simp
theorem ru {P:Nat->Bool} (l:List Nat):∀(f R:List Nat),f≠[]->(∀y ∈ f,P y=false)->aO P R (f++l)=R++f++aO P [] l
 | [],_,h,_=>absurd rfl h
 | [y],R,_,h=>by
  show aO P R (y::l)=_
  rw[cn,if_neg (by rw[h y mem_cons_self];decide)]
  simp
 | y::z::f,R,_,h=>by
  show aO P R (y::(z::f++l))=_
  rw[cn,if_neg (by rw[h y mem_cons_self];decide),ru l (z::f) [] (cons_ne_nil _ _) fun x hx=>h x (mem_cons_of_mem _ hx)]
  simp
theorem sY {p:Nat->Bool} {f:Nat->List Nat}:∀R:List Nat,(∀x ∈ R,p x=true)->(R.flatMap fun x=>(f x).reverse)=R.flatMap fun x=>if p x then(f x).reverse else f x
 | [],_=>rfl
 | x::R,h=>by rw[flatMap_cons,flatMap_cons,if_pos (h x mem_cons_self),sY R fun y hy=>h y (mem_cons_of_mem _ hy)]
theorem kF {P p:Nat->Bool} {f:Nat->List Nat}:∀(l R:List Nat),(∀x ∈ l,f x≠[]∧∀y ∈ f x,P y=p x)->(∀x ∈ R,p x=true)->aO P (R.flatMap fun x=>(f x).reverse) (l.flatMap f)=(aO p R l).flatMap fun x=>if p x then(f x).reverse else f x
 | [],R,_,hR=>sY R hR
 | x::l,R,h,hR=>by
  have hx:=h x mem_cons_self
  have hl:=fun y hy=>h y (mem_cons_of_mem x hy)
  rw[flatMap_cons,cn]
  cases c:p x with
  | true=>
   rw[c]at hx
   rw[if_pos rfl,mt _ _ _ hx.2]
   exact kF l (x::R) hl fun y hy=>by
    cases hy with
    | head=>exact c
    | tail _ hy=>exact hR y hy
  | false=>
   rw[c]at hx
   have ih:=kF l [] hl fun y hy=>nomatch hy
   rw[if_neg (by decide),ru _ _ _ hx.1 hx.2,List.flatMap_append,flatMap_cons,if_neg (by rw[c];decide),←ih]
   rw[←sY R hR,append_assoc]
   rfl
theorem jG {F:List Nat->List Nat} (hF:∀q,F q=q) (g:Nat->Bool):∀(o pc:List Nat),(mh F g pc o).flatten=pc++o∧(mh F g pc o).reverse.flatten=(aO g pc.reverse o).reverse
 | [],pc=>by
  cases pc with
  | nil=>exact⟨rfl,rfl⟩
  | cons y q=>
   show[F (y::q)].flatten=_∧[F (y::q)].flatten=((y::q).reverse).reverse
   rw[hF]
   simp
 | x::r,pc=>by
  rw[yY,cn]
  cases c:g x with
  | true=>
   have ih:=jG hF g r (pc++[x])
   rw[if_pos rfl,if_pos rfl,ih.1,ih.2]
   simp
  | false=>
   have ih:=jG hF g r []
   have hp:(gV F pc).flatten=pc∧(gV F pc).reverse.flatten=pc:=by
    cases pc with
    | nil=>exact⟨rfl,rfl⟩
    | cons y q=>show[F (y::q)].flatten=_∧[F (y::q)].flatten=_;rw[hF];simp
   rw[if_neg (by decide),if_neg (by decide)]
   constructor
   ·rw[flatten_append,flatten_cons,hp.1,ih.1];simp
   ·rw[List.reverse_append,flatten_append,hp.2,reverse_cons,flatten_append,ih.2];simp
theorem uw {F:List Nat->List Nat} {g1 g2:Nat->Bool} (hF:∀q,F q=(aO g2 [] q).reverse) (pc S R:List Nat) (h:∀l,aO g2 [] (pc++l)=S++aO g2 R l) (hR:∀x ∈ R,g1 x=true) (h0:pc=[]->S++R=[]):(gV F pc).flatten=aO g1 S.reverse R:=by
 have e:(gV F pc).flatten=(S++R).reverse:=by
  cases pc with
  | nil=>rw[h0 rfl];rfl
  | cons y q=>
   have:=h []
   rw[append_nil]at this
   show F (y::q)++[]=_
   rw[append_nil,hF,this]
   rfl
 rw[e,gD _ hR,List.reverse_append]
theorem i6 {F:List Nat->List Nat} {g1 g2:Nat->Bool} (hF:∀q,F q=(aO g2 [] q).reverse) (hg:∀x,g2 x=true->g1 x=true):∀(o pc S R:List Nat),(∀l,aO g2 [] (pc++l)=S++aO g2 R l)->(∀x ∈ R,g1 x=true)->(pc=[]->S++R=[])->(mh F g1 pc o).flatten=aO g1 S.reverse (aO g2 R o)
 | [],pc,S,R,h,hR,h0=>uw hF pc S R h hR h0
 | x::r,pc,S,R,h,hR,h0=>by
  have hx (l:List Nat):aO g2 [] (pc++[x]++l)=S++aO g2 R (x::l):=by rw[append_assoc];exact h _
  rw[yY]
  cases c2:g2 x with
  | true=>
   have e (l:List Nat):aO g2 R (x::l)=aO g2 (x::R) l:=by rw[cn,if_pos c2]
   rw[if_pos (hg x c2),e]
   exact i6 hF hg r (pc++[x]) S (x::R) (fun l=>by rw[hx,e]) (fun y hy=>by
    cases hy with
    | head=>exact hg x c2
    | tail _ hy=>exact hR y hy) fun h=>absurd (congrArg length h) (by simp)
  | false=>
   have e (l:List Nat):aO g2 R (x::l)=R++x::aO g2 [] l:=by rw[cn,if_neg (by rw[c2];decide)]
   rw[e,mt _ _ _ hR]
   cases c1:g1 x with
   | true=>
    have ih:=i6 hF hg r (pc++[x]) (S++R++[x]) [] (fun l=>by rw[hx,e];simp) (fun y hy=>nomatch hy) fun h=>absurd (congrArg length h) (by simp)
    rw[if_pos rfl,ih]
    conv=>rhs;rw[cn]
    rw[if_pos c1]
    simp
   | false=>
    have ih:=i6 hF hg r [] [] [] (fun l=>rfl) (fun y hy=>nomatch hy) fun zz=>rfl
    have hn:=uw hF pc S R h hR h0
    rw[gD _ hR]at hn
    conv=>rhs;rw[cn]
    rw[if_neg (by decide),if_neg (by rw[c1];decide),flatten_append,hn,flatten_cons,ih]
    rfl
variable {own LL:List Lv} {tt:List Cd} {o:List Nat} {f:Nat->List Nat}
theorem La:iE own 1=f9 own .l2:=funext fun x=>decide_eq_decide.mpr (by show(1:Int)<_↔(2:Int)<=_;lia)
theorem LV:iE own 0=f9 own .l1:=funext fun x=>decide_eq_decide.mpr (by show(0:Int)<_↔(1:Int)<=_;lia)
theorem rx (o:List Nat):cN own 3 0 o=aO (f9 own .l1) [] (aO (f9 own .l2) [] o):=by
 have h1:∀q,cN own 1 2 q=q:=fun q=>((jG (F:=cN own 0 3) (fun zz=>rfl) (iE own 2) q []).1)
 have h2:∀q,cN own 2 1 q=(aO (f9 own .l2) [] q).reverse:=fun q=>by
  have:=(jG (F:=cN own 1 2) h1 (iE own 1) q []).2
  rw[La]at this
  exact this
 have:=i6 (F:=cN own 2 1) (g1:=f9 own .l1) h2 (fun x h=>by
  have h:(2:Int)<=_:=of_decide_eq_true h
  exact decide_eq_true (show(1:Int)<=_ by exact(pM 0x114002147) h)) o [] [] [] (fun zz=>rfl) (fun zz h=>nomatch h) fun zz=>rfl
 show(mh (cN own 2 1) (iE own 0) [] o).flatten=_
 rw[LV]
 exact this
structure LineOk (own LL:List Lv) (tt:List Cd) (o:List Nat) (f:Nat->List Nat):Prop where
 id:fA LL=o.flatMap f
 lv:∀x ∈ o,∀y ∈ f x,LL.getD y .l0=own.getD x .l0
 co:∀x ∈ o,(∃y,f x=[y]∧(tt.getD y .a).isM=false)∨∃y,f x=[y,y+1]∧(tt.getD y .a).isM=false∧(tt.getD (y+1) .a).isM=true
 two:(∀x ∈ o,kC (own.getD x .l0)=false)∨∀x ∈ o,vQ (own.getD x .l0)=false
theorem LineOk.ne (h:LineOk own LL tt o f) {x:Nat} (hx:x ∈ o):f x≠[]:=by
 rcases h.co x hx with⟨y,e,_⟩|⟨y,e,_⟩<;>rw[e]<;>exact cons_ne_nil _ _
theorem EM (h:LineOk own LL tt o f) (q:Lv->Bool):LL.any q=true↔∃x ∈ o,q (own.getD x .l0)=true:=by
 constructor
 ·intro e
  obtain⟨v,hv,hq⟩:=any_eq_true.mp e
  obtain⟨y,hy⟩:=List.mem_iff_getElem?.mp hv
  have hlt:=pq hy
  have hm:y ∈ fA LL:=by unfold fA;rw[mem_range'_1];exact(az 0x10014002000118100027) hlt
  rw[h.id]at hm
  obtain⟨x,hx,hyx⟩:=List.mem_flatMap.mp hm
  exact⟨x,hx,by rw[←h.lv x hx y hyx,kA hy];exact hq⟩
 ·rintro⟨x,hx,hq⟩
  obtain⟨y,hy⟩:∃y,y ∈ f x:=by rcases h.co x hx with⟨y,e,_⟩|⟨y,e,_⟩<;>exact⟨y,by rw[e];exact mem_cons_self⟩
  have hm:y ∈ fA LL:=by rw[h.id];exact List.mem_flatMap.mpr ⟨x,hx,hy⟩
  unfold fA at hm
  rw[mem_range'_1]at hm
  rw[←h.lv x hx y hy]at hq
  exact any_eq_true.mpr ⟨_,mem_of_getElem? (aF .l0 (by exact(az 0x10002100140020001187) hm)),hq⟩
noncomputable def fT (own:List Lv) (f:Nat->List Nat) (x:Nat):List Nat:=if gN (own.getD x .l0)then(f x).reverse else f x
theorem KF (x:Nat):f9 own .l1 x=!vQ (own.getD x .l0):=by unfold f9;cases own.getD x .l0<;>rfl
theorem Io (x:Nat):f9 own .l2 x=kC (own.getD x .l0):=by unfold f9;cases own.getD x .l0<;>rfl
theorem zc (h:LineOk own LL tt o f):cW LL=(cN own 3 0 o).flatMap (fT own f):=by
 have hg (a:Lv) {x:Nat} (hx:x ∈ o):f x≠[]∧∀y ∈ f x,f9 LL a y=f9 own a x:=⟨h.ne hx,fun y hy=>by unfold f9;rw[h.lv x hx y hy]⟩
 have t2:cR LL .l2 (fA LL)=(aO (f9 own .l2) [] o).flatMap fun x=>if f9 own .l2 x then(f x).reverse else f x:=by
  unfold cR
  rw[h.id]
  exact kF o [] (fun x hx=>hg .l2 hx) fun zz h=>nomatch h
 have hperm:(aO (f9 own .l2) [] o).Perm o:=by
  have:=de (lv:=own) 2 1 o
  have e:cN own 2 1 o=(aO (f9 own .l2) [] o).reverse:=by
   have:=(jG (F:=cN own 1 2) (fun q=>(jG (F:=cN own 0 3) (fun zz=>rfl) (iE own 2) q []).1) (iE own 1) o []).2
   rw[La]at this
   exact this
  rw[e]at this
  exact(List.reverse_perm _).symm.trans this
 by_cases c:LL.any gN=true
 ·have e2:(if LL.any kC=true then cR LL .l2 (fA LL)else fA LL)=cR LL .l2 (fA LL):=by
   by_cases c2:LL.any kC=true
   ·rw[if_pos c2]
   ·rw[if_neg c2]
    refine(gR fun y hy=>?_).symm
    unfold fA at hy
    rw[mem_range'_1]at hy
    rw[Io]
    cases q:kC (LL.getD y .l0)with
    | false=>rfl
    | true=>exact absurd (any_eq_true.mpr ⟨_,mem_of_getElem? (aF .l0 (by exact(az 0x10002100140020001187) hy)),q⟩) c2
  unfold cW
  rw[if_pos c,e2,t2,rx]
  unfold cR
  have:=kF (P:=f9 LL .l1) (p:=f9 own .l1) (f:=fun x=>if f9 own .l2 x then(f x).reverse else f x) (aO (f9 own .l2) [] o) [] (fun x hx=>by
   have hx:=hperm.mem_iff.mp hx
   have:=hg .l1 hx
   cases f9 own .l2 x with
   | true=>exact⟨fun e=>this.1 (List.reverse_eq_nil_iff.mp e),fun y hy=>this.2 y (List.mem_reverse.mp hy)⟩
   | false=>exact this) fun zz h=>nomatch h
  refine this.trans ?_
  rw[flatMap_def,flatMap_def]
  refine congrArg flatten (map_congr_left fun x zz=>?_)
  unfold fT
  rw[KF,Io]
  cases own.getD x .l0
  ·rfl
  ·rfl
  ·exact List.reverse_reverse _
 ·have hn:∀x ∈ o,gN (own.getD x .l0)=false:=fun x hx=>by
   cases q:gN (own.getD x .l0)with
   | false=>rfl
   | true=>exact absurd ((EM h gN).mpr ⟨x,hx,q⟩) c
  have ho:cN own 3 0 o=o:=by
   rw[rx]
   rcases h.two with h2|h2
   ·have e0:∀x ∈ o,f9 own .l1 x=false:=fun x hx=>by
     have h1:=hn x hx
     have h2:=h2 x hx
     rw[KF]
     cases q:own.getD x .l0<;>rw[q]at h1 h2<;>first|rfl|exact absurd h1 (by decide)|exact absurd h2 (by decide)
    rw[gR fun x hx=>(Io x).trans (h2 x hx),gR e0]
   ·have e0:∀x ∈ o,f9 own .l2 x=true:=fun x hx=>by
     have h1:=hn x hx
     have h2:=h2 x hx
     rw[Io]
     cases q:own.getD x .l0<;>rw[q]at h1 h2<;>first|rfl|exact absurd h1 (by decide)|exact absurd h2 (by decide)
    rw[gD [] e0,append_nil,gD [] fun x hx=>by rw[KF,h2 x (List.mem_reverse.mp hx)];rfl]
    simp
  have hL:cW LL=fA LL:=by unfold cW;rw[if_neg c]
  rw[hL,h.id,ho,flatMap_def,flatMap_def]
  refine congrArg flatten (map_congr_left fun x hx=>?_)
  unfold fT
  rw[if_neg (by rw[hn x hx];decide)]
theorem ux (h:LineOk own LL tt o f):∀(s:List Nat),(∀x ∈ s,x ∈ o)->∀out,(s.flatMap (fT own f)).foldl (nS LL tt) (out,[])=(out++s.flatMap f,[])
 | [],_,out=>by simp
 | x::s,hs,out=>by
  have hx:=hs x mem_cons_self
  have ih:=ux h s (fun y hy=>hs y (mem_cons_of_mem _ hy)) (out++f x)
  rw[flatMap_cons,List.foldl_append,flatMap_cons,←append_assoc,←ih]
  refine congrArg (fun q=>foldl (nS LL tt) q _) ?_
  have hl:=h.lv x hx
  unfold fT
  rcases h.co x hx with⟨y,e,hm⟩|⟨y,e,hm,hm2⟩
  ·rw[e]
   have hk:mS LL tt y=false:=by unfold mS;rw[hm,Bool.and_false]
   have:(if gN (own.getD x .l0)=true then[y].reverse else[y])=[y]:=by split<;>rfl
   rw[this]
   show f0 LL tt (out,[]) y=_
   unfold f0
   rw[hk]
   simp
  ·rw[e]
   rw[e]at hl
   have hy:=hl y mem_cons_self
   have hy1:=hl (y+1) (mem_cons_of_mem _ mem_cons_self)
   have hk:mS LL tt y=false:=by unfold mS;rw[hm,Bool.and_false]
   cases c:gN (own.getD x .l0)with
   | true=>
    have hk1:mS LL tt (y+1)=true:=by unfold mS;rw[hm2,hy1,c];rfl
    rw[if_pos rfl]
    show f0 LL tt (iq LL (f0 LL tt (out,[]) (y+1)) y) y=_
    have e1:f0 LL tt (out,[]) (y+1)=(out,[y+1]):=by unfold f0;rw[hk1];rfl
    have e2:iq LL (out,[y+1]) y=(out,[y+1]):=by
     have:brk LL y (y+1)=false:=by
      unfold brk
      rw[hy,hy1,beq_self_eq_true]
      show(false||decide _)=false
      rw[Bool.false_or]
      exact decide_eq_false (by exact(ba 0x311004357))
     show(if brk LL y (y+1)then _ else _)=_
     rw[this]
     rfl
    rw[e1,e2]
    unfold f0
    rw[hk]
    simp
   | false=>
    have hk1:mS LL tt (y+1)=false:=by unfold mS;rw[hy1,c];rfl
    rw[if_neg (by decide)]
    have e1:f0 LL tt (out,[]) y=(out++[y],[]):=by unfold f0;rw[hk];simp
    show f0 LL tt (iq LL (f0 LL tt (out,[]) y) (y+1)) (y+1)=_
    rw[e1]
    show f0 LL tt (out++[y],[]) (y+1)=_
    unfold f0
    rw[hk1]
    simp
theorem EN (h:LineOk own LL tt o f):pP LL tt (cW LL)=(cN own 3 0 o).flatMap f:=by
 have:=ux h (cN own 3 0 o) (fun x hx=>(de 3 0 o).mem_iff.mp hx) []
 unfold pP
 rw[zc h,this]
 simp
end
section
variable {p:List Cl} {w:Wd}
theorem mu:∀(l:List Cl) (k s:Nat),range' k (ah l).length=(range' s l.length).flatMap fun x=>range' (k+ai l (x-s)) (cl l (x-s)).codes.length
 | [],_,_=>rfl
 | c::l,k,s=>by
  have ih:=mu l (k+c.codes.length) (s+1)
  rw[aT,length_append,←List.range'_append_1,ih,length_cons,range'_succ,flatMap_cons,sub_self]
  refine congrArg (range' k c.codes.length++·) ?_
  rw[flatMap_def,flatMap_def]
  refine congrArg flatten (map_congr_left fun x hx=>?_)
  rw[mem_range'_1]at hx
  rw[show x-s=(x-(s+1))+1 by exact(aQ 0x11110041054001053201100441021011004187) hx,bI,Nat.add_assoc]
  rfl
theorem uy {α:Type} (d:α):∀(l:List Cl) (xs:List α) (r i:Nat),l.length=xs.length->r<l.length->i<(cl l r).codes.length->(eH l xs).getD (ai l r+i) d=xs.getD r d
 | c::l,x::xs,0,i,_,_,hi=>by
  show(replicate c.codes.length x++eH l xs).getD (0+i) d=x
  have hi:i<c.codes.length:=hi
  rw[Nat.zero_add,getD_eq_getElem?_getD,getElem?_append_left (by simpa using hi),List.getElem?_replicate_of_lt hi]
  rfl
 | c::l,x::xs,r+1,i,h,hr,hi=>by
  show(replicate c.codes.length x++eH l xs).getD _ d=xs.getD r d
  rw[bI,getD_eq_getElem?_getD,getElem?_append_right (by simp;exact(aQ 0x20100044001)),length_replicate,show c.codes.length+ai l r+i-c.codes.length=ai l r+i by exact(aQ 0x20104002010004453),←getD_eq_getElem?_getD]
  exact uy d l xs r i (Nat.succ.inj h) (lt_of_succ_lt_succ hr) hi
theorem i7:∀(l:List Cl) (r i:Nat),r<l.length->i<(cl l r).codes.length->(ah l).getD (ai l r+i) .a=(cl l r).codes.getD i .a
 | c::l,0,i,_,hi=>by
  have hi:i<c.codes.length:=hi
  rw[aT]
  show(c.codes++ah l).getD (0+i) .a=c.codes.getD i .a
  rw[Nat.zero_add,getD_eq_getElem?_getD,getElem?_append_left hi,←getD_eq_getElem?_getD]
 | c::l,r+1,i,hr,hi=>by
  rw[aT,bI,getD_eq_getElem?_getD,getElem?_append_right (by exact(aQ 0x20100044001)),show c.codes.length+ai l r+i-c.codes.length=ai l r+i by exact(aQ 0x20104002010004453),←getD_eq_getElem?_getD]
  exact i7 l r i (lt_of_succ_lt_succ hr) hi
theorem uz (B:Lv) (s:Nat):∀e l,∀v ∈ eN p B s e l,v ∈ l∨v=B
 | 0,_,_,h=>.inl h
 | e+1,l,v,h=>by
  rw[iy]at h
  split at h
  ·rcases uz B s e _ v h with h|h
   ·exact List.mem_or_eq_of_mem_set h
   ·exact .inr h
  ·exact .inl h
theorem zd (p:List Cl) (b:Bool):∀v ∈ eM p b,(if b then vQ v else kC v)=false:=by
 intro v hv
 obtain⟨k,zz,rfl⟩:=mem_map.mp hv
 rcases b with _|_<;>rcases k with _|_<;>rfl
theorem v5 (hp:rN p) {q:Nat×Nat} (hq:q.1<=q.2∧q.2<=p.length):uh w p (ai p q.1,ai p q.2)=bR p (eM p (pD p w)) (bl (pD p w)) q:=by
 obtain⟨s,e⟩:=q
 have hq:s<=e∧e<=p.length:=hq
 obtain⟨b,hb⟩:∃b,b=pD p w:=⟨_,rfl⟩
 have hcl:p.length=(eM p b).length:=by simp[eM]
 have hline:=zb (b:=b) hp (l:=eM p b) (q:=(s,e)) hq hcl
 have hline:eC (eH p (eM p b)) ((ah p).map Cd.bc) (ai p s) (ai p e) b=eH ((p.take e).drop s) (((eN p (bl b) s e (eM p b)).take e).drop s):=hline
 have hsl:slice (ah p) (ai p s,ai p e)=ah ((p.take e).drop s):=by
  show((ah p).take (ai p e)).drop (ai p s)=_
  rw[fx,←jE hq.1,jF]
 have hlv:sQ (ah p) w=eH p (eM p b):=by unfold sQ;rw[uu hp,←hb,EK]
 have hown:=uz (p:=p) (bl b) s e (eM p b)
 have hol:(eN p (bl b) s e (eM p b)).length=p.length:=by rw[iZ,hcl]
 unfold uh c9 bR
 rw[hlv,uu hp,←hb,hsl]
 show(pP (eC (eH p (eM p b)) ((ah p).map Cd.bc) (ai p s) (ai p e) b) _ (cW (eC (eH p (eM p b)) ((ah p).map Cd.bc) (ai p s) (ai p e) b))).map _=(cN (eN p (bl b) s e (eM p b)) 3 0 (range' s (e-s))).flatMap _
 rw[hline]
 have htwo:(∀v ∈ eM p b,(if b then vQ v else kC v)=false):=zd p b
 generalize eN p (bl b) s e (eM p b)=own at hown hol⊢
 obtain⟨ln,hln⟩:∃ln,ln=(p.take e).drop s:=⟨_,rfl⟩
 have hlen:ln.length=e-s:=by rw[hln];exact gQ hq.2
 have hlo:((own.take e).drop s).length=e-s:=gQ (by exact(b6 0x30101203037201011000187) (by assumption) hol)
 have hc (x:Nat) (hx:x ∈ range' s (e-s)):cl ln (x-s)=cl p x:=by
  rw[mem_range'_1]at hx
  have:=iA p .a (i:=s) (j:=e) (m:=x-s) (by exact(aQ 0x20001050042002050041021000187) hx)
  rw[hln]
  exact this.trans (congrArg (fun i=>p.getD i .a) (by exact(aQ 0x10001050043002050041021000187) hx))
 rw[←hln]
 have ok:LineOk own (eH ln ((own.take e).drop s)) (ah ln) (range' s (e-s)) fun x=>range' (ai ln (x-s)) (cl p x).codes.length:=by
  refine⟨?_,fun x hx y hy=>?_,fun x hx=>?_,?_⟩
  ·unfold fA
   rw[pI _ _ (by exact(b6 0x30003201053037201050037) hlen hlo),mu ln 0 s,hlen,flatMap_def,flatMap_def]
   refine congrArg flatten (map_congr_left fun x hx=>?_)
   rw[hc x hx,Nat.zero_add]
  ·rw[mem_range'_1]at hy
   have hcx:=hc x hx
   rw[mem_range'_1]at hx
   have:=uy .l0 ln ((own.take e).drop s) (x-s) (y-ai ln (x-s)) (by exact(b6 0x30003201053037201050037) hlen hlo) (by exact(b6 0x203052201052043023020187201050037) hlen hx) (by rw[hcx];exact(aQ 0x20001052200041021000187) hy)
   rw[show ai ln (x-s)+(y-ai ln (x-s))=y by exact(aQ 0x10001050043200041021000187) hy]at this
   rw[this,iA _ _ (by exact(aQ 0x20001050042002050041021000187) hx)]
   exact congrArg (fun i=>own.getD i .l0) (by exact(aQ 0x10001050043002050041021000187) hx)
  ·have hcx:=hc x hx
   rw[mem_range'_1]at hx
   have g (i:Nat):=i7 ln (x-s) i (by exact(b6 0x203052201052043023020187201050037) hlen hx)
   rw[hcx]at g
   have g0:=g 0
   have g1:=g 1
   generalize ai ln (x-s)=y at g0 g1⊢
   cases q:cl p x<;>rw[q]at g0 g1<;>first
    | exact .inl ⟨y,rfl,by have:=g0 (by decide);rw[Nat.add_zero]at this;rw[this];rfl⟩
    | exact .inr ⟨y,rfl,by have:=g0 (by decide);rw[Nat.add_zero]at this;rw[this];rfl,by rw[g1 (by decide)];rfl⟩
  ·have key (v:Lv) (hv:v ∈ own):(if b then vQ v else kC v)=false:=by
    rcases hown v hv with h|rfl
    ·exact htwo v h
    ·rcases b with _|_<;>rfl
   have hm (x:Nat) (hx:x ∈ range' s (e-s)):own.getD x .l0 ∈ own:=by
    rw[mem_range'_1]at hx
    exact mem_of_getElem? (aF (l:=own) Lv.l0 (by exact(mG 0x30402001050044024000187203037201011000187) (by assumption) hol hx))
   cases b
   ·exact .inl fun x hx=>key _ (hm x hx)
   ·exact .inr fun x hx=>key _ (hm x hx)
 rw[EN ok,List.map_flatMap,flatMap_def,flatMap_def]
 refine congrArg flatten (map_congr_left fun x hx=>?_)
 have hx:=(de 3 0 _).mem_iff.mp hx
 have hcx:=hc x hx
 rw[mem_range'_1]at hx
 refine ext_getElem? fun i=>?_
 by_cases c:i<(cl p x).codes.length
 ·have:=i7 ln (x-s) i (by exact(b6 0x203052201052043023020187201050037) hlen hx) (by rw[hcx];exact c)
  rw[getElem?_map,List.getElem?_range' c,map_some,Nat.one_mul,this,hcx,←aF .a c]
 ·rw[List.getElem?_eq_none (by simp;exact(az 0x10101000277) c),List.getElem?_eq_none (by exact(az 0x10101000277) c)]
end
theorem iB (h:List Cl) (c:Cl) (r:List Cl):aN h (c::r)=if c.isLf then(h++[c])::aN [] r else aN (h++[c]) r:=by cases h<;>rfl
theorem ze {c:Cl} (hc:c.isLf=false) (K k:Nat) (R:List (Cd×Nat)):dU o3 n3 K (c.codes.zipIdx k++R)=dU o3 n3 K R∧(c.codes.zipIdx k++R).foldl n3 K=R.foldl n3 K:=by
 rcases c with _|_<;>first|exact⟨rfl,rfl⟩|cases hc
noncomputable def zf (b N:Nat):List (Nat×Nat):=if b<N then[(b,N)]else[]
theorem oh (h:List Cl) (c:Cl):(ah (h++[c])).length=(ah h).length+c.codes.length:=by simp[ah]
theorem iC:∀(r h:List Cl) (K:Nat),dU o3 n3 K ((ah r).zipIdx (K+(ah h).length))++zf (((ah r).zipIdx (K+(ah h).length)).foldl n3 K) (K+(ah h).length+(ah r).length)=(cI K (aN h r)).map spP
 | [],[],K=>by
  show zf K (K+0+0)=[]
  exact if_neg (lt_irrefl _)
 | [],a::h,K=>by
  obtain⟨k,hk⟩:=pG a
  have e:(ah (a::h)).length=a.codes.length+(ah h).length:=by rw[aT,length_append]
  show zf K (K+(ah (a::h)).length+0)=[(K,K+(ah (a::h)).length)]
  exact if_pos (by exact(mG 0x1204044402300042037111040037) hk e)
 | c::r,h,K=>by
  rw[iB,aT,List.zipIdx_append,length_append]
  cases hc:c.isLf with
  | true=>
   have ih:=iC r [] (K+(ah h).length+1)
   have e:=oh h c
   rw[if_pos rfl]
   rcases c with _|_<;>first|cases hc|skip
   show(K,K+(ah h).length+1)::(dU o3 n3 (K+(ah h).length+1) ((ah r).zipIdx (K+(ah h).length+1))++zf (((ah r).zipIdx (K+(ah h).length+1)).foldl n3 (K+(ah h).length+1)) (K+(ah h).length+(1+(ah r).length)))=(K,K+(ah (h++[.lf])).length)::(cI (K+(ah (h++[.lf])).length) (aN [] r)).map spP
   rw[e,←Nat.add_assoc]
   exact congrArg (_::·) ih
  | false=>
   have ih:=iC r (h++[c]) K
   rw[oh,←Nat.add_assoc]at ih
   obtain⟨e1,e2⟩:=ze hc K (K+(ah h).length) ((ah r).zipIdx (K+(ah h).length+c.codes.length))
   rw[if_neg (by decide),e1,e2,←Nat.add_assoc]
   exact ih
theorem ry (cs:List Cl):iR (ah cs)=(cI 0 (aN [] cs)).map spP:=by
 have:=iC cs [] 0
 have e:(0:Nat)+(ah ([]:List Cl)).length=0:=rfl
 rw[e,Nat.zero_add]at this
 rw[←this]
 unfold iR zf
 split
 ·rfl
 ·rw[append_nil]
theorem rz:∀(ps:List (List Cl)) (k:Nat),∀x ∈ cI k ps,x.2 ∈ ps
 | _::_,_,_,.head _=>mem_cons_self
 | _::ps,_,x,.tail _ h=>mem_cons_of_mem _ (rz ps _ x h)
theorem oi:∀(ps:List (List Cl)) (pre:List Cd),∀x ∈ cI pre.length ps,slice (pre++ps.flatMap ah) (spP x)=ah x.2
 | p::ps,pre,x,h=>by
  rw[flatMap_cons,←append_assoc]
  cases h with
  | head=>
   show((pre++ah p++ps.flatMap ah).take (pre.length+(ah p).length)).drop pre.length=ah p
   rw[take_left' length_append,List.drop_left' rfl]
  | tail _ h=>
   rw[←length_append]at h
   exact oi ps (pre++ah p) x h
theorem sZ (cs:List Cl):ah cs=(aN [] cs).flatMap ah:=by
 have:=eG cs []
 conv=>lhs;rw[←nil_append cs,←this]
 generalize aN [] cs=l
 induction l with
 | nil=>rfl
 | cons p l ih=>
  rw[flatten_cons,flatMap_cons,←ih]
  unfold ah
  rw[List.flatMap_append]
theorem rA:∀{h:List Cl} {c:Cl},(∀x ∈ h,x.isLf=false)->rN (h++[c])
 | [],_,_=>⟨fun zz=>rfl,trivial⟩
 | x::h,c,hx=>⟨(fun e=>by rw[hx x mem_cons_self]at e;exact bp e),rA fun y hy=>hx y (mem_cons_of_mem _ hy)⟩
theorem zg:∀{h:List Cl},(∀x ∈ h,x.isLf=false)->rN h
 | [],_=>trivial
 | x::h,hx=>⟨(fun e=>by rw[hx x mem_cons_self]at e;exact bp e),zg fun y hy=>hx y (mem_cons_of_mem _ hy)⟩
theorem mv:∀(r h:List Cl),(∀x ∈ h,x.isLf=false)->∀p ∈ aN h r,p≠[]∧rN p∧p.length<=h.length+r.length
 | [],[],_,p,hp=>nomatch hp
 | [],a::h,hh,p,hp=>by
  cases mem_singleton.mp hp
  exact⟨cons_ne_nil _ _,zg hh,Nat.le_refl _⟩
 | c::r,h,hh,p,hp=>by
  rw[iB]at hp
  cases hc:c.isLf with
  | true=>
   rw[if_pos hc]at hp
   cases hp with
   | head=>exact⟨by simp,rA hh,by simp⟩
   | tail _ hp=>
    have:=mv r [] (fun zz h=>nomatch h) p hp
    exact⟨this.1,this.2.1,by have:=this.2.2;simp at this⊢;exact(aQ 0x11104204001100017) this⟩
  | false=>
   rw[if_neg (by rw[hc];decide)]at hp
   have:=mv r (h++[c]) (fun x hx=>by
    rcases mem_append.mp hx with hx|hx
    ·exact hh x hx
    ·cases mem_singleton.mp hx;exact hc) p hp
   exact⟨this.1,this.2.1,by have:=this.2.2;simp at this⊢;exact(aQ 0x11204104001201110440017) this⟩
theorem oj:∀(p h:List Cl),p≠[]->rN p->aN h p=[h++p]
 | [],_,hp,_=>absurd rfl hp
 | c::r,h,_,hl=>by
  rw[iB]
  cases hc:c.isLf with
  | true=>
   rw[hl.1 hc]
   rfl
  | false=>
   rw[if_neg (by decide)]
   cases hr:r with
   | nil=>
    cases h<;>rfl
   | cons y q=>
    rw[oj (y::q) (h++[c]) (cons_ne_nil _ _) (by rw[←hr];exact hl.2)]
    simp
theorem zh {p:List Cl} (hp:p≠[]) (hl:rN p):iR (ah p)=[(0,(ah p).length)]:=by
 rw[ry,oj p [] hp hl]
 show[(0,0+(ah p).length)]=_
 rw[Nat.zero_add]
section
variable {p:List Cl}
noncomputable def s3:Nat->List Cl->List Un
 | _,[]=>[]
 | k,c::p=>(c.u,c.codes.headD .a,k)::s3 (k+c.codes.length) p
theorem rB:∀(p:List Cl) (k:Nat),((ah p).zipIdx k).filterMap dK=s3 k p
 | [],_=>rfl
 | c::p,k=>by
  have ih:=rB p (k+c.codes.length)
  rw[aT,List.zipIdx_append,List.filterMap_append,ih]
  rcases c with _|_<;>rfl
theorem uA:∀(p:List Cl) (k:Nat),(s3 k p).length=p.length
 | [],_=>rfl
 | _::p,_=>congrArg (·+1) (uA p _)
theorem pJ:∀(p:List Cl) (k i:Nat),i<p.length->(mD (s3 k p) i).1=(cl p i).u∧(mD (s3 k p) i).2.2=k+ai p i
 | c::p,k,0,_=>⟨rfl,rfl⟩
 | c::p,k,i+1,h=>by
  have ih:=pJ p (k+c.codes.length) i (lt_of_succ_lt_succ h)
  refine⟨ih.1,ih.2.trans ?_⟩
  rw[bI,Nat.add_assoc]
theorem cV:∀{p:List Cl} {i j:Nat},i<j->j<=p.length->ai p i<ai p j
 | [],i,j,h,hj=>absurd (lt_of_lt_of_le h hj) (not_lt_zero _)
 | c::p,0,j+1,_,_=>by
  obtain⟨k,hk⟩:=pG c
  rw[bI,hk]
  exact show 0<_ from(az 0x10110044012)
 | c::p,i+1,j+1,h,hj=>by
  have:=cV (p:=p) (lt_of_succ_lt_succ h) (Nat.le_of_succ_le_succ hj)
  rw[bI,bI]
  exact(aQ 0x10204002042100027) this
theorem dq {i j:Nat} (h:i<=j) (hj:j<=p.length):ai p i<=ai p j:=by
 rcases Nat.lt_or_eq_of_le h with h|rfl
 ·exact le_of_lt (cV h hj)
 ·exact Nat.le_refl _
theorem rC {i j:Nat} (hi:i<=p.length) (hj:j<=p.length):ai p i<ai p j↔i<j:=⟨fun h=>Nat.lt_of_not_le fun c=>absurd (dq c hi) (Nat.not_le_of_lt h),fun h=>cV h hj⟩
noncomputable abbrev Vd:=String×String
noncomputable def KG (p:List Cl) (k:Nat):Vd:=zA (cl p (k-1)).u (cl p k).u
theorem i8 {α:Type} (l:List α) (i j:Nat) (v d:α) (h:i<l.length):(l.set i v).getD j d=if i=j then v else l.getD j d:=by
 rw[getD_eq_getElem?_getD,List.getElem?_set,getD_eq_getElem?_getD,if_pos h]
 split<;>rfl
theorem uB (d:Vd):∀m,m+1<=p.length->((range' 0 m).foldl (wk (s3 0 p)) (nW (ah p).length)).length=(ah p).length+1 ∧
  (∀k,k<=p.length->((range' 0 m).foldl (wk (s3 0 p)) (nW (ah p).length)).getD (ai p k) d=if 1<=k∧k<=m then KG p k else(nW (ah p).length).getD (ai p k) d) ∧
  ∀j,(∀k,k<p.length->j≠ai p k)->((range' 0 m).foldl (wk (s3 0 p)) (nW (ah p).length)).getD j d=(nW (ah p).length).getD j d
 | 0,_=>⟨by simp[nW],fun k zz=>by rw[if_neg (by exact(ba 0x10010011187))];rfl,fun zz zz=>rfl⟩
 | m+1,h=>by
  obtain⟨h0,h1,h2⟩:=uB d m (by exact(az 0x10110041101111004417) h)
  rw[range'_1_concat,List.foldl_append]
  generalize (range' 0 m).foldl (wk (s3 0 p)) (nW (ah p).length)=F at h0 h1 h2
  have u0:=pJ p 0 m (by exact(az 0x10002101111004417) h)
  have u1:=pJ p 0 (m+1) (by exact(az 0x10110042101111004417) h)
  have e:[0+m].foldl (wk (s3 0 p)) F=F.set (ai p (m+1)) (KG p (m+1)):=by
   show F.set (mD (s3 0 p) (0+m+1)).2.2 (zA (mD (s3 0 p) (0+m)).1 (mD (s3 0 p) (0+m+1)).1)=_
   rw[Nat.zero_add,u0.1,u1.1,u1.2,Nat.zero_add]
   rfl
  have hs:ai p (m+1)<F.length:=by
   have:=dq (p:=p) (i:=m+1) (j:=p.length) (by exact(az 0x10110041101111004417) h) (Nat.le_refl _)
   rw[h0,bf]
   exact(az 0x11104002100017) this
  rw[e]
  refine⟨by rw[length_set];exact h0,fun k hk=>?_,fun j hj=>?_⟩
  ·rw[i8 _ _ _ _ _ hs]
   by_cases c:k=m+1
   ·rw[c,if_pos rfl,if_pos (by exact(ba 0x11004110041110041118))]
   ·have hne:ai p (m+1)≠ai p k:=fun e=>by
     rcases Nat.lt_or_gt_of_ne c with c|c
     ·have:=cV (p:=p) c (by exact(az 0x10110041101111004417) h);exact(az 0x1027100037) e this
     ·have:=cV (p:=p) c hk;exact(az 0x100027100037) e this
    rw[if_neg hne,h1 k hk]
    by_cases c2:1<=k∧k<=m
    ·rw[if_pos c2,if_pos (by exact(az 0x11104001001118100010011187) c2)]
    ·rw[if_neg c2,if_neg (by exact(az 0x1110400100111870100010011187701110400377) c c2)]
  ·rw[i8 _ _ _ _ _ hs,if_neg (fun e=>hj (m+1) (by exact(az 0x10110042101111004417) h) e.symm),h2 j hj]
theorem pK (n j:Nat) (d:Vd) (hn:n≠0) (hj:j<=n):(nW n).getD j d=if j=0 then("no", "LB2")else if j=n then("must", "LB3")else("no", "LB9"):=by
 unfold nW
 rw[i8 _ _ _ _ _ (by simp),i8 _ _ _ _ _ (by simp)]
 by_cases c:j=0
 ·rw[if_pos c.symm,if_pos c]
 ·rw[if_neg (Ne.symm c),if_neg c]
  by_cases c2:j=n
  ·rw[if_pos c2.symm,if_pos c2]
  ·rw[if_neg (Ne.symm c2),if_neg c2,getD_eq_getElem?_getD,List.getElem?_replicate_of_lt (by exact(az 0x11104002100017) hj)]
   rfl
theorem H4 (a b:Uw) (h:a≠.LF):aM (s (zA a b).1) (s "no")=!HK a b∧aM (s (zA a b).1) (s "must")=false:=by
 rcases a with _|_<;>rcases b with _|_<;>first|exact⟨rfl,rfl⟩|exact absurd rfl h
theorem H5 (hp:rN p) {k:Nat} (h:k+1<p.length):(cl p k).u≠.LF:=by
 have:=mr hp (k+1) h (cl p k) (by
  rw[gP .a (by exact(az 0x10002101100427) h)]
  exact mem_append_right _ mem_cons_self)
 cases q:cl p k<;>rw[q]at this<;>first|exact bp this.symm|exact fun e=>nomatch e
theorem uC (hp:rN p) (h0:p≠[]):(mT (ah p)).length=(ah p).length+1 ∧
  (∀k,1<=k->k<=p.length->gA (mT (ah p)) (ai p k)=!cT p k∧dc (mT (ah p)) (ai p k)=decide (k=p.length)) ∧
  gA (mT (ah p)) 0=true∧∀j,j<=(ah p).length->(∀k,k<=p.length->j≠ai p k)->gA (mT (ah p)) j=true:=by
 have hn:0<p.length:=length_pos_iff.mpr h0
 have hN:(ah p).length≠0:=by
  have:=cV (p:=p) hn (Nat.le_refl _)
  rw[bf]
  exact(az 0x11037100027) this
 have hu:units (ah p)=s3 0 p:=rB p 0
 obtain⟨h1,h2,h3⟩:=uB (p:=p) ("", "") (p.length-1) (by exact(ba 0x111100541000127) hn)
 have e:mT (ah p)=(range' 0 (p.length-1)).foldl (wk (s3 0 p)) (nW (ah p).length):=by unfold mT;rw[hu,uA]
 rw[←e]at h1 h2 h3
 have h0':(mT (ah p)).getD 0 ("", "")=("no", "LB2"):=by
  have:=h2 0 (zero_le _)
  rw[if_neg (by exact(ba 0x110050110111187))]at this
  have z:ai p 0=0:=rfl
  rw[z,pK _ _ _ hN (zero_le _),if_pos rfl]at this
  exact this
 refine⟨h1,fun k hk1 hk=>?_,by unfold gA;rw[h0'];rfl,fun j hj hne=>?_⟩
 ·have:=h2 k hk
  unfold gA dc
  by_cases c:k=p.length
  ·rw[if_neg (by exact(az 0x111050010011187100037) c),c,←bf,pK _ _ _ hN (Nat.le_refl _),if_neg hN,if_pos rfl]at this
   rw[c,←bf,this]
   unfold cT
   rw[if_pos rfl,decide_eq_true rfl]
   exact⟨rfl,rfl⟩
  ·rw[if_pos (by exact(az 0x1110500100111801000377100017001117) hk1 hk c)]at this
   rw[this]
   unfold cT KG
   rw[if_neg c,decide_eq_false c]
   exact H4 _ _ (H5 hp (by exact(az 0x1011110054201000377100017001117) hk1 hk c))
 ·have:=h3 j fun k hk=>hne k (le_of_lt hk)
  have z:j≠0:=hne 0 (zero_le _)
  have zn:j≠(ah p).length:=by rw[bf];exact hne p.length (Nat.le_refl _)
  rw[pK _ _ _ hN hj,if_neg z,if_neg zn]at this
  unfold gA
  rw[this]
  rfl
theorem v6 {q:Nat->Bool} (hq:∀k i,k<p.length->0<i->i<(cl p k).codes.length->q (ai p k+i)=false):(range' 0 (ah p).length).filter q=((range' 0 p.length).filter fun k=>q (ai p k)).map (ai p):=by
 rw[mu p 0 0,List.filter_flatMap]
 have key:∀(l:List Nat),(∀k ∈ l,k<p.length)->(l.flatMap fun k=>(range' (0+ai p (k-0)) (cl p (k-0)).codes.length).filter q)=(l.filter fun k=>q (ai p k)).map (ai p):=by
  intro l
  induction l with
  | nil=>exact fun zz=>rfl
  | cons k l ih=>
   intro hl
   rw[flatMap_cons,ih fun x hx=>hl x (mem_cons_of_mem _ hx),Nat.zero_add,Nat.sub_zero,filter_cons]
   obtain⟨m,hm⟩:=pG (cl p k)
   have hn:(range' (ai p k+1) m).filter q=[]:=filter_eq_nil_iff.mpr fun x hx=>by
    rw[mem_range'_1]at hx
    have:=hq k (x-ai p k) (hl k mem_cons_self) (by exact(aQ 0x105012201100441021011004187) hx) (by exact(b6 0x203052101120443023011204187111040037) hm hx)
    rw[show ai p k+(x-ai p k)=x by exact(aQ 0x10001050043201100441021011004187) hx]at this
    rw[this]
    decide
   rw[hm,range'_succ,filter_cons,hn]
   cases q (ai p k)<;>rfl
 exact key _ fun k hk=>bw hk
theorem mw:∀n s:Nat,range' (s+1) n=(range' s n).map (·+1)
 | 0,_=>rfl
 | n+1,s=>congrArg ((s+1)::·) (mw n (s+1))
theorem uE {k:Nat} (h:k<p.length):ai p (k+1)=ai p k+(cl p k).codes.length:=by
 unfold ai
 rw[gP .a h,map_append,List.sum_append]
 rfl
theorem zi (hp:rN p) (h0:p≠[]):me (mT (ah p))=(aB p 0).map (ai p):=by
 have hn:0<p.length:=length_pos_iff.mpr h0
 obtain⟨h1,h2,h3,h4⟩:=uC hp h0
 obtain⟨q,hq⟩:∃q:Nat->Bool,q=fun j=>!gA (mT (ah p)) j:=⟨_,rfl⟩
 have hq0:q 0=false:=by rw[hq];show(!gA _ 0)=false;rw[h3];rfl
 have hqk (k:Nat) (h:1<=k) (hk:k<=p.length):q (ai p k)=cT p k:=by
  rw[hq]
  show(!gA _ _)=_
  rw[(h2 k h hk).1,Bool.not_not]
 have e1:me (mT (ah p))=(range' 1 (ah p).length).filter q:=by
  unfold me
  rw[h1,add_sub_cancel,hq,mw,List.filter_map]
  rfl
 have hm:cT p p.length=true:=by unfold cT;rw[if_pos rfl]
 have e2:(range' 1 (ah p).length).filter q=(range' 0 (ah p).length).filter q++[ai p p.length]:=by
  have a:(range' 0 ((ah p).length+1)).filter q=(range' 1 (ah p).length).filter q:=by
   rw[range'_succ,filter_cons,hq0]
   rfl
  have z:=hqk p.length hn (Nat.le_refl _)
  rw[hm,←bf]at z
  rw[←a,range'_1_concat,filter_append,Nat.zero_add,filter_cons,z,bf]
  rfl
 have e3:=v6 (p:=p) (q:=q) fun k i hk hi hlt=>by
  rw[hq]
  show(!gA _ _)=false
  have hu:=uE hk
  have hle:=dq (p:=p) (i:=k+1) (j:=p.length) hk (Nat.le_refl _)
  rw[h4 (ai p k+i) (by rw[bf];exact(mG 0x40003041402017103042037100027) hlt hu hle) fun k' hk' e=>?_]
  ·rfl
  ·by_cases c:k'<=k
   ·have:=dq (p:=p) c (by exact(az 0x10001100027) hk);exact(aQ 0x102017200010437000127) hi e this
   ·have:=dq (p:=p) (i:=k+1) (j:=k') (by exact(az 0x11104101000177) c) hk';exact(mG 0x402017400030437103042037100027) hlt hu e this
 obtain⟨m,hpm⟩:∃m,p.length=m+1:=⟨p.length-1,by exact(ba 0x11110054003000127) hn⟩
 have e4:((range' 0 p.length).filter fun k=>q (ai p k))=(range' 1 m).filter (cT p):=by
  have z:q (ai p 0)=false:=hq0
  rw[hpm,range'_succ,filter_cons,z]
  refine List.filter_congr fun k hk=>?_
  rw[mem_range'_1]at hk
  exact hqk k hk.1 (by exact(aQ 0x201101101442022011014187111040037) hpm hk)
 have e5:aB p 0=(range' 1 m).filter (cT p)++[p.length]:=by
  unfold aB
  rw[Nat.sub_zero,Nat.zero_add,hpm,range'_1_concat,filter_append,add_comm 1 m,←hpm,filter_cons,hm]
  rfl
 rw[e1,e2,e3,e4,e5,map_append]
 rfl
end
section
variable {p:List Cl}
noncomputable def rD (p:List Cl) (k:Nat):Int:=((p.take k).map Cl.wd).sum
theorem pL:∀(p:List Cl) (S:Int) (k:Nat),k<=p.length->(eJ S (aI p)).getD (ai p k) 0=S+rD p k
 | [],S,k,h=>by
  cases le_zero.mp h
  exact show S=S+0 from(pM 0x1004006)
 | c::p,S,0,_=>by
  have e:eJ S (aI (c::p))=S::eJ (S+c.wd) (replicate (c.codes.length-1) 0++aI p):=rfl
  rw[e]
  exact show S=S+0 from(pM 0x1004006)
 | c::p,S,k+1,h=>by
  have ih:=pL p (S+c.wd) k (Nat.le_of_succ_le_succ h)
  have e:rD (c::p) (k+1)=c.wd+rD p k:=rfl
  rw[bI,e,←Int.add_assoc,←ih]
  have one:(S::eJ (S+c.wd) (aI p)).getD (1+ai p k) 0=(eJ (S+c.wd) (aI p)).getD (ai p k) 0:=by rw[add_comm];rfl
  have two:(S::(S+c.wd)::eJ (S+c.wd+0) (aI p)).getD (2+ai p k) 0=(eJ (S+c.wd) (aI p)).getD (ai p k) 0:=by rw[add_comm,Int.add_zero];rfl
  rcases c with _|_<;>first|exact one|exact two
theorem uF {hs:List Bool}:∀(n s:Nat) (e:Int) (i:Nat),i<n->(eK hs e (range' s n)).getD (i+1) 0=if hs.getD (s+i) false then(eK hs e (range' s n)).getD i 0 else((s+i:Nat):Int)+1
 | n+1,s,e,0,_=>by
  show(eK hs (if hs.getD s false then e else(s:Int)+1) (range' (s+1) n)).getD 0 0=if hs.getD s false then e else(s:Int)+1
  rcases n with _|_<;>rfl
 | n+1,s,e,i+1,h=>by
  have:=uF (hs:=hs) n (s+1) (if hs.getD s false then e else(s:Int)+1) i (lt_of_succ_lt_succ h)
  rw[show s+(i+1)=s+1+i by exact(az 0x10110044111040043)]
  exact this
theorem EO (l:List Cd) {j:Nat} (h:j<l.length):(l.map Cd.isB).getD j false=(l.getD j .a).isB:=by
 rw[getD_eq_getElem?_getD,getElem?_map,getD_eq_getElem?_getD,List.getElem?_eq_getElem h]
 rfl
noncomputable def ends (p:List Cl):List Int:=eK ((ah p).map Cd.isB) 0 (range' 0 (ah p).length)
theorem uG:∀k,k<=p.length->(ends p).getD (ai p k) 0=(ai p (cF p 0 k):Int)
 | 0,_=>by
  show(ends p).getD 0 0=0
  unfold ends
  cases range' 0 (ah p).length<;>rfl
 | k+1,h=>by
  have ih:=uG k (by exact(az 0x10001101100417) h)
  have hu:=uE (p:=p) (k:=k) h
  have hle:=dq (p:=p) (i:=k+1) (j:=p.length) h (Nat.le_refl _)
  rw[←bf]at hle
  have g (i:Nat) (hi:i<(cl p k).codes.length):=i7 p k i h hi
  have st (i:Nat) (hi:i<(cl p k).codes.length):(ends p).getD (ai p k+i+1) 0=if((cl p k).codes.getD i .a).isB then(ends p).getD (ai p k+i) 0 else((ai p k+i:Nat):Int)+1:=by
   have:=uF (hs:=(ah p).map Cd.isB) (ah p).length 0 0 (ai p k+i) (by exact(mG 0x30401042204027300017201040037) hu hle hi)
   rw[Nat.zero_add,EO _ (by exact(mG 0x30401042204027300017201040037) hu hle hi),g i hi]at this
   exact this
  have ht:cF p 0 (k+1)=if cg (cl p k).u=true then cF p 0 k else k+1:=by
   show(if 0<k+1∧cg (cl p k).u=true then cF p 0 k else k+1)=_
   by_cases c:cg (cl p k).u=true
   ·rw[if_pos c,if_pos ⟨succ_pos _,c⟩]
   ·rw[if_neg c,if_neg fun h=>c h.2]
  rw[ht,hu]
  have s0:=st 0
  have s1:=st 1
  simp only[Nat.add_zero,ih]at s0
  by_cases c:cg (cl p k).u=true
  ·rw[if_pos c]
   cases q:cl p k<;>rw[q]at c s0<;>first|exact bp c|exact s0 (by decide)
  ·rw[if_neg c,hu]
   cases q:cl p k<;>rw[q]at c s0 s1<;>first|exact absurd rfl c|exact s0 (by decide)|exact s1 (by decide)
theorem BN (c:Cl):c.bs.size=c.wd:=by rcases c with _|_<;>rfl
theorem rE (i:Nat):∀k,i<=k->cF p i k=max i (cF p 0 k)
 | 0,h=>by cases le_zero.mp h;rfl
 | k+1,h=>by
  have hl:=gO p 0 (k+1)
  by_cases c:i<k+1
  ·have ih:=rE i k (by exact(az 0x10001111040027) c)
   have hl:=gO p 0 k
   rw[gB,gB]
   by_cases c2:cg (cl p k).u=true
   ·rw[if_pos ⟨c,c2⟩,if_pos ⟨by exact(ba 0x11004012),c2⟩,ih]
   ·rw[if_neg fun h=>c2 h.2,if_neg fun h=>c2 h.2]
    exact(az 0x11104007111043111040017) h
  ·have e:i=k+1:=by exact(az 0x1110400301110400277111040017) h c
   rw[e]at *
   have:cF p (k+1) (k+1)=k+1:=by
    conv=>lhs;rw[gB]
    rw[if_neg fun h=>absurd h.1 (lt_irrefl _)]
   rw[this]
   exact(az 0x111047111043111040017) hl
theorem mz {i m:Nat} (h:i<=m):rD p m=rD p i+(((p.take m).drop i).map Cl.wd).sum:=by
 unfold rD
 have:p.take m=p.take i++(p.take m).drop i:=by
  have:=(List.take_append_drop i (p.take m)).symm
  rwa [take_take,Nat.min_eq_left h]at this
 conv=>lhs;rw[this]
 rw[map_append,List.sum_append]
theorem mA {i k:Nat} (h:i<=k):cJ p i k=rD p (max i (cF p 0 k))-rD p i:=by
 unfold cJ
 rw[rE i k h,mz (Nat.le_max_left _ _),map_congr_left fun c zz=>BN c]
 exact(oG 0x10001045006)
theorem BO {i k:Nat} (h:i<=k) (hk:k<=p.length):ug (ah p) (aI p) (ai p i) (ai p k)=cJ p i k:=by
 have ht:=gO p 0 k
 have e:max (ai p i) (ai p (cF p 0 k))=ai p (max i (cF p 0 k)):=by
  by_cases c:i<=cF p 0 k
  ·have e:max i (cF p 0 k)=cF p 0 k:=Nat.max_eq_right c
   rw[e]
   exact Nat.max_eq_right (dq c (by exact(aQ 0x10201002017100017) hk ht))
  ·have e:max i (cF p 0 k)=i:=Nat.max_eq_left (by exact(az 0x10101000177) c)
   rw[e]
   exact Nat.max_eq_left (dq (by exact(az 0x10101000177) c) (by exact(aQ 0x20001201017100017) h hk))
 show(eJ 0 (aI p)).getD (max (ai p i) ((ends p).getD (ai p k) 0).toNat) 0-(eJ 0 (aI p)).getD (ai p i) 0=_
 rw[uG k hk,Int.toNat_natCast,e,pL p 0 _ (by exact(b6 0x20300071103017201017100017) h hk ht),pL p 0 _ (by exact(aQ 0x20001201017100017) h hk),mA h]
 exact(oG 0x10005100140001456)
theorem EP (c:Cl):0<=c.wd:=by rcases c with _|_<;>decide
theorem uH:∀l:List Cl,0<=(l.map Cl.wd).sum
 | []=>Int.le_refl _
 | c::l=>by
  have:=uH l
  have:=EP c
  rw[map_cons,sum_cons]
  exact(oG 0x104014100147000147) (by assumption) this
theorem v7:∀{i j:Nat},i<=j->cF p 0 i<=cF p 0 j:=by
 intro i j h
 induction j with
 | zero=>cases le_zero.mp h;exact Nat.le_refl _
 | succ j ih=>
  rcases Nat.lt_or_eq_of_le h with h|rfl
  ·have:=ih (by exact(az 0x10001111040027) h)
   have hl:=gO p 0 i
   conv=>rhs;rw[gB]
   split
   ·exact this
   ·exact(aQ 0x11104201002017111040027) h hl
  ·exact Nat.le_refl _
theorem om {a i j:Nat} (h:a<=i) (hij:i<=j):cJ p a i<=cJ p a j:=by
 have:=v7 (p:=p) hij
 rw[mA h,mA (Nat.le_trans h hij),mz (p:=p) (i:=max a (cF p 0 i)) (m:=max a (cF p 0 j)) (by exact(aQ 0x10207002071100017) this)]
 have:=uH ((p.take (max a (cF p 0 j))).drop (max a (cF p 0 i)))
 exact(Fp 0x20001045201054000147) this
end
section
variable {p:List Cl} {M:Int} {V:List (String×String)} {wid:Nat->Nat->Int}
theorem jH {q:Nat->Bool} {a m:Nat} (h:∀i,a<=i->i<a+m->q i=false):((range' a m).filter q).getLast?=none:=by
 rw[filter_eq_nil_iff.mpr fun i hi=>by rw[mem_range'_1]at hi;rw[h i hi.1 hi.2];decide]
 rfl
theorem jI {q:Nat->Bool} {a m j:Nat} (h1:a<=j) (h2:j<a+m) (hq:q j=true) (hn:∀i,j<i->i<a+m->q i=false):((range' a m).filter q).getLast?=some j:=by
 have e:range' a m=range' a (j-a)++j::range' (j+1) (a+m-(j+1)):=by
  have:=List.range'_append_1 (s:=a) (m:=j-a) (n:=a+m-(j+1)+1)
  rw[show a+(j-a)=j by exact(az 0x10001050043100017) h1,show j-a+(a+m-(j+1)+1)=m by exact(aQ 0x20111110420004540010543200041027100017) h1 h2]at this
  rw[←this]
  rfl
 have e2:(range' (j+1) (a+m-(j+1))).filter q=[]:=filter_eq_nil_iff.mpr fun i hi=>by
  rw[mem_range'_1]at hi
  rw[hn i (by exact(b6 0x10002110043020451100441021011004187) hi) (by exact(b6 0x30204102110043020451100441021011004187) hi)]
  decide
 rw[e,filter_append,filter_cons,if_pos hq,e2,getLast?_concat]
theorem mB (q:Nat->Bool) (a:Nat):∀m,(∃j,a<=j∧j<a+m∧q j=true∧∀i,j<i->i<a+m->q i=false)∨∀i,a<=i->i<a+m->q i=false
 | 0=>.inr fun i h1 h2=>absurd h1 (by exact(az 0x1017011040027) h2)
 | m+1=>by
  cases c:q (a+m)with
  | true=>exact .inl ⟨a+m,by exact(az 0x10004001),by exact(az 0x11104004100042),c,fun i h1 h2=>absurd h1 (by exact(aQ 0x2010427112041040027) h2)⟩
  | false=>
   have go (i:Nat) (h:i<a+(m+1)) (hi:i<a+m->q i=false):q i=false:=by
    by_cases e:i=a+m
    ·rw[e];exact c
    ·exact hi (by exact(aQ 0x2010400202010400377112041040027) h e)
   rcases mB q a m with⟨j,h1,h2,h3,h4⟩|h
   ·exact .inl ⟨j,h1,by exact(aQ 0x11204104002201040027) h2,h3,fun i hi hm=>go i hm fun h=>h4 i hi h⟩
   ·exact .inr fun i hi hm=>go i hm fun hh=>h i hi hh
theorem oo (c:Nat->Bool):∀(l:List Nat) (f:Option Nat),l.foldl (fun f x=>if c x then some x else f) f=((l.filter c).getLast?).or f
 | [],_=>rfl
 | x::l,f=>by
  rw[foldl_cons,oo c l,filter_cons]
  cases c x with
  | false=>rfl
  | true=>
   rw[if_pos rfl,if_pos rfl]
   generalize l.filter c=F
   rcases kD F with rfl|⟨A,y,rfl⟩
   ·rfl
   ·rw[getLast?_concat,←List.cons_append,getLast?_concat];rfl
theorem ou:∀(p:List Cl) (k:Nat),dJ k p=(range' 0 (p.length+1)).map fun i=>k+ai p i
 | [],_=>rfl
 | c::p,k=>by
  have ih:=ou p (k+c.codes.length)
  show k::dJ (k+c.codes.length) p=_
  have e:range' (0+1) (p.length+1)=(range' 0 (p.length+1)).map (·+1):=mw _ 0
  rw[ih,length_cons,range'_succ (n:=p.length+1),map_cons,e,map_map]
  refine congrArg (k::·) (map_congr_left fun i zz=>?_)
  show k+c.codes.length+ai p i=k+ai (c::p) (i+1)
  rw[bI,Nat.add_assoc]
noncomputable def rF (p:List Cl) (M:Int) (a k:Nat):Option Nat:=(eE p M a (range' (a+1) (k-(a+1)))).getLast?
theorem j7 (a k:Nat):(∃j,a<j∧j<k∧cJ p a j<=M∧rF p M a k=some j∧∀i,j<i->i<k->¬ cJ p a i<=M)∨(rF p M a k=none∧∀i,a<i->i<k->¬ cJ p a i<=M):=by
 rcases mB (fun x=>decide (cJ p a x<=M)) (a+1) (k-(a+1))with⟨j,h1,h2,h3,h4⟩|h
 ·exact .inl ⟨j,by exact(az 0x10002101100417) h1,by exact(aQ 0x20102110042051100441027101100417) h1 h2,of_decide_eq_true h3,jI h1 h2 h3 h4,fun i hi hk=>of_decide_eq_false (h4 i hi (by exact(aQ 0x11204105112044002100027) hk))⟩
 ·exact .inr ⟨jH h,fun i hi hk=>of_decide_eq_false (h i hi (by exact(aQ 0x11204105112044002100027) hk))⟩
def zj (p:List Cl) (wid:Nat->Nat->Int):Prop:=∀i k,i<=k->k<=p.length->wid (ai p i) (ai p k)=cJ p i k
theorem zk (W:zj p wid) {a k:Nat} (hak:a<k) (hk:k<=p.length):(dJ 0 p).foldl (rL wid M (ai p a) (ai p k)) none=(rF p M a k).map (ai p):=by
 have hf:rL wid M (ai p a) (ai p k)=fun f x=>if mU wid M (ai p a) (ai p k) x then some x else f:=rfl
 have hm:(range' 0 (p.length+1)).map (fun i=>0+ai p i)=(range' 0 (p.length+1)).map (ai p):=map_congr_left fun i zz=>Nat.zero_add _
 rw[hf,oo,ou,hm,List.filter_map,or_none,List.getLast?_map]
 refine congrArg (Option.map (ai p)) ?_
 have no (i:Nat) (hi:i<=p.length) (h:a<i->i<k->¬ cJ p a i<=M):mU wid M (ai p a) (ai p k) (ai p i)=false:=by
  unfold mU
  rw[decide_eq_decide.mpr (rC (p:=p) (i:=a) (j:=i) (by exact(aQ 0x20001201017100027) hak hk) hi),decide_eq_decide.mpr (rC (p:=p) hi hk)]
  by_cases c:a<i
  ·by_cases c2:i<k
   ·rw[W a i (by exact(az 0x10001100027) c) hi,decide_eq_false (h c c2),Bool.and_false]
   ·rw[decide_eq_false c2,Bool.and_false]
    rfl
  ·rw[decide_eq_false c]
   rfl
 rcases j7 (p:=p) (M:=M) a k with⟨j,h1,h2,h3,h4,h5⟩|⟨h4,h5⟩
 ·rw[h4]
  refine jI (zero_le _) (by exact(aQ 0x11104014202002027100017) hk h2) ?_ fun i hi hn=>no i (by exact(az 0x10001111040140027) hn) fun zz c=>h5 i hi c
  show mU wid M (ai p a) (ai p k) (ai p j)=true
  unfold mU
  rw[decide_eq_true (cV h1 (by exact(aQ 0x10201002027100017) hk h2)),decide_eq_true (cV h2 hk),W a j (by exact(az 0x10001100027) h1) (by exact(aQ 0x10201002027100017) hk h2),decide_eq_true h3]
  rfl
 ·rw[h4]
  exact jH fun i zz hn=>no i (by exact(az 0x10001111040140027) hn) fun c d=>h5 i c d
theorem oA:∀(m b:Nat),p.length=b+m+1->∃k,b<k∧k<=p.length∧cT p k=true∧(∀i,b<i->i<k->cT p i=false)∧aB p b=k::aB p k
 | m,b,h=>by
  have e:aB p b=if cT p (b+1)then(b+1)::aB p (b+1)else aB p (b+1):=by
   unfold aB
   rw[show p.length-b=m+1 by exact(aQ 0x11204100053112010440037) h,range'_succ,filter_cons,show p.length-(b+1)=m by exact(aQ 0x20111040053112010440037) h]
  cases c:cT p (b+1)with
  | true=>
   rw[c,if_pos rfl]at e
   exact⟨b+1,by exact(ba 0x11004002),by exact(aQ 0x111041112010440037) h,c,fun i h1 h2=>absurd h1 (by exact(az 0x1027111040027) h2),e⟩
  | false=>
   rw[c,if_neg (by decide)]at e
   cases m with
   | zero=>
    have:cT p (b+1)=true:=by unfold cT;rw[if_pos (by exact(az 0x111043110110440037) h)]
    rw[c]at this
    exact bp this
   | succ m=>
    obtain⟨k,h1,h2,h3,h4,h5⟩:=oA m (b+1) (by exact(aQ 0x11201110444003111120410440037) h)
    exact⟨k,by exact(az 0x10002101100427) h1,h2,h3,fun i hi hk=>by
     by_cases d:i=b+1
     ·rw[d];exact c
     ·exact h4 i (by exact(az 0x1011004201100410377100027) hi d) hk,e.trans h5⟩
structure Nx (p:List Cl) (b k:Nat):Prop where
 lt:b<k
 le:k<=p.length
 may:cT p k=true
 no:∀i,b<i->i<k->cT p i=false
theorem CF {b:Nat} (h:b<p.length):∃k,Nx p b k∧cr p b=k∧aB p b=k::aB p k:=by
 obtain⟨k,h1,h2,h3,h4,h5⟩:=oA (p:=p) (p.length-b-1) b (by exact(az 0x11110010550044103100027) h)
 exact⟨k,⟨h1,h2,h3,h4⟩,by unfold cr;rw[h5];rfl,h5⟩
theorem Nx.stop {b k:Nat} (h:Nx p b k):cr p b=k:=by
 obtain⟨k',h',e,zz⟩:=CF (lt_of_lt_of_le h.lt h.le)
 rw[e]
 rcases Nat.lt_trichotomy k k' with c|c|c
 ·exact bp ((h'.no k h.lt c).symm.trans h.may)
 ·exact c.symm
 ·exact bp ((h.no k' h'.lt c).symm.trans h'.may)
theorem Nx.from {b a k:Nat} (h:Nx p b k) (h1:b<=a) (h2:a<k):Nx p a k:=⟨h2,h.le,h.may,fun i hi hk=>h.no i (by exact(aQ 0x20002201027100017) h1 hi) hk⟩
theorem uI (b:Nat):eE p M b (aB p b)=(range' (b+1) (p.length-b)).filter fun x=>decide (cJ p b x<=M)&&cT p x:=List.filter_filter
theorem rG {b j:Nat} (h1:b<j) (h2:j<=p.length) (h3:cT p j=true) (h4:cJ p b j<=M) (h5:∀i,j<i->i<=p.length->cT p i=true->¬ cJ p b i<=M):bJ p M b=j:=by
 have:(eE p M b (aB p b)).getLast?=some j:=by
  rw[uI]
  refine jI (by exact(az 0x10110041100027) h1) (by exact(aQ 0x20105112044002100017) h2) (by rw[decide_eq_true h4,h3];rfl) fun i hi hn=>?_
  cases c:cT p i with
  | false=>rw[Bool.and_false]
  | true=>rw[decide_eq_false (h5 i hi (by exact(b6 0x20301002051100443027201017100027) h1 h2 hn) c)];rfl
 unfold bJ
 rw[this]
theorem zl {b k:Nat} (hk:Nx p b k) (h:¬ cJ p b k<=M):bJ p M b=(rF p M b k).getD k:=by
 have e:=hk.stop
 have:(eE p M b (aB p b)).getLast?=none:=by
  rw[uI]
  refine jH fun i hi hn=>?_
  cases c:cT p i with
  | false=>rw[Bool.and_false]
  | true=>
   have hik:k<=i:=Nat.le_of_not_lt fun d=>bp ((hk.no i (by exact(az 0x10002101100417) hi) d).symm.trans c)
   have:=om (p:=p) (a:=b) (i:=k) (j:=i) (le_of_lt hk.lt) hik
   rw[decide_eq_false (by exact(Fp 0x10204720004701000477) h this)]
   rfl
 unfold bJ rF
 rw[this,e]
noncomputable def E9 (p:List Cl) (q:Nat×Nat):Nat×Nat:=(ai p q.1,ai p q.2)
theorem iD {f b:Nat} (h:b<p.length) (hf:p.length<=b+f):∃g,p.length<=bJ p M b+g∧bo p M f b=(b,bJ p M b)::bo p M g (bJ p M b):=by
 cases f with
 | zero=>exact absurd h (by exact(az 0x1027011040017) hf)
 | succ g=>exact⟨g,by have:=pE (M:=M) h;exact(b6 0x20304001003013010287112041040017) hf this,by rw[fw,if_pos h]⟩
theorem v8 (f:Nat):bo p M f p.length=[]:=by
 cases f with
 | zero=>rfl
 | succ f=>rw[fw,if_neg (lt_irrefl _)]
theorem uJ (W:zj p wid) {k:Nat}:∀(fuel a:Nat),Nx p a k->ai p k-ai p a<=fuel->∃E a',fB wid M (dJ 0 p) (ai p k) fuel (ai p a)=(E,ai p a')∧Nx p a' k∧(cJ p a' k<=M∨bJ p M a'=k) ∧
  ∀f,p.length<=a+f->∃g,p.length<=a'+g∧(bo p M f a).map (E9 p)=E++(bo p M g a').map (E9 p)
 | 0,a,hk,hf=>by
  have:=cV hk.lt hk.le
  exact absurd this (by exact(az 0x1027011000517) hf)
 | fuel+1,a,hk,hf=>by
  have hw:=W a k (le_of_lt hk.lt) hk.le
  by_cases c:cJ p a k<=M
  ·refine⟨[],a,?_,hk,.inl c,fun f hf=>⟨f,hf,rfl⟩⟩
   rw[md,if_pos (by rw[hw];exact c)]
  ·have hl:=zk (M:=M) W hk.lt hk.le
   have hn:=zl hk c
   rcases j7 (p:=p) (M:=M) a k with⟨j,h1,h2,h3,h4,h5⟩|⟨h4,h5⟩
   ·rw[h4]at hl hn
    have hs:=cV (p:=p) h1 (by have:=hk.le;exact(aQ 0x20001201017100027) h2 this)
    obtain⟨E,a',e1,e2,e3,e4⟩:=uJ W fuel j (hk.from (by exact(az 0x10001100027) h1) h2) (by exact(b6 0x20300051301027112041000517) hf hs)
    refine⟨(ai p a,ai p j)::E,a',?_,e2,e3,fun f hf=>?_⟩
    ·have hl:(dJ 0 p).foldl (rL wid M (ai p a) (ai p k)) none=some (ai p j):=hl
     rw[md,if_neg (by rw[hw];exact c),hl]
     show((ai p a,ai p j)::_,_)=_
     rw[e1]
    ·obtain⟨g,hg,eg⟩:=iD (M:=M) (lt_of_lt_of_le hk.lt hk.le) hf
     have hn:bJ p M a=j:=hn
     rw[hn]at hg eg
     obtain⟨g2,hg2,eg2⟩:=e4 g hg
     refine⟨g2,hg2,?_⟩
     rw[eg,map_cons,eg2]
     rfl
   ·rw[h4]at hl hn
    refine⟨[],a,?_,hk,.inr hn,fun f hf=>⟨f,hf,rfl⟩⟩
    have hl:(dJ 0 p).foldl (rL wid M (ai p a) (ai p k)) none=none:=hl
    rw[md,if_neg (by rw[hw];exact c),hl]
theorem zm {P:List Nat} {cut s:Nat} (h:wid s cut<=M) (f:Nat):fB wid M P cut f s=([],s):=by
 cases f with
 | zero=>rfl
 | succ f=>rw[md,if_pos h]
theorem zp {P:List Nat} {s:BD} {cut:Nat} {L:List (Nat×Nat)} {a:Nat} (es:eX wid M s cut=(L,a)):wl V wid M P s cut=if dc V cut then(L++(fB wid M P cut (cut-a) a).1++[((fB wid M P cut (cut-a) a).2,cut)],cut,none)else(L++(fB wid M P cut (cut-a) a).1,(fB wid M P cut (cut-a) a).2,some cut):=by
 unfold wl
 rw[es]
def LX (p:List Cl) (M:Int) (a j:Nat) (o:Option Nat):Prop:=(o=none∧j=a)∨(o=some (ai p j)∧a<j∧cT p j=true∧(cJ p a j<=M∨bJ p M a=j))
theorem BP (W:zj p wid) (hV:∀k,1<=k->k<=p.length->dc V (ai p k)=decide (k=p.length)):∀(m j a:Nat) (L:List (Nat×Nat)) (o:Option Nat),p.length=j+m+1->LX p M a j o->∀f,p.length<=a+f ->
  (((aB p j).map (ai p)).foldl (wl V wid M (dJ 0 p)) (L,ai p a,o)).1=L++(bo p M f a).map (E9 p):=by
 intro m
 induction m using Nat.strongRecOn with
 | _ m ih=>
 intro j a L o hm ho f hf
 obtain⟨k,hk,zz,hstop⟩:=CF (p:=p) (b:=j) (by exact(aQ 0x102112010440037) hm)
 have hk0:=hk.lt
 have hkl:=hk.le
 rw[hstop,map_cons,foldl_cons]
 have hend:aB p p.length=[]:=by unfold aB;rw[sub_self];rfl
 -- the rest,behind this stop
 have rest (L:List (Nat×Nat)) (a:Nat) (ha:a<k) (hc:cJ p a k<=M∨bJ p M a=k) (f:Nat) (hf:p.length<=a+f):
   (((aB p k).map (ai p)).foldl (wl V wid M (dJ 0 p)) (if dc V (ai p k)then(L++[(ai p a,ai p k)],ai p k,none)else(L,ai p a,some (ai p k)))).1=L++(bo p M f a).map (E9 p):=by
  rw[hV k (by exact(az 0x10111100027) hk0) hkl]
  by_cases c:k=p.length
  ·have hn:bJ p M a=p.length:=by
    rcases hc with h|h
    ·exact rG (by exact(aQ 0x20002201037100027) ha c) (Nat.le_refl _) (by rw[←c];exact hk.may) (by rw[←c];exact h) fun i h1 h2=>absurd h1 (by exact(az 0x1027100017) h2)
    ·rw[h,c]
   obtain⟨g,zz,eg⟩:=iD (p:=p) (M:=M) (by exact(aQ 0x20002201037100027) ha c) hf
   rw[decide_eq_true c,if_pos rfl,c,hend,eg,hn,v8]
   rfl
  ·rw[decide_eq_false c,if_neg (by decide)]
   exact ih (p.length-k-1) (by exact(b6 0x2011300055200030377003017301027112010440037) hm hk0 hkl c) k a L _ (by exact(az 0x1111001055004410301000377100017) hkl c) (.inr ⟨rfl,ha,hk.may,hc⟩) f hf
 -- the loop's part
 have loop (L:List (Nat×Nat)) (a:Nat) (ha:Nx p a k) (f:Nat) (hf:p.length<=a+f):
   (((aB p k).map (ai p)).foldl (wl V wid M (dJ 0 p)) (if dc V (ai p k)then(L++(fB wid M (dJ 0 p) (ai p k) (ai p k-ai p a) (ai p a)).1++[((fB wid M (dJ 0 p) (ai p k) (ai p k-ai p a) (ai p a)).2,ai p k)],ai p k,none)
    else(L++(fB wid M (dJ 0 p) (ai p k) (ai p k-ai p a) (ai p a)).1,(fB wid M (dJ 0 p) (ai p k) (ai p k-ai p a) (ai p a)).2,some (ai p k)))).1=L++(bo p M f a).map (E9 p):=by
  obtain⟨E,a',e1,e2,e3,e4⟩:=uJ (M:=M) W _ a ha (Nat.le_refl _)
  obtain⟨g,hg,eg⟩:=e4 f hf
  rw[e1,eg,←append_assoc]
  exact rest (L++E) a' e2.lt e3 g hg
 rcases ho with⟨rfl,rfl⟩|⟨rfl,haj,hmj,hc⟩
 ·exact loop L j hk f hf
 ·have hw:=W a k (by exact(aQ 0x10201002027100027) hk0 haj) hkl
  by_cases c:cJ p a k<=M
  ·have es:eX wid M (L,ai p a,some (ai p j)) (ai p k)=(L,ai p a):=by
    show(if wid (ai p a) (ai p k)<=M then(L,ai p a)else _)=_
    rw[if_pos (by rw[hw];exact c)]
   rw[zp es,zm (by rw[hw];exact c),append_nil]
   exact rest L a (by exact(aQ 0x10202002027100027) hk0 haj) (.inl c) f hf
  ·have es:eX wid M (L,ai p a,some (ai p j)) (ai p k)=(L++[(ai p a,ai p j)],ai p j):=by
    show(if wid (ai p a) (ai p k)<=M then(L,ai p a)else _)=_
    rw[if_neg (by rw[hw];exact c)]
   have hn:bJ p M a=j:=by
    rcases hc with h|h
    ·refine rG haj (by exact(aQ 0x101112010440037) hm) hmj h fun i h1 h2 h3 h4=>c ?_
     have hki:k<=i:=Nat.le_of_not_lt fun d=>bp ((hk.no i h1 d).symm.trans h3)
     have:=om (p:=p) (a:=a) (i:=k) (j:=i) (by exact(aQ 0x10201002027100027) hk0 haj) hki
     exact(Fp 0x10204002047100047) h4 this
    ·exact h
   obtain⟨g,hg,eg⟩:=iD (p:=p) (M:=M) (b:=a) (by exact(b6 0x302103027112010440037) hm haj) hf
   rw[hn]at hg eg
   have:=loop (L++[(ai p a,ai p j)]) j hk g hg
   rw[eg,map_cons]
   rw[zp es]
   refine this.trans ?_
   rw[append_assoc]
   rfl
theorem v9 (hp:rN p) (h0:p≠[]):b3 M p=(bo p M p.length 0).map (E9 p):=by
 have hn:0<p.length:=length_pos_iff.mpr h0
 obtain⟨zz,h2,zz⟩:=uC hp h0
 have:=BP (M:=M) (wid:=ug (ah p) (aI p)) (V:=mT (ah p)) (fun i k h hk=>BO h hk) (fun k h1 h=>(h2 k h1 h).2) (p.length-1) 0 0 [] none (by exact(ba 0x11110050144003000127) hn) (.inl ⟨rfl,rfl⟩) p.length (by exact(ba 0x14001))
 unfold b3 jz
 rw[zi hp h0]
 exact this
theorem uK:∀p:List Cl,(aI p).length=(ah p).length
 | []=>rfl
 | c::p=>by
  have e:aI (c::p)=c.wds++aI p:=flatMap_cons
  rw[e,aT,length_append,length_append,uK p]
  refine congrArg (·+_) ?_
  rcases c with _|_<;>rfl
theorem EQ (cs:List Cl) (hcs:cs.length<12):Cy cs:=by
 refine⟨ry cs,fun x hx=>?_,fun M w zz zz x hx=>?_⟩
 ·rw[sZ]
  exact oi (aN [] cs) [] x hx
 ·obtain⟨h0,hp,hl⟩:=mv cs [] (fun zz h=>nomatch h) x.2 (rz _ _ x hx)
  have hl:x.2.length<=0+cs.length:=hl
  have hin:=jC (p:=x.2) (M:=M) x.2.length 0 (zero_le _)
  have hlen:=eF (p:=x.2) (M:=M) x.2.length 0
  have hlines:=v9 (M:=M) hp h0
  have hfl:=kE sW x.2
  have hne:ah x.2≠[]:=fun e=>by
   have:=cV (p:=x.2) (length_pos_iff.mpr h0) (Nat.le_refl _)
   rw[←bf,e]at this
   exact absurd this (not_lt_zero _)
  refine⟨⟨hne,zh h0 hp,by unfold ah;exact(aQ 0x4022202102182017000141017c10027) hcs hl hfl,by exact(az 0x4022102000141017c10027) hcs hl,uK _,fun q hq=>?_,by rw[hlines,length_map];exact(aQ 0x38432202102017000141017c10027) hcs hl hlen⟩,?_⟩
  ·rw[hlines]at hq
   obtain⟨y,hy,rfl⟩:=mem_map.mp hq
   have:=hin y hy
   exact⟨dq this.1 this.2,by rw[bf];exact dq this.2 (Nat.le_refl _)⟩
  ·unfold dW fQ
   rw[hlines,map_map]
   refine map_congr_left fun q hq=>?_
   have:=v5 (w:=w) hp (hin q hq)
   show(x.1+ai x.2 q.1,x.1+ai x.2 q.2,uh w x.2 (ai x.2 q.1,ai x.2 q.2))=_
   rw[this]
theorem law_true (l:List Int):aW TT 60 123 [.fz (.lst (l.map .int))] fun r zz=>r=.bool true:=HU BM EQ (by decide) rfl
end
end
end Mine.Internal.P
theorem PySem.Challenge.cw_pb0601_01_holds : PySem.Challenge.rw_pb0601_01.Holds :=
 Mine.Internal.head_ok (Mine.Internal.walk_ok fun l _=>Mine.Internal.P.law_true l)
