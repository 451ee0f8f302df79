import PyProof.Rows.All
import Wide.All
import OpenK.AllK
import Wide.FinOn
import PySem.Challenge.RW_pq1192_01
open PySem PySem.W PyProof.Rows
open Exists (imp)
open And (imp_right)
open False (elim)
open Str (ofString)
open Heap (lt_size get?_push_of_some get?_push_size size_push)
open Int (not_lt_of_ge not_ofNat_neg le_add_one natCast_nonneg max_eq_right toNat_natCast fmod_nonneg_of_pos fmod_lt_of_pos)
open Array (length_toList toList_append any_toList getElem?_toList size_append)
open Bool (and_eq_true not_eq_true' false_eq_true or_eq_true false_ne_true)
open Option (getD_some getD_none map_eq_some_iff map_some bind_eq_some_iff)
open Nat (le_of_ble_eq_true le_of_not_lt lt_irrefl le_succ lt_succ_of_lt lt_of_lt_of_le succ_pos lt_or_ge zero_le le_add_right le_trans le_refl le_of_lt ne_of_lt beq lt_of_le_of_lt ble add_le_add_right le_antisymm le_of_eq)
open List (lookup_cons zip_cons_cons append_nil nil_append cons_append length_cons length_nil getElem?_eq_none getElem_mem take_succ_cons find?_cons any_cons all_cons all_eq_true map_nil map_cons not_mem_nil nodup_cons flatMap_cons map_map map_append nodup_append mem_singleton nodup_nil mem_cons eraseIdx_eq_take_drop_succ foldl_cons take_add_one take_of_length_le length_map getElem?_map filter_cons_of_pos of_mem_zip map_reverse length_append length_take take_length getElem_cons_drop take_append_drop mem_append_right flatMap_append sum_cons eq_nil_of_length_eq_zero map_congr_left map_flatMap mem_flatMap mem_append sum_append flatMap_map mem_map getElem?_append_left mem_of_getElem? length_singleton append_cancel_left mem_append_left dropLast_concat drop_succ_cons drop_zero getLast?_concat take_zero lookup_nil length_pos_of_mem getElem?_set_self getElem?_set_ne mem_or_eq_of_mem_set length_set length_range set_getElem_self getElem?_eq_getElem append_assoc)
set_option Elab.async false
set_option compiler.extract_closed false
set_option genSizeOf false
set_option bootstrap.genMatcherCode false
set_option tactic.hygienic false
set_option maxRecDepth 100000
set_option linter.unusedVariables false
set_option linter.unusedSimpArgs false
set_option linter.unusedVariables false
namespace Mine.Internal
structure A3 (a b c:Prop):Prop where
 a:a
 b:b
 c:c
structure A4 (a b c d:Prop):Prop where
 a:a
 b:b
 c:c
 d:d
structure A5 (a b c d e:Prop):Prop where
 a:a
 b:b
 c:c
 d:d
 e:e
structure A6 (a b c d e f:Prop):Prop where
 a:a
 b:b
 c:c
 d:d
 e:e
 f:f
section
universe u
variable {U:Sort u} {a b:U} {motive:U->Prop}
@[elab_as_elim] theorem rwL (e:a=b) (h:motive b):motive a:=e▸h
@[elab_as_elim] theorem rwR (e:a=b) (h:motive a):motive b:=e▸h
end
section
universe u v w x y
variable {U:Sort u} {O:Sort v} {γ:Sort w} {δ:Sort x} {ε:Sort y} 
inductive E2 (p:U->O->Prop):Prop
 |mk (a:U) (b:O) (h:p a b)
inductive E3 (p:U->O->γ->Prop):Prop
 |mk (a:U) (b:O) (c:γ) (h:p a b c)
inductive E4 (p:U->O->γ->δ->Prop):Prop
 |mk (a:U) (b:O) (c:γ) (d:δ) (h:p a b c d)
inductive E5 (p:U->O->γ->δ->ε->Prop):Prop
 |mk (a:U) (b:O) (c:γ) (d:δ) (e:ε) (h:p a b c d e)
theorem Ef {p:U->O->Prop}:E2 p↔∃a,∃b,p a b:=⟨λ⟨a,b,h⟩=>⟨a,b,h⟩,λ⟨a,b,h⟩=>⟨a,b,h⟩⟩
end
theorem Eg {a b c:Prop}:A3 a b c↔a∧b∧c:=⟨λ⟨a,b,c⟩=>⟨a,b,c⟩,λ⟨a,b,c⟩=>⟨a,b,c⟩⟩
section
variable {U O:Type} {a b:U} {c:O} {l s t:List U} {f:U->O} {g:U->List O} {i:Nat}
theorem mS (h:a∈[b]):a=b:=mem_singleton.mp h
theorem mC (h:a∈b::l):a=b\/a∈l:=mem_cons.mp h
theorem ms (h:a∈[b]):b=a:=(mS h).symm
theorem mc (h:a∈b::l):b=a\/a∈l:=(mC h).imp_left Eq.symm
theorem mA (h:a∈s++t):a∈s\/a∈t:=mem_append.mp h
theorem mP (h:c∈l.map f):∃a,a∈l∧f a=c:=mem_map.mp h
theorem mR (h:∃a,a∈l∧f a=c):c∈l.map f:=mem_map.mpr h
theorem mF (h:c∈l.flatMap g):∃a,a∈l∧c∈g a:=mem_flatMap.mp h
theorem mG (h:∃a,a∈l∧c∈g a):c∈l.flatMap g:=mem_flatMap.mpr h
theorem mE (h:l[i]?=some a):∃h:i<l.length,l[i]=a:=List.getElem?_eq_some_iff.mp h
end
theorem ay {a b c:Nat} (h:b<=c) (e:ble a b=true):a<=c:=le_trans (le_of_ble_eq_true e) h
section
universe u v w x y
variable {U:Sort u} {O:Sort v} {γ:Sort w} {δ:Sort x} {ε:Sort y} {a b c d e f G:Prop}
theorem af (h:a∧b) (k:a->b->G):G:=k h.1 h.2
theorem bH (h:A3 a b c) (k:a->b->c->G):G:=k h.1 h.2 h.3
theorem jh (h:A4 a b c d) (k:a->b->c->d->G):G:=k h.1 h.2 h.3 h.4
theorem yq (h:A5 a b c d e) (k:a->b->c->d->e->G):G:=k h.1 h.2 h.3 h.4 h.5
theorem jO (h:A6 a b c d e f) (k:a->b->c->d->e->f->G):G:=k h.1 h.2 h.3 h.4 h.5 h.6
section
variable {a b c d e f:U->Prop}
theorem a8 (h:∃x,a x) (k:∀x,a x->G):G:=h.elim k
theorem ad (h:∃x,a x∧b x) (k:∀x,a x->b x->G):G:=h.elim λx ⟨a,b⟩=>k x a b
theorem de (h:∃x,A3 (a x) (b x) (c x)) (k:∀x,a x->b x->c x->G):G:=h.elim λx h=>k x h.1 h.2 h.3
theorem pS (h:∃x,A4 (a x) (b x) (c x) (d x)) (k:∀x,a x->b x->c x->d x->G):G:=h.elim λx h=>k x h.1 h.2 h.3 h.4
end
section
variable {a b c d e f:U->O->Prop}
theorem vU (h:E2 a) (k:∀x y,a x y->G):G:=h.rec k
theorem bb (h:E2 λx y=>a x y∧b x y) (k:∀x y,a x y->b x y->G):G:=h.rec λx y h=>k x y h.1 h.2
theorem cq (h:E2 λx y=>A3 (a x y) (b x y) (c x y)) (k:∀x y,a x y->b x y->c x y->G):G:=h.rec λx y h=>k x y h.1 h.2 h.3
theorem vT (h:E2 λx y=>A4 (a x y) (b x y) (c x y) (d x y)) (k:∀x y,a x y->b x y->c x y->d x y->G):G:=h.rec λx y h=>k x y h.1 h.2 h.3 h.4
theorem Dv (h:E2 λx y=>A5 (a x y) (b x y) (c x y) (d x y) (e x y)) (k:∀x y,a x y->b x y->c x y->d x y->e x y->G):G:=h.rec λx y h=>k x y h.1 h.2 h.3 h.4 h.5
theorem yp (h:E2 λx y=>A6 (a x y) (b x y) (c x y) (d x y) (e x y) (f x y)) (k:∀x y,a x y->b x y->c x y->d x y->e x y->f x y->G):G:=h.rec λx y h=>k x y h.1 h.2 h.3 h.4 h.5 h.6
end
section
variable {a b c d e f:U->O->γ->Prop}
theorem sU (h:E3 a) (k:∀x y z,a x y z->G):G:=h.rec k
theorem gQ (h:E3 λx y z=>a x y z∧b x y z) (k:∀x y z,a x y z->b x y z->G):G:=h.rec λx y z h=>k x y z h.1 h.2
theorem C5 (h:E3 λx y z=>A3 (a x y z) (b x y z) (c x y z)) (k:∀x y z,a x y z->b x y z->c x y z->G):G:=h.rec λx y z h=>k x y z h.1 h.2 h.3
theorem nC (h:E3 λx y z=>A4 (a x y z) (b x y z) (c x y z) (d x y z)) (k:∀x y z,a x y z->b x y z->c x y z->d x y z->G):G:=h.rec λx y z h=>k x y z h.1 h.2 h.3 h.4
theorem zA (h:E3 λx y z=>A6 (a x y z) (b x y z) (c x y z) (d x y z) (e x y z) (f x y z)) (k:∀x y z,a x y z->b x y z->c x y z->d x y z->e x y z->f x y z->G):G:=h.rec λx y z h=>k x y z h.1 h.2 h.3 h.4 h.5 h.6
end
section
variable {a b c d e f:U->O->γ->δ->Prop}
theorem C4 (h:E4 a) (k:∀x y z w,a x y z w->G):G:=h.rec k
theorem En (h:E4 λx y z w=>a x y z w∧b x y z w) (k:∀x y z w,a x y z w->b x y z w->G):G:=h.rec λx y z w h=>k x y z w h.1 h.2
theorem Du (h:E4 λx y z w=>A3 (a x y z w) (b x y z w) (c x y z w)) (k:∀x y z w,a x y z w->b x y z w->c x y z w->G):G:=h.rec λx y z w h=>k x y z w h.1 h.2 h.3
theorem Bw (h:E4 λx y z w=>A4 (a x y z w) (b x y z w) (c x y z w) (d x y z w)) (k:∀x y z w,a x y z w->b x y z w->c x y z w->d x y z w->G):G:=h.rec λx y z w h=>k x y z w h.1 h.2 h.3 h.4
theorem Em (h:E4 λx y z w=>A5 (a x y z w) (b x y z w) (c x y z w) (d x y z w) (e x y z w)) (k:∀x y z w,a x y z w->b x y z w->c x y z w->d x y z w->e x y z w->G):G:=h.rec λx y z w h=>k x y z w h.1 h.2 h.3 h.4 h.5
theorem zy (h:E4 λx y z w=>A6 (a x y z w) (b x y z w) (c x y z w) (d x y z w) (e x y z w) (f x y z w)) (k:∀x y z w,a x y z w->b x y z w->c x y z w->d x y z w->e x y z w->f x y z w->G):G:=h.rec λx y z w h=>k x y z w h.1 h.2 h.3 h.4 h.5 h.6
end
section
variable {a b c d e f:U->O->γ->δ->ε->Prop}
theorem vS (h:E5 a) (k:∀x y z w v,a x y z w v->G):G:=h.rec k
theorem El (h:E5 λx y z w v=>A3 (a x y z w v) (b x y z w v) (c x y z w v)) (k:∀x y z w v,a x y z w v->b x y z w v->c x y z w v->G):G:=h.rec λx y z w v h=>k x y z w v h.1 h.2 h.3
theorem Dt (h:E5 λx y z w v=>A6 (a x y z w v) (b x y z w v) (c x y z w v) (d x y z w v) (e x y z w v) (f x y z w v)) (k:∀x y z w v,a x y z w v->b x y z w v->c x y z w v->d x y z w v->e x y z w v->f x y z w v->G):G:=h.rec λx y z w v h=>k x y z w v h.1 h.2 h.3 h.4 h.5 h.6
end
end
section
variable {U O:Type} {a b:U} {P:Prop}
theorem nS (h:none=some a):P:=nomatch h
theorem sN (h:some a=none):P:=nomatch h
theorem sI (h:some a=some b):a=b:=Option.some.inj h
end
section
universe u v w x y
variable {U:Sort u} {O:Sort v} {γ:Sort w} {δ:Sort x} {ε:Sort y} {a b c d e f c':Prop}
theorem A3.r (k:c->c') (h:A3 a b c):A3 a b c':=⟨h.1,h.2,k h.3⟩
theorem A4.r (k:d->c') (h:A4 a b c d):A4 a b c c':=⟨h.1,h.2,h.3,k h.4⟩
theorem A5.r (k:e->c') (h:A5 a b c d e):A5 a b c d c':=⟨h.1,h.2,h.3,h.4,k h.5⟩
theorem A6.r (k:f->c') (h:A6 a b c d e f):A6 a b c d e c':=⟨h.1,h.2,h.3,h.4,h.5,k h.6⟩
theorem E2.i {p q:U->O->Prop} (k:∀a b,p a b->q a b) (h:E2 p):E2 q:=h.rec λa b h=>⟨a,b,k a b h⟩
theorem E3.i {p q:U->O->γ->Prop} (k:∀a b c,p a b c->q a b c) (h:E3 p):E3 q:=h.rec λa b c h=>⟨a,b,c,k a b c h⟩
theorem E4.i {p q:U->O->γ->δ->Prop} (k:∀a b c d,p a b c d->q a b c d) (h:E4 p):E4 q:=h.rec λa b c d h=>⟨a,b,c,d,k a b c d h⟩
theorem E5.i {p q:U->O->γ->δ->ε->Prop} (k:∀a b c d e,p a b c d e->q a b c d e) (h:E5 p):E5 q:=h.rec λa b c d e h=>⟨a,b,c,d,e,k a b c d e h⟩
end
theorem Dy {a b c k:Nat} (h:b<=c+k):max a b<=max a c+k:=Nat.max_le.mpr ⟨le_trans (Nat.le_max_left a c) (le_add_right _ k),le_trans h (add_le_add_right (Nat.le_max_right a c) k)⟩
theorem Dz {a b c k:Nat} (h:a<=c+k):max a b<=max c b+k:=Nat.max_le.mpr ⟨le_trans h (add_le_add_right (Nat.le_max_left c b) k),le_trans (Nat.le_max_right c b) (le_add_right _ k)⟩
theorem Es {a l c:Nat}:max (max a 0) c<=max a (max l c):=Nat.max_le.mpr ⟨Nat.max_le.mpr ⟨Nat.le_max_left _ _,zero_le _⟩,le_trans (Nat.le_max_right _ _) (Nat.le_max_right _ _)⟩
section
variable {a b c d k n:Nat}
theorem yy (h:a+k<=b) (e:ble b (c+k)=true):a<=c:=Nat.le_of_add_le_add_right (le_trans h (le_of_ble_eq_true e))
theorem lu (h:d<b) (g:a<=n) (e:ble (b+c) (a+1)=true):d+c<=n:=le_trans (Nat.le_of_succ_le_succ (le_trans (le_of_eq (Nat.succ_add d c).symm) (le_trans (add_le_add_right h c) (le_of_ble_eq_true e)))) g
theorem Ev (h:d<=b) (g:a<=n) (e:ble (b+c) a=true):d+c<=n:=le_trans (add_le_add_right h c) (le_trans (le_of_ble_eq_true e) g)
theorem Cb (h:a+b<=c):a<=c:=le_trans (le_add_right a b) h
theorem rW (h:a+b<=c):b<=c:=le_trans (Nat.le_add_left b a) h
theorem C9 (h:a+b+c<=d):b<=d:=rW (Cb h)
end
theorem Dx {a b:Int} (h:b<0) (h1:b<=a∧a<=0) (h2:b<a):a.natAbs<b.natAbs:=Int.natAbs_neg a▸Int.natAbs_neg b▸Int.natAbs_lt_natAbs_of_nonneg_of_lt (Int.neg_nonneg_of_nonpos h1.2) (Int.neg_lt_neg h2)
theorem Dw {a b:Int} (h1:0<=a∧a<=b) (h2:a<b):a.natAbs<b.natAbs:=Int.natAbs_lt_natAbs_of_nonneg_of_lt h1.1 h2
theorem Do {n:Nat} (h:¬((n:Int)-1<0)):(n:Int)-1=((n-1:Nat):Int):=by
 cases n with
 |zero=>exact absurd (by decide) h
 |succ n=>exact Int.add_sub_cancel (n:Int) 1
theorem Eu {n:Nat}:n-1+min 1 n=n:=by
 cases n with
 |zero=>rfl
 |succ n=>exact congrArg (n+·) (Nat.min_eq_left (Nat.succ_le_succ (zero_le n)))
theorem Et {n:Nat}:n-(n-1)+min (n-1) n=n:=rwL (Nat.min_eq_left (Nat.sub_le n 1)) (Nat.sub_add_cancel (Nat.sub_le n 1))
theorem Er {n:Nat}:(if (n:Int)-1<0 then 0 else(n:Int)-1)=((n-1:Nat):Int):=by
 by_cases h:(n:Int)-1<0
 ·cases n with
  |zero=>rfl
  |succ n=>exact absurd h (Int.not_lt.mpr (Int.le_trans (natCast_nonneg n) (Int.le_of_eq (Int.add_sub_cancel (n:Int) 1).symm)))
 ·exact(if_neg h).trans (Do h)
theorem Ep {n:Nat}:(if 0<(n:Int)-1 then(n:Int)-1 else 0)=((n-1:Nat):Int):=by
 by_cases h:0<(n:Int)-1
 ·exact(if_pos h).trans (Do (Int.not_lt.mpr (Int.le_of_lt h)))
 ·refine(if_neg h).trans ?_;cases n with
  |zero=>rfl
  |succ n=>exact Int.le_antisymm (natCast_nonneg n) (Int.le_trans (Int.le_of_eq (Int.add_sub_cancel (n:Int) 1).symm) (Int.not_lt.mp h))
theorem DA {a b n p x:Nat} (h1:a<p) (h2:n<=x) (h3:b+n<=x):max a b+(n+1)<=p+x:=(Nat.le_total a b).elim
 (λh=>rwL (Nat.max_eq_right h) (rwL (Nat.add_comm p x) (show b+n+1<=x+p from Nat.add_le_add h3 (Nat.zero_lt_of_lt h1))))
 λh=>rwL (Nat.max_eq_left h) (le_trans (le_of_eq (Nat.succ_add a n).symm) (Nat.add_le_add h1 h2))
theorem Ds {u m c:Nat} (h:u+20 * (m+1)+100<9900) (e:ble c 20=true):u+c+20 * m+100<9900:=
 lt_of_le_of_lt (add_le_add_right (le_trans (le_of_eq (Nat.add_right_comm u c (20 * m))) (Nat.add_le_add_left (le_of_ble_eq_true e) (u+20 * m))) 100) h
theorem Ej {u m c:Nat} (h:u+3 * (m+1)<1000) (e:ble c 3=true):u+c+3 * m<1000:=
 lt_of_le_of_lt (le_trans (le_of_eq (Nat.add_right_comm u c (3 * m))) (Nat.add_le_add_left (le_of_ble_eq_true e) (u+3 * m))) h
theorem i4 (a b c d:Int):a+b+(c+d)=a+c+(b+d):=(Int.add_assoc a b (c+d)).trans ((congrArg (a+·) (Int.add_left_comm b c d)).trans (Int.add_assoc a c (b+d)).symm)
theorem yA {y s S M:Int} {n:Nat} (k:y+(s+S+((n+1:Nat):Int))<=M+1) (nn:0<=S+n):y+s<=M:=Int.le_trans (Int.le_add_of_nonneg_right nn) (Int.le_of_add_le_add_right (Int.le_trans (Int.le_of_eq (show y+s+(S+n)+1=y+(s+S+(n+1))from by simp only[Int.add_assoc])) k))
theorem yB {y s S M:Int} {n:Nat} (k:y+(s+S+((n+1:Nat):Int))<=M+1):y+(s+1)+(S+n)<=M+1:=Int.le_trans (Int.le_of_eq ((Int.add_assoc y (s+1) (S+n)).trans (congrArg (y+·) ((i4 s 1 S n).trans (congrArg (s+S+·) (Int.add_comm 1 n)))))) k
theorem yC {y h S M:Int} {n:Int} (e:h=S+n-1) (k:y+h<=M):y+(S+n)<=M+1:=Int.le_trans (Int.le_of_eq ((congrArg (y+·) (((congrArg (·+1) e).trans (Int.sub_add_cancel _ 1)).symm)).trans (Int.add_assoc y h 1).symm)) (Int.add_le_add_right k 1)
end Mine.Internal
namespace Mine.Internal
noncomputable def jd (den:Code->Sem Fin) (p:Program) (w:World) (n₀:Nat) (ann:Option Value):Nat->SharedT->Thread->Option SharedT
 |0,_,_=>none
 |n+1,s,t=>cond (through t) (some s) (cond (stepOk n₀ ann t) ((stepT den p w s t).bind λx=>Prod.rec (motive:=λ_=>Option SharedT) (λs' t'=>jd den p w n₀ ann n s' t') x) none)
theorem ow {tb:String->Option Builtin} {p:Program} {w:World} {n₀:Nat} {ann:Option Value}:∀{n:Nat} {s s':SharedT} {t:Thread},jd (denote tb) p w n₀ ann n s t=some s'->topRun tb p w n₀ ann n s.abs t=some s'.abs:=by
 intro n
 induction n with
 |zero=>
  intro _ _ _ h;cases h
 |succ n ih=>
  intro s s' t h;have h:cond _ _ (cond _ _ _)=_:=h;unfold topRun;cases ht:through t with
  |true=>rw[ht]at h;cases h;rfl
  |false=>
   rw[ht]at h;cases hk:stepOk n₀ ann t with
   |false=>rw[hk]at h;cases h
   |true=>
    rw[hk]at h;cases hs:stepT (denote tb) p w s t with
    |none=>rw[hs]at h;cases h
    |some x=>
     obtain⟨s2,t2⟩:=x;rw[hs]at h;dsimp only at h ⊢;rw[stepT_spec hs];exact ih h
noncomputable def Bg:List Obj->Nat->BT->BT
 |[],_,t=>t
 |o::r,i,t=>Bg r (i+1) (t.ins i o)
noncomputable def S0 (P:Params) (os:OsState):SharedT:=⟨Bg (boot_heap P).objs.toList 0 .nil,(boot_heap P).objs.size,(boot_heap P).life,#[],boot_drawn,boot_toks,os⟩
theorem zl (P:Params) (os:OsState):(S0 P os).abs=⟨boot_heap P,#[],boot_drawn,boot_toks,os⟩:=by
 unfold S0 SharedT.abs;kernel_rfl
noncomputable def pD (den:Code->Sem Fin) (p:Program) (w:World) (n₀:Nat) (ann:Option Value):Nat->SharedT->Thread->Option SharedT
 |0,_,_=>none
 |n+1,s,t=>cond (through t) (some s) (cond (PySem.W.Fast.tw6613529449190102663 n₀ ann t) ((PySem.W.Fast.tw10156331382660048174 den p w s t).bind λx=>Prod.rec (motive:=λ_=>Option SharedT) (λs' t'=>pD den p w n₀ ann n s' t') x) none)
theorem jz {den:Code->Sem Fin} {p:Program} {w:World} {n₀:Nat} {ann:Option Value}:∀{n:Nat} {s:SharedT} {t:Thread},jd den p w n₀ ann n s t=pD den p w n₀ ann n s t:=by
 intro n
 induction n with
 |zero=>
  intro _ _;exact rfl
 |succ n ih=>
  intro s t;show cond _ _ (cond _ (Option.bind _ _) _)=cond _ _ (cond _ (Option.bind _ _) _);rw[PySem.W.Fast.te10156331382660048174,PySem.W.Fast.te6613529449190102663];exact congrArg (λz=>cond _ _ (cond _ (Option.bind _ z) _)) (funext λx=>by cases x;exact ih)
noncomputable abbrev qC (p:Program) (N:Nat) (w:World) (os:OsState):Option SharedT:=jd (denote treeTable) p w (boot_heap w.params).objs.size ((boot_heap w.params).nsMap mainGlobals "__annotations__") N (S0 w.params os) (topStub p)
theorem Ar {p q:Program} {loose:List Str} {Xt:Shared->Bool} {N:Nat} {U:Type} {Yf:Shared->U} {Ya:World->U} (Cf:∀w,(fencedOpening treeTable p w N).map (λs=>(s.heap,s.gens,s.drawn,s.toks))=some (boot_heap w.params,Array.mk [],boot_drawn,boot_toks))
  (Cg:∀w:World,(boot_heap w.params).isNs mainGlobals=true)
  (BD:∀w os,(qC p N w os).map (λs=>((staticsOk (importedModules p.main.body) (boot_heap w.params) s.abs.heap&&namesBound p s.abs.heap&&gensDone s.abs&&laidKept (boot_heap w.params) s.abs.heap),openSeen q loose (importedModules p.main.body) Xt true s.abs))=some (true,openGood q loose))
  (hy:∀w os,(qC p N w os).map (λs=>Yf s.abs)=some (Ya w)):LeftO p q loose Xt Yf Ya N:=λw=>by
 obtain⟨⟨h,gs,d,k,os⟩,e,e'⟩:=map_eq_some_iff.mp (Cf w);simp only[Prod.mk.injEq]at e';obtain⟨rfl,rfl,rfl,rfl⟩:=e';obtain⟨s1,e1,e2⟩:=map_eq_some_iff.mp (BD w os);obtain⟨s2,e3,e4⟩:=map_eq_some_iff.mp (hy w os);obtain rfl:=Option.some.inj (e1.symm.trans e3);have r:=ow e1;rw[zl]at r;obtain⟨z1,z2⟩:=Prod.mk.inj e2;unfold openEnds;rw[e];show(topFrom treeTable p w N _).map _=_;have t:topFrom treeTable p w N ⟨boot_heap w.params,Array.mk [],boot_drawn,boot_toks,os⟩=some s1.abs:=by
  unfold topFrom;dsimp only;rw[Cg w,show((Array.mk ([]:List GenState)).size==0)=true from rfl,r];show(match staticsOk (importedModules p.main.body) (boot_heap w.params) s1.abs.heap&&namesBound p s1.abs.heap&&gensDone s1.abs&&laidKept (boot_heap w.params) s1.abs.heap with|true=>_|false=>_)=_;rw[z1]
 rw[t];exact congrArg some (Prod.ext z2 e4)
noncomputable abbrev pI:Program:=PySem.Challenge.pw_pq1192_01
noncomputable def A2:Program:=view pI ((List.range 59).filter λi=>!([1,3,21,27,32,37,39].contains i))
noncomputable abbrev Dh (s:Shared):Bool:=xlAt A2 [] s&&recOk (RowW.records (OpenRow.toRowW (OpenLaw.row PySem.Challenge.rw_pq1192_01))) s
noncomputable abbrev Ca:List Str:=["split_layout","rotate_panes","Window","join_pane"]
theorem Cf (w:World):(fencedOpening treeTable pI w 6452).map (λs=>(s.heap,s.gens,s.drawn,s.toks))=some (boot_heap w.params,Array.mk [],boot_drawn,boot_toks):=boot_open (by kernel_rfl) rfl (λs=>by kernel_rfl) w
theorem Cg (w:World):(boot_heap w.params).isNs mainGlobals=true:=by kernel_rfl
end Mine.Internal
namespace Mine.Internal
theorem BD (w:World) (os:OsState):(qC pI 6452 w os).map (λs=>((staticsOk (importedModules pI.main.body) (boot_heap w.params) s.abs.heap&&namesBound pI s.abs.heap&&gensDone s.abs&&laidKept (boot_heap w.params) s.abs.heap),openSeen A2 Ca (importedModules pI.main.body) Dh true s.abs))=some (true,openGood A2 Ca):=by
 unfold qC;rw[jz,PySem.W.Fast.te11892475500146522536,PySem.W.Fast.te14364793385576792824,PySem.W.Fast.te4187177175401517315];kernel_rfl
end Mine.Internal
namespace Mine.Internal
theorem Di:OpenLaw.wellSaid PySem.Challenge.rw_pq1192_01=true:=by
 rw[PySem.W.Fast.te9446332074065402090];kernel_rfl
end Mine.Internal
namespace Mine.Internal
noncomputable def ks (s:String) (n:Nat):Value:=.str (ofString s) n
noncomputable def BC (P:Params) (n:Nat) (l:List (String × Nat × Value)):Obj:={cls:=.type "dict",data:=.dict (l.map λx=>{hash:=PyData.keyHash P (ofString x.1),key:=ks x.1 x.2.1,val:=x.2.2}).toArray n}
noncomputable def Cd (s:String) (a t u:Nat):Addr × Obj:=(a,{cls:=.type "type",data:=.cls {name:=ofString s,bases:=[.type "object"],mro:=[.ref a,.type "object"],ns:=a-1,qualname:=ofString s},slots:=#[none,none,some (ks s t),some (ks s u),some (.builtin "object.__new__"),some (.bool true)]})
noncomputable def DB (a:Nat) (s:String) (n:Nat):Addr × Obj:=(a+1,{cls:=.type "property",data:=.fields #[.ref a,.none,.none,.none,ks s n,.bool false]})
noncomputable def xm (a:Nat) (l:Array Value):Addr × Obj:=(a,{cls:=.type "tuple",data:=.seq l})
noncomputable def As (b:List Stmt) (i:Nat):Stmt:=b.getD i (.Pass ⟨0,0,0,0⟩)
noncomputable def Ce (t:Stmt):List Stmt:=if h:t.ctorIdx=2 then @Stmt.ClassDef.elim (λ_=>List Stmt) t h λ_ _ _ b _ _ _ _ _ _ _=>b else []
noncomputable def yz (q:String) (m:Value) (b:List Stmt) (p:Nat × Nat × Nat):List (Addr × Obj):=if h:(As b p.1).ctorIdx=0 then @Stmt.FunctionDef.elim (λ_=>List (Addr × Obj)) (As b p.1) h λn ps b ds _ _ sc _ _ z=>
 have a:=p.2.1;have t:=p.2.2;have e:=sc.more.isEmpty;have u:=t+3+cond e (sc.names.countP λx=>x.2==.local) 0;have f:=ks "/claim/cut.py";have i (x:Nat):Value:=.int x 0;have w:=cond ds.isEmpty z.line (z.line-1)
 [(a,{cls:=.type "function",data:=.func {name:=n,qualname:=ofString q++n,params:=ps,body:=.stmts b,scope:=sc,globals:=3,closure:=[],defaults:=([(142,135),(183,176),(222,215),(294,289),(345,338),(388,381),(439,432)].lookup a).elim .none .ref,kwdefaults:=.none,pyModule:=m,code:=.ref (a-1)}}),
  (a-1,{cls:=.type "code",data:=.fields #[.str n t,.str (ofString q++n) (t+1),f (t+2),i w,i ps.args.length,i 0,i 0,i 3,.ref (a-cond e 6 4),.bool true,i 181,.ref (a-cond e 5 3),.none,cond e (.ref (a-4)) .none,cond e (.ref (a-3)) .none,.ref (a-2),i u,i w,f (u+1)]})]else []
noncomputable def KK (P:Params):Frag:=
 [(3,BC P 64 [("__name__",165,ks "law_pq1192_01" 802),("__doc__",166,.none),("__package__",167,.none),("__loader__",168,.builtin "__main__.__loader__#opaque"),("__spec__",169,.none),("__annotations__",170,.ref 6),("__builtins__",171,.ref 4),("__file__",173,ks "/claim/cut.py" 172),("__cached__",174,.none),("_wall",193,.ref 21),("decimal_octets",204,.ref 28),("LEAST_SIDE",208,.int 1 207),("LAYOUT_DEEP",210,.int 50 209),("LAYOUT_HEX",212,.bytes #[48,49,50,51,52,53,54,55,56,57,97,98,99,100,101,102] 211),("Cell",253,.ref 45),("layout_leaf",262,.ref 56),("layout_copy",268,.ref 61),("layout_leaves",277,.ref 68),("layout_panes",283,.ref 73),("layout_path",293,.ref 80),("layout_kind",300,.ref 87),("layout_side",308,.ref 94),("layout_set_side",317,.ref 101),("layout_index",327,.ref 108),("layout_room",333,.ref 113),("layout_change",343,.ref 120),("layout_placed",353,.ref 127),("layout_exchanged",362,.ref 134),("split_layout",384,.ref 142),("layout_melted",394,.ref 149),("close_pane",408,.ref 156),("fit_layout",421,.ref 163),("layout_renumbered",432,.ref 170),("swap_panes",438,.ref 175),("rotate_panes",447,.ref 183),("layout_sum",456,.ref 190),("layout_hex",462,.ref 195),("layout_cell_octets",468,.ref 200),("layout_octets",476,.ref 207),("Pane",532,.ref 239),("pane_numbered",541,.ref 250),("Window",767,.ref 420),("break_pane",779,.ref 431),("join_pane",795,.ref 439),("exchange_panes",801,.ref 444),("_law_stray",805,.int 90 804),("_law_deck",811,.ref 449),("_law_draw",820,.ref 456),("_law_made",831,.ref 463),("_law_chosen",840,.ref 470),("_law_selected",848,.ref 477),("_law_dropped",854,.ref 482),("_law_laid",863,.ref 489),("_law_split",880,.ref 496),("_law_joined",901,.ref 503),("_law_swapped",911,.ref 510),("_law_role",917,.ref 515),("_law_exchanged",930,.ref 522),("_law_broken",943,.ref 529),("_law_turned",954,.ref 536),("_law_plain",973,.ref 543),("_law_deed",985,.ref 550),("_law_stands",991,.ref 555),("law",1005,.ref 562)]),
  (44,BC P 4 [("__module__",220,ks "termcore.layouts" 205),("__firstlineno__",224,.int 19 223),("__init__",238,.ref 42),("__static_attributes__",246,.ref 43),("__dict__",248,.ref 46),("__weakref__",250,.ref 47),("__doc__",251,.none)]),
  (238,BC P 4 [("__module__",486,ks "termcore.muxpanes" 477),("__firstlineno__",490,.int 180 489),("__init__",499,.ref 222),("sized",508,.ref 229),("feed",516,.ref 236),("__static_attributes__",525,.ref 237),("__dict__",527,.ref 240),("__weakref__",529,.ref 241),("__doc__",530,.none)]),
  (419,BC P 4 [("__module__",549,ks "termcore.muxpanes" 477),("__firstlineno__",553,.int 207 552),("__init__",565,.ref 264),("width",573,.ref 272),("height",581,.ref 280),("hand_sizes",590,.ref 287),("lay",596,.ref 294),("has",604,.ref 301),("select",612,.ref 308),("select_last",619,.ref 315),("select_side",628,.ref 323),("select_next",637,.ref 330),("zoom",644,.ref 337),("split",658,.ref 345),("drop",668,.ref 352),("resize",677,.ref 359),("resize_pane",687,.ref 366),("resize_pane_to",697,.ref 373),("swap",707,.ref 380),("rotate",716,.ref 388),("choose_layout",725,.ref 396),("set_layout",733,.ref 403),("note",742,.ref 410),("seen",749,.ref 417),("__static_attributes__",760,.ref 418),("__dict__",762,.ref 421),("__weakref__",764,.ref 422),("__doc__",765,.none)]),
  Cd "Cell" 45 213 221,
  Cd "Pane" 239 479 487,
  Cd "Window" 420 542 550,
  DB 271 "width" 573,
  DB 279 "height" 581,
  xm 135 #[.none,.bool false],
  xm 176 #[.bool false],
  xm 215 #[.none],
  xm 288 #[],xm 289 #[.ref 288],
  xm 338 #[.none,.bool false,.bool true],
  xm 381 #[.bool false],
  xm 432 #[.none,.bool false,.bool true]]
 ++ [(2,28,196)].flatMap (yz "" (ks "termcore.base" 194) pI.main.body)
 ++ [(8,56,254),(9,61,263),(10,68,269),(11,73,278),(12,80,284),(13,87,294),(14,94,301),(15,101,309),(16,108,318),(17,113,328),(18,120,334),(19,127,344),(20,134,354),(21,142,363),(22,149,385),(23,156,395),(24,163,409),(25,170,422),(26,175,433),(27,183,439),(28,190,448),(29,195,457),(30,200,463),(31,207,469)].flatMap (yz "" (ks "termcore.layouts" 205) pI.main.body)
 ++ [(34,250,533),(36,431,768),(37,439,780),(38,444,796)].flatMap (yz "" (ks "termcore.muxpanes" 477) pI.main.body)
 ++ [(41,449,806),(42,456,812),(43,463,821),(44,470,832),(45,477,841),(46,482,849),(47,489,855),(48,496,864),(49,503,881),(50,510,902),(51,515,912),(52,522,918),(53,529,931),(54,536,944),(55,543,955),(56,550,974),(57,555,986),(58,562,992)].flatMap (yz "" (ks "law_pq1192_01" 802) pI.main.body)
 ++ [(0,42,225)].flatMap (yz "Cell." (ks "termcore.layouts" 205) (Ce (As pI.main.body 7)))
 ++ [(0,222,491),(1,229,500)].flatMap (yz "Pane." (ks "termcore.muxpanes" 477) (Ce (As pI.main.body 33)))
 ++ [(0,264,554),(1,271,566),(2,279,574),(3,287,582),(4,294,591),(5,301,597),(6,308,605),(7,315,613),(9,330,629),(10,337,638),(11,345,645),(12,352,659),(13,359,669),(16,380,698),(17,388,708)].flatMap (yz "Window." (ks "termcore.muxpanes" 477) (Ce (As pI.main.body 35)))
end Mine.Internal
namespace Mine.Internal
noncomputable def Ee:List Addr:=[3,44,238,419,45,239,420,272,280,135,176,215,288,289,338,381,432,28,27,56,55,61,60,68,67,73,72,80,79,87,86,94,93,101,100,108,107,113,112,120,119,127,126,134,133,142,141,149,148,156,155,163,162,170,169,175,174,183,182,190,189,195,194,200,199,207,206,250,249,431,430,439,438,444,443,449,448,456,455,463,462,470,469,477,476,482,481,489,488,496,495,503,502,510,509,515,514,522,521,529,528,536,535,543,542,550,549,555,554,562,561,42,41,222,221,229,228,264,263,271,270,279,278,287,286,294,293,301,300,308,307,315,314,330,329,337,336,345,344,352,351,359,358,380,379,388,387]
theorem zi (P:Params):Ee=(KK P).map (·.1):=by kernel_rfl
noncomputable abbrev HK:Hook:=kHook KK Ee zi
theorem Ew (w:World) (os:OsState):(qC pI 6452 w os).map (λs=>HK.obs s.abs)=some (HK.val w):=by
 unfold qC;rw[jz,PySem.W.Fast.te11892475500146522536,PySem.W.Fast.te14364793385576792824];kernel_rfl
end Mine.Internal
open PySem.Calls
namespace Mine.Internal
local macro_rules |`(tactic| ext)=>`(tactic| walk_at "go")
local macro_rules |`(tactic| ac_nf)=>`(tactic| contradiction)
local macro_rules |`(tactic| apply $e)=>return .node .none `Lean.Parser.Tactic.refine #[.atom .none "refine",e]
def qw (s a b : String) : String := b.intercalate (s.splitOn a)
def BU (a : Array Lean.Syntax) (k : String) (n : Nat) : Array Lean.Syntax :=
  (a.extract 0 (a.size - n)).push (.node .none k.toName (a.extract (a.size - n) a.size))
def BS (a : Array Lean.Syntax) (t : String) : Array Lean.Syntax :=
  match t.splitOn "!" with
  | [k, n] => BU a k n.toNat!
  | [_, _, x] => a.push (Lean.mkIdent x.toName)
  | _ => a.push (.atom .none t)
def zI (s : String) : Lean.Syntax :=
  ((((qw (qw (qw (qw (qw (qw s "@" "? _ Lean.Parser.Term.syntheticHole!2 #1 Lean.Parser.Term.app!2 $refine!2 ;") "^" " #1 $tacticSeq1Indented!1 $tacticSeq!1") "%" "#0 #0 !!") "/" " $simpLemma!3 ,") "$" "Lean.Parser.Tactic.") "#" "null!")).splitOn " ").foldl BS #[])[0]!
def uV (xs : Array Lean.Syntax) : Array Lean.Syntax :=
  let z := xs.back!
  if z.isOfKind `«term_∧_» then (xs.pop.push z[0]).push z[2] else xs
local macro_rules
  | `($a ∧ $b) => do
    let xs := uV (uV (uV (uV #[a, b])))
    if xs.size < 3 then Lean.Macro.throwUnsupported
    return .node .none `Lean.Parser.Term.app #[Lean.mkIdent s!"A{xs.size}".toName, Lean.mkNullNode xs]
local macro_rules
  | `(tactic| walk_at $s:str) => do
    let w1 := "dsimp #0 $optConfig!1 #0 only #1 [ %EO/ %DR/ %Cy/ %Cw/ %DP/ %Ct/ %EG/ %EH/ %DU/ %DT/ %DV/ %EC/ %DO/ %DQ/ %DS/ %Cu/ %DL/ %EE/ %EF/ %DM/ %BJ/ %DN/ %Cv/ %Cs/ %BI/ %BO/ %BP/ %Dk/ %Dl/ %BN/ %Bp/ %zS/ %zv/ %Dr/ %BZ/ %Dq/ %BX/ %Dp/ %BY/ %oF/ %oE/ %Ei/ %zs/ %xK/ %zr/ %xd/ %Ed/ %lookup_cons/ %zip_cons_cons/ %List.zip_nil_left/ %append_nil/ %nil_append/ %cons_append/ %Bv/ %np/ %cond_true/ %cond_false/ %cz/ %DF/ %nQ/ %DD/ %Bu/ %zM/ %Nat.reduceBEq/ %length_cons/ %length_nil/ %Nat.reduceAdd/ %E7/ %DW/ %DX/ %DY/ %E1/ %E6/ %DZ/ %AQ/ %E0/ %AP/ %jr/ %bu/ %ux/ %Dd/ %Dc/ %De/ %zk/ %Db $simpLemma!3 #169 ] #3 #0 $dsimp!6"
    let w2 := "simp #0 $optConfig!1 #0 only #1 [ %my/ %reduceIte/ %Nat.reduceEqDiff/ %if_true/ %if_false/ %cz/ %DF/ %nQ/ %DD $simpLemma!3 #17 ] #3 #0 $simp!6"
    match s.getString with
    | "w1" => return zI w1
    | "w2" => return zI w2
    | "wp" => return zI ("( ( try " ++ w1 ++ "^ $tacticTry_!2^ ) $paren!3 ; repeat ( first | " ++ w2 ++ "^ group!2 | simp #0 $optConfig!1 #0 only #1 [ %n8 $simpLemma!3 #1 ] #3 #0 $simp!6 ; try " ++ w1 ++ "^ $tacticTry_!2 #3 $tacticSeq1Indented!1 $tacticSeq!1 group!2 #2 $first!2^ ) $paren!3^ $tacticRepeat_!2 #3 $tacticSeq1Indented!1 $tacticSeq!1 ) $paren!3")
    | "go" => return zI ("repeat ( first | ( with_reducible refine !!EM @ try " ++ w1 ++ " ; try " ++ w2 ++ "^ $tacticTry_!2 #3 $tacticSeq1Indented!1 $tacticSeq!1 $tacticTry_!2 #3 $tacticSeq1Indented!1 $tacticSeq!1 $withReducible!2^ ) $paren!3^ group!2 | ( with_reducible refine !!EL @ try dsimp #0 $optConfig!1 #0 only #1 #0 #0 $dsimp!6^ $tacticTry_!2 #3 $tacticSeq1Indented!1 $tacticSeq!1 $withReducible!2^ ) $paren!3^ group!2 | ( with_reducible refine !!ED @ " ++ w1 ++ " ; try " ++ w2 ++ "^ $tacticTry_!2 #5 $tacticSeq1Indented!1 $tacticSeq!1 $withReducible!2^ ) $paren!3^ group!2 #3 $first!2^ ) $paren!3^ $tacticRepeat_!2")
    | _ => Lean.Macro.throwUnsupported
local macro_rules
  | `(tactic| lia) => return zI "lia - !!abstractProof $negConfigItem!2 $configItem!1 #1 $optConfig!1 $lia!2"
section
noncomputable def NT:List String:=["kind","width","height","x","y","parts","pane","number","terminal","rows","columns","bells","title","is_dead","options",
 "name","panes","active","last","layout","is_zoomed","has_bell","has_activity",
 "rest","found","cell","part","is_row","side","rooms","change","path","fresh","root","size","is_before","leaf","wish","many","other","both","at","top",
 "numbers","one","turned","is_back","octets","octet","sizes","head","inner","window","source","target","beside","is_active","mate","script","deck","real","mine",
 "row","world","told","yours","ends","ground","way","windows","go","self","parent","more","known","gone","left","near","far","place","due","shift",
 "sized","hand_sizes","lay","has","select","select_last","select_next","zoom","split","drop","resize","swap","rotate","__init__","k","word","main"]
noncomputable def NS:List Str:=NT.map ofString
noncomputable def nm (i:Nat):Str:=(NS[i]?).getD ⟨#[0,i]⟩
theorem nD:NS.Nodup:=by decide +kernel
theorem pT:∀s∈NS,s.cps[0]?≠some 0:=by decide +kernel
theorem fS {i j:Nat} (h:nm i=nm j):i=j:=by
 unfold nm at h;by_cases hi:i<NS.length<;>by_cases hj:j<NS.length
 ·rw[getElem?_eq_getElem hi,getElem?_eq_getElem hj]at h;simp only[getD_some]at h;rcases Nat.lt_trichotomy i j with q|q|q
  ·exact absurd h (List.pairwise_iff_getElem.mp nD i j hi hj q)
  ·exact q
  ·exact absurd h.symm (List.pairwise_iff_getElem.mp nD j i hj hi q)
 ·rw[getElem?_eq_getElem hi,getElem?_eq_none (le_of_not_lt hj)]at h;have:=pT _ (getElem_mem hi);simp only[getD_some,getD_none]at h;rw[h]at this;ac_nf
 ·rw[getElem?_eq_getElem hj,getElem?_eq_none (le_of_not_lt hi)]at h;have:=pT _ (getElem_mem hj);simp only[getD_some,getD_none]at h;rw[<-h]at this;ac_nf
 ·rw[getElem?_eq_none (le_of_not_lt hi),getElem?_eq_none (le_of_not_lt hj)]at h;simpa using h
inductive AV where
 |none
 |bool (b:Bool)
 |int (i:Int)
 |str (s:Str)
 |bytes (b:Array UInt8)
 |ref (a:Addr)
 |tup (vs:List AV)
inductive AO where
 |list (vs:List AV)
 |inst (C dx:Addr) (fs:List (Nat × AV))
 |dS (es:List (Str × AV))
 |dI (es:List (Int × AV))
 |own (a:Addr)
 |opq
abbrev AH:=Addr->Option (Bool × AO)
noncomputable def AH.set (H:AH) (a:Addr) (o:AO):AH:=λb=>if b=a then some (false,o)else H b
theorem AH.EP (H:AH) (a:Addr) (o:AO):H.set a o a=some (false,o):=if_pos rfl
theorem AH.EQ (H:AH) {a b:Addr} (o:AO) (h:b≠a):H.set a o b=H b:=if_neg h
mutual
noncomputable def VR (H:AH) (h:Heap):AV->Value->Prop
 |.none,v=>v=.none
 |.bool b,v=>v=.bool b
 |.int i,v=>∃t,v=.int i t
 |.str s,v=>∃t,v=.str s t
 |.bytes b,v=>∃t,v=.bytes b t
 |.ref a,v=>v=.ref a
 |.tup vs,v=>E3 λa us n=>v=.ref a∧h.get? a=some {cls:=.type "tuple",data:=.seq us n}∧H a=none∧bK H h vs us.toList
noncomputable def bK (H:AH) (h:Heap):List AV->List Value->Prop
 |[],us=>us=[]
 |v::vs,us=>E2 λu r=>us=u::r∧VR H h v u∧bK H h vs r
end
theorem xA {H h v}: VR H h .none v=(v=.none):=rfl
theorem kA {H h b v}: VR H h (.bool b) v=(v=.bool b):=rfl
theorem bQ {H h i v}: VR H h (.int i) v=∃t,v=.int i t:=rfl
theorem xz {H h s v}: VR H h (.str s) v=∃t,v=.str s t:=rfl
theorem qn {H h b v}: VR H h (.bytes b) v=∃t,v=.bytes b t:=rfl
theorem dM {H h a v}: VR H h (.ref a) v=(v=.ref a):=rfl
theorem oj {H h vs v}: VR H h (.tup vs) v=E3 λa us n=>v=.ref a∧h.get? a=some {cls:=.type "tuple",data:=.seq us n}∧H a=none∧bK H h vs us.toList:=rfl
theorem c8 {H h us}: bK H h [] us=(us=[]):=rfl
theorem bv {H h v vs us}: bK H h (v::vs) us=E2 λu r=>us=u::r∧VR H h v u∧bK H h vs r:=rfl
def FR (H:AH) (h:Heap) (fs:List (Nat × AV)):List DictEntry->Prop:=List.rec (motive:=λ_=>List DictEntry->Prop) (λes=>es=[])
 (λf _ ih es=>E3 λe r t=>es=e::r∧e.key=.str (nm f.1) t∧VR H h f.2 e.val∧ih r) fs
theorem kB {H h z0}: FR H h [] z0=(z0=[]):=rfl
theorem gK {H h z0 f fs}: FR H h (f::fs) z0 =
 E3 λe r t=>
  A4 (z0=e::r) (DictEntry.key e=Value.str (nm (Prod.fst f)) t) (VR H h (Prod.snd f) (DictEntry.val e))
   (FR H h fs r):=rfl
def KR {K:Type} (H:AH) (h:Heap) (fs:List (K × AV)):List (K × Value)->Prop:=List.rec (motive:=λ_=>List (K × Value)->Prop) (λes=>es=[])
 (λf _ ih es=>E2 λu r=>es=(f.1,u)::r∧VR H h f.2 u∧ih r) fs
theorem iH {K:Type} {H h} {z0:List (K × Value)}:KR H h [] z0=(z0=[]):=rfl
theorem eY {K:Type} {H h} {z0:List (K × Value)} {f fs}:KR H h (f::fs) z0=E2 λu r=>A3 (z0=(Prod.fst f,u)::r) (VR H h (Prod.snd f) u) (KR H h fs r):=rfl
def OR (prog:Program) (w:World) (H:AH) (h:Heap) (a:Addr):AO->Prop
 |.list vs=>E2 λus n=>h.get? a=some {cls:=.type "list",data:=.seq us n}∧bK H h vs us.toList
 |.inst C dx fs=>h.get? a=some (instObj C dx)∧(∃f,H dx=some (f,.own a))∧E2 λes n=>h.get? dx=some {cls:=.type "dict",data:=.dict es n}∧FR H h fs es.toList
 |.dS es=>∃kvs,h.DictOf (strKind prog w) a kvs∧KR H h es kvs
 |.dI es=>∃kvs,h.DictOf (intKind prog w) a kvs∧KR H h es kvs∧(a==sysModules)=false
 |.own b=>E3 λf C fs=>H b=some (f,.inst C a fs)
 |.opq=>E2 λx y=>h.get? a=some {cls:=.type "tuple",data:=.seq #[x,y]}
structure St (prog:Program) (w:World) (B:Heap) (H:AH) (h:Heap):Prop where
 objs:∀a f o,H a=some (f,o)->OR prog w H h a o
 base:∀a o,B.get? a=some o->h.get? a=some o∧∀x,H a≠some (false,x)
 fl:∀a f C dx fs,H a=some (f,.inst C dx fs)->H dx=some (f,.own a)
def Kp (X:Addr->Prop) (H:AH) (h:Heap) (H':AH) (h':Heap):Prop:=
 ∀a o,h.get? a=some o->(H a=none->H' a=none∧∃o',h'.get? a=some o'∧(¬X a->o'=o))∧(∀x,H a=some (true,x)->H' a=some (true,x)∧h'.get? a=some o)∧∃o',h'.get? a=some o'
abbrev nX:Addr->Prop:=λ_=>False
def Le (H H':AH):Prop:=∀a o,H a=some (true,o)->H' a=some (true,o)
theorem Le.refl (H:AH):Le H H:=λ_ _ e=>e
theorem Le.trans {H H' H'':AH} (x:Le H H') (y:Le H' H''):Le H H'':=λa o e=>y a o (x a o e)
structure Same (s s':Shared):Prop where
 os:s'.os=s.os
 gens:s'.gens=s.gens
theorem Same.refl (s:Shared):Same s s:=⟨rfl,rfl⟩
theorem Same.trans {s s' s'':Shared} (x:Same s s') (y:Same s' s''):Same s s'':=⟨y.os.trans x.os,y.gens.trans x.gens⟩
theorem Kp.refl (X:Addr->Prop) (H:AH) (h:Heap):Kp X H h H h:=λ_ o e=>⟨λn=>⟨n,o,e,λ_=>rfl⟩,λ_ q=>⟨q,e⟩,o,e⟩
theorem Kp.trans {X:Addr->Prop} {H H' H'':AH} {h h' h'':Heap} (x:Kp X H h H' h') (y:Kp X H' h' H'' h''):Kp X H h H'' h'':=λa o e=>⟨λn=>
 let ⟨n',o',e',k⟩:=(x a o e).1 n
 let ⟨n'',o'',e'',k'⟩:=(y a o' e').1 n'
 ⟨n'',o'',e'',λq=>(k' q).trans (k q)⟩,λz q=>
 let ⟨q',e'⟩:=(x a o e).2 z q
 (y a o e').2 z q',let ⟨o',e'⟩:=(x a o e).3;(y a o' e').3⟩
theorem Kp.mono {X Y:Addr->Prop} {H H':AH} {h h':Heap} (x:Kp X H h H' h') (hxy:∀a,X a->Y a):Kp Y H h H' h':=λa o e=>⟨λn=>
 let ⟨n',o',e',k⟩:=(x a o e).1 n
 ⟨n',o',e',λq=>k λz=>q (hxy a z)⟩,(x a o e).2,(x a o e).3⟩
theorem Kp.getX {X:Addr->Prop} {H H':AH} {h h':Heap} (x:Kp X H h H' h') {a:Addr} {o:Obj} (e:h.get? a=some o) (n:H a=none) (q:¬X a):h'.get? a=some o∧H' a=none:=
 let ⟨n',o',e',k⟩:=(x a o e).1 n
 ⟨(k q)▸e',n'⟩
theorem Kp.get {H H':AH} {h h':Heap} (x:Kp nX H h H' h') {a:Addr} {o:Obj} (e:h.get? a=some o) (n:H a=none):h'.get? a=some o∧H' a=none:=x.getX e n id
theorem VR.keep {H H':AH} {h h':Heap} (k:∀a us n,h.get? a=some {cls:=.type "tuple",data:=.seq us n}->H a=none->h'.get? a=some {cls:=.type "tuple",data:=.seq us n}∧H' a=none) :
  ∀(v:AV) (u:Value),VR H h v u->VR H' h' v u:=by
 intro v;apply AV.rec (motive_1:=λv=>∀u,VR H h v u->VR H' h' v u) (motive_2:=λvs=>∀us,bK H h vs us->bK H' h' vs us) ?_ ?_ ?_ ?_ ?_ ?_ ?_ ?_ ?_ v
 ·exact λu x=>x
 ·exact λb u x=>x
 ·exact λb u x=>x
 ·exact λb u x=>x
 ·exact λb u x=>x
 ·exact λb u x=>x
 ·exact λvs ih u x=>nC x λa us n e1 e z r=>⟨a,us,n,e1,(k a us n e z).1,(k a us n e z).2,ih _ r⟩
 ·exact λus x=>x
 ·exact λv vs ihv ihs us x=>cq x λu r e p q=>⟨u,r,e,ihv _ p,ihs _ q⟩
def hA (X:Addr->Prop) (h:Heap):Prop:=∀a us n,h.get? a=some {cls:=.type "tuple",data:=.seq us n}->¬X a
theorem VR.kp {X:Addr->Prop} {H H':AH} {h h':Heap} (k:Kp X H h H' h') (hX:hA X h) {v:AV} {u:Value} (x:VR H h v u):VR H' h' v u:=
 VR.keep (λa us n e z=>k.getX e z (hX a us n e)) v u x
theorem gb (h:Heap):hA nX h:=λ_ _ _ _=>id
theorem VR.kp0 {H H':AH} {h h':Heap} (k:Kp nX H h H' h') {v:AV} {u:Value} (x:VR H h v u):VR H' h' v u:=x.kp k (gb h)
theorem bK.keep' {H H':AH} {h h':Heap} (k:∀v u,VR H h v u->VR H' h' v u):∀{vs:List AV} {us:List Value},bK H h vs us->bK H' h' vs us:=by
 intro vs
 induction vs with
 |nil=>
  intro _ x;simpa only[c8,bv]using x
 |cons v vs ih=>
  intro us x;apply cq x λu r z1z p q=>?_;clear x;subst z1z;exact⟨u,r,rfl,k _ _ p,ih q⟩
theorem FR.keep' {H H':AH} {h h':Heap} (k:∀v u,VR H h v u->VR H' h' v u):∀{vs:List (Nat × AV)} {us:List DictEntry},FR H h vs us->FR H' h' vs us:=by
 intro vs
 induction vs with
 |nil=>
  intro _ x;simpa only[kB,gK]using x
 |cons v vs ih=>
  intro us x;simp only[gK]at x ⊢;apply nC x λu r t z1z e p q=>?_;clear x;subst z1z;exact⟨u,r,t,rfl,e,k _ _ p,ih q⟩
theorem KR.keep' {K:Type} {H H':AH} {h h':Heap} (k:∀v u,VR H h v u->VR H' h' v u):∀{vs:List (K × AV)} {us:List (K × Value)},KR H h vs us->KR H' h' vs us:=by
 intro vs
 induction vs with
 |nil=>
  intro _ x;simpa only[iH,eY]using x
 |cons v vs ih=>
  intro us x;simp only[eY]at x ⊢;apply cq x λu r z1z p q=>?_;clear x;subst z1z;exact⟨u,r,rfl,k _ _ p,ih q⟩
theorem bK.length {H:AH} {h:Heap}:∀{vs:List AV} {us:List Value},bK H h vs us->us.length=vs.length:=by
 intro vs
 induction vs with
 |nil=>
  intro _ x;cases x;rfl
 |cons v vs ih=>
  intro us x;apply cq x λu r z1z p q=>?_;clear x;subst z1z;simp[ih q]
theorem bK.get {H:AH} {h:Heap}:∀{vs:List AV} {us:List Value} {i:Nat} {v:AV},bK H h vs us->vs[i]?=some v->∃u,us[i]?=some u∧VR H h v u:=by
 intro vs
 induction vs with
 |nil=>
  intro _ i v x e;exact nS e
 |cons v vs ih=>
  intro us i v' x e;apply cq x λu r z1z p q=>?_;clear x;subst z1z;cases i with
  |zero=>simp at e;subst e;exact⟨u,by rfl,p⟩
  |succ i=>simp at e;simpa using ih q e
theorem bK.append {H:AH} {h:Heap}:∀{vs ws:List AV} {us xs:List Value},bK H h vs us->bK H h ws xs->bK H h (vs++ws) (us++xs):=by
 intro vs
 induction vs with
 |nil=>
  intro ws us xs x y;cases x;simpa using y
 |cons v vs ih=>
  intro ws us xs x y;apply cq x λu r z1z p q=>?_;clear x;subst z1z;dsimp only[cons_append,c8,bv];exact⟨u,r++xs,rfl,p,ih q y⟩
theorem bK.drop {H:AH} {h:Heap}:∀{vs:List AV} {us:List Value} (n:Nat),bK H h vs us->bK H h (vs.drop n) (us.drop n):=by
 intro vs
 induction vs with
 |nil=>
  intro _ n x;cases x;simp[c8]
 |cons v vs ih=>
  intro us;intro v2;cases v2 with
  |zero=>
   intro x;exact x
  |succ n=>
   intro x;apply cq x λu r z1z p q=>?_;clear x;subst z1z;exact ih n q
theorem bK.take {H:AH} {h:Heap}:∀{vs:List AV} {us:List Value} (n:Nat),bK H h vs us->bK H h (vs.take n) (us.take n):=by
 intro vs
 induction vs with
 |nil=>
  intro _ n x;cases x;simp[c8]
 |cons v vs ih=>
  intro us;intro v2;cases v2 with
  |zero=>
   intro x;rfl
  |succ n=>
   intro x;apply cq x λu r z1z p q=>?_;clear x;subst z1z;dsimp only[take_succ_cons,c8,bv];exact⟨u,_,rfl,p,ih n q⟩
theorem bK.snoc {H:AH} {h:Heap} {vs:List AV} {us:List Value} {v:AV} {u:Value} (x:bK H h vs us) (y:VR H h v u):bK H h (vs++[v]) (us++[u]):=
 x.append (by exact⟨u,[],rfl,y,rfl⟩)
theorem bK.reverse {H:AH} {h:Heap}:∀{vs:List AV} {us:List Value},bK H h vs us->bK H h vs.reverse us.reverse:=by
 intro vs
 induction vs with
 |nil=>
  intro _ x;cases x;rfl
 |cons v vs ih=>
  intro us x;apply cq x λu r z1z p q=>?_;clear x;subst z1z;simpa using(ih q).snoc p
section
variable {prog:Program} {w:World} {B:Heap} {H H':AH} {h h':Heap}
theorem OR.keep {a:Addr} {o:AO} (kv:∀v u,VR H h v u->VR H' h' v u) (x:OR prog w H h a o)
  (ha:∀ob,h.get? a=some ob->h'.get? a=some ob)
  (hd:∀C dx fs,o=.inst C dx fs->(∀ob,h.get? dx=some ob->h'.get? dx=some ob)∧∃f,H' dx=some (f,.own a))
  (ho:∀b,o=.own b->E3 λf C fs=>H' b=some (f,.inst C a fs)):OR prog w H' h' a o:=by
 cases o with
 |list vs=>
  apply bb x λus n e r=>?_;clear x;exact⟨us,n,ha _ e,r.keep' kv⟩
 |inst C dx fs=>
  apply bH x λe _ z1z=>bb z1z λes n e' r=>?_;clear x z1z;apply af (hd C dx fs rfl) λk1 k2=>?_;exact⟨ha _ e,k2,es,n,k1 _ e',r.keep' kv⟩
 |dS es=>
  apply ad x λkvs z1z q=>a8 z1z λo z2z=>a8 z2z λds z3z=>ad z3z λep e r=>?_;clear x z1z z2z z3z;exact⟨kvs,⟨o,ds,ep,ha _ e,r⟩,q.keep' kv⟩
 |dI es=>
  apply de x λkvs z1z q q'=>a8 z1z λo z2z=>a8 z2z λds z3z=>ad z3z λep e r=>?_;clear x z1z z2z z3z;exact⟨kvs,⟨o,ds,ep,ha _ e,r⟩,q.keep' kv,q'⟩
 |own b=>exact ho b rfl
 |opq=>(apply vU x λu v e=>?_;clear x);exact⟨u,v,ha _ e⟩
theorem OR.get {a:Addr} {o:AO} (x:OR prog w H h a o) (S:St prog w B H h):∃ob,h.get? a=some ob:=by
 cases o with
 |list vs=>(apply bb x λus n e r=>?_;clear x);exact⟨_,e⟩
 |inst C dx fs=>exact⟨_,x.1⟩
 |dS es=>(apply ad x λkvs z1z q=>a8 z1z λo z2z=>a8 z2z λds z3z=>ad z3z λep e r=>?_;clear x z1z z2z z3z);exact⟨_,e⟩
 |dI es=>(apply a8 x λkvs z1z=>?_;clear x;obtain⟨⟨o,ds,ep,e,r⟩,q⟩:=z1z);exact⟨_,e⟩
 |opq=>(apply vU x λu v e=>?_;clear x);exact⟨_,e⟩
 |own b=>
  apply sU x λf C fs e=>?_;clear x;apply bH (S.objs _ _ _ e) λ_ _ z1z=>?_;(apply bb z1z λes n e' r=>?_;clear z1z);exact⟨_,e'⟩
theorem St.some_get (S:St prog w B H h) {a:Addr} {x:Bool × AO} (e:H a=some x):∃ob,h.get? a=some ob:=(S.objs a x.1 x.2 e).get S
theorem St.lt (S:St prog w B H h) {a:Addr} {x:Bool × AO} (e:H a=some x):a<h.objs.size:=lt_size (S.some_get e).choose_spec
theorem St.none_of_ge (S:St prog w B H h) {a:Addr} (ha:h.objs.size<=a):H a=none:=by
 cases e:H a with
 |none=>rfl
 |some x=>exact absurd (S.lt e) (Nat.not_lt.mpr ha)
theorem Kp.le (S:St prog w B H h) {X:Addr->Prop} (k:Kp X H h H' h'):Le H H':=λa o e=>
 let ⟨ob,q⟩:=S.some_get e
 ((k a ob q).2 o e).1
theorem St.grow (S:St prog w B H h) (k:∀a o,h.get? a=some o->h'.get? a=some o):St prog w B H h':=
 ⟨λa f o e=>(S.objs a f o e).keep (VR.keep λa us n e z=>⟨k _ _ e,z⟩) (k a) (λC dx fs q=>by
   subst q;exact⟨k dx,(S.objs _ _ _ e).2⟩) λb q=>by subst q;exact S.objs _ _ _ e,
  λa o e=>⟨k _ _ (S.base a o e).1,(S.base a o e).2⟩,S.fl⟩
theorem Kp.grow {X:Addr->Prop} (k:∀a o,h.get? a=some o->h'.get? a=some o):Kp X H h H h':=λa o e=>⟨λn=>⟨n,o,k a o e,λ_=>rfl⟩,λ_ q=>⟨q,k a o e⟩,o,k a o e⟩
theorem St.vars {X:Addr->Prop} (S:St prog w B H h) (hX:∀a,X a->H a=none∧B.get? a=none) (hs:hA X h)
  (k:∀a o,h.get? a=some o->∃o',h'.get? a=some o'∧(¬X a->o'=o)):St prog w B H h'∧Kp X H h H h':=by
 have own:∀a x,H a=some x->∀ob,h.get? a=some ob->h'.get? a=some ob:=λa x e ob q=>by
  apply ad (k a ob q) λo' q' z=>?_;simp only[z (λy=>by simp only[(hX a y).1]at e;exact nS e)]at q';exact q'
 have kk:Kp X H h H h':=λa o e=>⟨λn=>⟨n,k a o e⟩,λx q=>⟨q,own a _ q o e⟩,let ⟨o',q,_⟩:=k a o e;⟨o',q⟩⟩;apply⟨⟨λa f o e=>(S.objs a f o e).keep (λv u=>VR.kp kk hs) (own a _ e) (λC dx fs q=>by
   subst q;apply bH (S.objs _ _ _ e) λ_ z1z _=>?_;(apply a8 z1z λg e2=>?_;clear z1z);exact⟨own dx _ e2,g,e2⟩) λb q=>by subst q;exact S.objs _ _ _ e,λa o e=>?_,S.fl⟩,kk⟩
 apply af (S.base a o e) λq1 q2=>?_;apply ad (k a o q1) λo' q' z=>?_;simp only[z (λy=>by simp only[(hX a y).2]at e;exact nS e)]at q';exact⟨q',q2⟩
theorem ji {xs:List AV}:∀C dx fs,AO.list xs≠.inst C dx fs:=λ_ _ _ h=>by cases h
theorem Al {xs:List (Int × AV)}:∀C dx fs,AO.dI xs≠.inst C dx fs:=λ_ _ _ h=>by cases h
theorem Ak {xs:List (Str × AV)}:∀C dx fs,AO.dS xs≠.inst C dx fs:=λ_ _ _ h=>by cases h
theorem St.put (S:St prog w B H h) {a:Addr} {o o₁:AO} {ob':Obj} (e:H a=some (false,o)) (hp:∀C dx fs,o≠.inst C dx fs) (hp':∀b,o≠.own b) (hni:∀C dx fs,o₁≠.inst C dx fs)
  (hne:∀b,b≠a->h'.get? b=h.get? b) (hb:h'.get? a=some ob') (hor:(∀v u,VR H h v u->VR (H.set a o₁) h' v u)->OR prog w (H.set a o₁) h' a o₁) :
  St prog w B (H.set a o₁) h'∧Kp nX H h (H.set a o₁) h':=by
 have kp:Kp nX H h (H.set a o₁) h':=λb ob q=>by
  by_cases hba:b=a
  ·obtain rfl:=hba.symm;exact rwL e ⟨λn=>(sN n),λx z=>(absurd z nofun),_,hb⟩
  ·exact⟨λn=>⟨(AH.EQ H o₁ hba).trans n,ob,(hne b hba).trans q,λ_=>rfl⟩,λx z=>⟨(AH.EQ H o₁ hba).trans z,(hne b hba).trans q⟩,ob,(hne b hba).trans q⟩
 have kv:∀v u,VR H h v u->VR (H.set a o₁) h' v u:=λv u=>VR.kp0 kp;apply⟨⟨λb f o' q=>?_,λb ob q=>?_,λb f C dx fs q=>?_⟩,kp⟩
 ·by_cases hba:b=a
  ·obtain rfl:=hba.symm;simp only[AH.EP]at q;cases q;exact hor kv
  ·simp only[AH.EQ H o₁ hba]at q;apply(S.objs b f o' q).keep kv (λob z=>(hne b hba).trans z) (λC dx fs z=>?_) λb' z=>?_
   ·subst z;apply bH (S.objs _ _ _ q) λ_ z1z _=>?_;(apply a8 z1z λg e2=>?_;clear z1z);have hda:dx≠a:=λy=>by simp only[y,e]at e2;cases e2;exact hp' _ rfl
    exact⟨λob z=>(hne dx hda).trans z,g,(AH.EQ H o₁ hda).trans e2⟩
   ·subst z;apply sU (S.objs _ _ _ q) λg C fs e2=>?_;have hda:b'≠a:=λy=>by simp only[y,e]at e2;cases e2;exact hp _ _ _ rfl
    exact⟨g,C,fs,(AH.EQ H o₁ hda).trans e2⟩
 ·apply af (S.base b ob q) λq1 q2=>?_;by_cases hba:b=a
  ·obtain rfl:=hba.symm;exact absurd e (q2 _)
  ·exact⟨(hne b hba).trans q1,λx=>by exact rwL (AH.EQ H o₁ hba) (q2 x)⟩
 ·by_cases hba:b=a
  ·obtain rfl:=hba.symm;simp only[AH.EP]at q;injection q with q;injection q with _ q;exact absurd q (hni _ _ _)
  ·simp only[AH.EQ H o₁ hba]at q;have e2:=S.fl _ _ _ _ _ q;have hda:dx≠a:=λy=>by simp only[y,e]at e2;cases e2;exact hp' _ rfl
   exact(AH.EQ H o₁ hda).trans e2
theorem St.take (S:St prog w B H h) {a:Addr} {o₁:AO} (e:H a=none) (hB:B.get? a=none) (hni:∀C dx fs,o₁≠.inst C dx fs)
  (hseq:∀us n,h.get? a≠some {cls:=.type "tuple",data:=.seq us n})
  (hor:(∀v u,VR H h v u->VR (H.set a o₁) h v u)->OR prog w (H.set a o₁) h a o₁):St prog w B (H.set a o₁) h:=by
 have kv:∀v u,VR H h v u->VR (H.set a o₁) h v u:=VR.keep λb us n q z=>⟨q,by exact rwL (AH.EQ H o₁ (λy=>by simp only[y]at q;exact hseq us n q)) z⟩;apply⟨λb f o' q=>?_,λb ob q=>?_,λb f C dx fs q=>?_⟩
 ·by_cases hba:b=a
  ·obtain rfl:=hba.symm;simp only[AH.EP]at q;cases q;exact hor kv
  ·simp only[AH.EQ H o₁ hba]at q;apply(S.objs b f o' q).keep kv (λob z=>z) (λC dx fs z=>?_) λb' z=>?_
   ·subst z;apply bH (S.objs _ _ _ q) λ_ z1z _=>?_;(apply a8 z1z λg e2=>?_;clear z1z);have hda:dx≠a:=λy=>by simp only[y,e]at e2;exact nS e2
    exact⟨λob z=>z,g,(AH.EQ H o₁ hda).trans e2⟩
   ·subst z;apply sU (S.objs _ _ _ q) λg C fs e2=>?_;have hda:b'≠a:=λy=>by simp only[y,e]at e2;exact nS e2
    exact⟨g,C,fs,(AH.EQ H o₁ hda).trans e2⟩
 ·apply af (S.base b ob q) λq1 q2=>?_;have hba:b≠a:=λz=>by simp only[z,hB]at q;exact nS q
  exact⟨q1,λx=>by exact rwL (AH.EQ H o₁ hba) (q2 x)⟩
 ·by_cases hba:b=a
  ·obtain rfl:=hba.symm;simp only[AH.EP]at q;injection q with q;injection q with _ q;exact absurd q (hni _ _ _)
  ·simp only[AH.EQ H o₁ hba]at q;have e2:=S.fl _ _ _ _ _ q;have hda:dx≠a:=λy=>by simp only[y,e]at e2;exact nS e2
   exact(AH.EQ H o₁ hda).trans e2
end
end
section
inductive Op|add|sub|mul|fdiv|mod|shr|shl|band
inductive Cm|eq|ne|lt|le|gt|ge|is|isNot|isIn|notIn
inductive BM|append|extend|pop|index|get|join
inductive BF|len|min|max|sum|list|bytes|int
set_option genInjectivity false in
set_option genCtorIdx false in
inductive CE where
 |k (v:AV)
 |loc (x:Nat)
 |attr (e:CE) (f:Nat)
 |call (f:Addr) (es:List CE)
 |new (C:Addr) (es:List CE)
 |meth (e:CE) (m:Nat) (es:List CE)
 |bm (m:BM) (e:CE) (es:List CE)
 |bf (b:BF) (es:List CE)
 |bin (op:Op) (a b:CE)
 |cmp (op:Cm) (a b:CE)
 |and (a b:CE)
 |or (a b:CE)
 |not (a:CE)
 |neg (a:CE)
 |ite (c a b:CE)
 |list (es:List CE)
 |tup (es:List CE)
 |dS (ks:List Str) (es:List CE)
 |dI (es:List CE)
 |sub (a i:CE)
 |slice (a lo hi:CE)
 |rev (a:CE)
 |comp (elt:CE) (x:Nat) (src cond:CE)
set_option genInjectivity false in
set_option genCtorIdx false in
inductive Tg where
 |name (x:Nat)
 |attr (e:CE) (f:Nat)
 |sub (e i:CE)
 |cut (e lo hi:CE)
set_option genInjectivity false in
set_option genCtorIdx false in
inductive Sr where
 |one (e:CE)
 |enum (e:CE)
 |zip (a b:CE)
 |range (e:CE)
set_option genInjectivity false in
set_option genCtorIdx false in
inductive CS where
 |assign (t:Tg) (e:CE)
 |assignT (ts:List Tg) (e:CE)
 |aug (x:Nat) (op:Op) (e:CE)
 |expr (e:CE)
 |ite (c:CE) (a b:List CS)
 |wh (c:CE) (b:List CS)
 |for1 (x:Nat) (s:Sr) (b:List CS)
 |forT (xs:List Nat) (s:Sr) (b:List CS)
 |ret (e:Option CE)
 |pass
abbrev am:=List (Nat × AV)
noncomputable def put (l:List (Nat × AV)) (x:Nat) (v:AV):List (Nat × AV):=List.rec [(x,v)] (λp r ih=>bif p.1==x then(x,v)::r else p::ih) l
theorem aS {z0 z1}: put [] z0 z1=[(z0,z1)]:=rfl
theorem bB {z0 z1 y u r}: put ((y,u)::r) z0 z1=bif y==z0 then(z0,z1)::r else(y,u)::put r z0 z1:=rfl
def lk {U:Type} (o:Option U) (P:U->Prop):Prop:=Option.casesOn o False P
abbrev nF {U:Type}:U->Prop:=λ_=>False
def gU (x:AV) (P:Bool->Prop):Prop:=AV.casesOn x False P nF nF nF nF nF
def bg (x:AV) (P:Int->Prop):Prop:=AV.casesOn x False nF P nF nF nF nF
def uL (x:AV) (P:List AV->Prop):Prop:=AV.casesOn x False nF nF nF nF nF P
def fH (x:AV) (P:Addr->Prop):Prop:=AV.casesOn x False nF nF nF nF P nF
def uK (x:AV) (P:Array UInt8->Prop):Prop:=AV.casesOn x False nF nF nF P nF nF
def zB (x:AV) (P:Str->Prop):Prop:=AV.casesOn x False nF nF P nF nF nF
def j7 (xs:List AV) (P:AV->Prop):Prop:=List.casesOn xs False λx xs=>List.casesOn xs (P x) λ_ _=>False
def xn (xs:List AV) (P:AV->AV->Prop):Prop:=List.casesOn xs False λx xs=>j7 xs (P x)
def qx {U O:Type} (xs:List U) (ys:List O) (P:Prop):Prop:=List.rec (motive:=λ_=>List O->Prop) (λys=>List.casesOn ys P λ_ _=>False) (λ_ _ ih ys=>List.casesOn ys False λ_ ys=>ih ys) xs ys
theorem np {y x:Nat} {u v:AV} {r:List (Nat × AV)}:put ((y,u)::r) x v=bif y==x then(x,v)::r else(y,u)::put r x v:=rfl
theorem Bv {x:Nat} {v:AV}:put [] x v=[(x,v)]:=rfl
theorem lZ {y x:Nat} {u v:AV} {r:List (Nat × AV)} (h:y=x):put ((y,u)::r) x v=(x,v)::r:=by subst h;simp[np]
theorem m6 {y x:Nat} {u v:AV} {r:List (Nat × AV)} (h:¬y=x):put ((y,u)::r) x v=(y,u)::put r x v:=by simp only[np,beq_false_of_ne h];rfl
theorem cz {U:Type} {v:U} {P:U->Prop}:lk (some v) P=P v:=rfl
theorem DF {t:Bool} {P:Bool->Prop}:gU (.bool t) P=P t:=rfl
theorem nQ {t:Int} {P:Int->Prop}:bg (.int t) P=P t:=rfl
theorem DD {t:List AV} {P:List AV->Prop}:uL (.tup t) P=P t:=rfl
theorem Bu {U O:Type} {P:Prop}:qx ([]:List U) ([]:List O) P=P:=rfl
theorem zM {U O:Type} {x:U} {y:O} {xs:List U} {ys:List O} {P:Prop}:qx (x::xs) (y::ys) P=qx xs ys P:=rfl
theorem fU {U:Type} {o:Option U} {P:U->Prop}:lk o P↔∃v,o=some v∧P v:=by
 apply⟨λh=>?_,λh=>ad h λt e p=>e▸p⟩;cases o with
 |none=>exact elim h
 |some v=>exact⟨v,rfl,h⟩
theorem cO {x:AV} {P:Bool->Prop}:gU x P↔∃t,x=.bool t∧P t:=by
 apply⟨λh=>?_,λh=>ad h λt e p=>e▸p⟩;cases x with
 |bool t=>exact⟨t,rfl,h⟩
 |_=>exact elim h
theorem bI {x:AV} {P:Int->Prop}:bg x P↔∃t,x=.int t∧P t:=by
 apply⟨λh=>?_,λh=>ad h λt e p=>e▸p⟩;cases x with
 |int t=>exact⟨t,rfl,h⟩
 |_=>exact elim h
theorem ip {x:AV} {P:List AV->Prop}:uL x P↔∃t,x=.tup t∧P t:=by
 apply⟨λh=>?_,λh=>ad h λt e p=>e▸p⟩;cases x with
 |tup t=>exact⟨t,rfl,h⟩
 |_=>exact elim h
section
variable {H:AH} {h:Heap} {t:Tok}
theorem pC:VR H h .none .none:=rfl
theorem dB {a:Int}:VR H h (.int a) (.int a t):=⟨t,rfl⟩
theorem jy {a:Array UInt8}:VR H h (.bytes a) (.bytes a t):=⟨t,rfl⟩
theorem xC {a:Addr}:VR H h (.ref a) (.ref a):=rfl
end
theorem b9 {H:AH} {h:Heap} {x:AV} {u:Value} {P:Int->Prop} (q:bg x P) (v:VR H h x u):E2 λa t=>u=.int a t∧P a:=by
 cases x with
 |int a=>exact a8 v λt e=>⟨a,t,e,q⟩
 |_=>exact elim q
theorem cA {H:AH} {h:Heap} {x:AV} {u:Value} {P:Addr->Prop} (q:fH x P) (v:VR H h x u):∃a,u=.ref a∧P a:=by
 cases x with
 |ref a=>exact⟨a,v,q⟩
 |_=>exact elim q
theorem oU {H:AH} {h:Heap} {x:AV} {u:Value} {P:Array UInt8->Prop} (q:uK x P) (v:VR H h x u):E2 λa t=>u=.bytes a t∧P a:=by
 cases x with
 |bytes a=>exact a8 v λt e=>⟨a,t,e,q⟩
 |_=>exact elim q
theorem yJ {H:AH} {h:Heap} {x:AV} {u:Value} {P:Str->Prop} (q:zB x P) (v:VR H h x u):E2 λa t=>u=.str a t∧P a:=by
 cases x with
 |str a=>exact a8 v λt e=>⟨a,t,e,q⟩
 |_=>exact elim q
theorem eA {H:AH} {h:Heap} {xs:List AV} {us:List Value} {P:AV->Prop} (q:j7 xs P) (v:bK H h xs us):E2 λx u=>us=[u]∧VR H h x u∧P x:=by
 cases xs with
 |nil=>exact elim q
 |cons x xs=>cases xs with
  |nil=>exact cq v λu r e p z=>⟨x,u,e.trans (congrArg _ z),p,q⟩
  |cons=>exact elim q
theorem tw {H:AH} {h:Heap} {xs:List AV} {us:List Value} {P:AV->AV->Prop} (q:xn xs P) (v:bK H h xs us):E4 λx y u w=>us=[u,w]∧VR H h x u∧VR H h y w∧P x y:=by
 cases xs with
 |nil=>exact elim q
 |cons x xs=>cases xs with
  |nil=>exact elim q
  |cons y xs=>cases xs with
   |nil=>exact cq v λu r e p z=>cq z λw r' e' p' z'=>⟨x,y,u,w,e.trans (congrArg _ (e'.trans (congrArg _ z'))),p,p',q⟩
   |cons=>exact elim q
theorem hY {U O:Type} {P:Prop} {xs:List U}:∀{ys:List O},qx xs ys P->xs.length=ys.length∧P:=by
 induction xs with
 |nil=>intro ys h;cases ys with
  |nil=>exact⟨rfl,h⟩
  |cons=>exact elim h
 |cons x xs ih=>intro ys h;cases ys with
  |nil=>exact elim h
  |cons y ys=>exact And.imp_left (congrArg (·+1)) (ih (ys:=ys) h)
set_option genInjectivity false in
structure Wd where
 prog:Program
 w:World
 B:Heap
def dN (n:Nat) (A:Around):Prop:=A.depth+3 * n<1000∧A.units+20 * n+100<9900∧A.handled=none
theorem dN.mono {n m:Nat} {A:Around} (h:dN n A) (hm:m<=n):dN m A:=⟨lt_of_le_of_lt (Nat.add_le_add_left (Nat.mul_le_mul_left 3 hm) _) h.1,lt_of_le_of_lt (add_le_add_right (Nat.add_le_add_left (Nat.mul_le_mul_left 20 hm) _) 100) h.2,h.3⟩
section
variable (W:Wd)
abbrev Wd.St (H:AH) (h:Heap):Prop:=Mine.Internal.St W.prog W.w W.B H h
structure Aft (H:AH) (s:Shared) (H':AH) (s':Shared):Prop where
 st:W.St H' s'.heap
 kp:Kp nX H s.heap H' s'.heap
 same:Same s s'
theorem Aft.refl {W:Wd} {H:AH} {s:Shared} (S:W.St H s.heap):Aft W H s H s:=⟨S,.refl _ _ _,.refl _⟩
theorem Aft.trans {W:Wd} {H H' H'':AH} {s s' s'':Shared} (x:Aft W H s H' s') (y:Aft W H' s' H'' s''):Aft W H s H'' s'':=⟨y.st,x.kp.trans y.kp,x.same.trans y.same⟩
theorem Aft.tok {W:Wd} {H:AH} {s s':Shared} (S:W.St H s.heap) (t:Nat) (e:s'={s with toks:=t}):Aft W H s H s':=by subst e;exact⟨S,.refl _ _ _,⟨rfl,rfl⟩⟩
theorem Aft.grow {W:Wd} {H:AH} {s s':Shared} (S:W.St H s.heap) (hs:Same s s') (k:∀a o,s.heap.get? a=some o->s'.heap.get? a=some o):Aft W H s H s':=⟨S.grow k,.grow k,hs⟩
def fJ (H:AH) (s:Shared) (Q:AV->AH->Prop) (R:Value->Shared->Prop):Prop:=
 ∀v u s' H',VR H' s'.heap v u->Aft W H s H' s'->Q v H'->R u s'
def a7 (f:Addr) (args:List AV) (n:Nat) (H:AH) (Q:AV->AH->Prop):Prop:=
 ∀(A:Around) (s:Shared) (us:List Value) (R:Result->Shared->Prop),dN n A->W.St H s.heap->bK H s.heap args us->
  fJ W H s Q (λu s'=>R (.ok (.ret u)) s')->codeAny (model W.prog W.w) A (.call (.ref f) ⟨us,[]⟩) R s
theorem a7.mono {W:Wd} {f:Addr} {args:List AV} {n:Nat} {H:AH} {Q Q':AV->AH->Prop} (h:a7 W f args n H Q) (k:∀v H',Q v H'->Q' v H'):a7 W f args n H Q':=
 λA s us R hr S V P=>h A s us R hr S V λv u s' H' a b q=>P v u s' H' a b (k v H' q)
theorem a7.le {W:Wd} {f:Addr} {args:List AV} {n:Nat} {H:AH} {Q:AV->AH->Prop} (h:a7 W f args n H λv H'=>Le H H'->Q v H'):a7 W f args n H Q:=
 λA s us R hr S V P=>h A s us R hr S V λv u s' H' a b q=>P v u s' H' a b (q (b.kp.le S))
noncomputable def jQ:List ((Addr × Nat) × Addr):=[((239,82),229),((420,83),287),((420,84),294),((420,85),301),((420,86),308),((420,87),315),((420,88),330),((420,89),337),
 ((420,90),345),((420,91),352),((420,92),359),((420,93),380),((420,94),388)]
noncomputable def wf:List (Addr × Addr):=[(45,42),(239,222),(420,264)]
noncomputable def rY:List ((Addr × Nat) × Addr):=[((420,1),271),((420,2),279)]
noncomputable def wx:List (Addr × List Nat):=[(45,[0,1,2,3,4,5,6]),(239,[7,8,9,10,11,12,13,14]),(420,[7,15,16,17,18,19,20,21,22,14])]
noncomputable def bJ (C:Addr) (f:Nat):Bool:=((wx.lookup C).getD []).contains f
def aQ (v:AV) (f:Nat) (n:Nat) (H:AH) (Q:AV->AH->Prop):Prop:=
 E5 λa b C dx fs=>v=.ref a∧H a=some (b,.inst C dx fs) ∧
  ((bJ C f=true∧∃u,fs.lookup f=some u∧Q u H)\/E2 λg m=>rY.lookup (C,f)=some g∧n=m+1∧a7 W g [v] m H Q)
def cx (v:AV) (f:Nat) (u:AV) (H:AH) (Q:AH->Prop):Prop:=
 E4 λa C dx fs=>v=.ref a∧H a=some (false,.inst C dx fs)∧bJ C f=true∧fs.length<=100∧Q (H.set a (.inst C dx (put fs f u)))
def iT (C:Addr) (vs:List AV) (n:Nat) (H:AH) (Q:AV->AH->Prop):Prop:=
 E2 λg m=>wf.lookup C=some g∧n=m+1∧∀x dx,H x=none->H dx=none->x≠dx->
  a7 W g (.ref x::vs) m ((H.set dx (.own x)).set x (.inst C dx [])) λr H'=>r=.none∧Q (.ref x) H'
noncomputable def cap:Nat:=1000000
def eH (op:Op) (x y:AV) (H:AH) (Q:AV->AH->Prop):Prop:=Op.casesOn op
 (AV.casesOn x False nF (λa=>bg y λb=>Q (.int (a+b)) H) nF (λa=>uK y λb=>a.size+b.size<=cap∧Q (.bytes (a++b)) H)
  (λa=>fH y λb=>E4 λf g xs ys=>H a=some (f,.list xs)∧H b=some (g,.list ys)∧xs.length+ys.length<=cap∧∀r,H r=none->Q (.ref r) (H.set r (.list (xs++ys)))) nF)
 (bg x λa=>bg y λb=>Q (.int (a-b)) H)
 (bg x λa=>bg y λb=>a.natAbs<2 ^ 60∧b.natAbs<2 ^ 60∧Q (.int (a * b)) H)
 (bg x λa=>bg y λb=>b≠0∧a.natAbs<2 ^ 60∧b.natAbs<2 ^ 60∧Q (.int (a.fdiv b)) H)
 (bg x λa=>bg y λb=>b≠0∧Q (.int (a.fmod b)) H)
 (bg x λa=>bg y λb=>0<=b∧b<64∧Q (.int (a.fdiv (2 ^ b.toNat))) H)
 (bg x λa=>bg y λb=>0<=b∧b<64∧a.natAbs<2 ^ 60∧Q (.int (a * 2 ^ b.toNat)) H)
 (bg x λa=>bg y λb=>Q (.int (Builtin.bitAnd a b)) H)
noncomputable abbrev nN {U O:Type}:U->Option O:=λ_=>none
noncomputable def uM (x y:AV):Option Bool:=AV.casesOn x (AV.casesOn y (some true) nN (λ_=>some false) nN nN nN nN)
 (λa=>AV.casesOn y none (λb=>some (a==b)) nN nN nN nN nN)
 (λa=>AV.casesOn y (some false) nN (λb=>some (a==b)) nN nN nN nN) nN nN nN nN
noncomputable def mI (xs ys:List AV):Option Bool:=List.rec (motive:=λ_=>List AV->Option Bool) (λys=>List.casesOn ys (some true) λ_ _=>none)
 (λx _ ih ys=>List.casesOn ys none λy ys=>(uM x y).bind λa=>(ih ys).map λb=>a&&b) xs ys
def kE (H:AH) (x y:AV) (Q:Bool->Prop):Prop:=AV.casesOn x (lk (uM .none y) Q) (λa=>lk (uM (.bool a) y) Q) (λa=>lk (uM (.int a) y) Q)
 (λa=>zB y λb=>Q (decide (a=b))) (λa=>uK y λb=>Q (a==b))
 (λa=>fH y λb=>E4 λ(f:Bool) (g:Bool) (xs:List Int) (ys:List Int)=>H a=some (f,.list (xs.map .int))∧H b=some (g,.list (ys.map .int))∧Q (decide (xs=ys)))
 (λxs=>uL y λys=>lk (mI xs ys) Q)
noncomputable def lM (x y:AV):Option Bool:=AV.casesOn x (AV.casesOn y (some true) (λ_=>some false) (λ_=>some false) nN nN (λ_=>some false) nN)
 (λa=>AV.casesOn y (some false) (λb=>some (a==b)) nN nN nN nN nN)
 (λ_=>AV.casesOn y (some false) nN nN nN nN nN nN) nN nN
 (λa=>AV.casesOn y (some false) nN nN nN nN (λb=>some (decide (a=b))) nN) nN
abbrev nT {U:Type}:U->Prop:=λ_=>True
def fh (H:AH) (x y:AV):Prop:=AV.casesOn x True nT nT nT nT (λa=>AV.casesOn y True nT nT nT nT (λb=>(∃p,H a=some p∧p.2≠.opq)∧∃p,H b=some p) nT) nT
def fB (op:Cm) (x y:AV) (H:AH) (Q:AV->AH->Prop):Prop:=Cm.casesOn op
 (kE H x y λb=>Q (.bool b) H)
 (kE H x y λb=>Q (.bool (!b)) H)
 (bg x λa=>bg y λb=>Q (.bool (decide (a<b))) H)
 (bg x λa=>bg y λb=>Q (.bool (decide (a<=b))) H)
 (bg x λa=>bg y λb=>Q (.bool (decide (b<a))) H)
 (bg x λa=>bg y λb=>Q (.bool (decide (b<=a))) H)
 (∃b,lM x y=some b∧fh H x y∧Q (.bool b) H)
 (∃b,lM x y=some b∧fh H x y∧Q (.bool (!b)) H)
 (E4 λ(a:Int) (l:Addr) (f:Bool) (xs:List Int)=>x=.int a∧y=.ref l∧H l=some (f,.list (xs.map .int))∧Q (.bool (decide (a∈xs))) H)
 (E4 λ(a:Int) (l:Addr) (f:Bool) (xs:List Int)=>x=.int a∧y=.ref l∧H l=some (f,.list (xs.map .int))∧Q (.bool (!decide (a∈xs))) H)
noncomputable def iF (b:Array UInt8):List Int:=b.toList.map λc=>(c.toNat:Int)
def be (v i:AV) (H:AH) (Q:AV->AH->Prop):Prop:=AV.casesOn v False nF nF nF (λb=>bg i λk=>0<=k∧b.size<=cap∧∃c,b[k.toNat]?=some c∧Q (.int (c.toNat:Int)) H)
 (λa=>AV.casesOn i False nF (λk=>(E4 λf xs j u=>H a=some (f,.list xs)∧-(2 ^ 62)<k∧k<2 ^ 62∧seqIndex? k xs.length=some j∧xs[j]?=some u∧Q u H) \/
   E3 λf es u=>H a=some (f,.dI es)∧es.lookup k=some u∧Q u H)
  (λk=>E3 λf es u=>H a=some (f,.dS es)∧es.lookup k=some u∧Q u H) nF nF nF)
 (λxs=>bg i λk=>E2 λj u=>-(2 ^ 62)<k∧k<2 ^ 62∧seqIndex? k xs.length=some j∧xs[j]?=some u∧Q u H)
noncomputable def ch {K:Type} [DecidableEq K] (l:List (K × AV)) (x:K) (v:AV):List (K × AV):=List.rec [(x,v)] (λp r ih=>if p.1=x then(x,v)::r else p::ih) l
theorem pJ {K:Type} [DecidableEq K] {z0:K} {z1:AV}:ch [] z0 z1=[(z0,z1)]:=rfl
theorem jg {K:Type} [DecidableEq K] {z0:K} {z1:AV} {y:K} {u:AV} {r:List (K × AV)}:ch ((y,u)::r) z0 z1=if y=z0 then(z0,z1)::r else(y,u)::ch r z0 z1:=rfl
def dR (v i u:AV) (H:AH) (Q:AH->Prop):Prop:=fH v λa=>AV.casesOn i False nF
 (λk=>(∃xs,H a=some (false,.list xs)∧0<=k∧k<xs.length∧xs.length<=cap∧Q (H.set a (.list (xs.set k.toNat u)))) \/
   ∃es,H a=some (false,.dI es)∧es.length<=cap∧Q (H.set a (.dI (ch es k u))))
 (λk=>∃es,H a=some (false,.dS es)∧es.length<=cap∧Q (H.set a (.dS (ch es k u)))) nF nF nF
def fY (v lo hi u:AV) (H:AH) (Q:AH->Prop):Prop:=
 E5 λa b f xs ys=>E2 λi j=>v=.ref a∧u=.ref b∧a≠b∧lo=.int (Int.ofNat i)∧hi=.int (Int.ofNat j)∧H a=some (false,.list xs)∧H b=some (f,.list ys)∧i<=j∧j<=xs.length ∧
  xs.length+ys.length<=cap∧Q (H.set a (.list (xs.take i++ys++xs.drop j)))
noncomputable def cut (xs:List AV) (lo hi:Option Int):List AV:=
 let a:=lo.elim 0 (clipAt xs.length)
 let b:=hi.elim xs.length (clipAt xs.length)
 (xs.drop a).take (b-a)
noncomputable def p9 (v:AV):Option (Option Int):=AV.casesOn v (some none) nN (λi=>if -(2 ^ 62)<i∧i<2 ^ 62 then some (some i)else none) nN nN nN nN
def oo (m:BM) (v:AV) (H:AH):Prop:=
 match m with
 |.append|.extend|.pop|.index=>E3 λa f xs=>v=.ref a∧H a=some (f,.list xs)
 |.get=>E3 λa f es=>v=.ref a∧H a=some (f,.dI es)
 |.join=>∃b,v=.bytes b
noncomputable def bq (sep:Array UInt8) (l:List (Array UInt8)):Array UInt8:=List.rec #[] (λx r ih=>List.casesOn r x λ_ _=>x++sep++ih) l
theorem AB {sep}: bq sep []=#[]:=rfl
theorem tv {sep x_1}: bq sep [x_1]=x_1:=rfl
theorem kf {sep x_1 y r}: bq sep (x_1::y::r)=x_1++sep++bq sep (y::r):=rfl
def gL (m:BM) (v:AV) (args:List AV) (H:AH) (Q:AV->AH->Prop):Prop:=BM.casesOn m
 (fH v λa=>j7 args λy=>∃xs,H a=some (false,.list xs)∧xs.length<=cap∧Q .none (H.set a (.list (xs++[y]))))
 (fH v λa=>j7 args λy=>fH y λb=>a≠b∧E3 λf xs ys=>H a=some (false,.list xs)∧H b=some (f,.list ys)∧xs.length+ys.length<=cap∧Q .none (H.set a (.list (xs++ys))))
 (fH v λa=>j7 args λy=>bg y λk=>E2 λxs u=>H a=some (false,.list xs)∧0<=k∧k<2 ^ 62∧xs.length<=cap∧xs[k.toNat]?=some u∧Q u (H.set a (.list (xs.eraseIdx k.toNat))))
 (fH v λa=>j7 args λy=>bg y λk=>E2 λ(f:Bool) (xs:List Int)=>H a=some (f,.list (xs.map .int))∧k∈xs∧xs.length<=cap∧Q (.int (xs.idxOf k:Nat)) H)
 (fH v λa=>xn args λy d=>bg y λk=>∃es,H a=some (false,.dI es)∧Q ((es.lookup k).getD d) H)
 (uK v λsep=>j7 args λy=>fH y λb=>E2 λ(f:Bool) (xs:List (Array UInt8))=>H b=some (f,.list (xs.map .bytes))∧(bq sep xs).size<=cap∧sep.size<=cap∧xs.length<=cap∧Q (.bytes (bq sep xs)) H)
def fC (b:BF) (args:List AV) (H:AH) (Q:AV->AH->Prop):Prop:=BF.casesOn b
 (j7 args λv=>fH v λa=>(E2 λf xs=>H a=some (f,.list xs)∧xs.length<=cap∧Q (.int xs.length) H)\/∃es,H a=some (false,.dI es)∧es.length<=cap∧Q (.int es.length) H)
 (List.casesOn args False λv us=>List.casesOn us (fH v λa=>E2 λ(f:Bool) (xs:List Int)=>H a=some (f,.list (xs.map .int))∧xs≠[]∧∀M,M∈xs->(∀a∈xs,M<=a)->Q (.int M) H)
  λu us=>List.casesOn us (bg v λa=>bg u λb=>Q (.int (if b<a then b else a)) H) λ_ _=>False)
 (xn args λv u=>bg v λa=>bg u λb=>Q (.int (if a<b then b else a)) H)
 (j7 args λv=>fH v λa=>E2 λ(f:Bool) (xs:List Int)=>H a=some (f,.list (xs.map .int))∧Q (.int xs.sum) H)
 (j7 args λv=>AV.casesOn v False nF nF nF nF (λa=>E2 λf xs=>H a=some (f,.list xs)∧xs.length<=cap∧∀r,H r=none->Q (.ref r) (H.set r (.list xs)))
  λxs=>xs.length<=cap∧∀r,H r=none->Q (.ref r) (H.set r (.list xs)))
 (j7 args λv=>fH v λa=>E2 λ(f:Bool) (xs:List Int)=>H a=some (f,.list (xs.map .int))∧(∀x∈xs,0<=x∧x<256)∧xs.length<=cap∧Q (.bytes (xs.map λx=>x.toNat.toUInt8).toArray) H)
 (j7 args λv=>bg v λa=>Q (.int a) H)
set_option genInjectivity false in
inductive AI where
 |seq (v:AV)
 |enum (v:AV)
 |zip (v w:AV) (r:Addr)
 |range (n:Int)
noncomputable def iB (H:AH) (v:AV):Option (List AV):=AV.casesOn v none nN nN nN (λb=>some ((iF b).map .int))
 (λa=>(H a).bind λp=>AO.casesOn p.2 some (λ_ _ _=>none) nN nN nN none) some
noncomputable def sr (o:Option (Bool × AO)):Bool:=Option.casesOn o false λp=>cond p.1 false (AO.casesOn p.2 (λ_=>false) (λ_ _ _=>false) (λ_=>false) (λ_=>false) (λ_=>false) true)
theorem nx {o:Option (Bool × AO)} (h:sr o=true):o=some (false,.opq):=by
 cases o with
 |none=>exact Bool.noConfusion h
 |some p=>
  obtain⟨b,o⟩:=p;cases b with
  |true=>exact Bool.noConfusion h
  |false=>cases o with
   |opq=>rfl
   |_=>exact Bool.noConfusion h
theorem qi {U:Type} {b:Bool} {x:Option U} {o:U} (h:cond b x none=some o):b=true∧x=some o:=by
 cases b with
 |true=>exact⟨rfl,h⟩
 |false=>exact nS h
noncomputable def bU (H:AH) (ai:AI) (i:Nat):Option (Option AV):=AI.casesOn ai (λv=>(iB H v).map (·[i]?))
 (λv=>(iB H v).map λxs=>xs[i]?.map λx=>.tup [.int (Int.ofNat i),x])
 (λv w r=>cond (sr (H r)) ((iB H v).bind λxs=>(iB H w).map λys=>xs[i]?.bind λx=>ys[i]?.map λy=>.tup [x,y]) none)
 (λn=>some (if (i:Int)<n then some (.int (Int.ofNat i))else none))
def AI.ok1 (ai:AI):Prop:=AI.casesOn ai (λv=>AV.casesOn v False nF nF nF nT nT nT) nF (λ_ _ _=>False) λn=>0<=n∧n<=1000000
def AI.okT (ai:AI):Prop:=AI.casesOn ai (λv=>AV.casesOn v False nF nF nF nF nT nT) (λv=>fH v nT) (λv w _=>fH v λ_=>fH w nT) nF
noncomputable def AH.del (H:AH) (a:Addr):AH:=λb=>if b=a then none else H b
noncomputable def j5 (ai:AI) (H:AH):AH:=AI.casesOn ai (λ_=>H) (λ_=>H) (λ_ _ r=>H.del r) λ_=>H
noncomputable def putAll (Z:am) (xs:List Nat) (vs:List AV):Option am:=List.rec (motive:=λ_=>am->List AV->Option am) (λZ vs=>List.casesOn vs (some Z) λ_ _=>none)
 (λx _ ih Z vs=>List.casesOn vs none λv vs=>ih (put Z x v) vs) xs Z vs
noncomputable def pt (op:Op) (i j:Int):Int:=if op.ctorIdx=1 then i-j else i+j
mutual
noncomputable def aD (n:Nat):CE->am->AH->(AV->AH->Prop)->Prop
 |.k v,Z,H,Q=>Q v H
 |.loc x,Z,H,Q=>lk (Z.lookup x) λv=>Q v H
 |.attr e f,Z,H,Q=>aD n e Z H λv H=>aQ W v f n H Q
 |.call f es,Z,H,Q=>cJ n es Z H λvs H=>a7 W f vs n H Q
 |.new C es,Z,H,Q=>cJ n es Z H λvs H=>iT W C vs n H Q
 |.meth e m es,Z,H,Q=>aD n e Z H λv H=>E5 λa f C dx fs=>∃ g, v=.ref a∧H a=some (f,.inst C dx fs)∧jQ.lookup (C,m)=some g∧fs.lookup m=none ∧
   cJ n es Z H λvs H=>a7 W g (v::vs) n H Q
 |.bm m e es,Z,H,Q=>aD n e Z H λv H=>oo m v H∧cJ n es Z H λvs H=>gL m v vs H Q
 |.bf b es,Z,H,Q=>cJ n es Z H λvs H=>fC b vs H Q
 |.bin op a b,Z,H,Q=>aD n a Z H λx H=>aD n b Z H λy H=>eH op x y H Q
 |.cmp op a b,Z,H,Q=>aD n a Z H λx H=>aD n b Z H λy H=>fB op x y H Q
 |.and a b,Z,H,Q=>aD n a Z H λx H=>gU x λt=>(t=false->Q (.bool false) H)∧(t=true->aD n b Z H Q)
 |.or a b,Z,H,Q=>aD n a Z H λx H=>gU x λt=>(t=true->Q (.bool true) H)∧(t=false->aD n b Z H Q)
 |.not a,Z,H,Q=>aD n a Z H λx H=>gU x λt=>Q (.bool (!t)) H
 |.neg a,Z,H,Q=>aD n a Z H λx H=>bg x λi=>Q (.int (-i)) H
 |.ite c a b,Z,H,Q=>aD n c Z H λx H=>gU x λt=>(t=true->aD n a Z H Q)∧(t=false->aD n b Z H Q)
 |.list es,Z,H,Q=>cJ n es Z H λvs H=>vs.length<=cap∧∀r,H r=none->Q (.ref r) (H.set r (.list vs))
 |.tup es,Z,H,Q=>cJ n es Z H λvs H=>vs.length<=cap∧Q (.tup vs) H
 |.dS ks es,Z,H,Q=>cJ n es Z H λvs H=>qx ks vs (ks.length<=10∧∀r,H r=none->Q (.ref r) (H.set r (.dS ((ks.zip vs).foldl (λes p=>ch es p.1 p.2) []))))
 |.dI es,Z,H,Q=>cJ n es Z H λvs H=>∃ps:List (Int × AV),vs=ps.flatMap (λp=>[AV.int p.1,p.2])∧ps.length<=10∧∀r,H r=none->Q (.ref r) (H.set r (.dI (ps.foldl (λes p=>ch es p.1 p.2) [])))
 |.sub a i,Z,H,Q=>aD n a Z H λx H=>aD n i Z H λy H=>be x y H Q
 |.slice a lo hi,Z,H,Q=>aD n a Z H λx H=>aD n lo Z H λl H=>aD n hi Z H λh H=>E5 λa f xs i j=>x=.ref a∧H a=some (f,.list xs)∧xs.length<=cap ∧
   p9 l=some i∧p9 h=some j∧∀r,H r=none->Q (.ref r) (H.set r (.list (cut xs i j)))
 |.rev a,Z,H,Q=>aD n a Z H λx H=>E3 λl f xs=>x=.ref l∧H l=some (f,.list xs)∧xs.length<=cap∧∀r,H r=none->Q (.ref r) (H.set r (.list xs.reverse))
 |.comp elt x src cond,Z,H,Q=>aD n src Z H λv H=>AI.ok1 (.seq v)∧E2 λ(I:Nat->List AV->AH->Prop) (N:Nat)=>N<=cap∧I 0 [] H∧∀i out H,I i out H->i<=N∧out.length<=i ∧
   ∃o,bU H (.seq v) i=some o∧match o with
    |none=>∀r,H r=none->Q (.ref r) (H.set r (.list out))
    |some u=>aD n cond ((x,u)::Z) H λy H=>gU y λt=>(t=true->aD n elt ((x,u)::Z) H λy H=>I (i+1) (out++[y]) H)∧(t=false->I (i+1) out H)
noncomputable def cJ (n:Nat):List CE->am->AH->(List AV->AH->Prop)->Prop
 |[],Z,H,Q=>Q [] H
 |e::es,Z,H,Q=>aD n e Z H λv H=>cJ n es Z H λvs H=>Q (v::vs) H
end
def rD (n:Nat) (t:Tg) (v:AV) (Z:am) (H:AH) (Q:am->AH->Prop):Prop:=Tg.casesOn t (λx=>Q (put Z x v) H)
 (λe f=>aD W n e Z H λo H=>cx o f v H (Q Z))
 (λe i=>aD W n e Z H λo H=>aD W n i Z H λk H=>dR o k v H (Q Z))
 (λe lo hi=>aD W n e Z H λo H=>aD W n lo Z H λl H=>aD W n hi Z H λh H=>fY o l h v H (Q Z))
noncomputable def ju (n:Nat):List Tg->List AV->am->AH->(am->AH->Prop)->Prop
 |[],[],Z,H,Q=>Q Z H
 |t::ts,v::vs,Z,H,Q=>rD W n t v Z H λZ H=>ju n ts vs Z H Q
 |_,_,_,_,_=>False
def jv (n:Nat) (s:Sr) (Z:am) (H:AH) (Q:AI->AH->Prop):Prop:=Sr.casesOn s (λe=>aD W n e Z H λv H=>Q (.seq v) H)
 (λe=>aD W n e Z H λv H=>Q (.enum v) H)
 (λa b=>aD W n a Z H λv H=>aD W n b Z H λu H=>∀r,H r=none->Q (.zip v u r) (H.set r .opq))
 (λe=>aD W n e Z H λv H=>bg v λi=>Q (.range i) H)
mutual
noncomputable def na (n:Nat):CS->am->AH->(am->AH->Prop)->(AV->AH->Prop)->Prop
 |.assign t e,Z,H,Q,R=>aD W n e Z H λv H=>rD W n t v Z H Q
 |.assignT ts e,Z,H,Q,R=>aD W n e Z H λv H=>uL v λvs=>qx ts vs (ju W n ts vs Z H Q)
 |.aug x op e,Z,H,Q,R=>lk (Z.lookup x) λu=>bg u λi=>aD W n e Z H λv H=>bg v λj=>Q (put Z x (.int (pt op i j))) H
 |.expr e,Z,H,Q,R=>aD W n e Z H λ_ H=>Q Z H
 |.ite c a b,Z,H,Q,R=>aD W n c Z H λv H=>gU v λt=>(t=true->cG n a Z H Q R)∧(t=false->cG n b Z H Q R)
 |.wh c b,Z,H,Q,R=>E2 λ(I:Nat->am->AH->Prop) (m:Nat)=>I m Z H∧∀m Z H,I m Z H->aD W n c Z H λv H=>gU v λt=>(t=false->Q Z H) ∧
   (t=true->cG n b Z H (λZ H=>∃m',m'<m∧I m' Z H) R)
 |.for1 x s b,Z,H,Q,R=>jv W n s Z H λai H=>ai.ok1∧E2 λ(I:Nat->am->AH->Prop) (N:Nat)=>I 0 Z H∧∀i Z H,I i Z H->i<=N∧∃o,bU H ai i=some o∧match o with
   |none=>Q Z (j5 ai H)
   |some v=>cG n b (put Z x v) H (I (i+1)) R
 |.forT xs s b,Z,H,Q,R=>jv W n s Z H λai H=>ai.okT∧E2 λ(I:Nat->am->AH->Prop) (N:Nat)=>I 0 Z H∧∀i Z H,I i Z H->i<=N∧∃o,bU H ai i=some o∧match o with
   |none=>Q Z (j5 ai H)
   |some v=>E2 λvs Z'=>v=.tup vs∧putAll Z xs vs=some Z'∧cG n b Z' H (I (i+1)) R
 |.ret none,Z,H,Q,R=>R .none H
 |.ret (some e),Z,H,Q,R=>aD W n e Z H R
 |.pass,Z,H,Q,R=>Q Z H
noncomputable def cG (n:Nat):List CS->am->AH->(am->AH->Prop)->(AV->AH->Prop)->Prop
 |[],Z,H,Q,R=>Q Z H
 |s::ss,Z,H,Q,R=>na n s Z H (λZ H=>cG n ss Z H Q R) R
end
end
def qr (W:Wd) (n:Nat) (x:Nat) (b:List CS) (Z:am) (ai:AI) (H:AH) (Q:am->AH->Prop) (R:AV->AH->Prop):Prop:=
 ai.ok1∧E2 λ(I:Nat->am->AH->Prop) (N:Nat)=>I 0 Z H∧∀i Z H,I i Z H->i<=N∧∃o,bU H ai i=some o∧match o with
   |none=>Q Z (j5 ai H)
   |some v=>cG W n b (put Z x v) H (I (i+1)) R
def qp (W:Wd) (n:Nat) (xs:List Nat) (b:List CS) (Z:am) (ai:AI) (H:AH) (Q:am->AH->Prop) (R:AV->AH->Prop):Prop:=
 ai.okT∧E2 λ(I:Nat->am->AH->Prop) (N:Nat)=>I 0 Z H∧∀i Z H,I i Z H->i<=N∧∃o,bU H ai i=some o∧match o with
   |none=>Q Z (j5 ai H)
   |some v=>E2 λvs Z'=>v=.tup vs∧putAll Z xs vs=some Z'∧cG W n b Z' H (I (i+1)) R
section
variable {W:Wd} {n:Nat} {Z:am} {H:AH} {QS:am->AH->Prop} {R:AV->AH->Prop}
theorem oF {x s b}:na W n (.for1 x s b) Z H QS R=jv W n s Z H λai H=>qr W n x b Z ai H QS R:=rfl
theorem oE {xs s b}:na W n (.forT xs s b) Z H QS R=jv W n s Z H λai H=>qp W n xs b Z ai H QS R:=rfl
end
end
section
abbrev av:=List (Str × NameKind)
noncomputable def mT (x:Str):Option Nat:=NS.findIdx? (·==x)
theorem lg {x:Str} {i:Nat} (h:mT x=some i):nm i=x:=by
 apply ad (List.findIdx?_eq_some_iff_getElem.mp h) λhl he _=>?_;unfold nm;apply rwL (getElem?_eq_getElem hl) ?_;exact eq_of_beq he
noncomputable def qV:List (Str × Addr):=([("decimal_octets",28),("layout_leaf",56),("layout_copy",61),("layout_leaves",68),("layout_panes",73),("layout_path",80),("layout_kind",87),("layout_side",94),
 ("layout_set_side",101),("layout_index",108),("layout_room",113),("layout_change",120),("layout_placed",127),("layout_exchanged",134),("split_layout",142),("layout_melted",149),
 ("close_pane",156),("fit_layout",163),("layout_renumbered",170),("swap_panes",175),("rotate_panes",183),("layout_sum",190),("layout_hex",195),("layout_cell_octets",200),("layout_octets",207),
 ("pane_numbered",250),("break_pane",431),("join_pane",439),("exchange_panes",444),("_law_deck",449),("_law_draw",456),("_law_made",463),("_law_chosen",470),("_law_selected",477),
 ("_law_dropped",482),("_law_laid",489),("_law_split",496),("_law_joined",503),("_law_swapped",510),("_law_role",515),("_law_exchanged",522),("_law_broken",529),("_law_turned",536),
 ("_law_plain",543),("_law_deed",550),("_law_stands",555)]:List (String × Addr)).map λp=>(ofString p.1,p.2)
noncomputable def qW:List (Str × Addr):=([("Cell",45),("Pane",239),("Window",420)]:List (String × Addr)).map λp=>(ofString p.1,p.2)
noncomputable def tC:List (Str × Int):=([("LEAST_SIDE",1),("LAYOUT_DEEP",50),("_law_stray",90)]:List (String × Int)).map λp=>(ofString p.1,p.2)
noncomputable def nU:Array UInt8:=#[48,49,50,51,52,53,54,55,56,57,97,98,99,100,101,102]
noncomputable def vh:Str:=ofString "LAYOUT_HEX"
noncomputable def ru:List (Str × BF):=([("len",.len),("min",.min),("max",.max),("sum",.sum),("list",.list),("bytes",.bytes),("int",.int)]:List (String × BF)).map λp=>(ofString p.1,p.2)
noncomputable def lL:List (Str × BM):=([("append",.append),("extend",.extend),("pop",.pop),("index",.index),("get",.get),("join",.join)]:List (String × BM)).map λp=>(ofString p.1,p.2)
noncomputable def ax (sc:av) (x:Str):Bool:=sc.lookup x==some .globalImplicit&&x != ofString "__debug__"
noncomputable def vv (o:Operator):Option Op:=Operator.casesOn o (some .add) (some .sub) (some .mul) none none (some .mod) none (some .shl) (some .shr) none none (some .band) (some .fdiv)
noncomputable def u9 (o:CmpOp):Option Cm:=CmpOp.casesOn o (some .eq) (some .ne) (some .lt) (some .le) (some .gt) (some .ge) (some .is) (some .isNot) (some .isIn) (some .notIn)
noncomputable def sC (c:Const):Option Str:=if h:c.ctorIdx=5 then @Const.str.elim (λ_=>Option Str) c h some else none
noncomputable def sK (k:Option Expr):Option Str:=k.bind λe=>if h:e.ctorIdx=19 then @Expr.Constant.elim (λ_=>Option Str) e h λc _ _=>sC c else none
theorem zW {k:Option Expr} {s:Str} (h:sK k=some s):E2 λa b=>k=some (.Constant (.str s) a b):=by
 obtain _|e:=k
 ·exact nS h
 ·cases e with
  |Constant c a b=>obtain⟨⟩:=c<;>first|exact nS h|exact⟨a,b,sI h▸rfl⟩
  |_=>exact nS h
noncomputable def je (l:List (Option Expr)):Option (List Str):=List.rec (some []) (λk _ ih=>(sK k).bind λs=>ih.map (s::·)) l
noncomputable def bG (e:Expr):Bool:=beq e.ctorIdx 22
def NN (e:Expr):Prop:=beq e.ctorIdx 23=false
noncomputable def bM (e:Expr):Bool:=if h:e.ctorIdx=16 then @Expr.Call.elim (λ_=>Bool) e h λ_ as _ _=>!as.isEmpty else true
noncomputable def y7 (f:Str->Pos->Option Str) (e:Expr):Option Str:=swappedStores.match_8 (λ_=>Option Str) e f λ_=>none
noncomputable def gu (e:Expr):Bool:=beq e.ctorIdx 26
noncomputable def mQ (sc:av) (scope:Scope) (x:Str):Bool:=
 scope.kind==.function&&scope.names.lookup x==some .local&&!scope.isCoroutine &&
 scope.names.all (λp=>((p.2==.local&&(p.1==x||p.1==ofString ".0"))||p.2==.globalImplicit||(p.2==.free&&sc.lookup p.1==some .cell))&&scope.names.lookup p.1==some p.2)
noncomputable def nK (e:Expr):Option Str:=swappedStores.match_8 (λ_=>Option Str) e (λx _=>some x) λ_=>none
theorem An {e:Expr} {x:Str} (h:nK e=some x):∃p,e=.Name x p:=by
 obtain⟨⟩:=e<;>first|exact nS h|exact⟨_,congrArg (Expr.Name · _) (sI h)⟩
noncomputable def eO (sc:av) (l:List Expr):Option (List Nat):=List.rec (some []) (λe _ ih=>(nK e).bind λx=>if sc.lookup x==some .local||sc.lookup x==some .cell then(mT x).bind λi=>ih.map (i::·)else none) l
noncomputable def gG:Str:=ofString "enumerate"
noncomputable def kL:Str:=ofString "zip"
noncomputable def ee:Str:=ofString "range"
noncomputable def mD (e:Expr):Bool:=ble 8 e.ctorIdx&&ble e.ctorIdx 10
noncomputable def fx (e:Expr):Bool:=if h:e.ctorIdx=25 then @Expr.Tuple.elim (λ_=>Bool) e h λes _ _=>es.all (constantsAlone 8)else false
end
section
noncomputable def dF (d:Data):Option FuncData:=if h:d.ctorIdx=7 then @Data.func.elim (λ_=>Option FuncData) d h some else none
theorem AN {d:Data} {fd:FuncData} (h:dF d=some fd):d=.func fd:=by
 cases d with
 |func f=>exact sI h▸rfl
 |_=>exact nS h
noncomputable def wB (K:Frag) (a:Addr):Option FuncData:=(K.lookup a).bind λo=>dF o.data
noncomputable def og (l:List Arg):Option (List Nat):=List.rec (some []) (λa _ ih=>(mT a.arg).bind λi=>ih.map (i::·)) l
end
section
noncomputable def ut:BF->Value
 |.len=>.builtin "len"
 |.min=>.builtin "min"
 |.max=>.builtin "max"
 |.sum=>.builtin "sum"
 |.list=>.type "list"
 |.bytes=>.type "bytes"
 |.int=>.type "int"
structure Gd (W:Wd) (K:Frag):Prop where
 kin:K.In W.B
 sysm:E2 λa o=>sysModules<a∧W.B.get? a=some o
 top:E4 λp loose mg mb=>TopRead p loose mg mb W.B
 gfunOK:∀x a,qV.lookup x=some a->nsIn K mainGlobals x=some (some (.ref a))∧keepIn K (.ref a)=true
 gclsOK:∀x a,qW.lookup x=some a->nsIn K mainGlobals x=some (some (.ref a))∧keepIn K (.ref a)=true
 gintOK:∀x i,tC.lookup x=some i->∃t,nsIn K mainGlobals x=some (some (.int i t))
 hexOK:∃t,nsIn K mainGlobals vh=some (some (.bytes nU t))
 bfunOK:∀x b,ru.lookup x=some b->nsIn K mainGlobals x=some none∧bootBuiltins x=some (ut b)∧x≠ofString "__name__"
 enumOK:nsIn K mainGlobals gG=some none∧bootBuiltins gG=some (.type "enumerate")∧gG≠ofString "__name__"
 zipOK:nsIn K mainGlobals kL=some none∧bootBuiltins kL=some (.type "zip")∧kL≠ofString "__name__"
 rangeOK:nsIn K mainGlobals ee=some none∧bootBuiltins ee=some (.type "range")∧ee≠ofString "__name__"
 ga:∀C f,bJ C f=true->findIn K (.ref C) "__getattribute__"=some (some (.builtin "object.__getattribute__"))
 fld:∀C f,bJ C f=true->findIn K (.ref C) (nm f)=some none
 sa:∀C f,bJ C f=true->findIn K (.ref C) "__setattr__"=some (some (.builtin "object.__setattr__"))∧plainOver K C=true∧(clsIn K C).any (·.hasDict)=true
 cpn:∀C f,bJ C f=true->copiedNames.contains (nm f)=false
 met:∀C m g,jQ.lookup (C,m)=some g->findIn K (.ref C) (nm m)=some (some (.ref g))∧isFn K (.ref g)=true∧keepIn K (.ref g)=true∧plainGet K C (nm m)=true
 ini:∀C g,wf.lookup C=some g->makesIn K C=true∧findIn K (.ref C) "__init__"=some (some (.ref g))∧isFn K (.ref g)=true
 prp:∀C f g,rY.lookup (C,f)=some g->E2 λp rest=>findIn K (.ref C) (nm f)=some (some (.ref p))∧recIn K p "property"=some (.ref g::rest)∧specialIn K (.ref p) "__get__"=some (some (.builtin "property.__get__")) ∧
  takesIn K (.ref p)=some true∧plainGet K C (nm f)=true∧(clsIn K C).isSome=true
section
variable {W:Wd} {K:Frag} {H:AH} {h:Heap}
theorem Gd.at (G:Gd W K) (S:W.St H h):K.In h:=λa o e=>(S.base a o (G.kin a o e)).1
theorem Gd.EV (S:W.St H h):∀b o,W.B.get? b=some o->h.get? b=some o:=λa o e=>(S.base a o e).1
theorem Gd.topAt (G:Gd W K) (S:W.St H h):E4 λp loose mg mb=>TopRead p loose mg mb h:=
 let ⟨p,l,mg,mb,T⟩:=G.top
 ⟨p,l,mg,mb,T.keeps (Gd.EV S)⟩
end
structure EnvR (W:Wd) (env:Env) (H:AH) (h:Heap) (Z:am):Prop where
 kind:env.scope.kind=.function
 glob:env.globals=mainGlobals
 blt:env.builtins=builtinsNs
 loc:H env.locals=none∧W.B.get? env.locals=none
 has:∀x,env.kindOf x=some .cell->∃c,env.cells.lookup x=some c
 cells:∀x c,env.cells.lookup x=some c->H c=none∧W.B.get? c=none∧c≠env.locals∧∃v,h.IsCell c v
 inj:∀x y c,env.cells.lookup x=some c->env.cells.lookup y=some c->x=y
 vals:∃m,h.Ns env.locals m∧∀x v,Z.lookup x=some v->
  (env.kindOf (nm x)=some .local->∃u,m (nm x)=some u∧VR H h v u) ∧
  ((env.kindOf (nm x)=some .cell\/env.kindOf (nm x)=some .free)->E2 λc u=>env.cells.lookup (nm x)=some c∧h.IsCell c (some u)∧VR H h v u)
theorem EnvR.keep {W:Wd} {env:Env} {H H':AH} {h h':Heap} {Z:am} (e:EnvR W env H h Z) (k:Kp nX H h H' h'):EnvR W env H' h' Z:=by
 apply ad e.vals λm hn hv=>?_;apply a8 (id hn) λo z1z=>?_;apply a8 z1z λes z1z=>ad z1z λep ho r=>?_;have hl:=k.get ho e.loc.1;have hc:∀x c v,env.cells.lookup x=some c->h.IsCell c v->h'.IsCell c v∧H' c=none:=λx c v q z=>by
  apply ad z λo ho hd=>?_;clear z;have:=k.get ho (e.cells x c q).1;exact⟨⟨o,this.1,hd⟩,this.2⟩
 apply⟨e.kind,e.glob,e.blt,⟨hl.2,e.loc.2⟩,e.has,λx c q=>?_,e.inj,m,⟨o,es,ep,hl.1,r⟩,λx v q=>⟨λz=>?_,λz=>?_⟩⟩
 ·(apply jh (e.cells x c q) λz1 z2 z3 z1z=>?_;(apply a8 z1z λv z4=>?_;clear z1z));exact⟨(hc x c v q z4).2,z2,z3,v,(hc x c v q z4).1⟩
 ·apply ad ((hv x v q).1 z) λu a b=>?_;exact⟨u,a,b.kp0 k⟩
 ·apply cq ((hv x v q).2 z) λc u a b d=>?_;exact⟨c,u,a,(hc _ _ _ a b).1,d.kp0 k⟩
def bR (env:Env) (sc:av):Prop:=∀x k,sc.lookup x=some k->match k with
 |.local=>env.kindOf x=some .local
 |.cell=>env.kindOf x=some .cell
 |.free=>env.kindOf x=some .cell\/env.kindOf x=some .free
 |.globalImplicit=>env.kindOf x=some .globalImplicit
 |_=>True
def aC (W:Wd) (n:Nat) (e:Expr) (env:Env) (Z:am) (H:AH) (Q:AV->AH->Prop):Prop:=
 ∀(A:Around) (s:Shared) (R E:Value->Shared->Prop),dN n A->W.St H s.heap->EnvR W env H s.heap Z->fJ W H s Q R->wpAny (model W.prog W.w) A (eval e env) R E s
def dO (W:Wd) (n:Nat) (es:List Expr) (env:Env) (Z:am) (H:AH) (Q:List AV->AH->Prop):Prop:=
 ∀(pos:Pos) (A:Around) (s:Shared) (R:List Value->Shared->Prop) (E:Value->Shared->Prop),dN n A->W.St H s.heap->EnvR W env H s.heap Z->
  (∀vs us s' H',bK H' s'.heap vs us->Aft W H s H' s'->Q vs H'->R us s')->wpAny (model W.prog W.w) A (spliced (backTo pos (starEach es env))) R E s
section
variable {W:Wd} {K:Frag} {n:Nat} {env:Env} {Z:am} {H:AH} {Q:AV->AH->Prop}
theorem OkE.EY {e:Expr} {Q:AV->AH->Prop} {A:Around} {s s₀:Shared} {H₀:AH} {R E:Value->Shared->Prop} (h:aC W n e env Z H Q) (hr:dN n A) (a:Aft W H₀ s₀ H s) (er:EnvR W env H₀ s₀.heap Z)
  (k:∀v u s' H',VR H' s'.heap v u->Aft W H s H' s'->EnvR W env H' s'.heap Z->Q v H'->R u s'):wpAny (model W.prog W.w) A (eval e env) R E s:=
 h A s R E hr a.st (er.keep a.kp) λv u s' H' x b q=>k v u s' H' x b ((er.keep a.kp).keep b.kp) q
theorem Aa {c:Const} {kk:Nat} {pos:Pos} {v:AV} (hv:match c with|.none=>v=.none|.bool b=>v=.bool b|.int i=>v=.int i|.str x=>v=.str x|.bytes b=>v=.bytes b.toArray|_=>False)
  (q:Q v H):aC W n (.Constant c kk pos) env Z H Q:=λA s R E hr S er P=>by
 cases c with
 |none=>subst hv;exact wpAny_Constant_none (P .none _ _ _ (rfl) (.refl S) q)
 |bool b=>subst hv;exact wpAny_Constant_bool (P (.bool b) _ _ _ (rfl) (.refl S) q)
 |int i=>subst hv;exact wpAny_Constant_int (P (.int i) _ _ _ (Exists.intro _ rfl) (.tok S _ rfl) q)
 |str x=>subst hv;exact wpAny_Constant_str (P (.str x) _ _ _ (Exists.intro _ rfl) (.tok S _ rfl) q)
 |bytes b=>
  subst hv;intro Γ p hΓ;exact P (.bytes b.toArray) (.bytes b.toArray s.toks) {s with toks:=s.toks+1} H (Exists.intro _ rfl) (.tok S _ rfl) q
 |_=>exact hv.elim
theorem yk {x:Nat} {y:Str} {pos:Pos} {sc:av} {v:AV} (ag:bR env sc) (hy:nm x=y) (hk:sc.lookup y=some .local\/sc.lookup y=some .cell\/(sc.lookup y=some .free∧(y==("__classdict__":Str))=false))
  (hd:(y==("__debug__":Str))=false) (hv:Z.lookup x=some v) (q:Q v H):aC W n (.Name y pos) env Z H Q:=λA s R E hr S er P=>by
 apply ad er.vals λm hn vals=>?_;have r:=vals x v hv;have r:=hy▸r;have cell:(env.kindOf y=some .cell\/(env.kindOf y=some .free∧(y==("__classdict__":Str))=false))->wpAny (model W.prog W.w) A (eval (.Name y pos) env) R E s:=λz=>by
  apply cq (r.2 (z.imp id (·.1))) λc u a b d=>?_;apply z.elim (λz=>?_) λz=>?_
  ·exact wpAny_Name (wpAny_loadName_cell er.kind z a b (P v u s H d (.refl S) q)) hd
  ·exact wpAny_Name (wpAny_loadName_free er.kind z.1 a b (P v u s H d (.refl S) q) z.2) hd
 apply hk.elim (λz=>?_) λzz=>zz.elim (λz=>?_) λz=>?_
 ·apply ad (r.1 (ag y _ z)) λu a d=>?_;exact wpAny_Name (wpAny_loadName_local er.kind (ag y _ z) hn a (P v u s H d (.refl S) q)) hd
 ·exact cell (.inl (ag y _ z))
 ·apply(ag y _ z.1).elim (λz'=>?_) λz'=>?_
  ·exact cell (.inl z')
  ·exact cell (.inr ⟨z',z.2⟩)
theorem gv (G:Gd W K) {y:Str} {pos:Pos} {sc:av} {u:Value} {A:Around} {s:Shared} {R E:Value->Shared->Prop} (ag:bR env sc) (hg:ax sc y=true) (S:W.St H s.heap) (er:EnvR W env H s.heap Z)
  (hn:nsIn K mainGlobals y=some (some u)) (h:R u s):wpAny (model W.prog W.w) A (eval (.Name y pos) env) R E s:=by
 apply C4 (G.topAt S) λp l mg mb T=>?_;simp only[ax,and_eq_true,beq_iff_eq,bne_iff_ne]at hg;exact Name_function_global er.kind (ag y _ hg.1) (loadGlobal_global (env:=env) (by exact rwL er.glob T.g) (mg_of (G.at S) T.g hn) h) (beq_eq_false_iff_ne.mpr hg.2)
theorem fy (G:Gd W K) {y:Str} {pos:Pos} {sc:av} {u:Value} {A:Around} {s:Shared} {R E:Value->Shared->Prop} (ag:bR env sc) (hg:ax sc y=true) (S:W.St H s.heap) (er:EnvR W env H s.heap Z)
  (hn:nsIn K mainGlobals y=some none∧bootBuiltins y=some u∧y≠ofString "__name__") (h:R u s):wpAny (model W.prog W.w) A (eval (.Name y pos) env) R E s:=by
 apply C4 (G.topAt S) λp l mg mb T=>?_;simp only[ax,and_eq_true,beq_iff_eq,bne_iff_ne]at hg;exact Name_function_global er.kind (ag y _ hg.1) (loadGlobal_builtin (env:=env) (by exact rwL er.glob T.g) (mg_none_of (G.at S) T.g hn.1) (by exact rwL er.blt T.b) ((T.builtins y hn.3).trans hn.2) h) (beq_eq_false_iff_ne.mpr hg.2)
theorem dO.nil {Q:List AV->AH->Prop} (q:Q [] H):dO W n [] env Z H Q:=λpos A s R E hr S er P=>wpAny_items_nil (P [] [] s H (rfl) (.refl S) q)
theorem ec {e:Expr} (he:bG e=false) (rest:List Expr) (env:Env):starEach (e::rest) env=(false,eval e env)::starEach rest env:=by
 obtain⟨⟩:=e<;>first|rfl|ac_nf
theorem dO.cons {e:Expr} {es:List Expr} {Q:List AV->AH->Prop} (he:bG e=false) (h:aC W n e env Z H λv H'=>dO W n es env Z H' λvs H''=>Q (v::vs) H''):dO W n (e::es) env Z H Q:=
 λpos A s R E hr S er P=>wpAny_items_cons (h A s _ E hr S er λv u s' H' x a q=>q pos A s' _ E hr a.st (er.keep a.kp) λvs us s'' H'' y b q'=>
  P (v::vs) (u::us) s'' H'' (by exact⟨u,us,rfl,x.kp0 b.kp,y⟩) (a.trans b) q') (ec he es env)
theorem c0 {k:Nat} (h:k<=cap):k<=sizeLine:=by apply rwL sizeLine_eq ?_;unfold cap at h;exact le_trans h (by decide)
theorem Aft.new {s s':Shared} {o:AO} {ob:Obj} (S:W.St H s.heap) (hs:s'={s with heap:=s.heap.push ob}) (hni:∀C dx fs,o≠.inst C dx fs) (hf:ob.isFreed=false) (ht:ob.cls≠.type "tuple")
  (hor:(∀v u,VR H s.heap v u->VR (H.set s.heap.objs.size o) s'.heap v u)->OR W.prog W.w (H.set s.heap.objs.size o) s'.heap s.heap.objs.size o) :
  H s.heap.objs.size=none∧Aft W H s (H.set s.heap.objs.size o) s':=by
 subst hs;have hn:=S.none_of_ge (le_refl s.heap.objs.size);have gr:∀a o,s.heap.get? a=some o->(s.heap.push ob).get? a=some o:=λa o e=>get?_push_of_some _ e;have S1:=S.grow gr;have hg:(s.heap.push ob).get? s.heap.objs.size=some ob:=get?_push_size _ hf;have hB:W.B.get? s.heap.objs.size=none:=by
  cases e:W.B.get? s.heap.objs.size with
  |none=>rfl
  |some o=>exact absurd (lt_size (S.base _ _ e).1) (lt_irrefl _)
 have S2:=S1.take hn hB hni (λus m e=>by rw[hg]at e;obtain rfl:=sI e;exact ht rfl) (λkv=>hor λv u x=>kv v u (VR.keep (λa us m e z=>⟨gr _ _ e,z⟩) v u x));apply⟨hn,S2,λa o e=>?_,⟨rfl,rfl⟩⟩;have hne:a≠s.heap.objs.size:=ne_of_lt (lt_size e);exact⟨λz=>⟨(AH.EQ H _ hne).trans z,o,gr _ _ e,λ_=>rfl⟩,λx z=>⟨(AH.EQ H _ hne).trans z,gr _ _ e⟩,o,gr _ _ e⟩
theorem cb:Value.type "list"≠Value.type "tuple":=by decide
theorem Aft.ER {s:Shared} {vs:List AV} {us:Array Value} {k:Nat} (S:W.St H s.heap) (x:bK H s.heap vs us.toList) :
  H s.heap.objs.size=none∧Aft W H s (H.set s.heap.objs.size (.list vs)) {s with heap:=s.heap.push {cls:=.type "list",data:=.seq us k}}:=
 Aft.new S rfl ji rfl cb λkv=>⟨us,k,get?_push_size _ rfl,x.keep' kv⟩
theorem vK {es:List Expr} {pos:Pos} (h:dO W n es env Z H λvs H=>vs.length<=cap∧∀r,H r=none->Q (.ref r) (H.set r (.list vs))):aC W n (.List es pos) env Z H Q:=λA s R E hr S er P=>
 wpAny_List (h pos A s _ E hr S er λvs us s' H' x a q=>by
  apply af (Aft.ER (k:=0) (us:=us.toArray) a.st (by simpa using x)) λhn b=>?_;exact⟨c0 (by exact rwL x.length q.1),P (.ref s'.heap.objs.size) _ _ _ (rfl) (a.trans b) (q.2 _ hn)⟩)
theorem yc {es:List Expr} {k:Nat} {pos:Pos} (h:dO W n es env Z H λvs H=>vs.length<=cap∧Q (.tup vs) H):aC W n (.Tuple es k pos) env Z H Q:=λA s R E hr S er P=>
 wpAny_Tuple (h pos A s _ E hr S er λvs us s' H' x a q=>by
  have gr:∀b o,s'.heap.get? b=some o->(s'.heap.push {cls:=.type "tuple",data:=.seq us.toArray}).get? b=some o:=λb o e=>get?_push_of_some _ e;apply⟨c0 (by exact rwL x.length q.1),P (.tup vs) _ _ H' ?_ (a.trans (.grow a.st ⟨rfl,rfl⟩ gr)) q.2⟩;simp only[oj];exact⟨_,us.toArray,0,rfl,get?_push_size _ rfl,a.st.none_of_ge (le_refl _),x.keep' (VR.keep λb us m e z=>⟨gr _ _ e,z⟩)⟩)
end
end
section
theorem aq {U O:Type} [BEq U] [LawfulBEq U] {f g:U} {u:O} {fs:List (U × O)} (h:f≠g):List.lookup f ((g,u)::fs)=List.lookup f fs:=by
 simp only[lookup_cons,beq_eq_false_iff_ne.mpr h]
theorem aB {U O:Type} [BEq U] [LawfulBEq U] {f:U} {u:O} {fs:List (U × O)}:List.lookup f ((f,u)::fs)=some u:=by
 exact List.lookup_cons_self
theorem FR.find {H:AH} {h:Heap}:∀{fs:List (Nat × AV)} {es:List DictEntry} {f:Nat} {v:AV},FR H h fs es->fs.lookup f=some v->∃e,es.find? (·.key.isStr (nm f))=some e∧VR H h v e.val:=by
 intro fs
 induction fs with
 |nil=>
  intro es f v x e;exact nS e
 |cons p0 fs ih=>
  obtain⟨g,u⟩:=p0;intro es f v x e;simp only[gK]at x;apply nC x λen r t z1z hk p q=>?_;clear x;subst z1z;by_cases hg:f=g
  ·subst hg;simp only[lookup_cons,beq_self_eq_true,Option.some.injEq]at e;subst e;exact⟨en,by rw[List.find?_cons_of_pos (by apply rwL hk ?_;simp[Value.isStr])],p⟩
  ·have hne:nm f≠nm g:=λz=>hg (fS z);have e':fs.lookup f=some v:=(aq hg).symm.trans e;apply ad (ih q e') λen' h1 h2=>?_;apply⟨en',?_,h2⟩;apply rwL find?_cons (rwL hk ?_);have:(Value.isStr (.str (nm g) t) (nm f))=false:=by rewrite [Value.isStr,beq_eq_false_iff_ne];exact λz=>hne z.symm
   exact rwL this h1
theorem FR.miss {H:AH} {h:Heap}:∀{fs:List (Nat × AV)} {es:List DictEntry} {f:Nat},FR H h fs es->fs.lookup f=none->es.find? (·.key.isStr (nm f))=none:=by
 intro fs
 induction fs with
 |nil=>
  intro es f x e;simp only[kB]at x;subst x;rfl
 |cons p0 fs ih=>
  obtain⟨g,u⟩:=p0;intro es f x e;simp only[gK]at x;apply nC x λen r t z1z hk p q=>?_;clear x;subst z1z;have hg:f≠g:=λz=>by subst z;simp at e
  have hne:nm f≠nm g:=λz=>hg (fS z);have e':fs.lookup f=none:=(aq hg).symm.trans e;apply rwL find?_cons (rwL hk ?_);have:(Value.isStr (.str (nm g) t) (nm f))=false:=by simp only[Value.isStr,beq_eq_false_iff_ne];exact λz=>hne z.symm
  exact rwL this (ih q e')
theorem FR.noref {H:AH} {h:Heap}:∀{fs:List (Nat × AV)} {es:List DictEntry},FR H h fs es->es.any (·.refKey)=false:=by
 intro fs
 induction fs with
 |nil=>
  intro es x;simp only[kB]at x;subst x;rfl
 |cons p0 fs ih=>
  obtain⟨g,u⟩:=p0;intro es x;simp only[gK]at x;apply nC x λen r t z1z hk p q=>?_;clear x;subst z1z;rw[any_cons,ih q,DictEntry.refKey,hk];rfl
theorem FR.length {H:AH} {h:Heap}:∀{fs:List (Nat × AV)} {es:List DictEntry},FR H h fs es->es.length=fs.length:=by
 intro fs
 induction fs with
 |nil=>
  intro es x;simp only[kB]at x;subst x;rfl
 |cons p0 fs ih=>
  obtain⟨g,u⟩:=p0;intro es x;simp only[gK]at x;apply nC x λen r t z1z hk p q=>?_;clear x;subst z1z;simp[ih q]
noncomputable abbrev tW (es:Array DictEntry) (n:Nat):Obj:={cls:=.type "dict",data:=.dict es n}
theorem FR.hit {H:AH} {h:Heap} {fs:List (Nat × AV)} {es:Array DictEntry} {n f:Nat} {v:AV} (x:FR H h fs es.toList) (e:fs.lookup f=some v):∃u,lookIn (nm f) (tW es n)=some (some u)∧VR H h v u:=by
 apply ad (x.find e) λen h1 h2=>?_;exact⟨en.val,by unfold PySem.W.lookIn;dsimp only;exact rwL h1 rfl,h2⟩
theorem FR.nohit {H:AH} {h:Heap} {fs:List (Nat × AV)} {es:Array DictEntry} {n f:Nat} (x:FR H h fs es.toList) (e:fs.lookup f=none):lookIn (nm f) (tW es n)=some none:=by
 unfold PySem.W.lookIn;dsimp only;apply rwL (x.miss e) (rwL x.noref ?_);rfl
theorem VR.handed {H:AH} {h:Heap} {v:AV} {u:Value} (x:VR H h v u):handedIn u=true:=by
 obtain⟨⟩:=v<;>simp only[xA,kA,bQ,xz,qn,dM,oj]at x
 case none=>subst x;rfl
 case bool=>subst x;rfl
 case int=>obtain⟨t,rfl⟩:=x;rfl
 case str=>obtain⟨t,rfl⟩:=x;rfl
 case bytes=>obtain⟨t,rfl⟩:=x;rfl
 case ref=>subst x;rfl
 case tup=>obtain⟨a,us,n,rfl,_⟩:=x;rfl
section
variable {W:Wd} {K:Frag} {n:Nat} {env:Env} {Z:am} {H:AH} {Q:AV->AH->Prop}
theorem mH {h:Heap} {a C dx:Addr} {fs:List (Nat × AV)} {b:Bool} (S:W.St H h) (e:H a=some (b,.inst C dx fs)):E2 λes k=>InstAt h a (instObj C dx) C (some (tW es k))∧FR H h fs es.toList∧h.get? dx=some (tW es k):=by
 apply bH (S.objs _ _ _ e) λh1 h2 z1z=>?_;(apply bb z1z λes k h3 h4=>?_;clear z1z);exact⟨es,k,⟨h1,rfl,rfl,h3⟩,h4,h3⟩
theorem dj {v:Expr} {a:Str} {env:Env} {w:Sem Value} (hs:bM v=true):attributeBase v a env w=w:=by
 cases v with
 |Call f l=>cases l with
  |nil=>exact absurd hs false_ne_true
  |cons=>obtain⟨⟩:=f<;>rfl
 |_=>rfl
theorem fX {v:Expr} {a:Str} {pos:Pos} {env:Env} (hs:bM v=true):eval (.Attribute v a pos) env=(do
   let o <-eval v env
   standAt pos.atName
   let r <-holding [o] (getAttr o a true)
   letTemporaryGo v o r
   pure r):=by simp only[arm_eval_Attribute,dj hs]
theorem wu (G:Gd W K) {A:Around} {s:Shared} {R E:Value->Shared->Prop} {v:AV} {u:Value} {f:Nat} {a:Str} {ex:Bool} (hf:nm f=a) (hr:dN n A) (S:W.St H s.heap) (x:VR H s.heap v u)
  (q:aQ W v f n H Q) (P:fJ W H s Q R):wpAny (model W.prog W.w) A (getAttr u a ex) R E s:=by
 obtain⟨x',b,C,dx,fs,rfl,e,q⟩:=q;subst x;subst hf;apply cq (mH S e) λes k I F D=>?_;rcases q with⟨hfld,v,hv,q⟩|⟨g,m,hp,hn,q⟩
 ·apply ad (FR.hit (n:=k) F hv) λu hl hvr=>?_;exact get_value (G.at S) I (G.ga C f hfld) (findObj_own (G.sa C f hfld).3 (G.fld C f hfld) rfl hl) hvr.handed (P v u _ H hvr (.tok S _ rfl) q)
 ·apply yp (G.prp C f g hp) λp rest h1 h2 h3 h4 h5 h6=>?_;subst hn;apply get_bind (G.at S) I (plainGet_of h5).1 (findObj_data h6 h1 h3 h4) (plainGet_of h5).2 (wpAny_call (prop_get (s:={s with toks:=s.toks+1}) (G.at S) h2 ?_));have at':Aft W H s H {s with toks:=s.toks+1}:=.tok S _ rfl;apply q A.in1 {s with toks:=s.toks+1} [.ref x'] _ ⟨Ej (c:=0) hr.1 rfl,Ds (c:=1) hr.2 rfl,hr.3⟩ S ⟨_,_,rfl,rfl,rfl⟩ λv u s' H' x a q=>?_;show wpAny _ _ (handedOut u) _ _ _;apply rwL (handedOut_of x.handed) ?_;exact wpAny_pure (P v u s' H' x (at'.trans a) q)
theorem vN (G:Gd W K) {v:Expr} {a:Str} {pos:Pos} {f:Nat} (hs:bM v=true) (hf:nm f=a) (h:aC W n v env Z H λo H=>aQ W o f n H Q):aC W n (.Attribute v a pos) env Z H Q:=λA s R E hr S er P=>by
 apply rwL (fX hs) ?_;apply wpAny_bind (h A s _ E hr S er λo u s' H' x b q=>wpAny_bind (wpAny_standAt (wpAny_bind (wpAny_holding (wu G hf hr b.st x q λv u' s'' H'' x' b' q'=>?_)))));exact wpAny_bind (wpAny_letTemporaryGo (wpAny_pure (P v u' s'' H'' x' (b.trans b') q')))
end
end
section
noncomputable def aA (es:List Expr):Bool:=es.all λe=>!bG e
theorem gH {pos:Pos} {env:Env}:∀{es:List Expr},aA es=true->(backTo pos (starEach es env)).any (·.1)=false:=by
 intro es
 induction es with
 |nil=>
  intro _;exact rfl
 |cons e es ih=>
  intro h;simp only[aA,all_cons,and_eq_true,not_eq_true']at h;rw[ec h.1];show(false||(backTo pos (starEach es env)).any (·.1))=false;apply rwL (ih h.2) ?_;rfl
theorem mK {M:Model} {A:Around} {E:Value->Shared->Prop} {s:Shared} {f:Value} {pos:Pos} {env:Env} {es:List Expr} {Q:Args->Shared->Prop} (hst:aA es=true)
  (h:wpAny M A (spliced (backTo pos (starEach es env))) (λvs s'=>Q ⟨vs,[]⟩ s') E s):wpAny M A (evalArgs f true (backTo pos (starEach es env)) []) Q E s:=by
 cases es with
 |nil=>
  unfold evalArgs;show wpAny M A (spliced [] >>= _) Q E s;exact wpAny_bind (wpAny_mono h (λvs s' h'=>wpAny_holding (wpAny_bind (wpAny_pure (wpAny_bind (wpAny_pure (wpAny_pure h')))))) λ_ _ x=>x)
 |cons e es=>
  simp only[aA,all_cons,and_eq_true,not_eq_true']at hst;simp only[ec hst.1]at h ⊢;exact evalArgs_plain h
theorem iZ {M:Model} {A:Around} {E:Value->Shared->Prop} {s:Shared} {P:Heap->Prop} {f:Value} {first:List Value} {pos:Pos} {env:Env} {es:List Expr} {Q:Value->Shared->Prop} (hst:aA es=true)
  (hk:∀h,P h->∃k,(k=Keeper.frame\/k=Keeper.machine\/k=Keeper.boundFrame)∧Looks M h (keeperOf f) k)
  (h:wpAny M A (spliced (backTo pos (starEach es env))) (λvs s₁=>P s₁.heap∧wpAny M A (call f (first++vs)) Q E s₁) E s):wpAny M A (callWith pos f first (backTo pos (starEach es env)) []) Q E s:=
 callWith_of (by apply rwL (gH hst) ?_;rfl) hk (mK hst h)
theorem io {M:Model} {id:String} (h:Heap) (_:True):∃k,(k=Keeper.frame\/k=Keeper.machine\/k=Keeper.boundFrame)∧Looks M h (keeperOf (.builtin id)) k:=⟨.machine,.inr (.inl rfl),Looks.of_pure rfl⟩
theorem gq {M:Model} {id:String} (h:Heap) (_:True):∃k,(k=Keeper.frame\/k=Keeper.machine\/k=Keeper.boundFrame)∧Looks M h (keeperOf (.type id)) k:=⟨.machine,.inr (.inl rfl),Looks.of_pure rfl⟩
section
variable {W:Wd} {K:Frag} {n:Nat} {env:Env} {Z:am} {H:AH} {Q:AV->AH->Prop}
theorem oa {A:Around} {s:Shared} {R E:Value->Shared->Prop} {f:Addr} {vs:List AV} {us:List Value} (h:a7 W f vs n H Q) (hr:dN n A) (S:W.St H s.heap) (x:bK H s.heap vs us) (P:fJ W H s Q R) :
  wpAny (model W.prog W.w) A (call (.ref f) us) R E s:=wpAny_call (h A s us _ hr S x P)
theorem vV (G:Gd W K) {A:Around} {s:Shared} {R:Result->Shared->Prop} {C:Addr} {vs:List AV} {us:List Value} (h:iT W C vs n H Q) (hr:dN n A) (S:W.St H s.heap) (x:bK H s.heap vs us) (P:fJ W H s Q λu s'=>R (.ok (.ret u)) s') :
  codeAny (model W.prog W.w) A (.call (.ref C) ⟨us,[]⟩) R s:=by
 apply cq h λg m hg z1z q=>?_;clear h;subst z1z;apply bH (G.ini C g hg) λh1 h2 h3=>?_;obtain⟨hh,gn,d,t,os⟩:=s;have X:=G.at S;apply make_core (makes_of X h1) (looks_findIn X h2) (λself=>bind_fn X self (beq_iff_eq.mp h3)) (.inl rfl) ?_;have n0:H hh.objs.size=none:=S.none_of_ge (le_refl _);have n1:H (hh.objs.size+1)=none:=S.none_of_ge (le_succ _);have hne:hh.objs.size+1≠hh.objs.size:=Nat.succ_ne_self _;have q:=q (hh.objs.size+1) hh.objs.size n1 n0 hne;have gr:∀a o,hh.get? a=some o->((hh.push emptyDict).push (instObj C hh.objs.size)).get? a=some o:=λa o e=>get?_push_of_some _ (get?_push_of_some _ e);have g0:((hh.push emptyDict).push (instObj C hh.objs.size)).get? hh.objs.size=some emptyDict:=get?_push_of_some _ (get?_push_size _ rfl);have g1:((hh.push emptyDict).push (instObj C hh.objs.size)).get? (hh.objs.size+1)=some (instObj C hh.objs.size):=by
  have:=get?_push_size (o:=instObj C hh.objs.size) (hh.push emptyDict) rfl;rwa [size_push]at this
 have nB:∀a,hh.objs.size<=a->W.B.get? a=none:=λa ha=>by
  cases e:W.B.get? a with
  |none=>rfl
  |some o=>exact absurd (lt_size (S.base _ _ e).1) (Nat.not_lt.mpr ha)
 generalize hH':(H.set hh.objs.size (.own (hh.objs.size+1))).set (hh.objs.size+1) (.inst C hh.objs.size [])=H' at q;have hx:H' (hh.objs.size+1)=some (false,.inst C hh.objs.size []):=by simp only[<-hH',AH.EP]
 have hd:H' hh.objs.size=some (false,.own (hh.objs.size+1)):=by simp only[<-hH',AH.EQ _ _ (Ne.symm hne),AH.EP]
 have ho:∀a,a≠hh.objs.size->a≠hh.objs.size+1->H' a=H a:=λa h0 h1=>by exact rwR hH' (rwL (AH.EQ _ _ h1) (rwL (AH.EQ _ _ h0) rfl))
 have kv:∀v u,VR H hh v u->VR H' ((hh.push emptyDict).push (instObj C hh.objs.size)) v u:=VR.keep λa us k e z=>⟨gr _ _ e,by
  have l:=lt_size e;exact rwL (ho a (ne_of_lt l) (ne_of_lt (lt_succ_of_lt l))) z⟩
 have S':W.St H' ((hh.push emptyDict).push (instObj C hh.objs.size)):=by
  apply⟨λa f o e=>?_,λa o e=>?_,λa f C' dx fs e=>?_⟩
  ·by_cases h0:a=hh.objs.size
   ·subst h0;rw[hd]at e;cases e;exact⟨_,_,_,hx⟩
   ·by_cases h1:a=hh.objs.size+1
    ·subst h1;simp only[hx]at e;cases e;exact⟨g1,⟨_,hd⟩,#[],0,g0,by simp only[kB]⟩
    ·simp only[ho a h0 h1]at e;apply(S.objs a f o e).keep kv (gr a) (λC' dx fs z=>?_) λb z=>?_
     ·subst z;apply bH (S.objs _ _ _ e) λ_ z1z _=>?_;(apply a8 z1z λg e2=>?_;clear z1z);have l:=S.lt e2;exact⟨gr dx,g,by exact rwL (ho dx (ne_of_lt l) (ne_of_lt (lt_succ_of_lt l))) e2⟩
     ·subst z;apply sU (S.objs _ _ _ e) λg C' fs e2=>?_;have l:=S.lt e2;exact⟨g,C',fs,by exact rwL (ho b (ne_of_lt l) (ne_of_lt (lt_succ_of_lt l))) e2⟩
  ·apply af (S.base a o e) λq1 q2=>?_;have l:=lt_size q1;exact⟨gr _ _ q1,by exact rwL (ho a (ne_of_lt l) (ne_of_lt (lt_succ_of_lt l))) q2⟩
  ·by_cases h0:a=hh.objs.size
   ·subst h0;simp only[hd]at e;simp at e
   ·by_cases h1:a=hh.objs.size+1
    ·subst h1;simp only[hx]at e;cases e;exact hd
    ·simp only[ho a h0 h1]at e;have e2:=S.fl _ _ _ _ _ e;have l:=S.lt e2;exact rwL (ho dx (ne_of_lt l) (ne_of_lt (lt_succ_of_lt l))) e2
 have a1:Aft W H ⟨hh,gn,d,t,os⟩ H' ⟨(hh.push emptyDict).push (instObj C hh.objs.size),gn,d,t,os⟩:=by
  apply⟨S',λa o e=>?_,⟨rfl,rfl⟩⟩;have l:=lt_size e;have e':=ho a (ne_of_lt l) (ne_of_lt (lt_succ_of_lt l));exact⟨λz=>⟨e'.trans z,o,gr _ _ e,λ_=>rfl⟩,λx z=>⟨e'.trans z,gr _ _ e⟩,o,gr _ _ e⟩
 apply q _ _ (.ref (hh.objs.size+1)::us) _ ⟨?_,?_,hr.3⟩ S' (by simp only[bv,dM];exact⟨_,us,rfl,rfl,x.keep' kv⟩) λv u s' H'' x' a q'=>?_
 ·have:=hr.1;have hw:(Code.builtin "type.__call__" ⟨.ref C::us,[]⟩).weight=1:=rfl;show A.depth+Code.weight _+_<_;apply rwL hw ?_;lia
 ·have:=hr.2;have hw:(Code.builtin "type.__call__" ⟨.ref C::us,[]⟩).cUnits<=4:=le_of_ble_eq_true rfl;show A.units+Code.cUnits _+_+_<_;lia
 ·obtain⟨rfl,q'⟩:=q';simp only[xA]at x';subst x';exact⟨rfl,P _ _ s' H'' (by simp only[dM]) (a1.trans a) q'⟩
theorem br {f:Str} {p pos:Pos} {es:List Expr} {A:Around} {s:Shared} {R E:Value->Shared->Prop}
  (h:wpAny (model W.prog W.w) A (eval (.Name f p) env) (λf s₁=>wpAny (model W.prog W.w) A (callWith pos f [] (backTo pos (starEach es env)) []) R E s₁) E s) :
  wpAny (model W.prog W.w) A (eval (.Call (.Name f p) es [] pos) env) R E s:=by
 simp only[arm_eval_Call_Name'];exact wpAny_bind h
theorem vM (G:Gd W K) {x:Str} {p pos:Pos} {es:List Expr} {f:Addr} {sc:av} (ag:bR env sc) (hg:ax sc x=true) (hf:qV.lookup x=some f) (hst:aA es=true)
  (h:dO W n es env Z H λvs H=>a7 W f vs n H Q):aC W n (.Call (.Name x p) es [] pos) env Z H Q:=λA s R E hr S er P=>
 br (gv G ag hg S er (G.gfunOK x f hf).1 (iZ hst (keeps_K (G.gfunOK x f hf).2) (h pos A s _ E hr S er λvs us s' H' x a q=>
  ⟨G.at a.st,oa q hr a.st x λv u s'' H'' x' b q'=>P v u s'' H'' x' (a.trans b) q'⟩)))
theorem yh (G:Gd W K) {x:Str} {p pos:Pos} {es:List Expr} {C:Addr} {sc:av} (ag:bR env sc) (hg:ax sc x=true) (hf:qW.lookup x=some C) (hst:aA es=true)
  (h:dO W n es env Z H λvs H=>iT W C vs n H Q):aC W n (.Call (.Name x p) es [] pos) env Z H Q:=λA s R E hr S er P=>
 br (gv G ag hg S er (G.gclsOK x C hf).1 (iZ hst (keeps_K (G.gclsOK x C hf).2) (h pos A s _ E hr S er λvs us s' H' x a q=>
  ⟨G.at a.st,wpAny_call (vV G q hr a.st x λv u s'' H'' x' b q'=>P v u s'' H'' x' (a.trans b) q')⟩)))
theorem fG {o:Expr} {name:Str} {apos pos:Pos} {es:List Expr} {ov:Value} {A:Around} {s:Shared} {R E:Value->Shared->Prop} (hst:aA es=true) (hlen:es.length<=10) (hline:(apos.endLine==pos.line)=true)
  (h:∀pl,wpAny (model W.prog W.w) A (getMethod ov name pl) (λx s₁=>wpAny (model W.prog W.w) A (callWith pos x.1 x.2 (backTo pos (starEach es env)) []) R E s₁) E s) :
  wpAny (model W.prog W.w) A (methodCall o name apos pos env ov (es.length+([]:List Keyword).length) (backTo pos (starEach es env)) (backToKw pos (keywordEach [] env))) R E s:=by
 have hform:methodCallForm (es.length+([]:List Keyword).length) (backTo pos (starEach es env)) (backToKw pos (keywordEach [] env))=true:=by
  unfold methodCallForm;have e1:(backTo pos (starEach es env)).all (λx=>!x.1)=true:=by
   have:=gH (pos:=pos) (env:=env) hst;(have this:=this;rewrite [List.any_eq_false]at this)
   rewrite [all_eq_true]
   intro y hy;simpa using this y hy
  simp only[e1];apply rwL (show backToKw pos (keywordEach [] env)=[]from rfl) ?_;simp;exact lt_of_le_of_lt hlen (le_of_ble_eq_true rfl)
 have hpos:methodCallPos true o env apos pos=pure pos:=by unfold methodCallPos;exact if_pos hline
 unfold methodCall;apply rwL hform ?_;apply wpAny_bind (wpAny_holding (wpAny_mono (h _) (λx s₁ h₁=>?_) λ_ _ z=>z));exact wpAny_bind (wpAny_of_eq hpos h₁)
theorem fW {o:Expr} {name:Str} {apos pos:Pos} {es:List Expr} {A:Around} {s:Shared} {R E:Value->Shared->Prop} (hs:bM o=true)
  (h:wpAny (model W.prog W.w) A (eval o env) (λov s₁=>wpAny (model W.prog W.w) A (methodCall o name apos pos env ov (es.length+([]:List Keyword).length) (backTo pos (starEach es env)) (backToKw pos (keywordEach [] env))) R E s₁) E s) :
  wpAny (model W.prog W.w) A (eval (.Call (.Attribute o name apos) es [] pos) env) R E s:=by
 simp only[arm_eval_Call,dj hs];exact wpAny_bind (wpAny_mono h (λov s₁ h₁=>wpAny_bind (wpAny_standAt h₁)) λ_ _ z=>z)
theorem vJ (G:Gd W K) {o:Expr} {name:Str} {apos pos:Pos} {es:List Expr} {m:Nat} (hs:bM o=true) (hm:nm m=name) (hst:aA es=true) (hlen:es.length<=10) (hline:(apos.endLine==pos.line)=true)
  (h:aC W n o env Z H λv H=>E5 λa f C dx fs=>∃ g, v=.ref a∧H a=some (f,.inst C dx fs)∧jQ.lookup (C,m)=some g∧fs.lookup m=none∧dO W n es env Z H λvs H=>a7 W g (v::vs) n H Q) :
  aC W n (.Call (.Attribute o name apos) es [] pos) env Z H Q:=λA s R E hr S er P=>
 fW hs (h A s _ E hr S er λv u s' H' x a q=>by
  obtain⟨b,f,C,dx,fs,g,rfl,e,hg,hl,q⟩:=q;subst x;subst hm;apply cq (mH a.st e) λes' k I F D=>?_;apply jh (G.met C m g hg) λm1 m2 m3 m4=>?_;apply fG hst hlen hline λpl=>method_fn (G.at a.st) I (plainGet_of m4).1 (plainGet_of m4).2 m1 (beq_iff_eq.mp m2) (by show(lookIn (nm m) (tW es' k)).map _=_;apply rwL (F.nohit hl) ?_;rfl) ?_;exact iZ hst (keeps_K m3) (q pos A s' _ E hr a.st (er.keep a.kp) λvs us s'' H'' y a' q'=>
   ⟨G.at a'.st,oa q' hr a'.st (by simp only[List.singleton_append,bv,dM];exact⟨_,us,rfl,rfl,y⟩) λv u s3 H3 x' b' q3=>P v u s3 H3 x' ((a.trans a').trans b') q3⟩))
end
end
section
section
variable {W:Wd} {K:Frag} {n:Nat} {env:Env} {Z:am} {H:AH} {Q:AV->AH->Prop}
theorem ar {h:Heap} {a:Addr} {b:Bool} {xs:List AV} (S:W.St H h) (e:H a=some (b,.list xs)):E2 λus k=>h.get? a=some {cls:=.type "list",data:=.seq us k}∧bK H h xs us.toList:=S.objs _ _ _ e
theorem bK.size {H:AH} {h:Heap} {xs:List AV} {us:Array Value} (x:bK H h xs us.toList):us.size=xs.length:=by simp only[<-x.length,length_toList]
theorem C6 {a b:Int} (h:b.natAbs<2 ^ 60):Builtin.divisionGoesByPylong a b=false:=PyProof.noPylong_of_log2 (by
 by_cases h0:b.natAbs=0
 ·apply rwL h0 ?_;decide
 ·have:=(Nat.log2_lt h0).mpr h;exact lt_of_lt_of_le this (by decide))
theorem wQ {op:Op} {o:Operator} (ho:vv o=some op) {A:Around} {s:Shared} {R E:Value->Shared->Prop} {x y:AV} {u v:Value} (S:W.St H s.heap) (hx:VR H s.heap x u) (hy:VR H s.heap y v) (q:eH op x y H Q) (P:fJ W H s Q R) :
  wpAny (model W.prog W.w) A (binaryOp o u v) R E s:=by
 have tk:Aft W H s H {s with toks:=s.toks+1}:=.tok S _ rfl;obtain⟨⟩:=o<;>cases ho
 ·cases x with
  |int a=>
   apply a8 hx λt e=>?_;apply bb (b9 q hy) λb t' z1z q=>?_;subst z1z;subst e;exact add_int (P _ _ _ _ dB tk q)
  |ref a=>
   apply ad (cA q hy) λb z1z z2z=>?_;subst z1z;(apply Bw z2z λf g xs ys e1 e2 hl q=>?_;clear z2z);obtain rfl:u=.ref a:=hx;apply bb (ar S e1) λus k h1 v1=>?_;apply bb (ar S e2) λvs k' h2 v2=>?_;apply af (Aft.ER (us:=us++vs) (k:=0) S (by simp only[toList_append];exact v1.append v2)) λhn b=>?_;exact _root_.PySem.P.add_list h1 h2 (P _ _ _ _ xC b (q _ hn)) (by apply rwL v2.size (rwL v1.size ?_);exact c0 hl)
  |bytes a=>
   apply a8 hx λt e=>?_;apply bb (oU q hy) λb t' z1z z2z=>?_;subst z1z;(apply af z2z λq1 q2=>?_;clear z2z);subst e;exact PySem.W.KBy.add_bytes (by unfold cap at q1;exact le_trans q1 (by decide)) λt' k=>P (.bytes _) _ _ _ jy (.tok S _ rfl) q2
  |_=>exact elim q
 ·(apply bb (b9 q hx) λa t z1z q=>?_;subst z1z);(apply bb (b9 q hy) λb t' z1z q=>?_;subst z1z);exact sub_int (P _ _ _ _ dB tk q)
 ·(apply bb (b9 q hx) λa t z1z q=>?_;subst z1z);(apply bb (b9 q hy) λb t' z1z z2z=>?_;subst z1z;(apply bH z2z λq1 q2 q=>?_;clear z2z));exact mul_int (P _ _ _ _ dB tk q) (IntMulOk.of_left (intBits_le_64 (by omega) (by omega)))
 ·(apply bb (b9 q hx) λa t z1z q=>?_;subst z1z);(apply bb (b9 q hy) λb t' z1z z2z=>?_;subst z1z;(apply af z2z λq1 q=>?_;clear z2z));exact mod_int q1 (P _ _ _ _ dB tk q)
 ·(apply bb (b9 q hx) λa t z1z q=>?_;subst z1z);(apply bb (b9 q hy) λb t' z1z z2z=>?_;subst z1z;(apply jh z2z λq1 q2 q3 q=>?_;clear z2z));exact lshift_int_small q1 (by lia) (lt_of_lt_of_le q3 (by decide)) (P _ _ _ _ dB tk q)
 ·(apply bb (b9 q hx) λa t z1z q=>?_;subst z1z);(apply bb (b9 q hy) λb t' z1z z2z=>?_;subst z1z;(apply bH z2z λq1 q2 q=>?_;clear z2z));exact rshift_int q1 (P _ _ _ _ dB tk q)
 ·(apply bb (b9 q hx) λa t z1z q=>?_;subst z1z);(apply bb (b9 q hy) λb t' z1z q=>?_;subst z1z);exact and_int (P _ _ _ _ dB tk q)
 ·(apply bb (b9 q hx) λa t z1z q=>?_;subst z1z);(apply bb (b9 q hy) λb t' z1z z2z=>?_;subst z1z;(apply jh z2z λq1 q2 q3 q=>?_;clear z2z));exact floordiv_int q1 (P _ _ _ _ dB tk q) (.inl (C6 q3))
noncomputable def pd (x:AV):Option PyData:=AV.casesOn x (some .none) (λb=>some (.bool b)) (λi=>some (.int i)) nN nN nN nN
noncomputable def zx (xs:List AV):Option (List PyData):=List.rec (some []) (λx _ ih=>(pd x).bind λa=>ih.map (a::·)) xs
theorem nw {x:AV} {xs:List AV} {a:PyData} {b:List PyData} (h:pd x=some a) (k:zx xs=some b):zx (x::xs)=some (a::b):=by
 show(pd x).bind _=_;exact rwL h (show(zx xs).map _=_ from rwL k rfl)
theorem tQ {x y:AV} {b:Bool} (h:uM x y=some b):E2 λda db=>pd x=some da∧pd y=some db∧PyData.eqv da db=b∧SeqAt.shaped da=true∧SeqAt.shaped db=true∧da.depth=0∧db.depth=0∧da.canLay0=true∧db.canLay0=true:=by
 cases x with
 |none=>cases y with
  |none=>exact⟨_,_,rfl,rfl,sI h,rfl,rfl,rfl,rfl,rfl,rfl⟩
  |int b=>exact⟨_,_,rfl,rfl,sI h,rfl,rfl,rfl,rfl,rfl,rfl⟩
  |_=>exact nS h
 |int a=>cases y with
  |none=>exact⟨_,_,rfl,rfl,sI h,rfl,rfl,rfl,rfl,rfl,rfl⟩
  |int b=>exact⟨.int a,.int b,rfl,rfl,by simp only[PyData.eqv];exact sI h,rfl,rfl,rfl,rfl,rfl,rfl⟩
  |_=>exact nS h
 |bool a=>cases y with
  |bool b=>exact⟨.bool a,.bool b,rfl,rfl,by simp only[PyData.eqv];exact sI h,rfl,rfl,rfl,rfl,rfl,rfl⟩
  |_=>exact nS h
 |_=>exact nS h
theorem wC:∀{xs ys:List AV} {b:Bool},mI xs ys=some b->E2 λdas dbs=>zx xs=some das∧zx ys=some dbs∧PyData.eqvAll das dbs=b∧PyData.canLayAll0 das=true∧PyData.canLayAll0 dbs=true∧PyData.depthAll das=0∧PyData.depthAll dbs=0:=by
 intro xs
 induction xs with
 |nil=>
  intro ys b h;cases ys with
  |nil=>exact⟨[],[],rfl,rfl,sI h,rfl,rfl,rfl,rfl⟩
  |cons y ys=>exact nS h
 |cons x xs ih=>
  intro ys b h;cases ys with
  |nil=>exact nS h
  |cons y ys=>
   apply ad (bind_eq_some_iff.mp (show(uM x y).bind _=_ from h)) λp hp h=>?_;apply ad (map_eq_some_iff.mp h) λq hq z=>?_;apply yp (tQ hp) λda db h1 h2 h3 h4 h5 z1z=>?_;(apply jh z1z λh6 h7 h8 h9=>?_;clear z1z);apply yp (ih hq) λdas dbs g1 g2 g3 g4 g5 z1z=>?_;(apply af z1z λg6 g7=>?_;clear z1z);exact⟨da::das,db::dbs,nw h1 g1,nw h2 g2,by simp only[PyData.eqvAll,h3,g3];exact z,by simp[PyData.canLayAll0,h8,g4],by simp[PyData.canLayAll0,h9,g5],by simp[PyData.depthAll,h6,g6],by simp[PyData.depthAll,h7,g7]⟩
theorem fP {h:Heap} {x:AV} {u:Value} {d:PyData} (v:VR H h x u) (e:pd x=some d):Reads h u d []:=by
 cases x with
 |none=>obtain rfl:=sI e;subst v;exact .none
 |bool b=>obtain rfl:=sI e;subst v;exact .bool _
 |int i=>obtain rfl:=sI e;obtain⟨t,rfl⟩:=v;exact .int _ _
 |_=>exact nS e
theorem l0 {h:Heap}:∀{xs:List AV} {us:List Value} {ds:List PyData},bK H h xs us->zx xs=some ds->ReadsAll h us ds []:=by
 intro xs
 induction xs with
 |nil=>intro us ds v e;obtain rfl:=sI e;subst v;exact .nil
 |cons x xs ih=>
  intro us ds v e;apply cq v λu r z1z p q=>?_;clear v;subst z1z;apply ad (bind_eq_some_iff.mp (show(pd x).bind _=_ from e)) λa h1 h=>?_;apply ad (map_eq_some_iff.mp h) λb h2 z=>?_;subst z;exact .cons (as:=[]) (bs:=[]) (fP p h1) (ih q h2)
theorem bK.ints {h:Heap}:∀{xs:List Int} {us:List Value},bK H h (xs.map .int) us->IntsAre us xs:=by
 intro xs
 induction xs with
 |nil=>
  intro us v;simp only[map_nil,c8]at v;subst v;exact .nil
 |cons x xs ih=>
  intro us v;simp only[map_cons,bv,bQ]at v;apply cq v λu r z1z z2z q=>a8 z2z λt z3z=>?_;clear v z2z;subst z1z;subst z3z;exact .cons x t (ih q)
theorem uw {A:Around} {s:Shared} {E:Value->Shared->Prop} {x y:AV} {u v:Value} {Qb:Bool->Prop} (hr:dN n A) (S:W.St H s.heap) (hx:VR H s.heap x u) (hy:VR H s.heap y v) (q:kE H x y Qb) :
  ∃b,Qb b∧∀R:Value->Shared->Prop,(R (.bool b) s->wpAny (model W.prog W.w) A (compareOp .Eq u v) R E s)∧(R (.bool (!b)) s->wpAny (model W.prog W.w) A (compareOp .NotEq u v) R E s):=by
 have hu:A.units+64<cLine:=by have:=hr.2;unfold cLine;lia
 have pl:lk (uM x y) Qb->∃b,Qb b∧∀R:Value->Shared->Prop,(R (.bool b) s->wpAny (model W.prog W.w) A (compareOp .Eq u v) R E s)∧(R (.bool (!b)) s->wpAny (model W.prog W.w) A (compareOp .NotEq u v) R E s):=λq=>by
  apply ad (fU.mp q) λb hb q=>?_;apply yp (tQ hb) λda db h1 h2 h3 h4 h5 _=>?_;exact⟨b,q,λR=>⟨λr=>eq_dataH (fP hx h1) (fP hy h2) h4 h5 hu (by exact rwL h3 r),λr=>ne_dataH (fP hx h1) (fP hy h2) h4 h5 hu (by exact rwL h3 r)⟩⟩
 cases x with
 |none=>exact pl q
 |bool=>exact pl q
 |int=>exact pl q
 |tup xs=>
  apply ad (ip.mp q) λys z1z q=>?_;subst z1z;apply ad (fU.mp q) λb hb q=>?_;apply yp (wC hb) λdas dbs g1 g2 g3 g4 g5 z1z=>?_;(apply af z1z λg6 g7=>?_;clear z1z);apply nC hx λa us k z1z e1 z1 r1=>?_;clear hx;subst z1z;apply nC hy λa' us' k' z1z e2 z2 r2=>?_;clear hy;subst z1z;have ra:Reads s.heap (.ref a) (.tuple das) []:=.tuple e1 rfl rfl (l0 r1 g1);have rb:Reads s.heap (.ref a') (.tuple dbs) []:=.tuple e2 rfl rfl (l0 r2 g2);have sa:SeqAt.shaped (.tuple das)=true:=by simp[SeqAt.shaped,PyData.canLay0,PyData.depth,g4,g6]
  have sb:SeqAt.shaped (.tuple dbs)=true:=by simp[SeqAt.shaped,PyData.canLay0,PyData.depth,g5,g7]
  exact⟨b,q,λR=>⟨λr=>eq_dataH ra rb sa sb hu (by simp only[PyData.eqv,g3];exact r),λr=>ne_dataH ra rb sa sb hu (by simp only[PyData.eqv,g3];exact r)⟩⟩
 |bytes a=>
  apply bb (oU q hy) λb t' z1z q=>?_;subst z1z;apply a8 hx λt z1z=>?_;clear hx;subst z1z;have e:(a==b)=(a.toList==b.toList):=by
   by_cases h:a=b
   ·subst h;simp
   ·apply rwL (beq_eq_false_iff_ne.mpr h) ?_;symm;rewrite [beq_eq_false_iff_ne];exact λz=>h (Array.toList_inj.mp z)
  exact⟨_,q,λR=>⟨λr=>eq_bytes (by exact rwR e r),λr=>ne_bytes (by apply rwL (show(a.toList != b.toList) = !(a==b)by apply rwL e ?_;rfl) ?_;exact r)⟩⟩
 |str a=>
  apply bb (yJ q hy) λb t' z1z q=>?_;subst z1z;apply a8 hx λt z1z=>?_;clear hx;subst z1z;have e:(a==b)=decide (a=b):=by by_cases h:a=b<;>rfl
  exact⟨_,q,λR=>⟨λr=>eq_str (by exact rwL e r),λr=>ne_str (by apply rwL (show(a != b) = !(decide (a=b))by apply rwR e ?_;rfl) ?_;exact r)⟩⟩
 |ref a=>
  apply ad (cA q hy) λb z1z z2z=>?_;subst z1z;(apply Du z2z λf g xs ys e1 e2 q=>?_;clear z2z);obtain rfl:u=.ref a:=hx;apply bb (ar S e1) λus k h1 v1=>?_;apply bb (ar S e2) λvs k' h2 v2=>?_;have i1:s.heap.IsList _ us.toList.toArray:=⟨_,h1,rfl,k,by simp⟩;have i2:s.heap.IsList _ vs.toList.toArray:=⟨_,h2,rfl,k',by simp⟩;exact⟨_,q,λR=>⟨λr=>ke_eq_ints i1 i2 v1.ints v2.ints hu r,λr=>ke_ne_ints i1 i2 v1.ints v2.ints hu r⟩⟩
theorem aW:Value.type "dict"≠Value.type "tuple":=by decide
theorem uv {M:Model} {A:Around} {s:Shared} {E:Value->Shared->Prop} {x y:AV} {u v:Value} {b:Bool} (S:W.St H s.heap) (hx:VR H s.heap x u) (hy:VR H s.heap y v) (q:lM x y=some b) (ok:fh H x y) :
  ∀R:Value->Shared->Prop,(R (.bool b) s->wpAny M A (compareOp .Is u v) R E s)∧(R (.bool (!b)) s->wpAny M A (compareOp .IsNot u v) R E s):=by
 intro R;have plain:plainIs u v=true->(u==v)=b->(R (.bool b) s->wpAny M A (compareOp .Is u v) R E s)∧(R (.bool (!b)) s->wpAny M A (compareOp .IsNot u v) R E s):=λp e=>
  ⟨λr=>wpAny_is_plain p (by exact rwL e r),λr=>wpAny_isNot_plain p (by exact rwL e r)⟩
 cases x with
 |none=>
  subst hx;cases y with
  |none=>subst hy;exact plain rfl (sI q)
  |int i=>obtain⟨_,rfl⟩:=hy;exact plain rfl (sI q)
  |bool c=>subst hy;exact plain rfl (sI q)
  |ref a=>subst hy;exact plain rfl (sI q)
  |_=>exact nS q
 |int i=>
  obtain⟨_,rfl⟩:=hx;cases y with
  |none=>subst hy;exact plain rfl (sI q)
  |_=>exact nS q
 |bool a=>
  subst hx;cases y with
  |none=>subst hy;exact plain rfl (sI q)
  |bool c=>subst hy;exact plain rfl (Eq.trans (by cases a<;>cases c<;>rfl) (sI q))
  |_=>exact nS q
 |ref a=>
  subst hx;cases y with
  |none=>subst hy;exact plain rfl (sI q)
  |ref c=>
   subst hy;obtain rfl:=sI q;by_cases e:a=c
   ·subst e;simp only[decide_true];exact⟨λr=>wpAny_is_ref_self r,λr=>wpAny_isNot_ref_self r⟩
   ·(apply af ok λz1z z2z=>ad z1z λp hp hno=>a8 z2z λp' hp'=>?_;clear ok z1z z2z);apply a8 (S.some_get hp) λo ho=>?_;apply a8 (S.some_get hp') λo' ho'=>?_;have nt:o.cls≠.type "tuple":=λz=>by
     obtain⟨f,p⟩:=p;have OR:=S.objs _ _ _ hp;cases p with
     |list vs=>(apply bb OR λus k e _=>?_;clear OR);simp only[ho]at e;cases e;exact cb z
     |inst C dx fs=>obtain⟨e,_⟩:=OR;simp only[ho]at e;cases e;ac_nf
     |dS es=>obtain⟨kvs,⟨o2,ds,ep,e,x,_⟩,_⟩:=OR;simp only[ho]at e;cases e;simp only[x.1]at z;exact aW z
     |dI es=>(apply a8 OR λkvs z1z=>?_;clear OR;obtain⟨⟨o2,ds,ep,e,x,_⟩,_⟩:=z1z);simp only[ho]at e;cases e;simp only[x.1]at z;exact aW z
     |opq=>exact absurd rfl hno
     |own b=>
      apply sU OR λg C fs e=>?_;clear OR;apply bH (S.objs _ _ _ e) λ_ _ z1z=>?_;(apply bb z1z λes k e' _=>?_;clear z1z);simp only[ho]at e';obtain rfl:=sI e';exact aW z
    apply rwL (decide_eq_false e) ?_;exact⟨λr=>wpAny_is_ref_other e ho ho' nt r,λr=>wpAny_isNot_ref_other e ho ho' nt r⟩
  |_=>exact nS q
 |_=>exact nS q
end
end
section
section
variable {W:Wd} {K:Frag} {n:Nat} {env:Env} {Z:am} {H:AH} {Q:AV->AH->Prop}
theorem yn {o:Operator} {op:Op} {l r:Expr} {pos:Pos} (ho:vv o=some op) (h:aC W n l env Z H λx H=>aC W n r env Z H λy H=>eH op x y H Q):aC W n (.BinOp l o r pos) env Z H Q:=λA s R E hr S er P=>
 wpAny_BinOp (h A s _ E hr S er λx u s1 H1 hx a q=>q A s1 _ E hr a.st (er.keep a.kp) λy v s2 H2 hy b q=>wQ ho b.st (hx.kp0 b.kp) hy q λv u s' H' x c q=>P v u s' H' x ((a.trans b).trans c) q)
noncomputable def DE (a:Int) (y:Value):Bool:=match y with
 |.int b _=>b==a
 |_=>false
theorem oh {a:Int} {xs:List Int} {us:List Value} (h:IntsAre us xs):us.any (DE a)=decide (a∈xs):=by
 induction h with
 |nil=>rfl
 |cons x t r ih=>
  simp only[any_cons,ih];show(x==a||_)=_;by_cases h:x=a
  ·subst h;simp
  ·have:¬a=x:=λz=>h z.symm;simp[h,this]
theorem qe {a:Int} {t:Tok} {xs:List Int} {us:List Value} (h:IntsAre us xs):∀y,y∈us->MeetsSeq.EqGives y (.int a t) (DE a y):=by
 induction h with
 |nil=>exact λy hy=>absurd hy not_mem_nil
 |cons x u r ih=>exact λy hy=>(mC hy).elim (λe=>e▸MeetsSeq.EqGives.int x a u t) (ih y)
theorem qk {op:Cm} {o:CmpOp} (ho:u9 o=some op) {A:Around} {s:Shared} {R E:Value->Shared->Prop} {x y:AV} {u v:Value} (hr:dN n A) (S:W.St H s.heap) (hx:VR H s.heap x u) (hy:VR H s.heap y v) (q:fB op x y H Q) (P:fJ W H s Q R) :
  wpAny (model W.prog W.w) A (compareOp o u v) R E s:=by
 have pb:∀b,Q (.bool b) H->R (.bool b) s:=λb q=>P _ _ s H (by simp only[kA]) (.refl S) q;cases o<;>obtain rfl:=sI ho
 ·apply ad (uw (E:=E) hr S hx hy q) λb qb k=>?_;exact(k R).1 (pb _ qb)
 ·apply ad (uw (E:=E) hr S hx hy q) λb qb k=>?_;exact(k R).2 (pb _ qb)
 ·(apply ad (bI.mp q) λa z1z q1=>?_;subst z1z);apply ad (bI.mp q1) λb z1z q2=>?_;subst z1z;simp only[bQ]at hx hy;(apply a8 hx λt z1z=>?_;clear hx;subst z1z);(apply a8 hy λt' z1z=>?_;clear hy;subst z1z);exact lt_int (pb _ q2)
 ·(apply ad (bI.mp q) λa z1z q1=>?_;subst z1z);apply ad (bI.mp q1) λb z1z q2=>?_;subst z1z;simp only[bQ]at hx hy;(apply a8 hx λt z1z=>?_;clear hx;subst z1z);(apply a8 hy λt' z1z=>?_;clear hy;subst z1z);exact le_int (pb _ q2)
 ·(apply ad (bI.mp q) λa z1z q1=>?_;subst z1z);apply ad (bI.mp q1) λb z1z q2=>?_;subst z1z;simp only[bQ]at hx hy;(apply a8 hx λt z1z=>?_;clear hx;subst z1z);(apply a8 hy λt' z1z=>?_;clear hy;subst z1z);exact gt_int (pb _ q2)
 ·(apply ad (bI.mp q) λa z1z q1=>?_;subst z1z);apply ad (bI.mp q1) λb z1z q2=>?_;subst z1z;simp only[bQ]at hx hy;(apply a8 hx λt z1z=>?_;clear hx;subst z1z);(apply a8 hy λt' z1z=>?_;clear hy;subst z1z);exact ge_int (pb _ q2)
 ·apply de q λb e ok q=>?_;exact(uv S hx hy e ok R).1 (pb _ q)
 ·apply de q λb e ok q=>?_;exact(uv S hx hy e ok R).2 (pb _ q)
 ·obtain⟨a,l,f,xs,rfl,rfl,e,q⟩:=q;simp only[bQ,dM]at hx hy;(apply a8 hx λt z1z=>?_;clear hx;subst z1z);subst hy;apply bb (ar S e) λus k h1 v1=>?_;apply SeqRoads2.in_list _ (λy hy=>qe (t:=t) v1.ints y (by simpa using hy)) h1 ?_;apply rwR any_toList (rwL (oh v1.ints) ?_);exact pb _ q
 ·obtain⟨a,l,f,xs,rfl,rfl,e,q⟩:=q;simp only[bQ,dM]at hx hy;(apply a8 hx λt z1z=>?_;clear hx;subst z1z);subst hy;apply bb (ar S e) λus k h1 v1=>?_;apply SeqRoads2.notIn_list _ (λy hy=>qe (t:=t) v1.ints y (by simpa using hy)) h1 ?_;apply rwR any_toList (rwL (oh v1.ints) ?_);exact pb _ q
theorem ym {o:CmpOp} {op:Cm} {l r:Expr} {pos:Pos} (ho:u9 o=some op) (hm:behindInMarks o r=false) (h:aC W n l env Z H λx H=>aC W n r env Z H λy H=>fB op x y H Q):aC W n (.Compare l [o] [r] pos) env Z H Q:=λA s R E hr S er P=>
 wpAny_Compare1 (h A s _ E hr S er λx u s1 H1 hx a q=>q A s1 _ E hr a.st (er.keep a.kp) λy v s2 H2 hy b q=>qk ho hr b.st (hx.kp0 b.kp) hy q λv u s' H' x c q=>P v u s' H' x ((a.trans b).trans c) q) hm
theorem yj {x:Expr} {pos:Pos} (h:aC W n x env Z H λv H=>∃i,v=.int i∧Q (.int (-i)) H):aC W n (.UnaryOp .USub x pos) env Z H Q:=λA s R E hr S er P=>
 wpAny_UnaryOp (h A s _ E hr S er λv u s1 H1 hx a q=>by
  obtain⟨i,rfl,q⟩:=q;simp only[bQ]at hx;(apply a8 hx λt z1z=>?_;clear hx;subst z1z);exact neg_int (P _ _ _ H1 (by simp only[bQ];exact⟨_,rfl⟩) (a.trans (.tok a.st _ rfl)) q))
theorem yg {x:Expr} {pos:Pos} (h:aC W n x env Z H λv H=>∃t,v=.bool t∧Q (.bool (!t)) H):aC W n (.UnaryOp .Not x pos) env Z H Q:=λA s R E hr S er P=>
 wpAny_UnaryOp (h A s _ E hr S er λv u s1 H1 hx a q=>by
  obtain⟨t,rfl,q⟩:=q;have hx:_=_:=hx;subst hx;exact not_value (wpAny_truthy_bool (P _ _ _ H1 (by simp only[kA]) a q)))
theorem yo {x y:Expr} {pos:Pos} (h:aC W n x env Z H λv H=>∃t,v=.bool t∧(t=false->Q (.bool false) H)∧(t=true->aC W n y env Z H Q)):aC W n (.BoolOp .And [x,y] pos) env Z H Q:=λA s R E hr S er P=>
 wpAny_And2 (h A s _ E hr S er λv u s1 H1 hx a q=>by
  apply de q λt z1z q1 q2=>?_;clear q;subst z1z;have hx:_=_:=hx;subst hx;apply wpAny_truthy_bool ?_;cases t with
  |false=>exact P _ _ _ H1 (by simp only[kA]) a (q1 rfl)
  |true=>exact q2 rfl A s1 _ E hr a.st (er.keep a.kp) λv u s' H' x c q=>P v u s' H' x (a.trans c) q)
theorem A9 {x y:Expr} {pos:Pos} (h:aC W n x env Z H λv H=>∃t,v=.bool t∧(t=true->Q (.bool true) H)∧(t=false->aC W n y env Z H Q)):aC W n (.BoolOp .Or [x,y] pos) env Z H Q:=λA s R E hr S er P=>
 wpAny_Or2 (h A s _ E hr S er λv u s1 H1 hx a q=>by
  apply de q λt z1z q1 q2=>?_;clear q;subst z1z;have hx:_=_:=hx;subst hx;apply wpAny_truthy_bool ?_;cases t with
  |true=>exact P _ _ _ H1 (by simp only[kA]) a (q1 rfl)
  |false=>exact q2 rfl A s1 _ E hr a.st (er.keep a.kp) λv u s' H' x c q=>P v u s' H' x (a.trans c) q)
theorem yf {x y z:Expr} {pos:Pos} (h:aC W n x env Z H λv H=>∃t,v=.bool t∧(t=true->Q (.bool true) H)∧(t=false->aC W n (.BoolOp .Or [y,z] pos) env Z H Q)):aC W n (.BoolOp .Or [x,y,z] pos) env Z H Q:=λA s R E hr S er P=>by
 show wpAny _ A (do
  let v <-eval x env
  standAt pos
  let t <-holding [v] (truthy v)
  match BoolOp.Or,t with
  |.And,false|.Or,true=>pure v
  |_,_=>boolOp pos .Or [eval y env,eval z env]) R E s
 apply wpAny_bind (h A s _ E hr S er λv u s1 H1 hx a q=>?_);apply de q λt z1z q1 q2=>?_;clear q;subst z1z;have hx:_=_:=hx;subst hx;apply wpAny_bind (wpAny_standAt (wpAny_bind (wpAny_holding (wpAny_truthy_bool ?_))));cases t with
 |true=>exact wpAny_pure (P _ _ _ H1 (by simp only[kA]) a (q1 rfl))
 |false=>exact q2 rfl A s1 _ E hr a.st (er.keep a.kp) λv u s' H' x c q=>P v u s' H' x (a.trans c) q
theorem vO {x y z:Expr} {pos:Pos} (h:aC W n x env Z H λv H=>∃t,v=.bool t∧(t=false->Q (.bool false) H)∧(t=true->aC W n (.BoolOp .And [y,z] pos) env Z H Q)):aC W n (.BoolOp .And [x,y,z] pos) env Z H Q:=λA s R E hr S er P=>by
 show wpAny _ A (do
  let v <-eval x env
  standAt pos
  let t <-holding [v] (truthy v)
  match BoolOp.And,t with
  |.And,false|.Or,true=>pure v
  |_,_=>boolOp pos .And [eval y env,eval z env]) R E s
 apply wpAny_bind (h A s _ E hr S er λv u s1 H1 hx a q=>?_);apply de q λt z1z q1 q2=>?_;clear q;subst z1z;have hx:_=_:=hx;subst hx;apply wpAny_bind (wpAny_standAt (wpAny_bind (wpAny_holding (wpAny_truthy_bool ?_))));cases t with
 |false=>exact wpAny_pure (P _ _ _ H1 (by simp only[kA]) a (q1 rfl))
 |true=>exact q2 rfl A s1 _ E hr a.st (er.keep a.kp) λv u s' H' x c q=>P v u s' H' x (a.trans c) q
def fA (W:Wd) (n:Nat) (e:Expr) (env:Env) (Z:am) (H:AH) (Q:Bool->AH->Prop):Prop:=
 ∀(A:Around) (s:Shared) (R:Bool->Shared->Prop) (E:Value->Shared->Prop),dN n A->W.St H s.heap->EnvR W env H s.heap Z->(∀t s' H',Aft W H s H' s'->Q t H'->R t s')->wpAny (model W.prog W.w) A (isTrue e env (eval e env)) R E s
noncomputable def Aj:UnaryOp->Bool
 |.Not=>false
 |_=>true
def uE (e:Expr):Prop:=(if h:e.ctorIdx=3 then @Expr.UnaryOp.elim (λ_=>Bool) e h λo _ _=>Aj o else !(beq e.ctorIdx 0||beq e.ctorIdx 5||beq e.ctorIdx 15))=true
theorem kN (e:Expr) (env:Env) (w:Sem Value) (h:uE e):isTrue e env w=(do
  let v <-w
  standAt e.pos
  holding [v] (truthy v)):=by
 cases e with
 |UnaryOp op=>obtain⟨⟩:=op<;>first|rfl|exact absurd h false_ne_true
 |_=>first|rfl|exact absurd h false_ne_true
theorem lc {e:Expr} {Q:Bool->AH->Prop} (hp:uE e) (h:aC W n e env Z H λv H=>∃t,v=.bool t∧Q t H):fA W n e env Z H Q:=λA s R E hr S er P=>by
 apply rwL (kN e env _ hp) ?_;apply wpAny_bind (h A s _ E hr S er λv u s1 H1 hx a q=>?_);obtain⟨t,rfl,q⟩:=q;subst hx;exact wpAny_bind (wpAny_standAt (wpAny_holding (wpAny_truthy_bool (P t s1 H1 a q))))
theorem vH {o:CmpOp} {op:Cm} {l r:Expr} {pos:Pos} {Q:Bool->AH->Prop} (ho:u9 o=some op) (hm:behindInMarks o r=false) (h:aC W n l env Z H λx H=>aC W n r env Z H λy H=>fB op x y H λv H=>∃t,v=.bool t∧Q t H):fA W n (.Compare l [o] [r] pos) env Z H Q:=λA s R E hr S er P=>
 wpAny_isTrue_Compare1 (h A s _ E hr S er λx u s1 H1 hx a q=>q A s1 _ E hr a.st (er.keep a.kp) λy v s2 H2 hy b q=>qk ho hr b.st (hx.kp0 b.kp) hy q λv u s' H' x c q=>by
  obtain⟨t,rfl,q⟩:=q;subst x;exact wpAny_truthy_bool (P t s' H' ((a.trans b).trans c) q)) hm
theorem vF {x:Expr} {pos:Pos} {Q:Bool->AH->Prop} (h:fA W n x env Z H λt H=>Q (!t) H):fA W n (.UnaryOp .Not x pos) env Z H Q:=λA s R E hr S er P=>
 wpAny_isTrue_Not (h A s _ E hr S er λt s' H' a q=>P (!t) s' H' a q)
theorem mh {x:Expr} {ys:List Expr} {pos:Pos} {Q:Bool->AH->Prop} (h:fA W n x env Z H λt H=>(t=false->Q false H)∧(t=true->fA W n (.BoolOp .And ys pos) env Z H Q)):fA W n (.BoolOp .And (x::ys) pos) env Z H Q:=λA s R E hr S er P=>
 wpAny_isTrue_BoolOp (wpAny_allTrue_And_cons (h A s _ E hr S er λt s' H' a q=>by
  cases t with
  |false=>exact P false s' H' a (q.1 rfl)
  |true=>exact q.2 rfl A s' _ E hr a.st (er.keep a.kp) λt s'' H'' b q=>P t s'' H'' (a.trans b) q))
theorem oK {x:Expr} {ys:List Expr} {pos:Pos} {Q:Bool->AH->Prop} (h:fA W n x env Z H λt H=>(t=true->Q true H)∧(t=false->fA W n (.BoolOp .Or ys pos) env Z H Q)):fA W n (.BoolOp .Or (x::ys) pos) env Z H Q:=λA s R E hr S er P=>
 wpAny_isTrue_BoolOp (wpAny_allTrue_Or_cons (h A s _ E hr S er λt s' H' a q=>by
  cases t with
  |true=>exact P true s' H' a (q.1 rfl)
  |false=>exact q.2 rfl A s' _ E hr a.st (er.keep a.kp) λt s'' H'' b q=>P t s'' H'' (a.trans b) q))
theorem sM {pos:Pos} {Q:Bool->AH->Prop} (h:Q true H):fA W n (.BoolOp .And [] pos) env Z H Q:=λA s R E hr S er P=>wpAny_isTrue_BoolOp (wpAny_allTrue_And_nil (P true s H (.refl S) h))
theorem vE {pos:Pos} {Q:Bool->AH->Prop} (h:Q false H):fA W n (.BoolOp .Or [] pos) env Z H Q:=λA s R E hr S er P=>wpAny_isTrue_BoolOp (wpAny_allTrue_Or_nil (P false s H (.refl S) h))
theorem vG {c a b:Expr} {pos:Pos} {Q:Bool->AH->Prop} (h:fA W n c env Z H λt H=>(t=true->fA W n a env Z H Q)∧(t=false->fA W n b env Z H Q)):fA W n (.IfExp c a b pos) env Z H Q:=λA s R E hr S er P=>by
 simp only[arm_isTrue_IfExp];apply wpAny_bind (h A s _ E hr S er λt s' H' x q=>?_);cases t with
 |true=>exact q.1 rfl A s' _ E hr x.st (er.keep x.kp) λt s'' H'' b q=>P t s'' H'' (x.trans b) q
 |false=>exact q.2 rfl A s' _ E hr x.st (er.keep x.kp) λt s'' H'' b q=>P t s'' H'' (x.trans b) q
theorem yl {c a b:Expr} {pos:Pos} (h:fA W n c env Z H λt H=>(t=true->aC W n a env Z H Q)∧(t=false->aC W n b env Z H Q)):aC W n (.IfExp c a b pos) env Z H Q:=λA s R E hr S er P=>by
 simp only[arm_eval_IfExp];apply wpAny_bind (h A s _ E hr S er λt s' H' x q=>?_);cases t with
 |true=>exact q.1 rfl A s' _ E hr x.st (er.keep x.kp) λv u s'' H'' y b q=>P v u s'' H'' y (x.trans b) q
 |false=>exact q.2 rfl A s' _ E hr x.st (er.keep x.kp) λv u s'' H'' y b q=>P v u s'' H'' y (x.trans b) q
end
end
section
theorem KR.keys {K:Type} {H:AH} {h:Heap}:∀{es:List (K × AV)} {kvs:List (K × Value)},KR H h es kvs->kvs.map (·.1)=es.map (·.1):=by
 intro es
 induction es with
 |nil=>
  intro _ x;simp only[iH]at x;subst x;rfl
 |cons f fs ih=>
  intro _ x;simp only[eY]at x;apply cq x λu r z1z p q=>?_;clear x;subst z1z;simp[ih q]
theorem KR.length {K:Type} {H:AH} {h:Heap} {es:List (K × AV)} {kvs:List (K × Value)} (x:KR H h es kvs):kvs.length=es.length:=by
 have:=congrArg List.length x.keys;simpa using this
theorem KR.find {K:Type} [DecidableEq K] {H:AH} {h:Heap}:∀{es:List (K × AV)} {kvs:List (K × Value)} {k:K} {v:AV},KR H h es kvs->es.lookup k=some v->∃u,valueAt kvs k=some u∧VR H h v u:=by
 intro es
 induction es with
 |nil=>
  intro _ k v x e;exact nS e
 |cons p0 fs ih=>
  obtain⟨g,w⟩:=p0;intro _ k v x e;simp only[eY]at x;apply cq x λu r z1z p q=>?_;clear x;subst z1z;by_cases hk:k=g
  ·subst hk;rw[aB]at e;obtain rfl:=sI e;exact⟨u,by simp[valueAt],p⟩
  ·(have e:=e;rw[aq hk]at e);apply ad (ih q e) λu' h1 h2=>?_;apply⟨u',?_,h2⟩;have:¬g=k:=λz=>hk z.symm;simpa[valueAt,find?_cons,this]using h1
theorem KR.miss {K:Type} [DecidableEq K] {H:AH} {h:Heap}:∀{es:List (K × AV)} {kvs:List (K × Value)} {k:K},KR H h es kvs->es.lookup k=none->valueAt kvs k=none:=by
 intro es
 induction es with
 |nil=>
  intro _ k x e;simp only[iH]at x;subst x;rfl
 |cons p0 fs ih=>
  obtain⟨g,w⟩:=p0;intro _ k x e;simp only[eY]at x;apply cq x λu r z1z p q=>?_;clear x;subst z1z;have hk:k≠g:=λz=>by subst z;rw[aB]at e;exact sN e
  (have e:=e;rw[aq hk]at e);have:=ih q e;have hg:¬g=k:=λz=>hk z.symm;simpa[valueAt,find?_cons,hg]using this
theorem KR.stored {K:Type} [DecidableEq K] {H:AH} {h:Heap} {k:K} {v:AV} {u:Value} (p:VR H h v u):∀{es:List (K × AV)} {kvs:List (K × Value)},KR H h es kvs->(kvs.map (·.1)).Nodup->KR H h (ch es k v) (stored kvs k u):=by
 intro es
 induction es with
 |nil=>
  intro _ x nd;simp only[iH]at x;subst x;simp only[pJ,PySem.stored,List.any_nil,false_eq_true,if_false,nil_append,iH,eY];exact⟨u,[],rfl,p,rfl⟩
 |cons p0 fs ih=>
  obtain⟨g,w⟩:=p0;intro _ x nd;simp only[eY]at x;apply cq x λu' r z1z p' q=>?_;clear x;subst z1z;rw[map_cons,nodup_cons]at nd;by_cases hk:g=k
  ·subst hk;have e:(r.map λkv=>if kv.1=g then(kv.1,u)else kv)=r:=map_store_of_not_mem r g u nd.1;simp only[jg,if_true,PySem.stored,any_cons,decide_true,Bool.true_or,map_cons,e,eY];exact⟨u,r,rfl,p,q⟩
  ·have ih:=ih q nd.2;simp only[jg,if_neg hk,PySem.stored,any_cons,decide_eq_false hk,Bool.false_or,map_cons]at ih ⊢;by_cases ha:r.any (λkv=>decide (kv.1=k))=true
   ·simp only[if_pos ha]at ih ⊢;simp only[eY];exact⟨u',_,rfl,p',ih⟩
   ·simp only[if_neg ha]at ih ⊢;simp only[eY,cons_append];exact⟨u',_,rfl,p',ih⟩
theorem hG {i:Expr} {o v:Value} (h:gu i=false):subscripted i false o v=operate [o,v] (getItem o v):=by
 obtain⟨⟩:=i<;>first|rfl|ac_nf
theorem fZ {prog:Program} {w:World} {A:Around} {E:Value->Shared->Prop} {s:Shared} {value slice:Expr} {o i:Value} {T id:String} {Q:Value->Shared->Prop} (hsl:gu slice=false) (hT:s.TypeIs o T)
  (hl:typeLookup (.type T) "__getitem__"=pure (some (.builtin id))) (hg:wpAny (model prog w) A (getItem o i) Q E s):wpAny (model prog w) A (subscriptTail value slice o i) Q E s:=tail_any hT hl hg (hG hsl)
section
variable {W:Wd} {K:Frag} {n:Nat} {env:Env} {Z:am} {H:AH} {Q:AV->AH->Prop}
theorem jC {k:Int} {m j:Nat} (h:seqIndex? k m=some j):(0<=k∧k.toNat=j∧j<m)\/(k<0∧-(m:Int)<=k∧(k+m).toNat=j∧j<m):=by
 unfold seqIndex? at h;by_cases hk:k<0
 ·simp only[hk,if_true]at h;split at h
  ·rename_i q;simp only[and_eq_true,decide_eq_true_eq]at q;obtain rfl:=sI h;exact .inr ⟨hk,by lia,rfl,by omega⟩
  ·exact nS h
 ·simp only[hk,if_false]at h;split at h
  ·rename_i q;simp only[and_eq_true,decide_eq_true_eq]at q;obtain rfl:=sI h;exact .inl ⟨by exact Int.not_lt.mp hk,rfl,by omega⟩
  ·exact nS h
theorem wt {A:Around} {s:Shared} {R E:Value->Shared->Prop} {v i:Expr} {x y:AV} {o j:Value} (hsl:gu i=false) (S:W.St H s.heap) (hx:VR H s.heap x o) (hy:VR H s.heap y j) (q:be x y H Q) (P:fJ W H s Q R) :
  wpAny (model W.prog W.w) A (subscriptTail v i o j) R E s:=by
 cases x with
 |ref a'=>cases y with
  |int k=>
   subst hx;(apply a8 hy λt z1z=>?_;clear hy;subst z1z);rcases q with⟨f,xs,j,u,e,hlo,hhi,hj,hu,q⟩|⟨f,es,u,e,hu,q⟩
   ·apply bb (ar S e) λus m h1 v1=>?_;have L:s.heap.IsList a' us:=⟨_,h1,rfl,m,rfl⟩;apply ad (v1.get hu) λw hw vr=>?_;rw[getElem?_toList]at hw;have fin:=P u w s H vr (.refl S) q;rcases jC hj with⟨c1,c2,c3⟩|⟨c1,c2,c3,c4⟩
    ·exact fZ hsl L.typeIs slot_list_getitem.lookup (wpAny_getItem_list L c1 (Int.lt_of_lt_of_le hhi (by decide)) (by exact rwL c2 hw) fin)
    ·exact fZ hsl L.typeIs slot_list_getitem.lookup (wpAny_getItem_list_neg L c1 (by exact rwL v1.size c2) (Int.le_trans (by decide) hlo) (by apply rwL v1.size (rwL c3 ?_);exact hw) fin)
   ·apply de (S.objs _ _ _ e) λkvs D kr _=>?_;apply ad (kr.find hu) λw hw vr=>?_;exact fZ hsl D.typeIs slot_dict_getitem.lookup (wpAny_getItem_of (knd:=intKind W.prog W.w) (intKind_is _ _ k t) D.mapOf hw (P u w _ H vr (.tok S _ rfl) q))
  |str k=>
   subst hx;(apply a8 hy λt z1z=>?_;clear hy;subst z1z);apply C5 q λf es u e hu q=>?_;apply ad (S.objs _ _ _ e) λkvs D kr=>?_;apply ad (kr.find hu) λw hw vr=>?_;exact fZ hsl D.typeIs slot_dict_getitem.lookup (wpAny_getItem_of (knd:=strKind W.prog W.w) (strKind_is _ _ k t) D.mapOf hw (P u w _ H vr (.tok S _ rfl) q))
  |_=>exact elim q
 |tup xs=>cases y with
  |int k=>
   (apply nC hx λa' us m z1z h1 z v1=>?_;clear hx;subst z1z);(apply a8 hy λt z1z=>?_;clear hy;subst z1z);apply Dv q λj u hlo hhi hj hu q=>?_;apply ad (v1.get hu) λw hw vr=>?_;rw[getElem?_toList]at hw;have ht:IsT s.heap a' us m:=h1;exact fZ (T:="tuple") hsl ⟨_,h1,rfl⟩ slot_tuple_getitem.lookup (_root_.PySem.P.getItem_tuple ht (Int.le_trans (by decide) hlo) (Int.lt_of_lt_of_le hhi (by decide)) (by exact rwL v1.size hj) hw (P u w s H vr (.refl S) q))
  |_=>exact elim q
 |bytes bs=>cases y with
  |int k=>
   (apply a8 hx λt z1z=>?_;clear hx;subst z1z);(apply a8 hy λt' z1z=>?_;clear hy;subst z1z);apply bH q λh0 hsz z1z=>ad z1z λc hc q=>?_;clear z1z;have e:bs.toList.toArray=bs:=Array.toArray_toList;have hlt:k.toNat<bs.size:=(Array.getElem?_eq_some_iff.mp hc).1;have g:wpAny (model W.prog W.w) A (getItem (.bytes bs.toList.toArray t) (.int k t')) R E s:=by
    apply getItem_bytes (l:=bs.toList) (by simp;unfold cap at hsz;exact le_trans hsz (by decide)) h0 (by simp;exact(Int.toNat_lt h0).mp hlt) ?_;have:(bs.toList.getD k.toNat 0)=c:=by apply rwL List.getD_eq_getElem?_getD (rwL getElem?_toList (rwL hc ?_));rfl
    apply rwL this ?_;exact P _ _ _ H dB (.tok S _ rfl) q
   rw[e]at g;exact fZ hsl (typeIs_bytes _ _ _) FB.slot_bytes_getitem.lookup g
  |_=>exact elim q
 |_=>exact elim q
theorem yd {v i:Expr} {pos:Pos} (hsl:gu i=false) (h:aC W n v env Z H λx H=>aC W n i env Z H λy H=>be x y H Q):aC W n (.Subscript v i pos) env Z H Q:=λA s R E hr S er P=>
 Subscript_ (h A s _ E hr S er λx u s1 H1 hx a q=>q A s1 _ E hr a.st (er.keep a.kp) λy j s2 H2 hy b q=>wt hsl b.st (hx.kp0 b.kp) hy q λv u s' H' x c q=>P v u s' H' x ((a.trans b).trans c) q)
end
end
section
section
variable {W:Wd} {K:Frag} {n:Nat} {env:Env} {Z:am} {H:AH} {Q:AV->AH->Prop}
def Bj (W:Wd) (n:Nat) (e:Option Expr) (env:Env) (Z:am) (H:AH) (Q:AV->AH->Prop):Prop:=
 ∀(A:Around) (s:Shared) (R E:Value->Shared->Prop),dN n A->W.St H s.heap->EnvR W env H s.heap Z->fJ W H s Q R->wpAny (model W.prog W.w) A (evalPart e env) R E s
theorem sS (q:Q .none H):Bj W n none env Z H Q:=λA s R E hr S er P=>by simp only[evalPart_none];exact wpAny_pure (P .none _ s H (rfl) (.refl S) q)
theorem sR {e:Expr} (h:aC W n e env Z H Q):Bj W n (some e) env Z H Q:=h
theorem lC {h:Heap} {l:AV} {i:Option Int} {u:Value} (e:p9 l=some i) (x:VR H h l u):IsPart u i:=by
 cases l with
 |none=>obtain rfl:=sI e;subst x;exact .none
 |int k=>
  obtain⟨t,rfl⟩:=x;by_cases h : -(2 ^ 62)<k∧k<2 ^ 62
  ·obtain rfl:=sI ((if_pos h).symm.trans e);exact .int _ _
  ·exact nS ((if_neg h).symm.trans e)
 |_=>exact nS e
theorem fL {value slice:Expr} {o i:Value} {T id:String} {A:Around} {s:Shared} {R E:Value->Shared->Prop} {ops:List Value} (hT:s.TypeIs o T) (hl:typeLookup (.type T) "__getitem__"=pure (some (.builtin id)))
  (hs:subscripted slice false o i=operate ops (getItem o i)) (h:wpAny (model W.prog W.w) A (getItem o i) R E s):wpAny (model W.prog W.w) A (subscriptTail value slice o i) R E s:=tail_any hT hl h hs
theorem sP {v:Expr} {lo hi:Option Expr} {p pos:Pos} (h:aC W n v env Z H λx H=>Bj W n lo env Z H λl H=>Bj W n hi env Z H λh H=>E5 λa f xs i j=>x=.ref a∧H a=some (f,.list xs)∧xs.length<=cap ∧
   p9 l=some i∧p9 h=some j∧∀r,H r=none->Q (.ref r) (H.set r (.list (cut xs i j)))):aC W n (.Subscript v (.Slice lo hi none p) pos) env Z H Q:=λA s R E hr S er P=>by
 apply Subscript_ (h A s _ E hr S er λx u s1 H1 hx a q=>wpAny_Slice (q A s1 _ E hr a.st (er.keep a.kp) λl ul s2 H2 hl b q=>q A s2 _ E hr b.st ((er.keep a.kp).keep b.kp) λm um s3 H3 hm c q=>?_));simp only[evalPart_none];apply wpAny_pure ?_;apply Dt q λa' f xs i j z1z e hlen e1 e2 q'=>?_;clear q;subst z1z;have hx:_=_:=hx;subst hx;apply bb (ar c.st e) λus k h1 v1=>?_;have gr:∀b o,s3.heap.get? b=some o->(s3.heap.push {cls:=.type "slice",data:=.fields #[ul,um,.none]}).get? b=some o:=λb o e=>get?_push_of_some _ e;have d:Aft W H3 s3 H3 {s3 with heap:=s3.heap.push {cls:=.type "slice",data:=.fields #[ul,um,.none]}}:=.grow c.st ⟨rfl,rfl⟩ gr;have L:(s3.heap.push {cls:=.type "slice",data:=.fields #[ul,um,.none]}).IsList a' us:=⟨_,gr _ _ h1,rfl,k,rfl⟩;have vc:bK H3 s3.heap (cut xs i j) (slicePick us i j none).toList:=by
  rw[slicePick_plain];unfold cut;apply rwL v1.size ?_;exact(v1.drop _).take _
 apply fL (T:="list") L.typeIs slot_list_getitem.lookup rfl (wpAny_getItem_list_slice L (Heap.IsSliceOf.new ..) (lC e1 (hl.kp0 c.kp)) (lC e2 hm) .none (by simp) ?_ (by exact rwL v1.size (c0 hlen)));apply af (Aft.ER (us:=slicePick us i j none) (k:=0) d.st (vc.keep' λv u x=>x.kp0 d.kp)) λhn g=>?_;exact P _ _ _ _ (by simp only[dM]) ((((a.trans b).trans c).trans d).trans g) (q' _ hn)
theorem ye {v:Expr} {q1 q2 p pos:Pos} {k:Nat} (h:aC W n v env Z H λx H=>E3 λl f xs=>x=.ref l∧H l=some (f,.list xs)∧xs.length<=cap∧∀r,H r=none->Q (.ref r) (H.set r (.list xs.reverse))) :
  aC W n (.Subscript v (.Slice none none (some (.UnaryOp .USub (.Constant (.int 1) k q1) q2)) p) pos) env Z H Q:=λA s R E hr S er P=>by
 apply Subscript_ (h A s _ E hr S er λx u s1 H1 hx a q=>wpAny_Slice ?_);simp only[evalPart_none];apply wpAny_pure (wpAny_pure ?_);simp only[evalPart_some];apply wpAny_UnaryOp (wpAny_Constant_int (neg_int ?_));obtain⟨a',f,xs,rfl,e,hlen,q⟩:=q;have hx:_=_:=hx;subst hx;apply bb (ar a.st e) λus m h1 v1=>?_;generalize hst:(Value.int (-1) (s1.toks+1))=st;have gr:∀b o,s1.heap.get? b=some o->(s1.heap.push {cls:=.type "slice",data:=.fields #[.none,.none,st]}).get? b=some o:=λb o e=>get?_push_of_some _ e;have d:Aft W H1 s1 H1 {s1 with heap:=s1.heap.push {cls:=.type "slice",data:=.fields #[.none,.none,st]},toks:=s1.toks+1+1}:=.grow a.st ⟨rfl,rfl⟩ gr;have L:(s1.heap.push {cls:=.type "slice",data:=.fields #[.none,.none,st]}).IsList a' us:=⟨_,gr _ _ h1,rfl,m,rfl⟩;have vc:bK H1 s1.heap xs.reverse (slicePick us none none (some (-1))).toList:=by
  rw[krv_pick];exact v1.reverse
 apply fL (T:="list") L.typeIs slot_list_getitem.lookup rfl (wpAny_getItem_list_slice L (Heap.IsSliceOf.new ..) .none .none (by exact rwR hst (.int (-1) _)) (by simp) ?_ (by exact rwL v1.size (c0 hlen)));apply af (Aft.ER (us:=slicePick us none none (some (-1))) (k:=0) d.st (vc.keep' λv u x=>x.kp0 d.kp)) λhn g=>?_;exact P _ _ _ _ (by simp only[dM]) ((a.trans d).trans g) (q _ hn)
end
end
section
section
variable {W:Wd} {K:Frag} {n:Nat} {env:Env} {Z:am} {H:AH} {Q:AV->AH->Prop}
def kF (W:Wd) (n:Nat) (es:List Expr) (env:Env) (Z:am) (H:AH) (Q:List AV->AH->Prop):Prop:=List.rec (motive:=λ_=>AH->(List AV->AH->Prop)->Prop) (λH Q=>Q [] H)
 (λe _ ih H Q=>aC W n e env Z H λv H'=>ih H' λvs H''=>Q (v::vs) H'') es H Q
theorem Dg {W n z0 z1 z2 z3}: kF W n [] z0 z1 z2 z3=z3 [] z2:=rfl
theorem uG {W n z0 z1 z2 z3 e es}: kF W n (e::es) z0 z1 z2 z3 =
 aC W n e z0 z1 z2 λv H'=>kF W n es z0 z1 H' λvs H''=>z3 (v::vs) H'':=rfl
theorem aC.mono {e:Expr} {Q Q':AV->AH->Prop} (h:aC W n e env Z H Q) (k:∀v H',Q v H'->Q' v H'):aC W n e env Z H Q':=λA s R E hr S er P=>h A s R E hr S er λv u s' H' x a q=>P v u s' H' x a (k v H' q)
theorem kF.es:∀{es:List Expr} {H:AH} {Q:List AV->AH->Prop},aA es=true->kF W n es env Z H Q->dO W n es env Z H Q:=by
 intro es
 induction es with
 |nil=>
  intro _ _ _ h;exact dO.nil h
 |cons e es ih=>
  intro _ _ hst h;simp only[aA,all_cons,and_eq_true,not_eq_true']at hst;exact dO.cons hst.1 (aC.mono h λv H' q=>ih hst.2 q)
noncomputable def eB (ks:List (Option Expr)) (es:List Expr):Option (List Expr):=List.rec (motive:=λ_=>List Expr->Option (List Expr)) (λes=>List.casesOn es (some []) λ_ _=>none)
 (λk _ ih es=>k.bind λk=>List.casesOn es none λe r=>(ih r).map λf=>k::e::f) ks es
noncomputable def mf (env:Env) (pos:Pos) (ks:List (Option Expr)) (es:List Expr):List (Sem Value × Sem Value):=List.rec (motive:=λ_=>List Expr->List (Sem Value × Sem Value)) (λ_=>[])
 (λk _ ih es=>List.casesOn es [] λe r=>Option.casesOn k [] λk=>(eval k env,do let x <-eval e env;standAt pos;pure x)::ih r) ks es
theorem kM {env:Env} {pos:Pos}:∀{ks:List (Option Expr)} {es f:List Expr},eB ks es=some f->
  (evalEachOpt ks env).zip ((evalEach es env).map λv=>do let x <-v;standAt pos;pure x)=(mf env pos ks es).map λp=>(some p.1,p.2):=by
 intro ks
 induction ks with
 |nil=>intro es f h;cases es with
  |nil=>rfl
  |cons=>exact nS h
 |cons k ks ih=>intro es f h;cases k with
  |none=>exact nS h
  |some k=>cases es with
   |nil=>exact nS h
   |cons e r=>exact ad (map_eq_some_iff.mp (show(eB ks r).map _=_ from h)) λf' h' _=>congrArg (List.cons _) (ih h')
theorem fQ {env:Env} {pos:Pos}:∀{ks:List (Option Expr)} {es f:List Expr},eB ks es=some f->(mf env pos ks es).length=ks.length:=by
 intro ks
 induction ks with
 |nil=>intro es f h;cases es with
  |nil=>rfl
  |cons=>exact nS h
 |cons k ks ih=>intro es f h;cases k with
  |none=>exact nS h
  |some k=>cases es with
   |nil=>exact nS h
   |cons e r=>exact ad (map_eq_some_iff.mp (show(eB ks r).map _=_ from h)) λf' h' _=>congrArg (·+1) (ih h')
theorem mJ {pos:Pos}:∀{ks:List (Option Expr)} {es f:List Expr} {H:AH} {Q:List AV->AH->Prop},eB ks es=some f->kF W n f env Z H Q->
  ∀(A:Around) (s:Shared) (R:List (Value × Value)->Shared->Prop) (E:Value->Shared->Prop),dN n A->W.St H s.heap->EnvR W env H s.heap Z->
   (∀fs us s' H',bK H' s'.heap fs (us.flatMap λp=>[p.1,p.2])->Aft W H s H' s'->Q fs H'->R us s')->wpAny (model W.prog W.w) A (evalPairs (mf env pos ks es)) R E s:=by
 intro ks
 induction ks with
 |nil=>intro es f H Q h q A s R E hr S er P;cases es with
  |nil=>
   obtain rfl:=sI h;exact evalPairs_nil (P [] [] s H rfl (.refl S) q)
  |cons=>exact nS h
 |cons k ks ih=>intro es f H Q h q A s R E hr S er P;cases k with
  |none=>exact nS h
  |some k=>cases es with
   |nil=>exact nS h
   |cons e r=>
    apply ad (map_eq_some_iff.mp (show(eB ks r).map _=_ from h)) λf' h' z1z=>?_;clear h;subst z1z;simp only[uG]at q;apply evalPairs_cons (q A s _ E hr S er λv u s1 H1 x a q1=>?_);apply wpAny_bind (q1 A s1 _ E hr a.st (er.keep a.kp) λv' u' s2 H2 x' b q2=>wpAny_bind (wpAny_standAt (wpAny_pure ?_)));apply ih h' q2 A s2 _ E hr b.st ((er.keep a.kp).keep b.kp) λfs us s3 H3 y c q3=>P (v::v'::fs) ((u,u')::us) s3 H3 ?_ ((a.trans b).trans c) q3;simp only[flatMap_cons,cons_append,nil_append,bv];exact⟨u,_,rfl,(x.kp0 b.kp).kp0 c.kp,u',_,rfl,x'.kp0 c.kp,y⟩
theorem ml {Kt:Type} [DecidableEq Kt] {kvs:List (Kt × Value)} (nd:(kvs.map (·.1)).Nodup) (k:Kt) (u:Value):((PySem.stored kvs k u).map (·.1)).Nodup:=by
 unfold PySem.stored;by_cases h:kvs.any (λkv=>decide (kv.1=k))=true
 ·apply rwL (if_pos h) (rwL map_map ?_);have:((λx:Kt × Value=>x.1) ∘ λkv=>if kv.1=k then(kv.1,u)else kv)=λx=>x.1:=by
   funext kv;simp only[Function.comp];split<;>rfl
  exact rwL this nd
 ·rw[if_neg h,map_append,nodup_append];apply⟨nd,by simp,λa ha b hb=>?_⟩;simp only[map_cons,map_nil,mem_singleton]at hb;subst hb;rintro rfl;simp only[List.any_eq_true,decide_eq_true_eq,not_exists,not_and]at h;apply ad (mP ha) λkv hk e=>?_;exact h kv hk e
theorem qM {Kt:Type} [DecidableEq Kt] {h:Heap}:∀{es:List (Kt × AV)} {kvs:List (Kt × Value)} {acc:List (Kt × AV)} {acc':List (Kt × Value)},KR H h es kvs->KR H h acc acc'->(acc'.map (·.1)).Nodup->KR H h (es.foldl (λa p=>ch a p.1 p.2) acc) (merged acc' kvs):=by
 intro es
 induction es with
 |nil=>
  intro kvs acc acc' x y nd;simp only[iH]at x;subst x;simpa[merged]using y
 |cons p0 es ih=>
  obtain⟨k,v⟩:=p0;intro kvs acc acc' x y nd;simp only[eY]at x;apply cq x λu r z1z p q=>?_;clear x;subst z1z;have:=ih q (KR.stored (k:=k) p y nd) (ml nd k u);simpa[merged]using this
theorem qg (G:Gd W K) {Kt:Type} [DecidableEq Kt] {knd:KeyKind W.prog W.w Kt} {mk:List (Kt × AV)->AO} {ks:List (Option Expr)} {es f:List Expr} {pos:Pos} (hf:eB ks es=some f) (h0:ks≠[]) (hlen:ks.length<=10)
  (hor:∀(H:AH) (h:Heap) (a:Addr),(a==sysModules)=false->∀es kvs,h.DictOf knd a kvs->KR H h es kvs->OR W.prog W.w H h a (mk es)) (hmk:∀l C dx fs,mk l≠.inst C dx fs)
  (h:kF W n f env Z H λfs H=>∃es:List (Kt × AV),(∀hh us,bK H hh fs (us.flatMap λp=>[p.1,p.2])->∃kvs,Carries knd us kvs∧KR H hh es kvs)∧∀r,H r=none->Q (.ref r) (H.set r (mk (es.foldl (λes p=>ch es p.1 p.2) [])))) :
  aC W n (.Dict ks es pos) env Z H Q:=λA s R E hr S er P=>by
 apply wpAny_Dict_pairs (knd:=knd) (kM hf) (by
  intro e;have:=fQ (env:=env) (pos:=pos) hf;rw[e]at this;exact h0 (List.length_eq_zero_iff.mp this.symm)) (by apply rwL (fQ hf) ?_;exact le_trans hlen (by decide)) ?_
 have gr:∀b o,s.heap.get? b=some o->(s.heap.push {cls:=.type "dict",data:=.dict #[]}).get? b=some o:=λb o e=>get?_push_of_some _ e;have a:Aft W H s H {s with heap:=s.heap.push {cls:=.type "dict",data:=.dict #[]}}:=.grow S ⟨rfl,rfl⟩ gr;have hD:=S.none_of_ge (le_refl s.heap.objs.size);have hsys:(s.heap.objs.size==sysModules)=false:=by
  apply bb G.sysm λb o lt e=>?_;have:=lt_size (S.base _ _ e).1;exact beq_false_of_ne (Nat.ne_of_gt (Nat.lt_trans lt this))
 have hB:W.B.get? s.heap.objs.size=none:=by
  cases e:W.B.get? s.heap.objs.size with
  |none=>rfl
  |some o=>exact absurd (lt_size (S.base _ _ e).1) (lt_irrefl _)
 apply mJ hf h A _ _ E hr a.st (er.keep a.kp) λfs us s1 H1 x b q=>?_;apply ad q λeo hcar q=>?_;apply ad (hcar s1.heap us x) λkvs hc kr=>?_;have g0:(s.heap.push {cls:=.type "dict",data:=.dict #[]}).get? s.heap.objs.size=some {cls:=.type "dict",data:=.dict #[]}:=get?_push_size _ rfl;have g1:=b.kp.get g0 hD;apply⟨kvs,hc,⟨_,#[],0,g1.1,⟨rfl,rfl,rfl⟩,rfl,λ_ he=>by simp at he,.nil,by exact nodup_nil⟩,λh' hm hs=>?_⟩;have c:W.St H1 h'∧Kp (λy=>y=s.heap.objs.size) H1 s1.heap H1 h':=b.st.vars (X:=λy=>y=s.heap.objs.size) (λy hy=>by subst hy;exact⟨g1.2,hB⟩)
  (λy us m e hy=>by subst hy;rw[g1.1]at e;injection e with e;injection e with e;exact aW e) λy o e=>by
   by_cases hy:y=s.heap.objs.size
   ·subst hy;apply a8 hm λo' z1z=>a8 z1z λds z2z=>ad z2z λep e' _=>?_;clear hm z1z z2z;exact⟨o',e',λz=>absurd rfl z⟩
   ·exact⟨o,(hs.2 y hy).trans e,λ_=>rfl⟩
 have so:hA (λy=>y=s.heap.objs.size) s1.heap:=λy us m e hy=>by subst hy;rw[g1.1]at e;injection e with e;injection e with e;exact aW e
 have d:W.St (H1.set s.heap.objs.size (mk (eo.foldl (λes p=>ch es p.1 p.2) []))) h':=c.1.take g1.2 hB (hmk _) (λus m e=>by
   apply a8 hm λo' z1z=>a8 z1z λds z2z=>ad z2z λep e' z3z=>af z3z λx' _=>?_;clear hm z1z z2z z3z;simp only[e']at e;obtain rfl:=sI e;exact aW x'.1.symm) (λkv=>hor _ _ _ hsys _ _ hm (by
   have:=qM (kr.keep' λv u y=>kv v u (y.kp c.2 so)) (acc:=[]) (acc':=[]) (by simp only[iH]) nodup_nil;exact this))
 apply P (.ref _) _ _ _ (rfl) ⟨d,λy o e=>?_,⟨b.same.os,b.same.gens⟩⟩ (q _ g1.2);have hy:y≠s.heap.objs.size:=ne_of_lt (lt_size e);have e2:=(a.kp.trans b.kp) y o e;apply⟨λz=>?_,λz zz=>?_,let ⟨o',e'⟩:=e2.3;⟨o',(hs.2 y hy).trans e'⟩⟩
 ·(apply af (e2.1 z) λz' z1z=>?_;(apply ad z1z λo' e' k=>?_;clear z1z));apply⟨(AH.EQ H1 _ hy).trans z',o',(hs.2 y hy).trans e',k⟩
 ·apply af (e2.2 z zz) λz' e'=>?_;exact⟨(AH.EQ H1 _ hy).trans z',(hs.2 y hy).trans e'⟩
theorem Ad (G:Gd W K) {ks:List (Option Expr)} {es f:List Expr} {pos:Pos} (hf:eB ks es=some f) (h0:ks≠[]) (hlen:ks.length<=10)
  (h:kF W n f env Z H λvs H=>∃ps:List (Int × AV),vs=ps.flatMap (λp=>[AV.int p.1,p.2])∧ps.length<=10∧∀r,H r=none->Q (.ref r) (H.set r (.dI (ps.foldl (λes p=>ch es p.1 p.2) [])))):aC W n (.Dict ks es pos) env Z H Q:=by
 apply qg G (knd:=intKind W.prog W.w) (mk:=.dI) hf h0 hlen (λH h a ns es kvs d k=>⟨kvs,d,k,ns⟩) (λ_ _ _ _ h=>by ac_nf) ?_;have gen:∀(f:List Expr) (H:AH) (Q Q':List AV->AH->Prop),(∀vs H,Q vs H->Q' vs H)->kF W n f env Z H Q->kF W n f env Z H Q':=by
  intro f
  induction f with
  |nil=>intro H Q Q' k h;exact k _ _ h
  |cons e f ih=>intro H Q Q' k h;exact aC.mono h λv H' q=>ih H' _ _ (λvs H'' q=>k _ _ q) q
 apply gen f H _ _ (λvs H q=>?_) h;obtain⟨ps,rfl,q0,q⟩:=q;apply⟨ps,λhh us x=>?_,q⟩;clear q q0
 induction ps generalizing us with
 |nil=>
  cases us with
  |nil=>exact⟨[],trivial,by simp only[iH]⟩
  |cons p us=>ac_nf
 |cons p ps ih=>
  cases us with
  |nil=>simp[bv,Ef,Eg]at x
  |cons q us=>
   simp only[flatMap_cons,cons_append,nil_append,bQ,bv]at x;apply cq x λu r e1 z1z z2z=>a8 z1z λt z3z=>cq z2z λu' r' z4z y z=>?_;clear x z1z z2z;subst z3z;subst z4z;injection e1 with e1 e2
   injection e2 with e2 e3
   subst e3;apply ad (ih us z) λkvs c k=>?_;apply⟨(p.1,q.2)::kvs,⟨by simp only[e1];exact intKind_is _ _ _ _,rfl,c⟩,?_⟩;simp only[eY];exact⟨q.2,kvs,rfl,e2▸y,k⟩
theorem oY {ks:List (Option Expr)}:∀{es:List Expr} {ss:List Str},je ks=some ss->ss.length=es.length->∃f,eB ks es=some f∧ks.length=ss.length ∧
  ∀{H:AH} {Q:List AV->AH->Prop},kF W n es env Z H (λvs H=>Q ((ss.zip vs).flatMap λp=>[AV.str p.1,p.2]) H)->kF W n f env Z H Q:=by
 induction ks with
 |nil=>
  intro es ss h hl;obtain rfl:=sI h;obtain rfl:=List.length_eq_zero_iff.mp hl.symm;exact⟨[],rfl,rfl,λh=>h⟩
 |cons k ks ih=>
  intro es ss h hl;apply ad (bind_eq_some_iff.mp h) λs hs h1=>ad (map_eq_some_iff.mp h1) λs' h' z=>?_;apply vU (zW hs) λa b z1=>?_;subst z z1;obtain _|⟨e,es⟩:=es
  ·ac_nf
  apply de (ih (es:=es) h' (Nat.succ.inj hl)) λf e1 e2 k=>?_;apply⟨.Constant (.str s) a b::e::f,congrArg (Option.map _) e1,by exact Nat.succ_inj.mpr e2,λ{H Q} q=>?_⟩;simp only[uG]at q ⊢;apply Aa (v:=.str s) rfl (aC.mono q λv H' q=>k ?_);exact q
theorem Ac (G:Gd W K) {ks:List (Option Expr)} {es:List Expr} {ss:List Str} {pos:Pos} (hk:je ks=some ss) (h0:ss≠[]) (hl:ss.length=es.length) (hlen:ss.length<=10)
  (h:kF W n es env Z H λvs H=>∀r,H r=none->Q (.ref r) (H.set r (.dS ((ss.zip vs).foldl (λes p=>ch es p.1 p.2) [])))):aC W n (.Dict ks es pos) env Z H Q:=by
 apply de (oY (W:=W) (n:=n) (env:=env) (Z:=Z) hk hl) λf e1 e2 k=>?_;apply qg G (knd:=strKind W.prog W.w) (mk:=.dS) e1 (by intro z;have e2:=z▸e2;exact h0 (List.length_eq_zero_iff.mp e2.symm)) (le_of_eq_of_le e2 hlen) (λH h a _ es kvs d k=>⟨kvs,d,k⟩) (λ_ _ _ _ h=>by ac_nf) (k ?_);have gen:∀(f:List Expr) (H:AH) (Q Q':List AV->AH->Prop),(∀vs H,Q vs H->Q' vs H)->kF W n f env Z H Q->kF W n f env Z H Q':=by
  intro f
  induction f with
  |nil=>intro H Q Q' k h;exact k _ _ h
  |cons e f ih=>intro H Q Q' k h;exact aC.mono h λv H' q=>ih H' _ _ (λvs H'' q=>k _ _ q) q
 apply gen es H _ _ (λvs H q=>?_) h;apply⟨ss.zip vs,λhh us x=>?_,q⟩;generalize ss.zip vs=ps at x;clear q
 induction ps generalizing us with
 |nil=>
  cases us with
  |nil=>exact⟨[],trivial,by simp only[iH]⟩
  |cons p us=>ac_nf
 |cons p ps ih=>
  cases us with
  |nil=>simp[bv,Ef,Eg]at x
  |cons q us=>
   simp only[flatMap_cons,cons_append,nil_append,xz,bv]at x;apply cq x λu r e1 z1z z2z=>a8 z1z λt z3z=>cq z2z λu' r' z4z y z=>?_;clear x z1z z2z;subst z3z;subst z4z;injection e1 with e1 e2
   injection e2 with e2 e3
   subst e3;apply ad (ih us z) λkvs c k=>?_;apply⟨(p.1,q.2)::kvs,⟨by simp only[e1];exact strKind_is _ _ _ _,rfl,c⟩,?_⟩;simp only[eY];exact⟨q.2,kvs,rfl,e2▸y,k⟩
end
end
section
noncomputable def zg:BM->String
 |.append=>"list.append"
 |.extend=>"list.extend"
 |.pop=>"list.pop"
 |.index=>"list.index"
 |.get=>"dict.get"
 |.join=>"bytes.join"
noncomputable def mZ:BM->Str
 |.append=>ofString "append"
 |.extend=>ofString "extend"
 |.pop=>ofString "pop"
 |.index=>ofString "index"
 |.get=>ofString "get"
 |.join=>ofString "join"
theorem po {x:Str} {m:BM} (h:lL.lookup x=some m):x=mZ m:=by
 have key:∀l:List (Str × BM),(∀p∈l,p.1=mZ p.2)->l.lookup x=some m->x=mZ m:=by
  intro l
  induction l with
  |nil=>intro _ h;exact nS h
  |cons p l ih=>
   intro hp h;obtain⟨y,b⟩:=p;by_cases hy:x=y
   ·subst hy;rw[aB]at h;cases h;exact hp _ (.head _)
   ·rw[aq hy]at h;exact ih (λq hq=>hp q (.tail _ hq)) h
 exact key lL (by intro p hp;simp only[lL,map_cons,map_nil,mem_cons,not_mem_nil,or_false]at hp;rcases hp with h|h|h|h|h|h<;>subst h<;>rfl) h
theorem fD:Slot "bytes" "join" "bytes.join":=
 .of (owner:="bytes") (n:="join") (by simp only[typeLookup_type,builtinLookup_eq_fast];kernel_rfl) (by decide +kernel) (by decide +kernel) (by decide +kernel)
  (by first|exact .inl (by decide +kernel)|exact .inr (by decide +kernel)) (by rw[isSubtype_type];kernel_rfl)
theorem j0:typeOf (.builtin "bytes.join")=pure (.type "method_descriptor"):=by show builtinType _=_;rw[builtinType_eq_fast];kernel_rfl
theorem iQ:entryFor table "bytes.join"=some Builtin.«bytes.join»:=entryFor_of_tree (by kernel_rfl)
theorem iG (a b:Value):argsOk "bytes.join" ⟨[a,b],[]⟩:=by
 unfold argsOk;apply rwL (signature?_of (id:="bytes.join") (n:=['n','i','o','j']) (o:=['s','e','t','y','b']) (by kernel_rfl) FB.owner_bytes) ?_;kernel_rfl
section
variable {W:Wd} {K:Frag} {n:Nat} {env:Env} {Z:am} {H:AH} {Q:AV->AH->Prop}
theorem zf {A:Around} {s:Shared} {E:Value->Shared->Prop} {m:BM} {v:AV} {u:Value} {pl:Sem Bool} {R:Value × List Value->Shared->Prop} (S:W.St H s.heap) (hx:VR H s.heap v u) (q:oo m v H)
  (h:R (.builtin (zg m),[u]) s):wpAny (model W.prog W.w) A (getMethod u (mZ m) pl) R E s:=by
 have li:∀a f xs,v=.ref a->H a=some (f,.list xs)->s.TypeIs u "list"∧∀b,u=.ref b->∃o,s.heap.get? b=some o∧o.dict=none:=by
  intro a f xs e1 e2;subst e1;subst hx;apply bb (ar S e2) λus k h1 v1=>?_;exact⟨⟨_,h1,rfl⟩,λb e=>by cases e;exact⟨_,h1,rfl⟩⟩
 cases m with
 |append=>(apply gQ q λa f xs e1 e2=>?_;clear q);exact getMethod_builtin (li a f xs e1 e2).1 F.plainAttrs_list F.slot_list_append F.type_list_append (li a f xs e1 e2).2 h
 |extend=>(apply gQ q λa f xs e1 e2=>?_;clear q);exact getMethod_builtin (li a f xs e1 e2).1 F.plainAttrs_list F.slot_list_extend F.type_list_extend (li a f xs e1 e2).2 h
 |pop=>(apply gQ q λa f xs e1 e2=>?_;clear q);exact getMethod_builtin (li a f xs e1 e2).1 F.plainAttrs_list F.slot_list_pop F.type_list_pop (li a f xs e1 e2).2 h
 |index=>(apply gQ q λa f xs e1 e2=>?_;clear q);exact getMethod_builtin (li a f xs e1 e2).1 F.plainAttrs_list F.slot_list_index F.type_list_index (li a f xs e1 e2).2 h
 |get=>
  apply gQ q λa f es e1 e2=>?_;clear q;subst e1;subst hx;apply de (S.objs _ _ _ e2) λkvs D kr _=>?_;apply a8 (id D) λo z1z=>?_;(apply a8 z1z λds z1z=>ad z1z λep ho z2z=>af z2z λhx _=>?_;clear z1z z2z);exact getMethod_builtin D.typeIs F.plainAttrs_dict F.slot_dict_get F.type_dict_get (λb e=>by cases e;exact⟨o,ho,hx.2.1⟩) h
 |join=>
  apply a8 q λb z1z=>?_;clear q;subst z1z;apply a8 hx λt z1z=>?_;clear hx;subst z1z;exact getMethod_builtin (typeIs_bytes _ _ _) FB.plainAttrs_bytes fD j0 (λb e=>by ac_nf) h
theorem gB {s:Shared} {a:Addr} {xs ys:List AV} {us:Array Value} {k:Nat} {f:Array Value->Array Value} (S:W.St H s.heap) (e:H a=some (false,.list xs)) (ho:IsL s.heap a us k)
  (hy:bK H s.heap ys (f us).toList):Aft W H s (H.set a (.list ys)) {s with heap:=s.heap.update a (Obj.mapSeq f)}:=by
 apply af (S.put (o₁:=.list ys) e (λ_ _ _ z=>by ac_nf) (λ_ z=>by ac_nf) ji (λb hb=>Heap.get?_update_other s.heap _ (Ne.symm hb)) (ho.update f)
  (λkv=>⟨_,_,ho.update f,hy.keep' kv⟩)) λa1 a2=>?_
 exact⟨a1,a2,⟨rfl,rfl⟩⟩
theorem iD {m:Nat} (h:m<=cap):m<=sizeLine:=c0 h
theorem pU {m:Nat} {b:Bool} (h:m<=cap):¬(b&&Builtin.List.listTooLong m)=true:=by
 have:Builtin.List.listTooLong m=false:=by
  unfold Builtin.List.listTooLong;have:=c0 h;simp;exact this
 apply rwL this ?_;simp
theorem yL {xs:List Int} {k:Int} (h:k∈xs):xs.idxOf k<xs.length:=List.idxOf_lt_length_of_mem h
theorem wP (G:Gd W K) {A:Around} {s:Shared} {R E:Value->Shared->Prop} {m:BM} {v:AV} {u:Value} {vs:List AV} {us:List Value} (hj:m≠.join)
  (S:W.St H s.heap) (hx:VR H s.heap v u) (hy:bK H s.heap vs us) (q:gL m v vs H Q) (P:fJ W H s Q R):wpAny (model W.prog W.w) A (call (.builtin (zg m)) (u::us)) R E s:=by
 cases m with
 |append=>
  apply ad (cA q hx) λa z1z q=>?_;subst z1z;apply cq (eA q hy) λy w z1z hw z2z=>?_;subst z1z;(apply de z2z λxs e hl q=>?_;clear z2z);apply bb (ar S e) λis k h1 v1=>?_;have sz:=v1.size;exact call_meets F.slot_list_append ⟨_,h1,rfl⟩ F.entry_list_append (F.args_list_append_2 _ _) (PySem.list_append a is k w (by exact rwL sz (iD hl))) ⟨h1,P .none _ _ _ pC (gB S e h1 (by
   simp only[Array.toList_push];exact v1.snoc hw)) q⟩
 |extend=>
  apply ad (cA q hx) λa z1z q=>?_;subst z1z;apply cq (eA q hy) λy w z1z hw q=>?_;subst z1z;apply ad (cA q hw) λb z1z z2z=>?_;subst z1z;(apply af z2z λhab z1z=>nC z1z λf xs ys e1 e2 hl q=>?_;clear z2z z1z);apply bb (ar S e1) λis k h1 v1=>?_;apply bb (ar S e2) λjs k' h2 v2=>?_;have sz1:=v1.size;have sz2:=v2.size;apply call_meets F.slot_list_extend ⟨_,h1,rfl⟩ F.entry_list_extend (F.args_list_extend_2 _ _) (AutoSeq1.list_extend_list_list_0 a is k b js k' (pU (by lia)) (by have:=iD hl;lia) (by have:=iD hl;lia)) ⟨h1,h2,P .none _ _ _ pC (gB S e1 h1 (by
   simp only[toList_append];exact v1.append v2)) q⟩
 |pop=>
  apply ad (cA q hx) λa z1z q=>?_;subst z1z;apply cq (eA q hy) λy w z1z hw q=>?_;subst z1z;apply bb (b9 q hw) λi t z1z q=>?_;subst z1z;apply yp q λxs y e h0 h62 hl hu q=>?_;apply bb (ar S e) λis k h1 v1=>?_;have sz:=v1.size;apply ad (v1.get hu) λz hz vz=>?_;rw[getElem?_toList]at hz;have hlt:i.toNat<is.size:=(Array.getElem?_eq_some_iff.mp hz).1;apply call_meets F.slot_list_pop ⟨_,h1,rfl⟩ F.entry_list_pop (F.args_list_pop_2 _ _) (MeetsSeq.list_pop_at a is k i t i.toNat z (by unfold Builtin.List.listFitsIndex;simp;exact⟨Int.le_trans (by decide) h0,Int.lt_trans h62 (by decide)⟩) (by
   unfold seqIndex?;have:¬i<0:=by exact not_lt_of_ge h0
   simp[this];exact⟨h0,(Int.toNat_lt h0).mp hlt⟩) hz (by exact rwL sz (iD hl))) ⟨h1,P y _ _ _ ?_ (gB S e h1 ?_) q⟩
  ·have:Kp nX H s.heap (H.set a (.list (xs.eraseIdx i.toNat))) (s.heap.update a (Obj.mapSeq λxs=>xs.eraseIdxIfInBounds i.toNat)):=(gB (ys:=xs.eraseIdx i.toNat) (f:=λxs=>xs.eraseIdxIfInBounds i.toNat) S e h1 (by
    simp only[Array.toList_eraseIdxIfInBounds];simp only[eraseIdx_eq_take_drop_succ,eraseIdx_eq_take_drop_succ];exact(v1.take _).append (v1.drop _))).kp
   exact vz.kp0 this
  ·simp only[Array.toList_eraseIdxIfInBounds];simp only[eraseIdx_eq_take_drop_succ,eraseIdx_eq_take_drop_succ];exact(v1.take _).append (v1.drop _)
 |index=>
  apply ad (cA q hx) λa z1z q=>?_;subst z1z;apply cq (eA q hy) λy w z1z hw q=>?_;subst z1z;apply bb (b9 q hw) λi t z1z q=>?_;subst z1z;apply vT q λf xs e hm hcap q=>?_;apply bb (ar S e) λis k h1 v1=>?_;have iis:=v1.ints;have hj:=yL hm;have hlen:xs.length=is.size:=by have:=v1.length;simp at this;exact this.symm
  have at_:∀(j:Nat) (hj:j<is.size),isInt i is[j]=(xs[j]'(Nat.lt_of_lt_of_eq hj (Eq.symm hlen))==i):=by
   intro j hj;apply ad (v1.get (i:=j) (v:=.int (xs[j]'(Nat.lt_of_lt_of_eq hj (Eq.symm hlen)))) (by simp[getElem?_eq_getElem (show j<xs.length by exact Nat.lt_of_lt_of_eq hj (Eq.symm hlen))])) λw hw vw=>?_;rw[getElem?_toList,Array.getElem?_eq_getElem hj]at hw;cases hw;simp only[bQ]at vw;apply a8 vw λt' e'=>?_;clear vw;simp only[e'];rfl
  apply call_meets F.slot_list_index ⟨_,h1,rfl⟩ F.entry_list_index (F.args_list_index_2 _ _) (MeetsSeq.list_index a is k (.int i t) (isInt i) (λy hy=>eq_isInt i t iis y (Array.mem_toList_iff.mpr hy)) (xs.idxOf i) (Nat.lt_of_lt_of_eq hj hlen) ?_ ?_ ?_) ⟨h1,P _ _ _ _ dB (.tok S _ rfl) q⟩
  ·unfold cap at hcap;lia
  ·apply rwL (at_ _ (Nat.lt_of_lt_of_eq hj hlen)) ?_;simp
  ·intro m hm' hlt;apply rwL (at_ _ hm') ?_;have:=List.not_of_lt_findIdx (xs:=xs) (p:=(·==i)) (i:=m) hlt;exact this
 |get=>
  apply ad (cA q hx) λa z1z q=>?_;subst z1z;apply Bw (tw q hy) λy d w w' z1z hw hd q=>?_;subst z1z;apply bb (b9 q hw) λi t z1z z2z=>?_;subst z1z;(apply ad z2z λes e q=>?_;clear z2z);apply de (S.objs _ _ _ e) λkvs D kr ns=>?_;apply call_meetsIn F.slot_dict_get D.typeIs F.entry_dict_get (F.args_dict_get_3 _ _ _) (meets_dict_get_default (intKind W.prog W.w) a (intKind_is _ _ i t) ns w') ⟨_,D.mapOf,?_⟩;cases hl:es.lookup i with
  |none=>apply rwL (kr.miss hl) ?_;have q:=hl▸q;exact P _ _ _ _ hd (.tok S _ rfl) q
  |some z=>
   apply ad (kr.find hl) λw hw vw=>?_;apply rwL hw ?_;have q:=hl▸q;exact P _ _ _ _ vw (.tok S _ rfl) q
 |join=>exact absurd rfl hj
end
end
section
open Builtin in
theorem lP {id:String} {b:Array UInt8} {t:Tok}:Bytes.takeBufferQuiet? id (.bytes b t) 0=pure (some (b,none)):=by
 have:Bytes.takeBuffer? id (.bytes b t) 0=pure (some (b,none)):=by
  unfold Bytes.takeBuffer?;apply rwL (KBy.special_eq KBy.look_buffer) (rwL KBy.own_buffer (rwL (pure_bind _ _) ?_));have e:(0==Bytes.fullReadOnly)=false:=by decide +kernel
  apply rwL e ?_;have e2:=KBy.buffer_eq (id:=id) (b:=b) (t:=t);apply rwL e2 ?_;kernel_rfl
 unfold Bytes.takeBufferQuiet?;apply rwL this ?_;rfl
theorem mB {M:Model} {A:Around} {E:Value->Shared->Prop} {s:Shared} {Q:Unit->Shared->Prop} (h:Q () s):∀{l:List (Value × Option Value)} {keep:List Value},(∀p∈l,p.2=none)->wpAny M A (Builtin.Bytes.joinLetGo l keep) Q E s:=by
 intro l
 induction l with
 |nil=>intro keep _;exact wpAny_pure h
 |cons p r ih=>
  intro keep hp;obtain⟨x,o⟩:=p;cases o with
  |none=>exact wpAny_bind (wpAny_letGo (ih λp hp'=>hp p (.tail _ hp')))
  |some w=>exact sN (hp _ (.head _))
theorem bK.bs {H:AH} {h:Heap} {xs:List (Array UInt8)} {us:List Value} (v:bK H h (xs.map AV.bytes) us):us.length=xs.length∧∀(i:Nat) (b:Array UInt8),xs[i]?=some b->∃t,us[i]?=some (Value.bytes b t):=
 ⟨by simpa using v.length,λi b e=>by
  apply ad (v.get (i:=i) (v:=.bytes b) (by simp[e])) λu h1 h2=>?_;simp only[qn]at h2;apply a8 h2 λt z1z=>?_;clear h2;subst z1z;exact⟨t,h1⟩⟩
theorem D9 {O:Type} (us:Array Value) (f:Value->O) (g:O):us.size=1\/Builtin.Bytes.joinM.match_1 (λ_=>O) us f (λ_=>g)=g:=by
 obtain⟨l⟩:=us
 match l with
 |[]=>exact .inr rfl
 |[x]=>exact .inl rfl
 |x::y::r=>exact .inr rfl
theorem uP {M:Model} {A:Around} {E:Value->Shared->Prop} {s:Shared} {U:Type} {us:Array Value} {f:Value->Sem U} {g:Sem U} {Q:U->Shared->Prop} (h:us.size≠1) (hg:wpAny M A g Q E s) :
  wpAny M A (Builtin.Bytes.joinM.match_1 (λ_=>Sem U) us f λ_=>g) Q E s:=by
 apply(D9 us f g).elim (λe=>?_) λe=>?_
 ·exact absurd e h
 ·exact rwL e hg
theorem yI (sep a:Array UInt8):∀(r:List (Array UInt8)) (z:Array UInt8),r.foldl (λo y=>o++sep++y) (a++z)=a++r.foldl (λo y=>o++sep++y) z:=by
 intro r
 induction r with
 |nil=>
  intro z;exact rfl
 |cons y r ih=>
  intro z;simp only[foldl_cons];rw[<-ih,Array.append_assoc,Array.append_assoc,Array.append_assoc]
theorem oT (sep:Array UInt8):∀(r:List (Array UInt8)) (x:Array UInt8),bq sep (x::r)=r.foldl (λo y=>o++sep++y) x:=by
 intro r
 induction r with
 |nil=>
  intro x;exact rfl
 |cons y r ih=>
  intro x;simp only[kf,ih y,foldl_cons,yI]
theorem nP (sep:Array UInt8):∀(r:List (Array UInt8)) (k:Nat) (acc:Array UInt8),0<k->(r.zipIdx k).foldl (λout (p:Array UInt8 × Nat)=>(if p.2 > 0 then out++sep else out)++p.1) acc=r.foldl (λo y=>o++sep++y) acc:=by
 intro r
 induction r with
 |nil=>
  intro k acc _;exact rfl
 |cons y r ih=>
  intro k acc hk;simp only[List.zipIdx_cons,foldl_cons];exact rwL (if_pos hk) (rwL (ih (k+1) _ (succ_pos _)) rfl)
theorem qS (sep:Array UInt8) (bs:List (Array UInt8)):Builtin.Bytes.joined sep bs=bq sep bs:=by
 unfold Builtin.Bytes.joined;cases bs with
 |nil=>rfl
 |cons x r=>
  rw[oT];simp only[List.zipIdx_cons,foldl_cons];have:=nP sep r 1 x (succ_pos _);simpa using this
theorem oS (sep:Array UInt8) (bs:List (Array UInt8)):bs.foldl (·+·.size) (sep.size * (bs.length-1))=(bq sep bs).size:=by
 induction bs with
 |nil=>rfl
 |cons x l ih=>cases l with
  |nil=>simp[tv]
  |cons y r=>
  have e:∀(l:List (Array UInt8)) (a b:Nat),l.foldl (λ(n:Nat) (x:Array UInt8)=>n+x.size) (a+b)=a+l.foldl (λ(n:Nat) (x:Array UInt8)=>n+x.size) b:=by
   intro l
   induction l with
   |nil=>intro a b;rfl
   |cons z l ih=>intro a b;simp only[foldl_cons];rw[Nat.add_assoc,ih]
  simp only[kf,size_append,size_append,<-ih];simp only[foldl_cons,length_cons,Nat.add_sub_cancel];have h1:sep.size * (r.length+1)+x.size+y.size=(x.size+sep.size)+(sep.size * r.length+y.size):=by rw[Nat.mul_add];lia
  rw[h1,e]
theorem wd {prog:Program} {w:World} {A:Around} {s:Shared} {R E:Value->Shared->Prop} {sep:Array UInt8} {t:Tok} {l:Addr} {us:Array Value} {k:Nat} {bs:List (Array UInt8)}
  (h1:IsL s.heap l us k) (hb:us.toList.length=bs.length∧∀(i:Nat) (b:Array UInt8),bs[i]?=some b->∃t,us.toList[i]?=some (Value.bytes b t)) (hfit:(bq sep bs).size<=cap)
  (hR:∀t k,R (.bytes (bq sep bs) t) {s with toks:=k}) (hone:∀b t,bs=[b]->R (.bytes b t) s) :
  wpAny (model prog w) A (call (.builtin "bytes.join") [.bytes sep t,.ref l]) R E s:=by
 apply wpAny_call_entry fD (typeIs_bytes _ _ _) iQ ?_ (iG _ _);obtain⟨hp,g,d,tk,os⟩:=s;show wpAny _ _ (Builtin.Bytes.joinM .bytes ⟨[.bytes sep t,.ref l],[]⟩) _ _ _;unfold Builtin.Bytes.joinM
 wp_walk using AutoSeq1.wpAny_loadPart' h1
 have hlen:us.size=bs.length:=by simp only[<-hb.1,length_toList]
 have lp:=@AutoSeq1.wpAny_loadPart';by_cases h1b:∃b,bs=[b]
 ·(apply a8 h1b λb z1z=>?_;clear h1b;subst z1z);apply a8 (hb.2 0 b rfl) λt' e=>?_;have:us=#[.bytes b t']:=by
   apply Array.ext' ?_;cases hu:us.toList with
   |nil=>have e:=hu▸e;exact nS e
   |cons u r=>
    rw[hu]at e hb;simp at e hb;simp only[e,hb.1]
  subst this
  wp_walk
  exact⟨_,rfl,hone b t' rfl⟩
 ·apply uP (λh=>h1b (List.length_eq_one_iff.mp (by exact rwR hlen h))) ?_
  ·dsimp only;rw[Std.Legacy.Range.forIn_eq_forIn_range'];apply wpAny_bind (wpAny_forIn_list _ (λrest b s'=>∃i,rest=List.range' i (us.size-i)∧i<=us.size∧b.1=(bs.take i).toArray∧b.2=(us.toList.take i).map (λu=>(u,none))∧∃tk',s'=⟨hp,g,d,tk',os⟩) _ ?_ ?_ _ _ ?_)
   ·rintro x rest ⟨b1,b2⟩ s' ⟨i,hr,hi,hb1,hb2,tk',rfl⟩;have hi':i<us.size:=by
     apply(lt_or_ge i us.size).elim (λh=>?_) λh=>?_
     ·exact h
     ·simp only[Nat.sub_eq_zero_of_le h]at hr;ac_nf
    apply a8 ((show ∃m,us.size-i=m+1 from⟨us.size-i-1,(Nat.sub_one_add_one_eq_of_pos (Nat.sub_pos_of_lt hi')).symm⟩)) λm hm=>?_;simp only[hm,List.range'_succ]at hr;injection hr with hr1 hr2
    obtain rfl:=hr1.symm;simp only at hb1 hb2;subst hb1 hb2;apply a8 (hb.2 i (bs[i]'(Nat.lt_of_lt_of_eq hi' hlen)) (getElem?_eq_getElem _)) λt' e=>?_;have e2:us.getD i .none=.bytes (bs[i]'(Nat.lt_of_lt_of_eq hi' hlen)) t':=by
     rw[getElem?_toList]at e;simp[Array.getD,hi'];rw[Array.getElem?_eq_getElem hi']at e;exact Option.some.inj e
    wp_walk using AutoSeq1.wpAny_loadPart' h1
    apply rwL (if_neg (by
     rw[or_eq_true];rintro(h|h)
     ·ac_nf
     ·rw[List.any_eq_true]at h;apply ad h λp hp1 hp2=>?_;clear h;apply ad (mP hp1) λu hu z1z=>?_;subst z1z;apply a8 (List.mem_iff_getElem.mp (List.mem_of_mem_take hu)) λj z1z=>?_;obtain⟨hj,rfl⟩:=z1z;apply a8 (hb.2 j (bs[j]'(by exact rwR hb.1 hj)) (getElem?_eq_getElem _)) λt' e'=>?_;rw[getElem?_eq_getElem hj]at e';(have hp2:=hp2;rw[Option.some.inj e']at hp2);ac_nf)) (rwL e2 ?_)
    apply wpAny_bind (wpAny_holding (wpAny_of_eq lP ?_))
    wp_walk using AutoSeq1.wpAny_loadPart' h1
    apply⟨i+1,by simp only[hr2,show us.size-(i+1)=m from(Nat.sub_succ us.size i).trans (congrArg Nat.pred hm)],by assumption,?_,?_,tk',rfl⟩
    ·show(bs.take i).toArray.push _=_;apply rwL take_add_one (rwL (getElem?_eq_getElem (Nat.lt_of_lt_of_eq hi' hlen)) ?_);simp
    ·show(us.toList.take i).map _++_=_;simp only[take_add_one,e];simp
   ·rintro⟨b1,b2⟩ s' ⟨i,hr,hi,hb1,hb2,tk',rfl⟩;have hi':us.size=i:=by
     cases hm:us.size-i with
     |zero=>exact le_antisymm (Nat.le_of_sub_eq_zero hm) hi
     |succ m=>simp only[hm,List.range'_succ]at hr;ac_nf
    simp only at hb1 hb2;subst hb1 hb2;have ebs:bs.take i=bs:=take_of_length_le (by lia);apply rwL ebs ?_
    wp_walk
    apply rwL (if_neg (by
     show ¬Builtin.Bytes.tooLong (Array.foldl (λx1 x2=>x1+x2.size) (sep.size * (bs.toArray.size-1)) bs.toArray)=true;apply rwL (KBy.tooLong_not (by
      rw[List.foldl_toArray];have:=oS sep bs;have h2:cap<=16777216:=by decide
      show bs.foldl (λ(n:Nat) (x:Array UInt8)=>n+x.size) (sep.size * (bs.length-1))<=_;exact le_trans (le_of_eq this) (le_trans hfit h2))) ?_
     simp)) ?_
    have ej:Builtin.Bytes.joined sep bs=bq sep bs:=qS sep bs;apply wpAny_bind (wpAny_mkBytes ?_ (hb:=by show(Builtin.Bytes.joined sep bs).size<=_;exact rwL ej (c0 hfit)));apply wpAny_bind (wpAny_holding (wpAny_point ?_));apply wpAny_bind (mB ?_ ?_)
    ·exact wpAny_pure ⟨_,rfl,by have:=hR tk' (tk'+1);rw[<-ej]at this;exact this⟩
    ·rintro p hp';apply ad (mP hp') λu hu z1z=>?_;subst z1z;rfl
   ·exact⟨0,by simp[Std.Legacy.Range.size],zero_le _,by simp,by rfl,tk,rfl⟩
section
variable {W:Wd} {K:Frag} {n:Nat} {env:Env} {Z:am} {H:AH} {Q:AV->AH->Prop}
theorem uk (G:Gd W K) {A:Around} {s:Shared} {R E:Value->Shared->Prop} {m:BM} {v:AV} {u:Value} {vs:List AV} {us:List Value}
  (S:W.St H s.heap) (hx:VR H s.heap v u) (hy:bK H s.heap vs us) (q:gL m v vs H Q) (P:fJ W H s Q R):wpAny (model W.prog W.w) A (call (.builtin (zg m)) (u::us)) R E s:=by
 by_cases hj:m=.join
 ·subst hj;apply bb (oU q hx) λsep t z1z q=>?_;subst z1z;apply cq (eA q hy) λy w z1z hw q=>?_;subst z1z;apply ad (cA q hw) λb z1z z2z=>?_;subst z1z;(apply Dv z2z λf xs e hfit _ _ q=>?_;clear z2z);apply bb (ar S e) λus k h1 v1=>?_;apply wd h1 v1.bs hfit (λt k=>P _ _ _ _ jy (.tok S k rfl) q) λb t e=>?_;subst e;exact P _ _ _ _ jy (.refl S) q
 ·exact wP G hj S hx hy q P
theorem Ae (G:Gd W K) {o:Expr} {name:Str} {apos pos:Pos} {es:List Expr} {m:BM} (hs:bM o=true) (hm:lL.lookup name=some m) (hst:aA es=true) (hlen:es.length<=10) (hline:(apos.endLine==pos.line)=true)
  (h:aC W n o env Z H λv H=>oo m v H∧dO W n es env Z H λvs H=>gL m v vs H Q) :
  aC W n (.Call (.Attribute o name apos) es [] pos) env Z H Q:=λA s R E hr S er P=>
 fW hs (h A s _ E hr S er λv u s' H' x a q=>by
  apply af q λq1 q=>?_;apply rwL (po hm) ?_;apply fG hst hlen hline λpl=>zf a.st x q1 ?_;exact iZ hst io (q pos A s' _ E hr a.st (er.keep a.kp) λvs us s'' H'' y a' q'=>
   ⟨trivial,uk G a'.st (x.kp0 a'.kp) y q' λv u s3 H3 x' b' q3=>P v u s3 H3 x' ((a.trans a').trans b') q3⟩))
end
end
section
section
variable {W:Wd} {K:Frag} {n:Nat} {env:Env} {Z:am} {H:AH} {Q:AV->AH->Prop}
theorem Aft.got {s:Shared} {h':Heap} {vs:List AV} {us:Array Value} {k:Nat} (S:W.St H s.heap) (x:bK H s.heap vs us.toList) (gr:∀a o,s.heap.get? a=some o->h'.get? a=some o)
  (hg:h'.get? s.heap.objs.size=some {cls:=.type "list",data:=.seq us k}):H s.heap.objs.size=none∧Aft W H s (H.set s.heap.objs.size (.list vs)) {s with heap:=h'}:=by
 have hn:=S.none_of_ge (le_refl s.heap.objs.size);have S1:=S.grow gr;have hB:W.B.get? s.heap.objs.size=none:=by
  cases e:W.B.get? s.heap.objs.size with
  |none=>rfl
  |some o=>exact absurd (lt_size (S.base _ _ e).1) (lt_irrefl _)
 have x1:bK H h' vs us.toList:=x.keep' (VR.keep λa us m e z=>⟨gr _ _ e,z⟩);have S2:=S1.take (o₁:=.list vs) hn hB ji (λus m e=>by simp only[hg]at e;injection e with e;injection e with e;exact cb e) λkv=>⟨us,k,hg,x1.keep' kv⟩;apply⟨hn,S2,λa o e=>?_,⟨rfl,rfl⟩⟩;have hne:a≠s.heap.objs.size:=ne_of_lt (lt_size e);exact⟨λz=>⟨(AH.EQ H _ hne).trans z,o,gr _ _ e,λ_=>rfl⟩,λx z=>⟨(AH.EQ H _ hne).trans z,gr _ _ e⟩,o,gr _ _ e⟩
theorem nR {us:Array Value} {xs:List Int} (h:IntsAre us.toList xs):∃ys:Array (Int × Tok),us=intItems ys∧ys.toList.map (·.1)=xs:=by
 apply a8 (AllInts.items (vs:=us) (λv hv=>h.allInts v (by simpa using hv))) λys e=>?_;apply⟨ys,e,?_⟩;simp only[<-nums_intItems,<-e,h.numsOf]
theorem wR (G:Gd W K) {A:Around} {s:Shared} {R E:Value->Shared->Prop} {b:BF} {vs:List AV} {us:List Value} (hr:dN n A) (S:W.St H s.heap) (hy:bK H s.heap vs us) (q:fC b vs H Q) (P:fJ W H s Q R) :
  wpAny (model W.prog W.w) A (call (ut b) us) R E s:=by
 have hh:=hr.3;have tk:∀t h',(∀b o,s.heap.get? b=some o->h'.get? b=some o)->Aft W H s H {s with heap:=h',toks:=t}:=λt h' k=>.grow S ⟨rfl,rfl⟩ k;cases b with
 |len=>
  apply cq (eA q hy) λv w z1z hw q=>?_;subst z1z;apply ad (cA q hw) λa z1z q=>?_;subst z1z;rcases q with⟨f,xs,e,hl,q⟩|⟨es,e,hl,q⟩
  ·apply bb (ar S e) λis k h1 v1=>?_;have sz:=v1.size;apply call_len_list ⟨_,h1,rfl,k,rfl⟩ (by unfold cap at hl;lia) (P _ _ _ _ ?_ (tk _ _ λ_ _ e=>e) q);simp only[bQ];exact⟨_,by exact int_at (congrArg Nat.cast sz)⟩
  ·apply de (S.objs _ _ _ e) λkvs D kr ns=>?_;have sz:=kr.length;apply call_len_dict ns D (by unfold cap at hl;lia) (P _ _ _ _ ?_ (tk _ _ λ_ _ e=>e) q);simp only[bQ];exact⟨_,by exact int_at (congrArg Nat.cast sz)⟩
 |min=>
  match vs,q,hy with
  |[v,z],q,hy=>
   apply cq hy λw _ z1z hw z2z=>?_;clear hy;subst z1z;obtain⟨w',_,rfl,hz,hn⟩:=z2z;subst hn;apply bb (b9 q hw) λa t z1z q=>?_;subst z1z;apply bb (b9 q hz) λb t' z1z q=>?_;subst z1z;apply min_two_ints hh λh' tk' hk=>P _ _ _ _ ?_ (tk _ _ hk) q;simp only[bQ];by_cases hc:b<a
   ·apply rwL (if_pos hc) (rwL (if_pos hc) ?_);exact⟨_,rfl⟩
   ·apply rwL (if_neg hc) (rwL (if_neg hc) ?_);exact⟨_,rfl⟩
  |[v],q,hy=>
   obtain⟨w,_,rfl,hw,hn⟩:=hy;subst hn;apply ad (cA q hw) λa z1z q=>?_;subst z1z;apply cq q λf xs e hne q=>?_;apply bb (ar S e) λis k h1 v1=>?_;apply ad (nR v1.ints) λys e1 e2=>?_;subst e1 e2;have hsz:0<ys.size:=by
    apply(Nat.eq_zero_or_pos ys.size).elim (λh=>?_) λh=>?_
    ·exact absurd (by simp[Array.eq_empty_of_size_eq_zero h]) hne
    ·exact h
   apply min_intList (xs:=ys) hh ⟨_,h1,rfl,k,rfl⟩ hsz λv h' tk' hv hk=>?_;apply a8 (intItems_at hv) λt z1z=>?_;subst z1z;apply af (argBest_lt (numAt ys) (ys.size-1)) λg1 g2=>?_;apply P (.int _) _ _ _ (by simp only[bQ];exact⟨_,rfl⟩) (tk _ _ hk) (q _ ?_ λa ha=>?_)
   ·rw[numAt_eq];exact getD_mem (by simp only[length_map,length_toList];exact Nat.lt_of_le_pred hsz g1)
   ·(apply ad (mem_getD ha) λj hj z1z=>?_;subst z1z);simp only[length_map,length_toList]at hj
    rewrite [<-numAt_eq];exact g2 j (Nat.le_sub_of_add_le hj)
 |max=>
  apply Bw (tw q hy) λv z w w' z1z hw hz q=>?_;subst z1z;apply bb (b9 q hw) λa t z1z q=>?_;subst z1z;apply bb (b9 q hz) λb t' z1z q=>?_;subst z1z;apply max_two_ints hh λh' tk' hk=>P _ _ _ _ ?_ (tk _ _ hk) q;simp only[bQ];by_cases hc:a<b
  ·apply rwL (if_pos hc) (rwL (if_pos (show b > a from hc)) ?_);exact⟨_,rfl⟩
  ·apply rwL (if_neg hc) (rwL (if_neg (show ¬b > a from hc)) ?_);exact⟨_,rfl⟩
 |sum=>
  apply cq (eA q hy) λv w z1z hw q=>?_;subst z1z;apply ad (cA q hw) λa z1z q=>?_;subst z1z;apply bb q λf xs e q=>?_;apply bb (ar S e) λis k h1 v1=>?_;apply ad (nR v1.ints) λys e1 e2=>?_;subst e1;apply sum_intListG (xs:=ys) hh ⟨_,h1,rfl,k,rfl⟩ λh' tk' t' hk=>P (.int _) _ _ _ ?_ (tk _ _ hk) q;simp only[bQ];apply⟨t',?_⟩;rw[preSum_eq,take_of_length_le (by simp),e2]
 |list=>
  apply cq (eA q hy) λv w z1z hw q=>?_;subst z1z;cases v with
  |ref a=>
   subst hw;apply cq q λf xs e hl q=>?_;apply bb (ar S e) λis k h1 v1=>?_;apply call_list_seq a (.inl rfl) h1 rfl rfl (λh' c' hk hg=>?_) (by exact rwL v1.size (c0 hl));apply af (Aft.got S v1 hk hg) λhn b=>?_;exact P _ _ _ _ (by simp only[dM]) b (q _ hn)
  |tup xs=>
   apply nC hw λa is k z1z h1 hz v1=>?_;clear hw;subst z1z;apply af q λhl q=>?_;apply call_list_seq a (.inr rfl) h1 rfl rfl (λh' c' hk hg=>?_) (by exact rwL v1.size (c0 hl));apply af (Aft.got S v1 hk hg) λhn b=>?_;exact P _ _ _ _ (by simp only[dM]) b (q _ hn)
  |_=>exact elim q
 |bytes=>
  apply cq (eA q hy) λv w z1z hw q=>?_;subst z1z;apply ad (cA q hw) λa z1z q=>?_;subst z1z;apply vT q λf xs e hb hl q=>?_;apply bb (ar S e) λis k h1 v1=>?_;apply call_bytes_ints (vs:=is.toList) (ns:=xs) ⟨_,h1,rfl,k,rfl⟩ v1.ints hb (by apply rwL length_toList (rwL v1.size ?_);simpa using c0 hl) hh λh' t k' hk=>P _ _ _ _ ?_ (tk _ _ hk) q;simp only[qn];exact⟨_,rfl⟩
 |int=>
  apply cq (eA q hy) λv w z1z hw q=>?_;subst z1z;apply bb (b9 q hw) λa t z1z q=>?_;subst z1z;exact call_int_int (P _ _ _ _ dB (.refl S) q)
theorem Af (G:Gd W K) {x:Str} {p pos:Pos} {es:List Expr} {b:BF} {sc:av} (ag:bR env sc) (hg:ax sc x=true) (hf:ru.lookup x=some b) (hst:aA es=true)
  (h:dO W n es env Z H λvs H=>fC b vs H Q):aC W n (.Call (.Name x p) es [] pos) env Z H Q:=λA s R E hr S er P=>
 br (fy G ag hg S er (G.bfunOK x b hf) (iZ (P:=λ_=>True) hst (by(generalize b=b'z;obtain⟨⟩:=b'z)<;>first|exact io|exact gq) (h pos A s _ E hr S er λvs us s' H' x a q=>
  ⟨trivial,wR G hr a.st x q λv u s'' H'' x' b q'=>P v u s'' H'' x' (a.trans b) q'⟩)))
end
end
section
section
variable {W:Wd} {K:Frag} {n:Nat} {env:Env} {Z:am} {H:AH} {Q:AH->Prop}
theorem FR.put {H:AH} {h:Heap} {f:Nat} {v:AV} {u:Value} {hsh:Int} {t:Tok} (p:VR H h v u):∀{fs:List (Nat × AV)} {es:List DictEntry},FR H h fs es->FR H h (put fs f v) (putL (nm f) hsh (.str (nm f) t) u es):=by
 intro fs
 induction fs with
 |nil=>
  intro es x;simp only[kB]at x;subst x;simp only[aS,putL,kB,gK];exact⟨_,[],t,rfl,rfl,p,rfl⟩
 |cons p0 fs ih=>
  obtain⟨g,w⟩:=p0;intro es x;simp only[gK]at x;apply nC x λen r t' z1z hk p' q=>?_;clear x;subst z1z;by_cases hg:g=f
  ·subst hg;have:en.key.isStr (nm g)=true:=by apply rwL hk ?_;simp[Value.isStr]
   simp only[lZ rfl,if_true,putL,this,gK];exact⟨_,r,t',rfl,hk,p,q⟩
  ·have:en.key.isStr (nm f)=false:=by
    apply rwL hk ?_;rewrite [Value.isStr,beq_eq_false_iff_ne];exact λz=>hg (fS z)
   simp only[m6 hg,putL,this,false_eq_true,if_false,gK];exact⟨en,_,t',rfl,hk,p',ih q⟩
theorem St.EW {prog:Program} {w:World} {B h:Heap} {a C dx:Addr} {fs:List (Nat × AV)} {es:List DictEntry} {k f:Nat} {v:AV} {u:Value} {hsh:Int} {t:Tok} {m:Nat}
  (S:Mine.Internal.St prog w B H h) (e:H a=some (false,.inst C dx fs)) (hD:h.get? dx=some (dictOf es k)) (F:FR H h fs es) (hv:VR H h v u) :
  Mine.Internal.St prog w B (H.set a (.inst C dx (Mine.Internal.put fs f v))) (h.update dx (Obj.putName (nm f) hsh (.str (nm f) t) u)) ∧
   Kp nX H h (H.set a (.inst C dx (Mine.Internal.put fs f v))) (h.update dx (Obj.putName (nm f) hsh (.str (nm f) t) u)):=by
 have hfl:=S.fl _ _ _ _ _ e;have hda:dx≠a:=λy=>by rw[y,e]at hfl;simp at hfl
 generalize hH':H.set a (.inst C dx (Mine.Internal.put fs f v))=H';generalize hh':h.update dx (Obj.putName (nm f) hsh (.str (nm f) t) u)=h';have ne:∀b,b≠dx->h'.get? b=h.get? b:=λb hb=>by exact rwR hh' (Heap.get?_update_other h _ (Ne.symm hb))
 have hD':h'.get? dx=some (dictOf (putL (nm f) hsh (.str (nm f) t) u es) (putN (nm f) es k)):=by
  rw[<-hh',Heap.get?_update_self _ hD (by rw[putName_dict];rfl),putName_dict]
 have Ha:H' a=some (false,.inst C dx (Mine.Internal.put fs f v)):=by simp only[<-hH',AH.EP]
 have Ho:∀b,b≠a->H' b=H b:=λb hb=>by exact rwR hH' (AH.EQ H _ hb)
 have kp:Kp nX H h H' h':=λb ob q=>⟨λn=>by
   have hb:b≠dx:=λz=>by simp only[z,hfl]at n;exact sN n
   have hba:b≠a:=λz=>by simp only[z,e]at n;exact sN n
   exact⟨(Ho b hba).trans n,ob,(ne b hb).trans q,λ_=>rfl⟩,λx z=>by
   have hb:b≠dx:=λy=>by simp only[y,hfl]at z;simp at z
   have hba:b≠a:=λy=>by simp only[y,e]at z;simp at z
   exact⟨(Ho b hba).trans z,(ne b hb).trans q⟩,by
   by_cases hb:b=dx
   ·exact⟨_,hb▸hD'⟩
   ·exact⟨ob,(ne b hb).trans q⟩⟩
 have kv:∀v u,VR H h v u->VR H' h' v u:=λv u=>VR.kp0 kp;apply⟨⟨λb g o q=>?_,λb ob q=>?_,λb g C' dx' fs' q=>?_⟩,kp⟩
 ·by_cases hba:b=a
  ·obtain rfl:=hba.symm;simp only[Ha]at q;cases q;apply bH (S.objs _ _ _ e) λh1 h2 _=>?_;exact⟨(ne a (Ne.symm hda)).trans h1,⟨_,(Ho dx hda).trans hfl⟩,_,_,hD',by simpa using(F.put hv).keep' kv⟩
  ·simp only[Ho b hba]at q;by_cases hbd:b=dx
   ·obtain rfl:=hbd.symm;simp only[hfl]at q;cases q;exact⟨_,_,_,Ha⟩
   ·apply(S.objs b g o q).keep kv (λob z=>(ne b hbd).trans z) (λC' dx' fs' z=>?_) λb' z=>?_
    ·subst z;have e2:=S.fl _ _ _ _ _ q;have h1:dx'≠dx:=λy=>by simp only[y,hfl]at e2;cases e2;exact hba rfl
     have h2:dx'≠a:=λy=>by simp only[y,e]at e2;simp at e2
     exact⟨λob z=>(ne dx' h1).trans z,g,(Ho dx' h2).trans e2⟩
    ·subst z;apply sU (S.objs _ _ _ q) λg' C' fs' e2=>?_;by_cases hb':b'=a
     ·obtain rfl:=hb'.symm;simp only[e]at e2;cases e2;exact absurd rfl hbd
     ·exact⟨g',C',fs',(Ho b' hb').trans e2⟩
 ·apply af (S.base b ob q) λq1 q2=>?_;have hb:b≠dx:=λz=>by have q2:=z▸q2;exact q2 _ hfl
  have hba:b≠a:=λz=>by have q2:=z▸q2;exact q2 _ e
  exact⟨(ne b hb).trans q1,λx=>by exact rwL (Ho b hba) (q2 x)⟩
 ·by_cases hba:b=a
  ·obtain rfl:=hba.symm;simp only[Ha]at q;cases q;exact(Ho dx hda).trans hfl
  ·simp only[Ho b hba]at q;have e2:=S.fl _ _ _ _ _ q;have h2:dx'≠a:=λy=>by simp only[y,e]at e2;simp at e2
   exact(Ho dx' h2).trans e2
theorem v9 (G:Gd W K) {A:Around} {s:Shared} {E:Value->Shared->Prop} {R:Unit->Shared->Prop} {o x:AV} {uo u:Value} {f:Nat} {name:Str} (hf:nm f=name) (S:W.St H s.heap) (ho:VR H s.heap o uo) (hx:VR H s.heap x u)
  (q:cx o f x H Q) (P:∀s' H',Aft W H s H' s'->Q H'->R () s'):wpAny (model W.prog W.w) A (setAttr uo name u) R E s:=by
 obtain⟨a,C,dx,fs,rfl,e,hfld,hlen,q⟩:=q;cases ho;subst hf;obtain⟨hp,g,dd,tk,os⟩:=s;have S':W.St H hp:=S;apply cq (mH S e) λes k I F D=>?_;apply bH (G.sa C f hfld) λsa1 sa2 sa3=>?_;apply set_plain (G.at S) I sa1 ?_;have ht:takerIn K C (nm f)=some none:=by unfold takerIn;apply rwL (G.fld C f hfld) ?_;rfl
 apply osa_open (G.at S') I sa2 ht λb=>?_;apply ad (any_some sa3) λcd hc hd'=>?_;obtain⟨hx',hcl,hn,-⟩:=I;apply wpAny_bind (wpAny_pure (wpAny_bind (wpAny_bind (wpAny_loadPart hx' (wpAny_bind ((looks_clsIn (G.at S') hc).here ?_))))));apply rwL hd' ?_;apply wpAny_pure (a:=some dx) (wpAny_bind (wpAny_pure (wpAny_bind ?_)));unfold nsSet;apply wpAny_bind (wpAny_bind (wpAny_askSetting (wpAny_pure (wpAny_bind (wpAny_mkText (wpAny_bind (wpAny_loadPart D ?_)))))));have c:(!es.any (·.key.isStr (nm f))&&es.any (·.refKey))=false:=by
  have:=F.noref;rw[any_toList]at this;simp only[this,Bool.and_false]
 dsimp only;simp only[aRefKeyMayBeTheName_at,c];have D2:hp.get? dx=some (dictOf es.toList k):=D;apply wpAny_updatePart D ?_;have D':∀hsh t,(hp.update dx (Obj.putName (nm f) hsh (.str (nm f) t) u)).get? dx=some (dictOf (putL (nm f) hsh (.str (nm f) t) u es.toList) (putN (nm f) es.toList k)):=λhsh t=>by
  rw[Heap.get?_update_self _ D2 (by rw[putName_dict];rfl),putName_dict]
 have len:es.toList.length<=100:=by exact rwL F.length hlen
 have plen:∀(nm:Str) (hsh:Int) (key v:Value) (l:List DictEntry),(putL nm hsh key v l).length<=l.length+1:=by
  intro nm hsh key v l
  induction l with
  |nil=>exact le_refl _
  |cons e r ih=>simp only[putL];split<;>simp only[length_cons]<;>lia
 apply wpAny_bind (wpAny_lookBehind (D' _ _) (pastItsLine_dict (by simp only[List.size_toArray,sizeLine_eq];have:=plen (nm f) (PyData.keyHash W.w.params (nm f)) (.str (nm f) (tk+1)) u es.toList;exact le_trans this (lt_of_le_of_lt len (le_of_ble_eq_true rfl)))) ?_);apply wpAny_pure ?_;apply af (St.EW (m:=0) (f:=f) (hsh:=PyData.keyHash W.w.params (nm f)) (t:=tk+1) S e D2 F hx) λa1 a2=>?_;exact P _ _ ⟨a1,a2,⟨rfl,rfl⟩⟩ q
end
end
section
section
variable {W:Wd} {K:Frag} {n:Nat} {env:Env} {Z:am} {H:AH} {Q:AH->Prop}
theorem lX {prog:Program} {w:World} {A:Around} {E:Value->Shared->Prop} {s:Shared} {l:Addr} {items:Array Value} {m:Nat} {k:Int} {t:Tok} {v:Value} {Q:Unit->Shared->Prop} (hl:IsL s.heap l items m)
  (h0:0<=k) (hfit:k<2 ^ 63) (hn:k<items.size) (hQ:Q () {s with heap:=s.heap.update l (Obj.mapSeq (·.setIfInBounds k.toNat v))}) :
  wpAny (model prog w) A (setItem (.ref l) (.int k t) v) Q E s:=by
 unfold setItem;apply wpAny_holding ?_;apply wpAny_bind (wpAny_sequenceKey hl.isList.typeIs (by decide) ?_);apply wpAny_bind (wpAny_callSpecial?_slot (name:=ofString "__setitem__") hl.isList.typeIs slot_list_setitem
  (wpAny_call_entry slot_list_setitem hl.isList.typeIs entry_list_setitem ?_ (args_list_setitem _ _ _)))
 show wpAny _ _ (Builtin.List.listSubscript? (.int k t) >>= _) _ _ s;apply wpAny_bind (wpAny_listSubscript_int (fitsIndex_of h0 hfit) ?_);clear hfit;apply a8 (Int.eq_ofNat_of_zero_le h0) λj z1z=>?_;subst z1z;have hj:j<items.size:=by exact Int.ofNat_lt.mp hn
 have hx':items[j]?=some items[j]:=Array.getElem?_eq_getElem hj;show wpAny _ _ ((seqItemAt l j >>= λr=>pure (r.map (j,·))) >>= _) _ _ s;apply wpAny_bind (wpAny_bind (wpAny_seqItemAt hl rfl (wpAny_pure ?_)));apply rwL hx' ?_;show wpAny _ _ (setSeqItemAt l j v >>= _) _ _ s;apply wpAny_bind (wpAny_setSeqItemAt hl rfl ?_)
 first
  |exact wpAny_bind (wpAny_pure (wpAny_pure ⟨.none,rfl,wpAny_pure hQ⟩))
  |exact wpAny_pure ⟨.none,rfl,wpAny_pure hQ⟩
theorem i0 {prog:Program} {w:World} {Kt:Type} [DecidableEq Kt] {knd:KeyKind prog w Kt} {A:Around} {E:Value->Shared->Prop} {s:Shared} {d:Addr} {kvs:List (Kt × Value)} {k:Kt} {key v:Value} {Q:Unit->Shared->Prop}
  (hkey:knd.is k key=true) (hm:s.heap.DictOf knd d kvs) (hsz:kvs.length<=sizeLine)
  (hQ:∀h',h'.DictOf knd d (stored kvs k v)->Heap.SameBut d s.heap h'->Q () {s with heap:=h',toks:=s.toks+1}) :
  wpAny (model prog w) A (setItem (.ref d) key v) Q E s:=by
 unfold setItem;apply wpAny_holding ?_;apply wpAny_bind (wpAny_sequenceKey hm.typeIs (by decide) ?_);apply wpAny_bind (wpAny_callSpecial?_slot (name:=ofString "__setitem__") hm.typeIs slot_dict_setitem
  (call_meetsIn slot_dict_setitem hm.typeIs entry_dict_setitem (args_dict_setitem _ _ _) (meets_dict_setitem_pairs knd d hkey v) ⟨kvs,hm,hsz,λh' a b=>wpAny_pure (hQ h' a b)⟩))
theorem DictOf.nodup {prog:Program} {w:World} {Kt:Type} [DecidableEq Kt] {knd:KeyKind prog w Kt} {h:Heap} {d:Addr} {kvs:List (Kt × Value)} (x:h.DictOf knd d kvs):(kvs.map (·.1)).Nodup:=by
 apply a8 x λo z1z=>a8 z1z λes z2z=>ad z2z λep e r=>?_;clear x z1z z2z;exact r.2.2.2.2
theorem v8 {A:Around} {s:Shared} {E:Value->Shared->Prop} {R:Unit->Shared->Prop} {o i x:AV} {uo ui u:Value} (S:W.St H s.heap) (ho:VR H s.heap o uo) (hi:VR H s.heap i ui) (hx:VR H s.heap x u)
  (q:dR o i x H Q) (P:∀s' H',Aft W H s H' s'->Q H'->R () s'):wpAny (model W.prog W.w) A (setItem uo ui u) R E s:=by
 apply ad (cA q ho) λa z1z q=>?_;subst z1z;cases i with
 |int k=>
  apply a8 hi λt z1z=>?_;clear hi;subst z1z;rcases q with⟨xs,e,h0,hk,hl,q⟩|⟨es,e,hl,q⟩
  ·apply bb (ar S e) λus m h1 v1=>?_;have sz:=v1.size;apply lX (items:=us) (m:=m) h1 h0 (by unfold cap at hl;lia) (lt_of_lt_of_eq hk (congrArg Nat.cast (Eq.symm sz))) (P _ _ (gB (f:=(·.setIfInBounds k.toNat u)) S e h1 ?_) q);simp only[Array.toList_setIfInBounds];have:∀(xs:List AV) (us:List Value) (j:Nat),bK H s.heap xs us->bK H s.heap (xs.set j x) (us.set j u):=by
    intro xs
    induction xs with
    |nil=>intro us j v;cases v;rfl
    |cons y xs ih=>
     intro us j v;apply cq v λw r z1z p q=>?_;clear v;subst z1z;cases j with
     |zero=>dsimp only[List.set_cons_zero,c8,bv];exact⟨u,r,rfl,hx,q⟩
     |succ j=>dsimp only[List.set_cons_succ,c8,bv];exact⟨w,_,rfl,p,ih r j q⟩
   exact this _ _ _ v1
  ·apply de (S.objs _ _ _ e) λkvs D kr ns=>?_;apply i0 (knd:=intKind W.prog W.w) (intKind_is _ _ k t) D (by exact rwL kr.length (c0 hl)) λh' D' sb=>?_;apply a8 (id D') λo' z1z=>?_;(apply a8 z1z λds z1z=>ad z1z λep e' r'=>?_;clear z1z);apply af (S.put (o₁:=.dI (ch es k x)) e (λ_ _ _ z=>by ac_nf) (λ_ z=>by ac_nf) Al (λb hb=>sb.2 b hb) e'
    (λkv=>⟨_,D',(kr.stored hx (DictOf.nodup D)).keep' kv,ns⟩)) λa1 a2=>?_
   exact P _ _ ⟨a1,a2,⟨rfl,rfl⟩⟩ q
 |str k=>
  apply a8 hi λt z1z=>?_;clear hi;subst z1z;apply de q λes e hl q=>?_;apply ad (S.objs _ _ _ e) λkvs D kr=>?_;apply i0 (knd:=strKind W.prog W.w) (strKind_is _ _ k t) D (by exact rwL kr.length (c0 hl)) λh' D' sb=>?_;apply a8 (id D') λo' z1z=>?_;(apply a8 z1z λds z1z=>ad z1z λep e' r'=>?_;clear z1z);apply af (S.put (o₁:=.dS (ch es k x)) e (λ_ _ _ z=>by ac_nf) (λ_ z=>by ac_nf) Ak (λb hb=>sb.2 b hb) e'
   (λkv=>⟨_,D',(kr.stored hx (DictOf.nodup D)).keep' kv⟩)) λa1 a2=>?_
  exact P _ _ ⟨a1,a2,⟨rfl,rfl⟩⟩ q
 |_=>exact elim q
theorem kG:(Value.type "slice" != Value.type "slice")=false:=by decide
theorem kJ {prog:Program} {w:World} {A:Around} {E:Value->Shared->Prop} {s:Shared} {l b sl:Addr} {items ys:Array Value} {m m' i j:Nat} {t t':Tok} {Q:Unit->Shared->Prop} (hl:IsL s.heap l items m) (hb:IsL s.heap b ys m')
  (hne:l≠b) (hs:s.heap.IsSliceOf sl (.int (Int.ofNat i) t) (.int (Int.ofNat j) t') .none) (hij:i<=j) (hj:j<=items.size) (hfit:items.size+ys.size<=cap)
  (hQ:Q () {s with heap:=s.heap.update l (Obj.mapSeq λxs=>xs.extract 0 i++ys++xs.extract j xs.size)}) :
  wpAny (model prog w) A (setItem (.ref l) (.ref sl) (.ref b)) Q E s:=by
 unfold setItem;apply wpAny_holding ?_;apply wpAny_bind (wpAny_sequenceKey hl.isList.typeIs (by decide) ?_);apply ad (id hs) λos hos z1z=>?_;(apply af z1z λhosc hosd=>?_;clear z1z);have hTs:s.TypeIs (.ref sl) "slice":=⟨os,hos,hosc⟩;apply wpAny_bind (wpAny_callSpecial?_slot (name:=ofString "__setitem__") hl.isList.typeIs slot_list_setitem
  (wpAny_call_entry slot_list_setitem hl.isList.typeIs entry_list_setitem ?_ (args_list_setitem _ _ _)))
 show wpAny _ _ (Builtin.List.listSubscript? (.ref sl) >>= _) _ _ s;unfold Builtin.List.listSubscript?;apply wpAny_bind (wpAny_bind (wpAny_specialOf hTs slice_no_index ?_));apply wpAny_pure ?_;apply wpAny_bind (wpAny_typeOf hTs ?_);apply rwL (if_neg (by rw[kG];exact false_ne_true)) ?_;rw[listSliceParts_eq];apply wpAny_bind (wpAny_bind (wpAny_field hos hosd (x:=.none) rfl (wpAny_bind (wpAny_listPart .none ?_))));apply rwL (if_neg (show ¬((rawPart none==rawInt 0)=true)from false_ne_true)) ?_;apply wpAny_bind (wpAny_field hos hosd (x:=.int (Int.ofNat i) t) rfl (wpAny_bind (wpAny_listPart (.int _ _) ?_)));apply wpAny_bind (wpAny_field hos hosd (x:=.int (Int.ofNat j) t') rfl (wpAny_bind (wpAny_listPart (.int _ _) ?_)));apply wpAny_pure ?_;have hab:(l==b)=false:=by simpa using hne
 show wpAny _ _ (if Builtin.List.listSameRef (.ref l) (.ref b)=true then _ else _) _ _ s;apply rwL (if_neg (by show ¬(l==b)=true;exact rwL hab false_ne_true)) ?_;unfold Builtin.List.listAllItems;apply wpAny_bind (wpAny_bind (wpAny_typeOf hb.isList.typeIs ?_));apply rwL (if_pos (by decide)) ?_;have li:∀{a:Addr} {xs:Array Value} {c:Nat} {A:Around} {E:Value->Shared->Prop} {R:Array Value->Shared->Prop},IsL s.heap a xs c->R xs s->wpAny (model prog w) A (Builtin.List.listItems (.ref a)) R E s:=by
  intro a xs c A E R h hR;delta Builtin.List.listItems seqItems?;exact wpAny_bind (wpAny_bind (wpAny_load h (wpAny_pure (wpAny_pure hR))))
 apply li hb ?_;apply wpAny_bind (li hl ?_);apply rwL (sliceIndices_raw _ _ _ _ (by simp)) ?_;apply wpAny_bind (wpAny_pure ?_);have e1:sliceBounds (some (Int.ofNat i)) (some (Int.ofNat j)) none items.size=(Int.ofNat i,Int.ofNat j,1):=by
  unfold sliceBounds;have h1:¬(Int.ofNat i<0):=by show ¬((i:Int)<0);exact not_ofNat_neg i
  have h2:¬(Int.ofNat j<0):=by show ¬((j:Int)<0);exact not_ofNat_neg j
  have h3:max 0 (min (i:Int) (items.size:Int))=(i:Int):=(congrArg (max 0) (Int.min_eq_left (Int.ofNat_le.mpr (le_trans hij hj)))).trans (max_eq_right (natCast_nonneg i));have h4:max 0 (min (j:Int) (items.size:Int))=(j:Int):=(congrArg (max 0) (Int.min_eq_left (Int.ofNat_le.mpr hj))).trans (max_eq_right (natCast_nonneg j));simp only[getD_none,h1,h2,if_false,show(1:Int) > 0 by decide,if_true];exact Prod.ext h3 (Prod.ext h4 rfl)
 apply rwL e1 ?_;show wpAny _ _ (if ((1:Int)==1)=true then _ else _) _ _ s;apply rwL (if_pos (by decide)) ?_;apply wpAny_bind (wpAny_rule ?_);show wpAny _ _ (if Builtin.List.listTooLong (items.size+ys.size)=true then _ else _) _ _ s;apply rwL (if_neg (by have:=pU (m:=items.size+ys.size) (b:=true) hfit;exact this)) ?_;show wpAny _ _ (updateSeq l _ >>= _) _ _ s;have e2:(max (Int.ofNat i) (Int.ofNat j)).toNat=j:=congrArg Int.toNat (max_eq_right (a:=Int.ofNat i) (b:=Int.ofNat j) (Int.ofNat_le.mpr hij));have hs2:(items.extract 0 i++ys++items.extract j items.size).size<=sizeLine+1:=by
  have:=c0 hfit;simp only[size_append,Array.size_extract];exact Nat.le_succ_of_le (le_trans (Nat.add_le_add (add_le_add_right (le_trans (Nat.min_le_left _ _) hij) _) (Nat.sub_le_sub_right (Nat.min_le_left _ _) j)) (by rw[Nat.add_right_comm,Nat.add_sub_of_le hj];exact this))
 apply rwL e2 ?_;apply wpAny_bind (wpAny_updateSeq hl rfl (hz:=by have:=c0 hfit;exact Nat.le_of_add_right_le this) (_hz':=hs2) ?_);apply wpAny_bind (wpAny_letGo ?_);exact wpAny_pure ⟨_,rfl,wpAny_pure hQ⟩
theorem qz {A:Around} {s:Shared} {E:Value->Shared->Prop} {R:Unit->Shared->Prop} {o lo hi x:AV} {uo ul uh u:Value} {sl:Addr} (S:W.St H s.heap) (ho:VR H s.heap o uo) (hlo:VR H s.heap lo ul) (hhi:VR H s.heap hi uh) (hx:VR H s.heap x u)
  (hs:s.heap.IsSliceOf sl ul uh .none) (q:fY o lo hi x H Q) (P:∀s' H',Aft W H s H' s'->Q H'->R () s'):wpAny (model W.prog W.w) A (setItem uo (.ref sl) u) R E s:=by
 apply vS q λa b f xs ys z1z=>yp z1z λi j z2z z3z hab z4z z5z z6z=>?_;clear q z1z;subst z2z;subst z3z;subst z4z;subst z5z;(apply jO z6z λe1 e2 hij hj hl q=>?_;clear z6z);simp only[bQ,dM]at ho hlo hhi hx;subst ho hx;(apply a8 hlo λt z1z=>?_;clear hlo;subst z1z);(apply a8 hhi λt' z1z=>?_;clear hhi;subst z1z);apply bb (ar S e1) λus m h1 v1=>?_;apply bb (ar S e2) λvs m' h2 v2=>?_;have sz1:=v1.size;have sz2:=v2.size;apply kJ (items:=us) (ys:=vs) h1 h2 hab hs hij (le_of_le_of_eq hj (Eq.symm sz1)) (by lia) (P _ _ (gB S e1 h1 ?_) q);simp only[toList_append,toList_append,Array.toList_extract,Array.toList_extract];have g1:us.toList.extract 0 i=us.toList.take i:=by rfl
 have g2:us.toList.extract j us.size=us.toList.drop j:=by apply rwL List.extract_eq_drop_take ?_;exact take_of_length_le (by simp)
 simp only[g1,g2];exact((v1.take i).append v2).append (v1.drop j)
end
end
section
def iw (env:Env):Addr->Prop:=λa=>a=env.locals\/∃x,env.cells.lookup x=some a
theorem gP:∀(Z:am) (x:Nat) (v:AV),(put Z x v).lookup x=some v:=by
 intro Z
 induction Z with
 |nil=>
  intro x v;simp[aS]
 |cons p0 r ih=>
  obtain⟨y,u⟩:=p0;intro x v;by_cases h:y=x
  ·apply rwL (lZ h) ?_;simp
  ·apply rwL (m6 h) (rwL (aq (Ne.symm h)) ?_);exact ih x v
theorem gO:∀(Z:am) {x z:Nat} (v:AV),z≠x->(put Z x v).lookup z=Z.lookup z:=by
 intro Z
 induction Z with
 |nil=>
  intro x z v h;simp only[aS];exact aq h
 |cons p0 r ih=>
  obtain⟨y,u⟩:=p0;intro x z v h;by_cases hy:y=x
  ·apply rwL (lZ hy) (rwL (aq h) ?_);subst hy;exact(aq h).symm
  ·apply rwL (m6 hy) ?_;by_cases hz:z=y
   ·subst hz;simp only[aB,aB]
   ·apply rwL (aq hz) (rwL (aq hz) ?_);exact ih v h
structure AftX (X:Addr->Prop) (W:Wd) (H:AH) (s:Shared) (H':AH) (s':Shared):Prop where
 st:W.St H' s'.heap
 kp:Kp X H s.heap H' s'.heap
 same:Same s s'
section
variable {W:Wd} {K:Frag} {n:Nat} {env:Env} {Z:am} {H:AH}
theorem AftX.refl {X:Addr->Prop} {s:Shared} (S:W.St H s.heap):AftX X W H s H s:=⟨S,.refl _ _ _,.refl _⟩
theorem AftX.trans {X:Addr->Prop} {H' H'':AH} {s s' s'':Shared} (x:AftX X W H s H' s') (y:AftX X W H' s' H'' s''):AftX X W H s H'' s'':=⟨y.st,x.kp.trans y.kp,x.same.trans y.same⟩
theorem Aft.x {X:Addr->Prop} {H':AH} {s s':Shared} (a:Aft W H s H' s'):AftX X W H s H' s':=⟨a.st,a.kp.mono λ_ h=>h.elim,a.same⟩
theorem EnvR.congr {env:Env} {H:AH} {h:Heap} {Z Z':am} (e:EnvR W env H h Z) (k:∀x v,Z'.lookup x=some v->Z.lookup x=some v):EnvR W env H h Z':=
 ⟨e.kind,e.glob,e.blt,e.loc,e.has,e.cells,e.inj,ad e.vals λm a b=>⟨m,a,λx v q=>b x v (k x v q)⟩⟩
theorem EnvR.seqOut {h:Heap} (e:EnvR W env H h Z):hA (iw env) h:=by
 intro a us k q z;rcases z with rfl|⟨x,hx⟩
 ·(apply ad e.vals λm z1z _=>?_;apply a8 z1z λo z1z=>a8 z1z λes z2z=>ad z2z λep ho z3z=>af z3z λhd _=>?_);simp only[q]at ho;obtain rfl:=sI ho;ac_nf
 ·apply jh (e.cells x a hx) λ_ _ _ z1z=>a8 z1z λv z2z=>ad z2z λo ho hd=>?_;simp only[q]at ho;obtain rfl:=sI ho;ac_nf
theorem EnvR.out {h:Heap} (e:EnvR W env H h Z):∀a,iw env a->H a=none∧W.B.get? a=none:=by
 rintro a (rfl|⟨x,hx⟩)
 ·exact e.loc
 ·exact⟨(e.cells x a hx).1,(e.cells x a hx).2⟩
theorem Kp.soL {h:Heap} (e:EnvR W env H h Z):hA (λa=>a=env.locals) h:=λa us k q z=>e.seqOut a us k q (.inl z)
theorem kU {A:Around} {s:Shared} {E:Value->Shared->Prop} {R:Unit->Shared->Prop} {y:Str} {x:Nat} {v:AV} {u:Value} (hy:nm x=y) (hk:env.kindOf y=some .local)
  (S:W.St H s.heap) (er:EnvR W env H s.heap Z) (hv:VR H s.heap v u)
  (P:∀s',AftX (λa=>a=env.locals) W H s H s'->EnvR W env H s'.heap (put Z x v)->R () s'):wpAny (model W.prog W.w) A (storeName env y u) R E s:=by
 subst hy;apply ad er.vals λm hn vals=>?_;have so:=Kp.soL er;apply wpAny_storeName_local hk hn (λh' hn' hs=>?_) (by apply rwL er.kind ?_;rfl);obtain⟨oL,hoL⟩:∃o,h'.get? env.locals=some o:=by obtain⟨o,_,_,q,_⟩:=hn';exact⟨o,q⟩
 apply af (S.vars (X:=λa=>a=env.locals) (λa e=>e▸er.loc) so (λa o e=>by
  by_cases ha:a=env.locals
  ·exact⟨oL,by apply rwL ha ?_;exact hoL,λz=>absurd ha z⟩
  ·exact⟨o,(hs.2 a ha).trans e,λ_=>rfl⟩:∀a o,s.heap.get? a=some o->∃o',h'.get? a=some o'∧(¬a=env.locals->o'=o))) λa1 a2=>?_
 apply P _ ⟨a1,a2,⟨rfl,rfl⟩⟩ ⟨er.kind,er.glob,er.blt,er.loc,er.has,λz c q=>?_,er.inj,_,hn',λz w q=>?_⟩
 ·(apply jh (er.cells z c q) λz1 z2 z3 z1z=>?_;(apply a8 z1z λw z4=>?_;clear z1z));exact⟨z1,z2,z3,w,z4.sameBut hs z3⟩
 ·by_cases hz:z=x
  ·obtain rfl:=hz.symm;rw[gP]at q;obtain rfl:=sI q;exact⟨λ_=>⟨u,if_pos rfl,hv.kp a2 so⟩,λh=>by rw[hk]at h;apply h.elim (λh=>?_) λh=>?_<;>ac_nf⟩
  ·simp only[gO Z v hz]at q;apply⟨λh=>?_,λh=>?_⟩
   ·apply ad ((vals z w q).1 h) λw' e1 e2=>?_;exact⟨w',by apply rwL (if_neg (λe=>hz (fS e))) ?_;exact e1,e2.kp a2 so⟩
   ·apply cq ((vals z w q).2 h) λc w' e1 e2 e3=>?_;exact⟨c,w',e1,e2.sameBut hs (er.cells _ c e1).3,e3.kp a2 so⟩
theorem hU {A:Around} {s:Shared} {E:Value->Shared->Prop} {R:Unit->Shared->Prop} {y:Str} {x:Nat} {v:AV} {u:Value} (hy:nm x=y) (hk:env.kindOf y=some .local\/env.kindOf y=some .cell)
  (S:W.St H s.heap) (er:EnvR W env H s.heap Z) (hv:VR H s.heap v u)
  (P:∀s',AftX (iw env) W H s H s'->EnvR W env H s'.heap (put Z x v)->R () s'):wpAny (model W.prog W.w) A (storeName env y u) R E s:=by
 subst hy;apply ad er.vals λm hn vals=>?_;have so:=er.seqOut;apply hk.elim (λhk=>?_) λhk=>?_
 ·exact kU rfl hk S er hv λs' a e=>P s' ⟨a.st,a.kp.mono λb e=>.inl e,a.same⟩ e
 ·apply a8 (er.has _ hk) λc hc=>?_;apply jh (er.cells _ c hc) λc1 c2 c3 z1z=>?_;(apply a8 z1z λv₀ c4=>?_;clear z1z);apply wpAny_storeName_cell er.kind hk hc c4 λh' hn' hs=>?_;obtain⟨oL,hoL⟩:∃o,h'.get? c=some o:=by obtain⟨o,q,_⟩:=hn';exact⟨o,q⟩
  apply af (S.vars er.out so (λa o e=>by
   by_cases ha:a=c
   ·exact⟨oL,by apply rwL ha ?_;exact hoL,λz=>absurd (.inr ⟨_,by exact rwL ha hc⟩) z⟩
   ·exact⟨o,(hs.2 a ha).trans e,λ_=>rfl⟩:∀a o,s.heap.get? a=some o->∃o',h'.get? a=some o'∧(¬iw env a->o'=o))) λa1 a2=>?_
  apply P _ ⟨a1,a2,⟨rfl,rfl⟩⟩ ⟨er.kind,er.glob,er.blt,er.loc,er.has,λz d q=>?_,er.inj,m,hn.sameBut hs (Ne.symm c3),λz w q=>?_⟩
  ·(apply jh (er.cells z d q) λz1 z2 z3 z1z=>?_;(apply a8 z1z λw z4=>?_;clear z1z));apply⟨z1,z2,z3,?_⟩;by_cases hd:d=c
   ·exact⟨_,by exact rwL hd hn'⟩
   ·exact⟨w,z4.sameBut hs hd⟩
  ·by_cases hz:z=x
   ·obtain rfl:=hz.symm;rw[gP]at q;obtain rfl:=sI q;exact⟨λh=>(by rw[hk]at h;ac_nf),λ_=>⟨c,u,hc,hn',hv.kp a2 so⟩⟩
   ·simp only[gO Z v hz]at q;apply⟨λh=>?_,λh=>?_⟩
    ·apply ad ((vals z w q).1 h) λw' e1 e2=>?_;exact⟨w',e1,e2.kp a2 so⟩
    ·apply cq ((vals z w q).2 h) λd w' e1 e2 e3=>?_;have hd:d≠c:=λe=>hz (fS (er.inj _ _ c (e▸e1) hc));exact⟨d,w',e1,e2.sameBut hs hd,e3.kp a2 so⟩
def wZ (W:Wd) (n:Nat) (t:Expr) (env:Env) (v:AV) (Z:am) (H:AH) (Q:am->AH->Prop):Prop:=
 ∀(A:Around) (s:Shared) (u:Value) (R:Unit->Shared->Prop) (E:Value->Shared->Prop),dN n A->W.St H s.heap->EnvR W env H s.heap Z->VR H s.heap v u->
  (∀s' H' Z',AftX (iw env) W H s H' s'->EnvR W env H' s'.heap Z'->Q Z' H'->R () s')->wpAny (model W.prog W.w) A (assign t env u) R E s
theorem ic {y:Str} {pos:Pos} {x:Nat} {v:AV} {Q:am->AH->Prop} (hy:nm x=y) (hk:env.kindOf y=some .local\/env.kindOf y=some .cell) (q:Q (put Z x v) H):wZ W n (.Name y pos) env v Z H Q:=λA s u R E hr S er hv P=>
 wpAny_assign_Name (hU hy hk S er hv λs' a e=>P s' H _ a e q)
theorem sx (G:Gd W K) {o:Expr} {a:Str} {pos:Pos} {f:Nat} {v:AV} {Q:am->AH->Prop} (hf:nm f=a) (h:aC W n o env Z H λo H=>cx o f v H (Q Z)):wZ W n (.Attribute o a pos) env v Z H Q:=λA s u R E hr S er hv P=>by
 rw[arm_assign_Attribute];apply wpAny_bind (wpAny_holding (h A s _ E hr S er λov uo s1 H1 ho b q=>wpAny_bind (wpAny_standAt (wpAny_bind (wpAny_holding ?_)))));apply v9 G hf b.st ho (hv.kp0 b.kp) q λs2 H2 c q=>wpAny_release ?_;exact P s2 H2 Z (b.trans c).x ((er.keep b.kp).keep c.kp) q
theorem vx {o i:Expr} {pos:Pos} {v:AV} {Q:am->AH->Prop} (h:aC W n o env Z H λo H=>aC W n i env Z H λi H=>dR o i v H (Q Z)):wZ W n (.Subscript o i pos) env v Z H Q:=λA s u R E hr S er hv P=>by
 rw[arm_assign_Subscript];apply wpAny_bind (wpAny_holding (h A s _ E hr S er λov uo s1 H1 ho b q=>wpAny_bind (wpAny_holding (q A s1 _ E hr b.st (er.keep b.kp) λiv ui s2 H2 hi c q=>wpAny_bind (wpAny_standAt (wpAny_bind (wpAny_holding ?_)))))));apply v8 c.st (ho.kp0 c.kp) hi ((hv.kp0 b.kp).kp0 c.kp) q λs3 H3 d q=>wpAny_release ?_;exact P s3 H3 Z ((b.trans c).trans d).x (((er.keep b.kp).keep c.kp).keep d.kp) q
theorem vA {o lo hi:Expr} {p pos:Pos} {v:AV} {Q:am->AH->Prop} (h:aC W n o env Z H λo H=>aC W n lo env Z H λl H=>aC W n hi env Z H λh H=>fY o l h v H (Q Z)) :
  wZ W n (.Subscript o (.Slice (some lo) (some hi) none p) pos) env v Z H Q:=λA s u R E hr S er hv P=>by
 rw[arm_assign_Subscript];apply wpAny_bind (wpAny_holding (h A s _ E hr S er λov uo s1 H1 ho b q=>wpAny_bind (wpAny_holding (wpAny_Slice ?_))));rw[evalPart_some];apply q A s1 _ E hr b.st (er.keep b.kp) λl ul s2 H2 hl c q=>?_;rw[evalPart_some];apply q A s2 _ E hr c.st ((er.keep b.kp).keep c.kp) λm um s3 H3 hm d q=>?_;rw[evalPart_none];apply wpAny_pure (wpAny_bind (wpAny_standAt (wpAny_bind (wpAny_holding ?_))));have gr:∀b o,s3.heap.get? b=some o->(s3.heap.push {cls:=.type "slice",data:=.fields #[ul,um,.none]}).get? b=some o:=λb o e=>get?_push_of_some _ e;have g:Aft W H3 s3 H3 {s3 with heap:=s3.heap.push {cls:=.type "slice",data:=.fields #[ul,um,.none]}}:=.grow d.st ⟨rfl,rfl⟩ gr;apply qz g.st (((ho.kp0 c.kp).kp0 d.kp).kp0 g.kp) ((hl.kp0 d.kp).kp0 g.kp) (hm.kp0 g.kp) ((((hv.kp0 b.kp).kp0 c.kp).kp0 d.kp).kp0 g.kp) (Heap.IsSliceOf.new ..) q λs4 H4 k q=>wpAny_release ?_;exact P s4 H4 Z ((((b.trans c).trans d).trans g).trans k).x (((((er.keep b.kp).keep c.kp).keep d.kp).keep g.kp).keep k.kp) q
end
end
section
def jb (fp:List Addr) (h h':Heap):Prop:=∀b o,b∉fp->h.get? b=some o->h'.get? b=some o
theorem jb.refl (fp:List Addr) (h:Heap):jb fp h h:=λ_ _ _ e=>e
theorem jb.trans {fp:List Addr} {h h' h'':Heap} (x:jb fp h h') (y:jb fp h' h''):jb fp h h'':=λb o n e=>y b o n (x b o n e)
def uJ (W:Wd) (H:AH) (h:Heap) (fp:List Addr):Prop:=∀a∈fp,W.B.get? a=none∧((H a=none∧∀us n,h.get? a≠some {cls:=.type "tuple",data:=.seq us n})\/H a=some (false,.opq))
def zm (H:AH) (fp:List Addr) (h':Heap):Prop:=∀a∈fp,H a=some (false,.opq)->E2 λx y=>h'.get? a=some {cls:=.type "tuple",data:=.seq #[x,y]}
section
variable {W:Wd} {K:Frag} {n:Nat} {env:Env} {Z:am} {H:AH} {h h':Heap} {fp:List Addr}
theorem VR.off (ap:uJ W H h fp) (k:jb fp h h'):∀v u,VR H h v u->VR H h' v u:=VR.keep λa us n e z=>⟨k a _ (λm=>by
  apply((ap a m).2).elim (λq=>?_) λq=>?_
  ·exact q.2 us n e
  ·rw[z]at q;exact nS q) e,z⟩
theorem St.off (S:W.St H h) (ap:uJ W H h fp) (k:jb fp h h') (hp:zm H fp h'):W.St H h':=by
 have own:∀a f o,H a=some (f,o)->o≠.opq->∀ob,h.get? a=some ob->h'.get? a=some ob:=λa f o e ho ob q=>k a ob (λm=>by
  apply((ap a m).2).elim (λz=>?_) λz=>?_
  ·simp only[z.1]at e;exact nS e
  ·simp only[z]at e;cases e;exact ho rfl) q
 apply⟨λa f o e=>?_,λa o e=>?_,S.fl⟩
 ·by_cases ho:o=.opq
  ·subst ho;by_cases m:a∈fp
   ·apply((ap a m).2).elim (λz=>?_) λz=>?_
    ·simp only[z.1]at e;exact nS e
    ·exact hp a m z
   ·apply vU (S.objs _ _ _ e) λx y q=>?_;exact⟨x,y,k a _ m q⟩
  ·apply(S.objs a f o e).keep (VR.off ap k) (own a f o e ho) (λC dx fs q=>?_) λb q=>by subst q;exact S.objs _ _ _ e
   subst q;have e2:=S.fl _ _ _ _ _ e;exact⟨own dx _ _ e2 (λz=>by ac_nf),f,e2⟩
 ·apply af (S.base a o e) λq1 q2=>?_;exact⟨k a o (λm=>by simp only[(ap a m).1]at e;exact nS e) q1,q2⟩
theorem Kp.off {X:Addr->Prop} {H₀:AH} {h₀:Heap} (x:Kp X H₀ h₀ H h) (k:jb fp h h') (hf:∀a∈fp,h₀.get? a=none):Kp X H₀ h₀ H h':=λa o e=>⟨λn=>
 let ⟨n',o',e',q⟩:=(x a o e).1 n
 ⟨n',o',k a o' (λm=>by simp only[hf a m]at e;exact nS e) e',q⟩,λz q=>
 let ⟨q',e'⟩:=(x a o e).2 z q
 ⟨q',k a o (λm=>by simp only[hf a m]at e;exact nS e) e'⟩,let ⟨o',e'⟩:=(x a o e).3;⟨o',k a o' (λm=>by simp only[hf a m]at e;exact nS e) e'⟩⟩
theorem EnvR.dom (e:EnvR W env H h Z):∀a,iw env a->∃o,h.get? a=some o:=by
 rintro a (rfl|⟨x,hx⟩)
 ·(apply ad e.vals λm z1z _=>?_;apply a8 z1z λo z1z=>a8 z1z λes z2z=>ad z2z λep ho _=>?_);exact⟨o,ho⟩
 ·(apply jh (e.cells x a hx) λ_ _ _ z1z=>?_;apply a8 z1z λv z1z=>ad z1z λo ho hd=>?_);exact⟨o,ho⟩
theorem EnvR.off (e:EnvR W env H h Z) (ap:uJ W H h fp) (k:jb fp h h') (hd:∀a∈fp,¬iw env a):EnvR W env H h' Z:=by
 apply ad e.vals λm hn hv=>?_;apply a8 (id hn) λo z1z=>?_;apply a8 z1z λes z1z=>ad z1z λep ho r=>?_;have hl:=k _ _ (λz=>hd _ z (.inl rfl)) ho;have hc:∀x c v,env.cells.lookup x=some c->h.IsCell c v->h'.IsCell c v:=λx c v q z=>ad z λo ho hd'=>⟨o,k _ _ (λz=>hd _ z (.inr ⟨x,q⟩)) ho,hd'⟩;apply⟨e.kind,e.glob,e.blt,e.loc,e.has,λx c q=>?_,e.inj,m,⟨o,es,ep,hl,r⟩,λx v q=>⟨λz=>?_,λz=>?_⟩⟩
 ·(apply jh (e.cells x c q) λz1 z2 z3 z1z=>?_;(apply a8 z1z λv z4=>?_;clear z1z));exact⟨z1,z2,z3,v,hc x c v q z4⟩
 ·apply ad ((hv x v q).1 z) λu a b=>?_;exact⟨u,a,VR.off ap k _ _ b⟩
 ·apply cq ((hv x v q).2 z) λc u a b d=>?_;exact⟨c,u,a,hc _ _ _ a b,VR.off ap k _ _ d⟩
def dh (ai:AI) (it:Value) (fp:List Addr) (i:Nat) (H:AH) (h:Heap):Prop:=AI.casesOn ai (λv=>AV.casesOn v False nF nF nF
 (λb=>E2 λI t=>it=.ref I∧fp=[I]∧H I=none∧KBw.IsBytesIter h I b t i)
 (λa=>∃I,it=.ref I∧fp=[I]∧H I=none∧h.IsListIter I a i)
 (λxs=>E4 λI t us m=>it=.ref I∧fp=[I]∧H I=none∧h.IsTupleIter I t i∧h.get? t=some {cls:=.type "tuple",data:=.seq us m}∧H t=none∧bK H h xs us.toList))
 (λv=>fH v λa=>E3 λe I old=>it=.ref e∧fp=[e,I]∧e≠I∧H e=none∧H I=none∧IsEnum h e I i old∧h.IsListIter I a i)
 (λv w r=>fH v λa=>fH w λb=>E4 λz TI i1 i2=>it=.ref z∧fp=[z,i1,i2,r]∧[z,i1,i2,r,TI].Nodup∧H z=none∧H i1=none∧H i2=none∧H TI=none∧IsZip h z TI r .none∧IsPair h TI (.ref i1) (.ref i2)∧h.IsListIter i1 a i∧h.IsListIter i2 b i)
 (λm=>∃I,it=.ref I∧fp=[I]∧H I=none∧IsRangeIter h I i (m-i) 1)
theorem dh.apt {ai:AI} {it:Value} {i:Nat} (x:dh ai it fp i H h) (hf:∀a∈fp,W.B.get? a=none) (hr:∀v w r,ai=.zip v w r->H r=some (false,.opq)):uJ W H h fp:=by
 intro a ha;apply⟨hf a ha,?_⟩;cases ai with
 |seq v=>
  cases v with
  |ref a=>
   obtain⟨I,_,rfl,hn,o,ho,hc,hd⟩:=x;obtain rfl:=ms ha;apply .inl ⟨hn,λus n e=>?_⟩;simp only[e]at ho;obtain rfl:=sI ho;ac_nf
  |tup xs=>
   obtain⟨I,t,vs,m,_,rfl,hn,⟨o,ho,hc,hd⟩,_⟩:=x;obtain rfl:=ms ha;apply .inl ⟨hn,λus n e=>?_⟩;simp only[e]at ho;obtain rfl:=sI ho;ac_nf
  |bytes b=>
   apply vT x λI t _ z1z hn z2z=>ad z2z λo ho z3z=>af z3z λhc hd=>?_;clear x z2z z3z;subst z1z;obtain rfl:=ms ha;apply .inl ⟨hn,λus n e=>?_⟩;simp only[e]at ho;obtain rfl:=sI ho;ac_nf
  |_=>exact elim x
 |enum v=>
  cases v with
  |ref a=>
   obtain⟨e',I,old,_,rfl,_,h1,h2,he,o,ho,hc,hd⟩:=x;simp only[mem_cons,not_mem_nil,or_false]at ha;rcases ha with rfl|rfl
   ·apply .inl ⟨h1,λus n e=>?_⟩;unfold IsEnum at he;simp only[e]at he;injection he with he;injection he with _ _ he;ac_nf
   ·apply .inl ⟨h2,λus n e=>?_⟩;simp only[e]at ho;obtain rfl:=sI ho;ac_nf
  |_=>exact elim x
 |zip v w r=>
  cases v with
  |ref a=>
   cases w with
   |ref b=>
    obtain⟨z,TI,i1,i2,_,rfl,_,h1,h2,h3,_,hz,_,⟨o,ho,hc,hd⟩,o',ho',hc',hd'⟩:=x;simp only[mem_cons,not_mem_nil,or_false]at ha;rcases ha with rfl|rfl|rfl|rfl
    ·apply .inl ⟨h1,λus n e=>?_⟩;unfold IsZip at hz;simp only[e]at hz;injection hz with hz;injection hz with _ _ hz;ac_nf
    ·apply .inl ⟨h2,λus n e=>?_⟩;simp only[e]at ho;obtain rfl:=sI ho;ac_nf
    ·apply .inl ⟨h3,λus n e=>?_⟩;simp only[e]at ho';obtain rfl:=sI ho';ac_nf
    ·exact .inr (hr _ _ _ rfl)
   |_=>exact elim x
  |_=>exact elim x
 |range m=>
  apply pS x λI _ z1z hn he=>?_;clear x;subst z1z;obtain rfl:=ms ha;apply .inl ⟨hn,λus n e=>?_⟩;unfold IsRangeIter at he;simp only[e]at he;injection he with he;injection he with _ _ he;ac_nf
theorem dh.nil {v:AV} {it:Value} {i:Nat} (x:dh (.seq v) it fp i H h):∀a∈fp,H a=Option.none:=by
 cases v with
 |ref a=>
  apply pS x λI _ z1z hn _=>?_;clear x;subst z1z;intro b hb;obtain rfl:=mS hb;exact hn
 |tup xs=>
  obtain⟨I,t,us,m,_,rfl,hn,_⟩:=x;intro b hb;obtain rfl:=mS hb;exact hn
 |bytes b=>
  apply vT x λI t _ z1z hn _=>?_;clear x;subst z1z;intro b hb;obtain rfl:=mS hb;exact hn
 |_=>exact x.elim
theorem dh.keep {ai:AI} {it:Value} {i:Nat} {X:Addr->Prop} {H':AH} (x:dh ai it fp i H h) (k:Kp X H h H' h') (hX:hA X h) (hd:∀a∈fp,¬X a):dh ai it fp i H' h':=by
 have one:∀a∈fp,H a=none->∀o,h.get? a=some o->h'.get? a=some o∧H' a=none:=λa ha hn o e=>k.getX e hn (hd a ha);cases ai with
 |seq v=>
  cases v with
  |ref a=>
   apply pS x λI e1 z1z hn z2z=>ad z2z λo ho r=>?_;clear x z2z;subst z1z;have:=one I (.head _) hn o ho;exact⟨I,e1,rfl,this.2,o,this.1,r⟩
  |tup xs=>
   apply zy x λI t vs m e1 z1z hn z2z ht z3z=>ad z2z λo ho r=>af z3z λhn' v=>?_;clear x z2z z3z;subst z1z;have:=one I (.head _) hn o ho;have t2:=k.getX ht hn' (hX _ _ _ ht);exact⟨I,t,vs,m,e1,rfl,this.2,⟨o,this.1,r⟩,t2.1,t2.2,v.keep' λv u=>VR.kp k hX⟩
  |bytes b=>
   apply vT x λI t e1 z1z hn z2z=>ad z2z λo ho r=>?_;clear x z2z;subst z1z;have:=one I (.head _) hn o ho;exact⟨I,t,e1,rfl,this.2,o,this.1,r⟩
  |_=>exact elim x
 |enum v=>
  cases v with
  |ref a=>
   apply zA x λe' I old e1 z1z ne h1 h2 z2z=>af z2z λhe z3z=>ad z3z λo ho r=>?_;clear x z2z z3z;subst z1z;have t1:=one I (.tail _ (.head _)) h2 o ho;have t2:=one e' (.head _) h1 _ he;exact⟨e',I,old,e1,rfl,ne,t2.2,t1.2,t2.1,o,t1.1,r⟩
  |_=>exact elim x
 |zip v w r=>
  cases v with
  |ref a=>
   cases w with
   |ref b=>
    apply zy x λz TI i1 i2 e1 z1z nd h1 h2 z2z=>jO z2z λh3 h4 hz hTI z3z z4z=>ad z3z λo ho r=>ad z4z λo' ho' r'=>?_;clear x z2z z3z z4z;subst z1z;have t1:=one z (.head _) h1 _ hz;have t2:=one i1 (.tail _ (.head _)) h2 _ ho;have t3:=one i2 (.tail _ (.tail _ (.head _))) h3 _ ho';have t4:=k.getX hTI h4 (hX _ _ _ hTI);exact⟨z,TI,i1,i2,e1,rfl,nd,t1.2,t2.2,t3.2,t4.2,t1.1,t4.1,⟨o,t2.1,r⟩,o',t3.1,r'⟩
   |_=>exact elim x
  |_=>exact elim x
 |range m=>
  apply pS x λI e1 z1z hn he=>?_;clear x;subst z1z;have:=one I (.head _) hn _ he;exact⟨I,e1,rfl,this.2,this.1⟩
end
end
section
section
variable {W:Wd} {K:Frag} {n:Nat} {env:Env} {Z:am} {H:AH} {h h':Heap} {fp:List Addr}
theorem gA {a:Addr} {f:Bool} {xs:List AV} (h:H a=some (f,.list xs)):iB H (.ref a)=some xs:=by
 show(H a).bind _=_;exact rwL h rfl
theorem cV {a:Addr} {xs:List AV} (e:iB H (.ref a)=some xs):∃f,H a=some (f,.list xs):=by
 apply ad (bind_eq_some_iff.mp (show(H a).bind _=_ from e)) λp hh e=>?_;obtain⟨f,o⟩:=p;cases o with
 |list ys=>exact⟨f,sI e▸hh⟩
 |_=>exact nS e
noncomputable def wg (e:Expr):Bool:=beq e.ctorIdx 25
noncomputable def wj (e:Expr):Bool:=beq e.ctorIdx 23
theorem qQ {t:Expr} {it v:Value} (h:wj t=true):letOwnedTupleGo t it v=pure ():=by
 obtain⟨⟩:=t<;>first|rfl|ac_nf
theorem ff {M:Model} {A:Around} {E:Value->Shared->Prop} {s:Shared} {t:Expr} {I:Addr} {v:Value} {o:Obj} {T:String} {Q:Unit->Shared->Prop} (ho:s.heap.get? I=some o) (hc:o.cls=.type T)
  (hT:["enumerate","zip","dict_itemiterator","dict_reverseitemiterator","odict_iterator","itertools.zip_longest","itertools.pairwise"].contains T=false) (h:Q () s):wpAny M A (letOwnedTupleGo t (.ref I) v) Q E s:=by
 obtain⟨⟩:=t<;>first|exact wpAny_pure h|skip
 all_goals
  obtain⟨⟩:=v<;>first|exact wpAny_pure h|skip
  apply wpAny_bind (wpAny_load ho ?_);apply rwL hc ?_;obtain⟨⟩:=o.data<;>first|exact wpAny_pure h|skip
  dsimp only;apply rwL hT ?_;exact wpAny_pure h
def zn (fp:List Addr) (s:Shared) (o:Option AV) (R:Option Value->Shared->Prop):Prop:=o=none->∀s1,jb fp s.heap s1.heap->Same s s1->R none s1
def Df (W:Wd) (A:Around) (ai:AI) (it:Value) (fp:List Addr) (i:Nat) (H:AH) (s:Shared) (target:Expr) (v:AV) (u:Value) (s1:Shared):Prop:=
 ∀(R':Unit->Shared->Prop) (E':Value->Shared->Prop),(∀s2,dh ai it fp (i+1) H s2.heap->VR H s2.heap v u->jb fp s.heap s2.heap->zm H fp s2.heap->Same s s2->R' () s2)->
  wpAny (model W.prog W.w) A (letOwnedTupleGo target it u) R' E' s1
def wY (W:Wd) (A:Around) (ai:AI) (it:Value) (fp:List Addr) (i:Nat) (H:AH) (s:Shared) (target:Expr) (o:Option AV) (R:Option Value->Shared->Prop):Prop:=
 ∀v,o=some v->∀u s1,Df W A ai it fp i H s target v u s1->R (some u) s1
theorem pV {ai:AI} {it:Value} {i:Nat} {o:Option AV} {A:Around} {s:Shared} {R:Option Value->Shared->Prop} {E:Value->Shared->Prop} {target:Expr} (hh:A.handled=none) (x:dh ai it fp i H s.heap)
  (hfr:∀a∈fp,W.B.get? a=none) (S:W.St H s.heap) (hn:bU H ai i=some o) (htg:(wj target=true∧ai.ok1)\/(wg target=true∧ai.okT))
  (hnone:zn fp s o R)
  (hsome:wY W A ai it fp i H s target o R) :
  wpAny (model W.prog W.w) A (pyNext it) R E s:=by
 have noOpq:∀{I:Addr},fp=[I]->H I=none->∀h,zm H fp h:=λe1 e2 h a ha q=>by
  subst e1;obtain rfl:=mS ha;simp only[e2]at q;exact nS q
 have apt:=x.apt hfr;cases ai with
 |seq v=>
  cases v with
  |ref a=>
   apply pS x λI z1z z2z hI hit=>?_;clear x;subst z1z;subst z2z;apply ad (map_eq_some_iff.mp hn) λxs hc z1z=>?_;clear hn;subst z1z;apply a8 (cV hc) λf e=>?_;apply bb (ar S e) λus m h1 v1=>?_;have L:s.heap.IsList a us:=⟨_,h1,rfl,m,rfl⟩;have apt:=apt (by intro _ _ _ h;ac_nf);have off:∀h',(∀b o,b≠I->s.heap.get? b=some o->h'.get? b=some o)->jb [I] s.heap h':=λh' k b o m e=>k b o (λz=>m (by simp only[z];exact .head _)) e;cases hx:xs[i]? with
   |none=>
    have:us[i]?=none:=by
     rw[Array.getElem?_eq_none_iff,v1.size];exact List.getElem?_eq_none_iff.mp hx
    exact wpAny_pyNext_list_end hh hit L this λh' k=>hnone hx _ (off h' k) ⟨rfl,rfl⟩
   |some v=>
    apply ad (v1.get hx) λu hu vu=>?_;rw[getElem?_toList]at hu;apply wpAny_pyNext_list_item hit L hu λh' it' sb=>hsome v hx u _ λR' E' P=>?_;apply ad (id it') λoI hoI z1z=>?_;(apply af z1z λhcI hdI=>?_;clear z1z);have k:=off h' sb.extBut;exact ff hoI hcI (by decide) (P _ ⟨I,rfl,rfl,hI,it'⟩ (VR.off apt k _ _ vu) k (noOpq rfl hI _) ⟨rfl,rfl⟩)
  |tup xs=>
   apply zy x λI t us m z1z z2z hI hit ht z3z=>af z3z λhnt vs=>?_;clear x z3z;subst z1z;subst z2z;obtain rfl:=sI hn;have L:s.heap.IsTuple t us:=⟨_,ht,rfl,m,rfl⟩;have apt:=apt (by intro _ _ _ h;ac_nf);have off:∀h',(∀b o,b≠I->s.heap.get? b=some o->h'.get? b=some o)->jb [I] s.heap h':=λh' k b o m e=>k b o (λz=>m (by simp only[z];exact .head _)) e;cases hx:xs[i]? with
   |none=>
    have:us[i]?=none:=by
     rw[Array.getElem?_eq_none_iff,vs.size];exact List.getElem?_eq_none_iff.mp hx
    exact wpAny_pyNext_tuple_end hh hit L this λh' k=>hnone hx _ (off h' k) ⟨rfl,rfl⟩
   |some v=>
    apply ad (vs.get hx) λu hu vu=>?_;rw[getElem?_toList]at hu;apply wpAny_pyNext_tuple_item hit L hu λh' it' sb=>hsome v hx u _ λR' E' P=>?_;apply ad (id it') λoI hoI z1z=>?_;(apply af z1z λhcI hdI=>?_;clear z1z);have k:=off h' sb.extBut;have htI:t∉[I]:=λz=>by
     obtain rfl:=ms z;apply ad hit λo ho z1z=>af z1z λ_ hd=>?_;clear hit z1z;simp only[ht]at ho;obtain rfl:=sI ho;ac_nf
    exact ff hoI hcI (by decide) (P _ ⟨I,t,us,m,rfl,rfl,hI,it',k _ _ htI ht,hnt,vs.keep' (VR.off apt k)⟩ (VR.off apt k _ _ vu) k (noOpq rfl hI _) ⟨rfl,rfl⟩)
  |bytes b=>
   apply vT x λI t z1z z2z hI hit=>?_;clear x;subst z1z;subst z2z;obtain rfl:=sI hn;have off:∀h',(∀b o,b≠I->s.heap.get? b=some o->h'.get? b=some o)->jb [I] s.heap h':=λh' k b o m e=>k b o (λz=>m (by simp only[z];exact .head _)) e;cases hb:b[i]? with
   |none=>
    have hx:((iF b).map AV.int)[i]?=none:=by
     simp only[iF,getElem?_map,getElem?_toList,hb,Option.map_none]
    exact KBw.next_end hh hit hb λh' k=>hnone hx _ (off h' k) ⟨rfl,rfl⟩
   |some c=>
    have hx:((iF b).map AV.int)[i]?=some (.int (c.toNat:Int)):=by
     simp only[iF,getElem?_map,getElem?_toList,hb,map_some]
    apply KBw.next_item hit hb λh' it' sb=>hsome _ hx _ _ λR' E' P=>?_;apply ad (id it') λoI hoI z1z=>?_;(apply af z1z λhcI hdI=>?_;clear z1z);have k:=off h' sb.extBut;exact ff hoI hcI (by decide) (P _ ⟨I,t,rfl,rfl,hI,it'⟩ (Exists.intro _ rfl) k (noOpq rfl hI _) ⟨rfl,rfl⟩)
  |_=>exact elim x
 |enum v=>
  cases v with
  |ref a=>
   apply zA x λe' I old z1z z2z hne hE hI z3z=>af z3z λhe hit=>?_;clear x z3z;subst z1z;subst z2z;apply ad (map_eq_some_iff.mp hn) λxs hc z1z=>?_;clear hn;subst z1z;apply a8 (cV hc) λf e=>?_;apply bb (ar S e) λus m h1 v1=>?_;have L:s.heap.IsList a us:=⟨_,h1,rfl,m,rfl⟩;have apt:=apt (by intro _ _ _ h;ac_nf);have htt:wg target=true:=by rcases htg with⟨_,h⟩|⟨h,_⟩<;>first|exact h|exact h.elim
   cases hx:xs[i]? with
   |none=>
    have:us[i]?=none:=by
     rw[Array.getElem?_eq_none_iff,v1.size];exact List.getElem?_eq_none_iff.mp hx
    exact wpAny_pyNext_enum_end hh he hit L this λh' k=>hnone (by apply rwL hx ?_;rfl) _ (λb o m e=>k b o (λz=>m (by simp only[z];exact .tail _ (.head _))) e) ⟨rfl,rfl⟩
   |some v=>
    apply ad (v1.get hx) λu hu vu=>?_;rw[getElem?_toList]at hu;apply wpAny_pyNext_enum_item he hit L hu hne λh' eo it' tp sz k1=>hsome (.tup [.int (Int.ofNat i),v]) (by simp only[hx];rfl) _ _ λR' E' P=>?_;obtain⟨⟩:=target<;>try ac_nf
    apply wpAny_letOwnedTupleGo_enum eo λh2 he2 sb=>?_;replace sb:Heap.SameBut e' h' h2:=sb;have k:jb [e',I] s.heap h2:=λb o m e=>by
     have hb1:b≠e':=λz=>m (by simp only[z];exact .head _);exact sb.extBut b o hb1 (k1 b o hb1 (λz=>m (by simp only[z];exact .tail _ (.head _))) e)
    have hen:s.heap.objs.size≠e':=λz=>lt_irrefl _ (z▸lt_size he);apply P _ ⟨e',I,u,rfl,rfl,hne,hE,hI,?_,?_⟩ ?_ k (λa ha q=>?_) ⟨rfl,rfl⟩
    ·have:((i+1:Nat):Int)=(i:Int)+1:=by push_cast;rfl
     exact rwL this he2
    ·apply ad (it') λo ho r=>?_;exact⟨o,sb.extBut _ _ (Ne.symm hne) ho,r⟩
    ·simp only[bQ,oj,c8,bv];apply⟨s.heap.objs.size,#[.int i s.toks,u],0,rfl,sb.extBut _ _ hen tp,S.none_of_ge (le_refl _),_,_,rfl,⟨s.toks,rfl⟩,u,[],rfl,VR.off apt k _ _ vu,rfl⟩
    ·simp only[mem_cons,not_mem_nil,or_false]at ha;rcases ha with rfl|rfl
     ·simp only[hE]at q;exact nS q
     ·simp only[hI]at q;exact nS q
  |_=>exact elim x
 |zip v w r=>
  cases v with
  |ref a=>
   cases w with
   |ref b=>
    apply zy x λz TI i1 i2 z1z z2z nd hz0 h10 z3z=>jO z3z λh20 hT0 hz hTI hi1 hi2=>?_;clear x z3z;subst z1z;subst z2z;have hr:=nx (qi hn).1;apply ad (bind_eq_some_iff.mp (qi hn).2) λxs hc z1z=>ad (map_eq_some_iff.mp z1z) λys hc' z2z=>?_;clear hn z1z;subst z2z;apply a8 (cV hc) λf e=>?_;apply a8 (cV hc') λg e'=>?_;apply bb (ar S e) λus m h1 v1=>?_;apply bb (ar S e') λvs m' h2 v2=>?_;have apt:=apt (by intro _ _ _ h;cases h;exact hr);have htt:wg target=true:=by rcases htg with⟨_,h⟩|⟨h,_⟩<;>first|exact h|exact h.elim
    apply vU (S.objs _ _ _ hr) λpx py hTO=>?_;simp only[nodup_cons,mem_cons,not_mem_nil,or_false,not_or,nodup_nil,and_true,not_false_eq_true]at nd;apply af nd λz1z z2z=>af z1z λd1 z3z=>af z3z λd2 z4z=>af z4z λd3 d4=>af z2z λz5z z6z=>af z5z λd5 z7z=>af z7z λd6 d7=>af z6z λz8z d10=>af z8z λd8 d9=>?_;clear nd z1z z3z z4z z2z z5z z7z z6z z8z;have ownne:∀{c:Addr} {p:Bool × AO} {q:Addr},H c=some p->H q=none->c≠q:=λh1 h2 z=>by simp only[z,h2]at h1;exact nS h1
    have ra:a≠r:=λz=>by simp only[z,hr]at e;exact nomatch e
    have rb:b≠r:=λz=>by simp only[z,hr]at e';exact nomatch e'
    have D:ZipApart z TI r i1 i2 a b:=⟨Ne.symm d4,Ne.symm d3,Ne.symm d1,Ne.symm d2,Ne.symm d10,Ne.symm d7,Ne.symm d9,Ne.symm d6,Ne.symm d8,d5,ownne e hz0,ra,ownne e h10,ownne e h20,ownne e' hz0,rb,ownne e' h10,ownne e' h20⟩;have L1:s.heap.IsList a us:=⟨_,h1,rfl,m,rfl⟩;have L2:s.heap.IsList b vs:=⟨_,h2,rfl,m',rfl⟩;by_cases hend:us[i]?=none\/vs[i]?=none
    ·apply wpAny_pyNext_zip_end hh D hz hTI hTO hi1 hi2 L1 L2 hend λh' k=>hnone ?_ _ (λc o m e=>k c o (λz=>m (by simp only[z];exact .head _)) (λz=>m (by simp only[z];exact .tail _ (.tail _ (.tail _ (.head _))))) (λz=>m (by simp only[z];exact .tail _ (.head _))) (λz=>m (by simp only[z];exact .tail _ (.tail _ (.head _)))) e) ⟨rfl,rfl⟩;apply hend.elim (λh=>?_) λh=>?_
     ·have:xs[i]?=none:=by rw[List.getElem?_eq_none_iff,<-v1.size];exact Array.getElem?_eq_none_iff.mp h
      exact this.symm▸rfl
     ·have:ys[i]?=none:=by rw[List.getElem?_eq_none_iff,<-v2.size];exact Array.getElem?_eq_none_iff.mp h
      apply rwL this ?_;obtain⟨⟩:=xs[i]?<;>rfl
    ·simp only[not_or]at hend;apply a8 (Option.ne_none_iff_exists'.mp hend.1) λu hu=>?_;apply a8 (Option.ne_none_iff_exists'.mp hend.2) λw hw=>?_;have lx:i<xs.length:=by exact rwR v1.size ((Array.getElem?_eq_some_iff.mp hu).1)
     have ly:i<ys.length:=by exact rwR v2.size ((Array.getElem?_eq_some_iff.mp hw).1)
     apply ad (v1.get (getElem?_eq_getElem lx)) λu' hu' vu=>?_;apply ad (v2.get (getElem?_eq_getElem ly)) λw' hw' vw=>?_;rw[getElem?_toList,hu]at hu';obtain rfl:=sI hu';rw[getElem?_toList,hw]at hw';obtain rfl:=sI hw';apply wpAny_pyNext_zip_item D hz hTI hTO hi1 hi2 L1 L2 hu hw λh' z' TO' i1' i2' tp sz k1=>hsome (.tup [xs[i],ys[i]]) (rwL (getElem?_eq_getElem lx) (rwL (getElem?_eq_getElem ly) rfl)) _ _ λR' E' P=>?_;obtain⟨⟩:=target<;>try ac_nf
     apply wpAny_letOwnedTupleGo_zip z' λh2' hz2 sb=>?_;replace sb:Heap.SameBut z h' h2':=sb;have k:jb [z,i1,i2,r] s.heap h2':=λc o m e=>by
      have hb1:c≠z:=λy=>m (by simp only[y];exact .head _);exact sb.extBut c o hb1 (k1 c o hb1 (λy=>m (by simp only[y];exact .tail _ (.tail _ (.tail _ (.head _))))) (λy=>m (by simp only[y];exact .tail _ (.head _))) (λy=>m (by simp only[y];exact .tail _ (.tail _ (.head _)))) e)
     have hen:s.heap.objs.size≠z:=λy=>lt_irrefl _ (y▸lt_size hz);have nTI:TI∉[z,i1,i2,r]:=by simp only[mem_cons,not_mem_nil,or_false,not_or];exact⟨Ne.symm d4,Ne.symm d7,Ne.symm d9,Ne.symm d10⟩
     apply P _ ⟨z,TI,i1,i2,rfl,rfl,?_,hz0,h10,h20,hT0,hz2,k _ _ nTI hTI,?_,?_⟩ ?_ k (λc hc q=>?_) ⟨rfl,rfl⟩
     ·simp only[nodup_cons,mem_cons,not_mem_nil,or_false,not_or,nodup_nil,and_true,not_false_eq_true];exact⟨⟨d1,d2,d3,d4⟩,⟨d5,d6,d7⟩,⟨d8,d9⟩,d10⟩
     ·apply ad (i1') λo ho r=>?_;exact⟨o,sb.extBut _ _ (Ne.symm d1) ho,r⟩
     ·apply ad (i2') λo ho r=>?_;exact⟨o,sb.extBut _ _ (Ne.symm d2) ho,r⟩
     ·simp only[oj,c8,bv];exact⟨s.heap.objs.size,#[u,w],0,rfl,sb.extBut _ _ hen tp,S.none_of_ge (le_refl _),u,[w],rfl,VR.off apt k _ _ vu,w,[],rfl,VR.off apt k _ _ vw,rfl⟩
     ·by_cases hcr:c=r
      ·obtain rfl:=hcr.symm;exact⟨u,w,sb.extBut _ _ (Ne.symm d3) TO'⟩
      ·simp only[mem_cons,not_mem_nil,or_false]at hc;rcases hc with rfl|rfl|rfl|rfl
       ·simp only[hz0]at q;exact nS q
       ·simp only[h10]at q;exact nS q
       ·simp only[h20]at q;exact nS q
       ·exact absurd rfl hcr
   |_=>exact elim x
  |_=>exact elim x
 |range m=>
  apply pS x λI z1z z2z hI hit=>?_;clear x;subst z1z;subst z2z;have hn:=sI hn;subst hn;have off:∀h',(∀b o,b≠I->s.heap.get? b=some o->h'.get? b=some o)->jb [I] s.heap h':=λh' k b o m e=>k b o (λz=>m (by simp only[z];exact .head _)) e;by_cases hlt:(i:Int)<m
  ·apply wpAny_pyNext_range_item hit (Int.sub_pos_of_lt hlt) λh' it' sb=>hsome (.int (Int.ofNat i)) (if_pos hlt) _ _ λR' E' P=>?_;have k:=off h' sb.extBut;apply ff (T:="range_iterator") it' rfl (by decide) (P _ ⟨I,rfl,rfl,hI,?_⟩ (Exists.intro _ rfl) k (noOpq rfl hI _) ⟨rfl,rfl⟩);have e1:((i+1:Nat):Int)=(i:Int)+1:=by push_cast;rfl
   apply rwL e1 (rwL (show m-((i:Int)+1)=m-i-1 by exact Eq.symm (Int.sub_sub m (↑i) 1)) ?_);exact it'
  ·exact wpAny_pyNext_range_end hh hit (by lia) λh' k=>hnone (if_neg hlt) _ (off h' k) ⟨rfl,rfl⟩
end
end
section
section
variable {W:Wd} {K:Frag} {n:Nat} {env:Env} {Z:am} {H:AH} {h h':Heap} {fp:List Addr}
theorem St.ET (S:W.St H h) (gr:∀a o,h.get? a=some o->h'.get? a=some o) {r:Addr} (hr:h.objs.size<=r) (hp:E2 λx y=>h'.get? r=some {cls:=.type "tuple",data:=.seq #[x,y]}) :
  H r=none∧W.St (H.set r .opq) h'∧Kp nX H h (H.set r .opq) h':=by
 have hn:=S.none_of_ge hr;have ne:∀a o,h.get? a=some o->a≠r:=λa o e z=>by subst z;exact absurd (lt_size e) (Nat.not_lt.mpr hr)
 have kv:∀v u,VR H h v u->VR (H.set r .opq) h' v u:=VR.keep λa us k e z=>⟨gr _ _ e,(AH.EQ H _ (ne a _ e)).trans z⟩;apply⟨hn,⟨λa f o e=>?_,λa o e=>?_,λa f C dx fs e=>?_⟩,λa o e=>⟨λz=>⟨(AH.EQ H _ (ne a o e)).trans z,o,gr _ _ e,λ_=>rfl⟩,λx z=>⟨(AH.EQ H _ (ne a o e)).trans z,gr _ _ e⟩,o,gr _ _ e⟩⟩
 ·by_cases har:a=r
  ·obtain rfl:=har.symm;simp only[AH.EP]at e;cases e;exact hp
  ·simp only[AH.EQ H _ har]at e;apply(S.objs a f o e).keep kv (gr a) (λC dx fs z=>?_) λb z=>?_
   ·subst z;apply bH (S.objs _ _ _ e) λ_ z1z _=>?_;(apply a8 z1z λg e2=>?_;clear z1z);have hd:dx≠r:=λy=>by simp only[y,hn]at e2;exact nS e2
    exact⟨gr dx,g,(AH.EQ H _ hd).trans e2⟩
   ·subst z;apply sU (S.objs _ _ _ e) λg C fs e2=>?_;have hb:b≠r:=λy=>by simp only[y,hn]at e2;exact nS e2
    exact⟨g,C,fs,(AH.EQ H _ hb).trans e2⟩
 ·apply af (S.base a o e) λq1 q2=>?_;exact⟨gr _ _ q1,λx=>by exact rwL (AH.EQ H _ (ne a o q1)) (q2 x)⟩
 ·by_cases har:a=r
  ·obtain rfl:=har.symm;simp only[AH.EP]at e;simp at e
  ·simp only[AH.EQ H _ har]at e;have e2:=S.fl _ _ _ _ _ e;have hd:dx≠r:=λy=>by simp only[y,hn]at e2;exact nS e2
   exact(AH.EQ H _ hd).trans e2
def iS (W:Wd) (n:Nat) (iter:Expr) (env:Env) (Z:am) (H:AH) (Q:AI->AH->Prop):Prop:=
 ∀(A:Around) (s:Shared) (R E:Value->Shared->Prop),dN n A->W.St H s.heap->EnvR W env H s.heap Z->
  (∀it ai fp s1 H1 s2 H2,Aft W H s H1 s1->Aft W H1 s1 H2 s2->dh ai it fp 0 H2 s2.heap->(∀a∈fp,s1.heap.get? a=none)->Q ai H2->R it s2)->
  wpAny (model W.prog W.w) A (eval iter env) (λx s₁=>wpAny (model W.prog W.w) A (pyIter x) R E s₁) E s
theorem fV {h:Heap} {a:Addr} (ha:h.objs.size<=a):h.get? a=none:=by
 cases e:h.get? a with
 |none=>rfl
 |some o=>exact absurd (lt_size e) (Nat.not_lt.mpr ha)
theorem gN {v:AV} {u:Value} {A:Around} {s:Shared} {R E:Value->Shared->Prop} (S:W.St H s.heap) (hx:VR H s.heap v u) (hok:∃o,bU H (.seq v) 0=some o)
  (P:∀it fp s2,Aft W H s H s2->dh (.seq v) it fp 0 H s2.heap->(∀a∈fp,s.heap.get? a=none)->R it s2):wpAny (model W.prog W.w) A (pyIter u) R E s:=by
 apply a8 hok λo ho=>?_;clear hok;(have ho:=ho;rewrite [bU,map_eq_some_iff]at ho);apply ad ho λxs hc _=>?_;clear ho;have nf:=fV (le_refl s.heap.objs.size);have hn:=S.none_of_ge (le_refl s.heap.objs.size);cases v with
 |ref a=>
  apply a8 (cV hc) λf e=>?_;cases hx;apply bb (ar S e) λus m h1 v1=>?_;apply wpAny_pyIter_list (items:=us) ⟨_,h1,rfl,m,rfl⟩ (P _ [s.heap.objs.size] _ (.grow S ⟨rfl,rfl⟩ λb o e=>get?_push_of_some _ e) ⟨_,rfl,rfl,hn,_,get?_push_size _ rfl,rfl,rfl⟩ (by simpa using nf))
 |tup ys=>
  apply nC hx λt us m z1z ht hz vs=>?_;clear hx;subst z1z;have gr:∀b o,s.heap.get? b=some o->(s.heap.push {cls:=.type "tuple_iterator",data:=.fields #[.ref t,.int 0 0]}).get? b=some o:=λb o e=>get?_push_of_some _ e;apply wpAny_pyIter_tuple (items:=us) ⟨_,ht,rfl,m,rfl⟩ (P _ [s.heap.objs.size] _ (.grow S ⟨rfl,rfl⟩ gr) ⟨_,t,us,m,rfl,rfl,hn,⟨_,get?_push_size _ rfl,rfl,rfl⟩,gr _ _ ht,hz,vs.keep' (VR.keep λa us n e z=>⟨gr _ _ e,z⟩)⟩ (by simpa using nf))
 |bytes b=>
  apply a8 hx λt z1z=>?_;clear hx;subst z1z;apply KBw.pyIter_bytes (P _ [s.heap.objs.size] _ (.grow S ⟨rfl,rfl⟩ λb o e=>get?_push_of_some _ e) ⟨_,t,rfl,rfl,hn,_,get?_push_size _ rfl,rfl,rfl⟩ (by simpa using nf))
 |_=>exact nS hc
theorem sD {e:Expr} {Q:AI->AH->Prop} (h:aC W n e env Z H λv H=>(∃o,bU H (.seq v) 0=some o)∧Q (.seq v) H):iS W n e env Z H Q:=λA s R E hr S er P=>
 h A s _ E hr S er λv u s1 H1 hx a q=>gN a.st hx q.1 λit fp s2 b x hf=>P it (.seq v) fp s1 H1 s2 H1 a b x hf q.2
theorem qI (G:Gd W K) {p pos:Pos} {e:Expr} {sc:av} {Q:AI->AH->Prop} (ag:bR env sc) (hg:ax sc gG=true) (hst:bG e=false)
  (h:aC W n e env Z H λv H=>(∃o,bU H (.enum v) 0=some o)∧(∃a,v=.ref a)∧Q (.enum v) H):iS W n (.Call (.Name gG p) [e] [] pos) env Z H Q:=λA s R E hr S er P=>by
 apply br (fy G ag hg S er G.enumOK (iZ (P:=λ_=>True) (by simp[aA,hst]) gq (dO.cons hst (Q:=λvs H=>∃v,vs=[v]∧(∃o,bU H (.enum v) 0=some o)∧(∃a,v=.ref a)∧Q (.enum v) H)
  (aC.mono h λv H' q=>dO.nil ⟨v,rfl,q.1,q.2,q.3⟩) pos A s _ E hr S er λvs us s1 H1 x a q=>⟨trivial,?_⟩)))
 obtain⟨v,rfl,⟨o,ho⟩,⟨l,rfl⟩,q⟩:=q;simp only[dM,c8,bv]at x;apply cq x λ_ _ z1z z2z z3z=>?_;clear x;subst z1z;subst z2z;subst z3z;have ho:=map_eq_some_iff.mp ho;apply ad ho λxs hc _=>?_;clear ho;apply a8 (cV hc) λf e=>?_;apply bb (ar a.st e) λus m h1 v1=>?_;apply call_enumerate_list (items:=us) ⟨_,h1,rfl,m,rfl⟩ λh' he hit sz k=>wpAny_pyIter_enum he ?_;have hn:=a.st.none_of_ge (le_refl s1.heap.objs.size);have hn':=a.st.none_of_ge (le_succ s1.heap.objs.size);apply P _ (.enum (.ref l)) [s1.heap.objs.size+1,s1.heap.objs.size] s1 H1 _ H1 a (.grow a.st ⟨rfl,rfl⟩ k) ⟨_,_,_,rfl,rfl,Nat.succ_ne_self _,hn',hn,he,hit⟩ (λb hb=>?_) q;simp only[mem_cons,not_mem_nil,or_false]at hb;rcases hb with rfl|rfl<;>exact fV (by lia)
theorem oJ (G:Gd W K) {p pos:Pos} {e:Expr} {sc:av} {Q:AI->AH->Prop} (ag:bR env sc) (hg:ax sc ee=true) (hst:bG e=false)
  (h:aC W n e env Z H λv H=>∃i,v=.int i∧0<=i∧i<=1000000∧Q (.range i) H):iS W n (.Call (.Name ee p) [e] [] pos) env Z H Q:=λA s R E hr S er P=>by
 apply br (fy G ag hg S er G.rangeOK (iZ (P:=λ_=>True) (by simp[aA,hst]) gq (dO.cons hst (Q:=λvs H=>∃i,vs=[.int i]∧0<=i∧i<=1000000∧Q (.range i) H)
  (aC.mono h λv H' q=>dO.nil (by obtain⟨i,rfl,q,q',q''⟩:=q;exact⟨i,rfl,q,q',q''⟩)) pos A s _ E hr S er λvs us s1 H1 x a q=>⟨trivial,?_⟩)))
 obtain⟨i,rfl,h0,h1,q⟩:=q;simp only[bQ,c8,bv]at x;apply cq x λ_ _ z1z z2z z3z=>a8 z2z λt z4z=>?_;clear x z2z;subst z1z;subst z3z;subst z4z;apply call_range_1 ?_;apply wpAny_pyIter_range (IsRange.new ..) (small_one (by decide) (by decide) (Int.le_trans (by decide) h0) (Int.lt_of_le_of_lt h1 (by decide))) ?_;have gr:∀b o,s1.heap.get? b=some o->((s1.heap.push {cls:=.type "range",data:=.fields #[.int 0 s1.toks,.int i t,.int 1 (s1.toks+1)]}).push {cls:=.type "range_iterator",data:=.fields #[rawInt 0,rawInt (Builtin.Range.rangeSize 0 i 1),rawInt 1]}).get? b=some o:=λb o e=>get?_push_of_some _ (get?_push_of_some _ e);have sz:s1.heap.objs.size<=(s1.heap.push {cls:=.type "range",data:=.fields #[.int 0 s1.toks,.int i t,.int 1 (s1.toks+1)]}).objs.size:=by simp only[size_push];exact le_succ _
 apply P _ (.range i) [_] s1 H1 _ H1 a (.grow a.st ⟨rfl,rfl⟩ gr) ⟨_,rfl,rfl,a.st.none_of_ge sz,?_⟩ (λb hb=>?_) q
 ·have e:Builtin.Range.rangeSize 0 i 1=i-((0:Nat):Int):=by
   rw[rangeSize_one];split<;>simp<;>lia
  apply rwR e ?_;exact get?_push_size _ rfl
 ·obtain rfl:=mS hb;exact fV sz
theorem sy (G:Gd W K) {p pos:Pos} {e g:Expr} {sc:av} {Q:AI->AH->Prop} (ag:bR env sc) (hg:ax sc kL=true) (hst:bG e=false) (hst':bG g=false)
  (h:aC W n e env Z H λv H=>aC W n g env Z H λu H=>(E5 λa b f f' xs=>∃ ys, v=.ref a∧u=.ref b∧H a=some (f,.list xs)∧H b=some (f',.list ys))∧∀r,H r=none->Q (.zip v u r) (H.set r .opq)):iS W n (.Call (.Name kL p) [e,g] [] pos) env Z H Q:=λA s R E hr S er P=>by
 apply br (fy G ag hg S er G.zipOK (iZ (P:=λ_=>True) (by simp[aA,hst,hst']) gq (dO.cons hst (Q:=λvs H=>E2 λv u=>vs=[v,u]∧(E5 λa b f f' xs=>∃ ys, v=.ref a∧u=.ref b∧H a=some (f,.list xs)∧H b=some (f',.list ys))∧∀r,H r=none->Q (.zip v u r) (H.set r .opq))
  (aC.mono h λv H' q=>dO.cons hst' (aC.mono q λu H'' q=>dO.nil ⟨v,u,rfl,q.1,q.2⟩)) pos A s _ E hr S er λvs us s1 H1 x a q=>⟨trivial,?_⟩)))
 obtain⟨v,u,rfl,⟨l,l',f,f',xs,ys,rfl,rfl,e1,e2⟩,q⟩:=q;simp only[dM,c8,bv]at x;apply cq x λ_ _ z1z z2z z3z=>cq z3z λ_ _ z4z z5z z6z=>?_;clear x z3z;subst z1z;subst z2z;subst z4z;subst z5z;subst z6z;apply bb (ar a.st e1) λus m h1 v1=>?_;apply bb (ar a.st e2) λvs m' h2 v2=>?_;apply call_zip_2 (xs:=us) (ys:=vs) ⟨_,h1,rfl,m,rfl⟩ ⟨_,h2,rfl,m',rfl⟩ λh' hz hTI hTO i1 i2 sz k=>wpAny_pyIter_zip hz ?_;have nn:∀j,H1 (s1.heap.objs.size+j)=none:=λj=>a.st.none_of_ge (le_add_right s1.heap.objs.size j);apply bH (St.ET a.st k (r:=s1.heap.objs.size+3) (le_add_right s1.heap.objs.size 3) ⟨_,_,hTO⟩) λhn S' kp=>?_;have st:∀j,j≠3->H1.set (s1.heap.objs.size+3) .opq (s1.heap.objs.size+j)=none:=λj hj=>(AH.EQ H1 _ (λz=>hj (Nat.add_left_cancel z))).trans (nn j);apply P _ (.zip (.ref l) (.ref l') (s1.heap.objs.size+3)) [s1.heap.objs.size+4,s1.heap.objs.size,s1.heap.objs.size+1,s1.heap.objs.size+3] s1 H1 _ _ a ⟨S',kp,⟨rfl,rfl⟩⟩
  ⟨_,s1.heap.objs.size+2,s1.heap.objs.size,s1.heap.objs.size+1,rfl,rfl,?_,st 4 (by decide),st 0 (by decide),st 1 (by decide),st 2 (by decide),hz,hTI,i1,i2⟩ (λb hb=>?_) (q _ hn)
 ·simp only[nodup_cons,mem_cons,not_mem_nil,or_false,not_or,nodup_nil,and_true,not_false_eq_true];have k1:∀i j:Nat,i≠j->¬(s1.heap.objs.size+i=s1.heap.objs.size+j):=λi j h z=>h (Nat.add_left_cancel z);exact⟨⟨k1 4 0 (by decide),k1 4 1 (by decide),k1 4 3 (by decide),k1 4 2 (by decide)⟩,⟨k1 0 1 (by decide),k1 0 3 (by decide),k1 0 2 (by decide)⟩,⟨k1 1 3 (by decide),k1 1 2 (by decide)⟩,k1 3 2 (by decide)⟩
 ·simp only[mem_cons,not_mem_nil,or_false]at hb;rcases hb with rfl|rfl|rfl|rfl<;>exact fV (by lia)
end
end
section
noncomputable def cX (env:Env) (l:List (Str × NameKind)) (acc:List (Str × Addr)):List (Str × Addr):=List.rec (motive:=λ_=>List (Str × Addr)->List (Str × Addr)) (λacc=>acc)
 (λp _ ih acc=>ih (if p.2==.free then(p.1,(env.cells.lookup p.1).getD 0)::acc else acc)) l acc
theorem BK {env z0}: cX env [] z0=z0:=rfl
theorem mU {env z0 n k r}: cX env ((n,k)::r) z0 =
 cX env r (if (k==NameKind.free)=true then(n,Option.getD (List.lookup n (Env.cells env)) 0)::z0 else z0):=rfl
theorem gJ {scope:Scope} {env:Env} (h:∀p∈scope.names,p.2=.free->∃c,env.cells.lookup p.1=some c):closureFor scope env=pure (cX env scope.names []):=by
 dsimp only[closureFor];have key:∀(l:List (Str × NameKind)) (acc:List (Str × Addr)),(∀p∈l,p.2=.free->∃c,env.cells.lookup p.1=some c)->
   (forIn l acc (λx r=>if (x.2==NameKind.free)=true then do let a <-cellOf env x.1;pure (ForInStep.yield ((x.1,a)::r))else pure (ForInStep.yield r)):Sem (List (Str × Addr)))=pure (cX env l acc):=by
  intro l
  induction l with
  |nil=>intro acc _;rfl
  |cons p l ih=>
   intro acc hp;obtain⟨n,k⟩:=p;simp only[List.forIn_cons,mU];by_cases hk:(k==NameKind.free)=true
   ·apply a8 (hp (n,k) (.head _) (by simpa using hk)) λc hc=>?_;have e:cellOf env n=pure c:=by unfold cellOf;exact rwL hc rfl
    simp only[hk,if_true,e,hc,getD_some,pure_bind];exact ih _ λp hp'=>hp p (.tail _ hp')
   ·simp only[hk,if_false,false_eq_true,pure_bind];exact ih _ λp hp'=>hp p (.tail _ hp')
 have:=key scope.names [] h
 first|apply rwL this ?_;rfl|simp only[this];rfl
theorem iY (env:Env) (y:Str):∀(l:List (Str × NameKind)) (acc:List (Str × Addr)) (c:Addr),(∀p∈l,p.2=.free->∃c,env.cells.lookup p.1=some c)->(∀c,acc.lookup y=some c->env.cells.lookup y=some c)->(cX env l acc).lookup y=some c->env.cells.lookup y=some c:=by
 intro l
 induction l with
 |nil=>
  intro acc c _ ha h;exact ha c h
 |cons p0 r ih=>
  obtain⟨n,k⟩:=p0;intro acc c hp ha h;simp only[mU]at h;apply ih _ c (λp hp'=>hp p (.tail _ hp')) (λc' hc=>?_) h;by_cases hk:(k==NameKind.free)=true
  ·rw[if_pos hk]at hc;by_cases hn:y=n
   ·obtain rfl:=hn.symm;apply a8 (hp (n,k) (.head _) (by simpa using hk)) λd hd=>?_;simp only[lookup_cons,beq_self_eq_true,Option.some.injEq]at hc;simp only[hd]at hc ⊢;simpa using hc
   ·(have hc:=hc;rw[lookup_cons,beq_eq_false_iff_ne.mpr hn]at hc);exact ha c' hc
  ·rw[if_neg hk]at hc;exact ha c' hc
theorem o9 (env:Env) (y:Str) (c:Addr) (hc:env.cells.lookup y=some c):∀(l:List (Str × NameKind)) (acc:List (Str × Addr)),((y,.free)∈l\/acc.lookup y=some c)->(cX env l acc).lookup y=some c:=by
 intro l
 induction l with
 |nil=>
  intro acc h;apply h.elim (λh=>?_) λh=>?_
  ·simp at h
  ·exact h
 |cons p0 r ih=>
  obtain⟨n,k⟩:=p0;intro acc h;simp only[mU];apply ih _ ?_;by_cases hk:(k==NameKind.free)=true
  ·apply rwL (if_pos hk) ?_;by_cases hn:y=n
   ·subst hn;exact .inr (by rw[lookup_cons,beq_self_eq_true,hc];rfl)
   ·apply h.elim (λh=>?_) λh=>?_
    ·apply(mC h).elim (λe=>?_) λh=>?_
     ·injection e with e;exact absurd e hn
     ·exact .inl h
    ·exact .inr (by apply rwL lookup_cons (rwL (beq_eq_false_iff_ne.mpr hn) ?_);exact h)
  ·apply rwL (if_neg hk) ?_;apply h.elim (λh=>?_) λh=>?_
   ·apply(mC h).elim (λe=>?_) λh=>?_
    ·injection e with e1 e2;subst e2;exact absurd rfl hk
    ·exact .inl h
   ·exact .inr h
theorem dE {env:Env} {y:Str}:∀(names:List (Str × NameKind)),
  (names.map λ(n,k)=>if (k==NameKind.free&&env.scope.kind==.function&&env.kindOf n==some .cell)then(n,NameKind.cell)else(n,k)).lookup y =
   (names.lookup y).map λk=>if (k==NameKind.free&&env.scope.kind==.function&&env.kindOf y==some .cell)then .cell else k:=by
 intro names
 induction names with
 |nil=>
  exact rfl
 |cons p0 r ih=>
  obtain⟨n,k⟩:=p0;have ih:=ih;apply rwL map_cons ?_;by_cases hy:y=n
  ·subst hy;by_cases hc:(k==NameKind.free&&env.scope.kind==.function&&env.kindOf y==some .cell)=true
   ·simp only[hc,if_true,lookup_cons,beq_self_eq_true,map_some]
   ·simp only[hc,lookup_cons,beq_self_eq_true,map_some,false_eq_true,if_false]
  ·have hy':(y==n)=false:=beq_eq_false_iff_ne.mpr hy;by_cases hc:(k==NameKind.free&&env.scope.kind==.function&&env.kindOf n==some .cell)=true
   ·simp only[hc,if_true,lookup_cons,hy'];exact ih
   ·simp only[hc,lookup_cons,hy',false_eq_true,if_false];exact ih
theorem qL (y:Nat):nm y≠ofString ".0":=by
 have h1:ofString ".0"∉NS:=by decide +kernel
 unfold nm;by_cases hy:y<NS.length
 ·apply rwL (getElem?_eq_getElem hy) ?_;intro e;exact h1 (e▸getElem_mem hy)
 ·apply rwL (getElem?_eq_none (le_of_not_lt hy)) ?_;intro e;have:(ofString ".0").cps=#[0,y]:=by apply rwR e ?_;rfl
  have e2:(ofString ".0").cps=#[46,48]:=by decide +kernel
  simp only[e2]at this;lia
structure CompOk (sc:av) (scope:Scope) (x:Str):Prop where
 kind:scope.kind=.function
 loc:scope.names.lookup x=some .local
 all:∀p∈scope.names,((p.2=.local∧(p.1=x\/p.1=ofString ".0"))\/p.2=.globalImplicit\/(p.2=.free∧sc.lookup p.1=some .cell))∧scope.names.lookup p.1=some p.2
theorem pc {sc:av} {scope:Scope} {x:Str} (h:mQ sc scope x=true):CompOk sc scope x:=by
 simp only[mQ,and_eq_true,beq_iff_eq,all_eq_true,or_eq_true]at h;apply⟨h.1.1.1,h.1.1.2,λp hp=>?_⟩;apply af (h.2 p hp) λh1 h2=>?_;apply⟨?_,h2⟩;rcases h1 with(h1|h1)|h1
 ·exact .inl h1
 ·exact .inr (.inl h1)
 ·exact .inr (.inr h1)
theorem ah {U O:Type} [BEq U] [LawfulBEq U] {y:U} {k:O}:∀{l:List (U × O)},l.lookup y=some k->(y,k)∈l:=by
 intro l
 induction l with
 |nil=>
  intro h;exact nS h
 |cons p0 r ih=>
  obtain⟨n,b⟩:=p0;intro h;by_cases hy:y=n
  ·subst hy;rw[lookup_cons,beq_self_eq_true]at h;cases h;exact .head _
  ·rw[lookup_cons,beq_eq_false_iff_ne.mpr hy]at h;exact .tail _ (ih h)
section
variable {W:Wd} {K:Frag} {n:Nat} {env:Env} {Z:am} {H:AH} {h h':Heap} {fp:List Addr} {sc:av} {scope:Scope} {x:Str}
theorem CompOk.ES (C:CompOk sc scope x) (ag:bR env sc) (er:EnvR W env H h Z) (cl:List (Str × Addr)) (L:Addr):bR (compEnvC scope cl L env) scope.names:=by
 intro y k hk;have e:(compEnvC scope cl L env).kindOf y=(scope.names.lookup y).map λk=>if (k==NameKind.free&&env.scope.kind==.function&&env.kindOf y==some .cell)then .cell else k:=dE scope.names;simp only[hk]at e;cases k with
 |«local»=>exact e
 |cell=>
  have:=(C.all _ (ah hk)).1;rcases this with⟨h,_⟩|h|⟨h,_⟩<;>ac_nf
 |free=>
  have:=(C.all _ (ah hk)).1;rcases this with⟨h,_⟩|h|⟨_,h⟩
  ·ac_nf
  ·ac_nf
  ·apply rwL e (rwL er.kind (rwL (ag y _ h) ?_));exact .inl rfl
 |globalImplicit=>exact e
 |_=>trivial
theorem CompOk.free (C:CompOk sc scope x) (ag:bR env sc) (er:EnvR W env H h Z):∀p∈scope.names,p.2=.free->env.kindOf p.1=some .cell∧∃c,env.cells.lookup p.1=some c:=λp hp hf=>by
 rcases(C.all p hp).1 with⟨h,_⟩|h|⟨_,h⟩
 ·simp only[h]at hf;ac_nf
 ·simp only[h]at hf;ac_nf
 ·exact⟨ag _ _ h,er.has _ (ag _ _ h)⟩
theorem ez {xi y:Nat} {v:AV}:∀{Z:am},(Z.filter λp=>p.1 != xi).lookup y=some v->y≠xi∧Z.lookup y=some v:=by
 intro Z
 induction Z with
 |nil=>
  intro h;exact nS h
 |cons p0 r ih=>
  obtain⟨z,w⟩:=p0;intro h;by_cases hz:z=xi
  ·rw[List.filter_cons_of_neg (by simpa using hz)]at h;apply af (ih h) λh1 h2=>?_;exact⟨h1,by apply rwL (aq (by exact rwL hz h1)) ?_;exact h2⟩
  ·rw[filter_cons_of_pos (by simpa using hz)]at h;by_cases hy:y=z
   ·subst hy;simp only[aB]at h ⊢;exact⟨hz,h⟩
   ·simp only[aq hy]at h ⊢;exact ih h
theorem kP {xi y:Nat} {v:AV} (hy:y≠xi):∀{Z:am},Z.lookup y=some v->(Z.filter λp=>p.1 != xi).lookup y=some v:=by
 intro Z
 induction Z with
 |nil=>
  intro h;exact nS h
 |cons p0 r ih=>
  obtain⟨z,w⟩:=p0;intro h;by_cases hyz:y=z
  ·subst hyz;apply rwL (filter_cons_of_pos (by simpa using hy)) (rwL aB ?_);rw[aB]at h;exact h
  ·rw[aq hyz]at h;by_cases hz:z=xi
   ·exact rwL (List.filter_cons_of_neg (by simpa using hz)) (ih h)
   ·apply rwL (filter_cons_of_pos (by simpa using hz)) (rwL (aq hyz) ?_);exact ih h
theorem CompOk.envR (C:CompOk sc scope x) (ag:bR env sc) {xi:Nat} (hx:nm xi=x) (er:EnvR W env H h Z) {L:Addr} (hL:H L=none∧W.B.get? L=none) (hne:¬iw env L) {m:Str->Option Value} (hn:h.Ns L m) :
  EnvR W (compEnvC scope (cX env scope.names []) L env) H h (Z.filter λp=>p.1 != xi):=by
 have fr:=λp hp hf=>C.free ag er p hp hf;have hfr:∀p∈scope.names,p.2=.free->∃c,env.cells.lookup p.1=some c:=λp hp hf=>(fr p hp hf).2;have cl1:∀y c,(cX env scope.names []).lookup y=some c->env.cells.lookup y=some c:=λy c=>iY env y scope.names [] c hfr (by intro c h;exact nS h);have kd:∀y,(compEnvC scope (cX env scope.names []) L env).kindOf y=(scope.names.lookup y).map λk=>if (k==NameKind.free&&env.scope.kind==.function&&env.kindOf y==some .cell)then .cell else k:=λy=>dE scope.names;have back:∀y,((compEnvC scope (cX env scope.names []) L env).kindOf y=some .cell\/(compEnvC scope (cX env scope.names []) L env).kindOf y=some .free)->(y,NameKind.free)∈scope.names:=by
  intro y hy;rw[kd]at hy;cases hk:scope.names.lookup y with
  |none=>simp only[hk]at hy;apply hy.elim (λh=>?_) λh=>?_<;>exact nS h
  |some k=>
   simp only[hk]at hy;have mem:=ah hk;rcases(C.all _ mem).1 with⟨h,_⟩|h|⟨h,_⟩
   ·dsimp only at h;subst h;apply hy.elim (λh=>?_) λh=>?_<;>cases h
   ·dsimp only at h;subst h;apply hy.elim (λh=>?_) λh=>?_<;>cases h
   ·dsimp only at h;subst h;exact mem
 apply⟨C.kind,er.glob,er.blt,hL,λy hy=>?_,λy c hc=>?_,λy z c h1 h2=>er.inj y z c (cl1 _ _ h1) (cl1 _ _ h2),m,hn,λy v hv=>⟨λhk=>?_,λhk=>?_⟩⟩
 ·have mem:=back y (.inl hy);apply a8 (hfr _ mem rfl) λc hc=>?_;exact⟨c,o9 env y c hc _ _ (.inl mem)⟩
 ·(apply jh (er.cells y c (cl1 y c hc)) λz1 z2 z3 z1z=>?_;(apply a8 z1z λv z4=>?_;clear z1z));exact⟨z1,z2,λe=>hne (by have e:c=L:=e;exact rwR e (.inr ⟨y,cl1 y c hc⟩)),v,z4⟩
 ·exfalso;apply af (ez hv) λhxi hl=>?_;simp only[kd]at hk;cases hk':scope.names.lookup (nm y)with
  |none=>simp only[hk']at hk;exact nS hk
  |some k=>
   simp only[hk']at hk;rcases(C.all _ (ah hk')).1 with⟨h1,h2|h2⟩|h1|⟨h1,_⟩
   ·rw[<-hx]at h2;exact hxi (fS h2)
   ·exact qL y h2
   ·dsimp only at h1;subst h1;cases hk
   ·dsimp only at h1;subst h1;simp only[map_some,Option.some.injEq]at hk;split at hk<;>ac_nf
 ·apply af (ez hv) λhxi hl=>?_;have mem:=back _ hk;apply af (fr _ mem rfl) λkc z1z=>?_;(apply a8 z1z λc hc=>?_;clear z1z);apply ad er.vals λm' _ vals=>?_;apply cq ((vals y v hl).2 (.inl kc)) λc' u h1 h2 h3=>?_;exact⟨c',u,o9 env _ c' h1 _ _ (.inl mem),h2,h3⟩
end
end
section
section
variable {W:Wd} {K:Frag} {n:Nat} {env:Env} {Z:am} {H:AH} {h h':Heap} {fp:List Addr} {sc:av} {scope:Scope} {x:Str}
def uF (W:Wd) (n:Nat) (ifs:List Expr) (env:Env) (Z:am) (H:AH) (Q:Bool->AH->Prop):Prop:=
 ∀(A:Around) (s:Shared) (R:Bool->Shared->Prop) (E:Value->Shared->Prop),dN n A->W.St H s.heap->EnvR W env H s.heap Z->(∀t s' H',Aft W H s H' s'->Q t H'->R t s')->
  wpAny (model W.prog W.w) A (forIn ifs true λc r=>if r=true then do let ok <-isTrue c env (eval c env);pure (ForInStep.yield ok)else pure (ForInStep.yield r)) R E s
theorem sw {Q:Bool->AH->Prop} (q:Q true H):uF W n [] env Z H Q:=λA s R E hr S er P=>wpAny_tests_nil (P true s H (.refl S) q)
theorem sv {c:Expr} {Q:Bool->AH->Prop} (h:fA W n c env Z H Q):uF W n [c] env Z H Q:=λA s R E hr S er P=>wpAny_tests_one (h A s R E hr S er P)
structure Gath (W:Wd) (H₀:AH) (sb:Shared) (D C:Addr) (out:List AV) (H':AH) (s':Shared):Prop where
 st:W.St H' s'.heap
 kp:Kp nX H₀ sb.heap H' s'.heap
 same:Same sb s'
 list:E2 λus c=>s'.heap.get? D=some {cls:=.type "list",data:=.seq us c}∧bK H' s'.heap out us.toList
 hD:H' D=none∧W.B.get? D=none∧sb.heap.get? D=none
 hC:H' C=none∧W.B.get? C=none∧sb.heap.get? C=none
 hDC:D≠C
 ns:∃m,s'.heap.Ns C m
theorem Gath.done {H₀ H':AH} {sb s':Shared} {D C:Addr} {out:List AV} (g:Gath W H₀ sb D C out H' s') (k:∀b o,b≠C->s'.heap.get? b=some o->h'.get? b=some o) :
  Aft W H₀ sb (H'.set D (.list out)) {s' with heap:=h'}:=by
 apply bb g.list λus c hD v=>?_;have off:jb [C] s'.heap h':=λb o m e=>k b o (λz=>m (by simp only[z];exact .head _)) e;have apt:uJ W H' s'.heap [C]:=λa ha=>by
  obtain rfl:=ms ha;apply⟨g.hC.2,.inl ⟨g.hC.1,λus n e=>?_⟩⟩;apply a8 g.ns λm z1z=>a8 z1z λo z2z=>a8 z2z λes z3z=>ad z3z λep ho z4z=>af z4z λhd _=>?_;clear z1z z2z z3z z4z;simp only[e]at ho;obtain rfl:=sI ho;ac_nf
 have prs:zm H' [C] h':=λa ha q=>by obtain rfl:=ms ha;simp only[g.hC.1]at q;exact nS q
 have S1:=g.st.off apt off prs;have kp1:=g.kp.off off (by simpa using g.hC.3);have hD':h'.get? D=some {cls:=.type "list",data:=.seq us c}:=k _ _ g.hDC hD;have v1:bK H' h' out us.toList:=v.keep' (VR.off apt off);have S2:=S1.take (o₁:=.list out) g.hD.1 g.hD.2 ji (λus n e=>by simp only[hD']at e;injection e with e;injection e with e;exact cb e) λkv=>⟨us,c,hD',v1.keep' kv⟩;apply⟨S2,λa o e=>?_,⟨g.same.os,g.same.gens⟩⟩;have hne:a≠D:=λz=>by simp only[z,g.hD.3]at e;exact nS e
 apply⟨λz=>?_,λx z=>?_,(kp1 a o e).3⟩
 ·apply af ((kp1 a o e).1 z) λz' q=>?_;exact⟨(AH.EQ H' _ hne).trans z',q⟩
 ·apply af ((kp1 a o e).2 x z) λz' q=>?_;exact⟨(AH.EQ H' _ hne).trans z',q⟩
theorem dh.dom {v:AV} {it:Value} {i:Nat} (x:dh (.seq v) it fp i H h):∀a∈fp,∃o,h.get? a=some o:=by
 cases v with
 |ref a=>
  apply pS x λI _ z1z _ z2z=>ad z2z λo ho _=>?_;clear x z2z;subst z1z;intro b hb;obtain rfl:=mS hb;exact⟨o,ho⟩
 |tup xs=>
  obtain⟨I,t,us,m,_,rfl,_,⟨o,ho,_⟩,_⟩:=x;intro b hb;obtain rfl:=mS hb;exact⟨o,ho⟩
 |bytes b=>
  apply vT x λI t _ z1z _ z2z=>ad z2z λo ho _=>?_;clear x z2z;subst z1z;intro b hb;obtain rfl:=mS hb;exact⟨o,ho⟩
 |_=>exact x.elim
theorem dh.offD {v:AV} {it:Value} {i:Nat} {D:Addr} (x:dh (.seq v) it fp i H h) (hD:D∉fp) (ap:uJ W H h [D]) (k:jb [D] h h'):dh (.seq v) it fp i H h':=by
 have one:∀a∈fp,∀o,h.get? a=some o->h'.get? a=some o:=λa ha o e=>k a o (λz=>hD (mS z▸ha)) e;cases v with
 |ref a=>
  apply pS x λI e1 z1z hn z2z=>ad z2z λo ho r=>?_;clear x z2z;subst z1z;exact⟨I,e1,rfl,hn,o,one I (.head _) o ho,r⟩
 |tup xs=>
  apply zy x λI t us m e1 z1z hn z2z ht z3z=>ad z2z λo ho r=>af z3z λhnt vs=>?_;clear x z2z z3z;subst z1z;apply⟨I,t,us,m,e1,rfl,hn,⟨o,one I (.head _) o ho,r⟩,k t _ (λz=>?_) ht,hnt,vs.keep' (VR.off ap k)⟩;obtain rfl:=mS z;apply((ap t (by assumption)).2).elim (λq=>?_) λq=>?_
  ·exact q.2 _ _ ht
  ·rw[hnt]at q;exact nS q
 |bytes b=>
  apply vT x λI t e1 z1z hn z2z=>ad z2z λo ho r=>?_;clear x z2z;subst z1z;exact⟨I,t,e1,rfl,hn,o,one I (.head _) o ho,r⟩
 |_=>exact x.elim
theorem lY {v:AV} {it:Value} {i:Nat} {A:Around} {s:Shared} {R E:Value->Shared->Prop} (x:dh (.seq v) it fp i H s.heap) (h:R it s):wpAny (model W.prog W.w) A (pyIter it) R E s:=by
 cases v with
 |ref a=>
  apply pS x λI z1z z2z hn hit=>?_;clear x;subst z1z;subst z2z;exact wpAny_pyIter_listiter hit h
 |tup xs=>
  obtain⟨I,t,us,m,rfl,rfl,hn,⟨o,ho,hc,hd⟩,_⟩:=x;have hT:s.TypeIs (.ref I) "tuple_iterator":=⟨o,ho,hc⟩;apply wpAny_pyIter_slot hT F.slot_tuple_iterator_iter (wpAny_call_entry F.slot_tuple_iterator_iter hT F.entry_tuple_iterator_iter ?_ (F.args_tuple_iterator_iter_1 _));show wpAny _ _ (ret (.ref I)) _ _ s;exact wpAny_pure ⟨_,rfl,"tuple_iterator",_,hT,F.slot_tuple_iterator_next.lookup,h⟩
 |bytes b=>
  apply vT x λI t z1z z2z hn hit=>?_;clear x;subst z1z;subst z2z;exact KBw.pyIter_self hit h
 |_=>exact x.elim
theorem uO {M:Model} {A:Around} {E:Value->Shared->Prop} {s:Shared} {U:Type} {t:Expr} {it u:Value} {m:Sem U} {Q:U->Shared->Prop} (ht:wj t=true) (h:wpAny M A (letOwnedTupleGo t it u >>= λ_=>m) Q E s):wpAny M A m Q E s:=by
 rw[qQ ht]at h;exact h
theorem lI {elt iter:Expr} {px pos:Pos} {ifs:List Expr} {A:Around} {E:Value->Shared->Prop} {RR:Value->Addr->Result->Shared->Prop} {v:AV} {it:Value} {H₀ H₁:AH} {sb s₁:Shared} {xi N:Nat} {I:Nat->List AV->AH->Prop} {Q:AV->AH->Prop}
  (hr:dN n A) (C:CompOk sc scope x) (ag:bR env sc) (hx:nm xi=x) (Sb:W.St H₀ sb.heap) (er:EnvR W env H₀ sb.heap Z) (a:Aft W H₀ sb H₁ s₁) (hit:dh (.seq v) it fp 0 H₁ s₁.heap) (hfp:∀a∈fp,sb.heap.get? a=none)
  (hok:AI.ok1 (.seq v)) (hN:N<=cap) (h0:I 0 [] H₁)
  (step:∀L i out H,I i out H->i<=N∧out.length<=i∧∃o,bU H (.seq v) i=some o∧match o with
   |none=>∀r,H r=none->Q (.ref r) (H.set r (.list out))
   |some u=>uF W n ifs (compEnvC scope (cX env scope.names []) L env) ((xi,u)::Z) H λt H=>(t=true->aC W n elt (compEnvC scope (cX env scope.names []) L env) ((xi,u)::Z) H λy H=>I (i+1) (out++[y]) H)∧(t=false->I (i+1) out H))
  (hRR:∀D L out H' s',Gath W H₀ sb D L out H' s'->Q (.ref D) (H'.set D (.list out))->RR (.ref D) L (.ok .next) s') :
  wpAny (model W.prog W.w) A (newList []) (λacc s₃=>wpAny (model W.prog W.w) A (newFunctionEnv scope env.globals (cX env scope.names []) [] env.qual none .none (some env)) (λcenv s₄=>
   codeAny (model W.prog W.w) A (.compStart (.ListComp elt [⟨.Name x px,iter,ifs,0⟩] scope pos) 0 it acc {cenv with scope:=relabel scope env}) (RR acc cenv.locals) s₄) E s₃) E s₁:=by
 have hcell:∀y∈scope.names,y.2≠.cell:=λy hy h=>by rcases(C.all y hy).1 with⟨z,_⟩|z|⟨z,_⟩<;>rw[h]at z<;>ac_nf
 apply wpAny_newObj_type (hd:=by size_fits) (wpAny_newFunctionEnv hcell (by intro y hy;simp at hy) (λh₁ hns₁ hsb₁=>?_) C.kind);dsimp only at hns₁ hsb₁ ⊢;generalize hH2:s₁.heap.push {cls:=.type "list",dict:=none,data:=.seq ([]:List Value).toArray}=H2 at hns₁ hsb₁ ⊢;have hC2:H2.objs.size=s₁.heap.objs.size+1:=by simp only[<-hH2,size_push]
 generalize hLe:H2.objs.size=L at hns₁ hsb₁ hC2 ⊢;generalize hDe:s₁.heap.objs.size=D at hC2 ⊢;have hDL:D≠L:=by exact rwL hC2 (ne_of_lt (Nat.lt_succ_self _))
 have lt1:∀b o,s₁.heap.get? b=some o->b<D:=λb o e=>hDe▸lt_size e;have old:∀b o,s₁.heap.get? b=some o->h₁.get? b=some o:=λb o e=>
  hsb₁.extBut b o (by have:=lt1 b o e;exact rwL hC2 (ne_of_lt (lt_succ_of_lt this))) (get?_push_of_some _ (hH2▸get?_push_of_some _ e))
 have hacc:h₁.get? D=some {cls:=.type "list",data:=.seq #[]}:=hsb₁.extBut _ _ hDL (get?_push_of_some _ (hH2▸hDe▸get?_push_size _ rfl));have fresh:∀b,D<=b->sb.heap.get? b=none∧H₁ b=none∧W.B.get? b=none:=by
  intro b hb;have h1:s₁.heap.get? b=none:=fV (by exact rwL hDe hb);have h2:H₁ b=none:=a.st.none_of_ge (by exact rwL hDe hb);have h3:W.B.get? b=none:=by
   cases e:W.B.get? b with
   |none=>rfl
   |some o=>have:=(a.st.base _ _ e).1;rw[h1]at this;exact nS this
  apply⟨?_,h2,h3⟩;cases e:sb.heap.get? b with
  |none=>rfl
  |some o=>apply a8 ((a.kp b o e).3) λo' e3=>?_;rw[h1]at e3;exact nS e3
 apply bH (fresh D (le_refl _)) λfD1 fD2 fD3=>?_;apply bH (fresh L (by exact rwL hC2 (le_succ _))) λfL1 fL2 fL3=>?_;have a1:Aft W H₁ s₁ H₁ {s₁ with heap:=h₁,toks:=s₁.toks+([]:List (Str × Value)).length}:=.grow a.st ⟨rfl,rfl⟩ old;have frmIn:∀b,iw env b->∃o,sb.heap.get? b=some o:=er.dom;have hneL:¬iw env L:=λz=>by apply a8 (frmIn L z) λo e=>?_;rw[fL1]at e;exact nS e
 have fpD:D∉fp:=λz=>by apply a8 (hit.dom _ z) λo e=>?_;exact lt_irrefl _ (lt1 _ _ e)
 have fpL:L∉fp:=λz=>by apply a8 (hit.dom _ z) λo e=>?_;have:=lt1 _ _ e;rw[hC2]at this;exact lt_irrefl _ (Nat.lt_of_succ_lt this)
 have er1:EnvR W env H₁ h₁ Z:=(er.keep a.kp).keep a1.kp;have erC:=C.envR ag hx er1 (L:=L) ⟨fL2,fL3⟩ hneL hns₁;have hfrC:∀b,iw (compEnvC scope (cX env scope.names []) L env) b->b=L\/iw env b:=by
  rintro b (rfl|⟨y,hy⟩)
  ·exact .inl rfl
  ·have hfr:∀p∈scope.names,p.2=.free->∃c,env.cells.lookup p.1=some c:=λp hp hf=>(C.free ag er p hp hf).2;exact .inr (.inr ⟨y,iY env y scope.names [] b hfr (by intro c h;exact nS h) hy⟩)
 have fpC:∀b∈fp,¬iw (compEnvC scope (cX env scope.names []) L env) b:=λb hb z=>by
  rcases(hfrC b z).imp_left Eq.symm with rfl|z
  ·exact fpL hb
  ·apply a8 (frmIn b z) λo e=>?_;rw[hfp b hb]at e;exact nS e
 have DC:¬iw (compEnvC scope (cX env scope.names []) L env) D:=λz=>by
  rcases hfrC D z with z|z
  ·exact hDL z
  ·apply a8 (frmIn D z) λo e=>?_;rw[fD1]at e;exact nS e
 have fpB:∀b∈fp,W.B.get? b=none:=λb hb=>by
  cases e:W.B.get? b with
  |none=>rfl
  |some o=>have:=(Sb.base _ _ e).1;rw[hfp b hb]at this;exact nS this
 have notzip:∀v' w r,AI.seq v=AI.zip v' w r->H₁ r=some (false,AO.opq):=λ_ _ _ h=>by ac_nf
 have it1:dh (.seq v) it fp 0 H₁ h₁:=hit.keep a1.kp (gb _) (λ_ _=>id);have loop:codeAny (model W.prog W.w) A (.compLoop (.ListComp elt [⟨.Name x px,iter,ifs,0⟩] scope pos) 0 it (.ref D) (compEnvC scope (cX env scope.names []) L env)) (RR (.ref D) L) {s₁ with heap:=h₁,toks:=s₁.toks+([]:List (Str × Value)).length}:=by
  apply codeAny_compLoop_tests (λk s'=>E3 λi out H'=>k=N+1-i∧i<=N∧out.length<=i∧I i out H'∧Gath W H₀ sb D L out H' s'∧dh (.seq v) it fp i H' s'.heap ∧
   EnvR W (compEnvC scope (cX env scope.names []) L env) H' s'.heap (Z.filter λp=>p.1 != xi)) ?_ (N+1) ⟨0,[],H₁,rfl,zero_le _,le_refl _,h0,
    ⟨a1.st,a.kp.trans a1.kp,a.same.trans a1.same,⟨#[],0,hacc,by simp only[c8]⟩,⟨fD2,fD3,fD1⟩,⟨fL2,fL3,fL1⟩,hDL,_,hns₁⟩,it1,erC⟩
  rintro k s' ⟨i,out,H',rfl,hi,hlen,hI,g,it',erc⟩;apply bH (step L i out H' hI) λhi' hlen' z1z=>?_;(apply ad z1z λo hn st=>?_;clear z1z);apply pV hr.3 it' fpB g.st hn (.inl ⟨rfl,hok⟩) (target:=.Name x px) (λe s2 off sm=>?_) λu e w s2 hP=>?_
  ·subst e;have apt:uJ W H' s'.heap fp:=it'.apt fpB (λ_ _ _ h=>by ac_nf);have prs:zm H' fp s2.heap:=λb hb q=>by
    apply((apt b hb).2).elim (λz=>?_) λz=>?_
    ·simp only[z.1]at q;exact nS q
    ·exfalso;have:=it'.nil b hb;simp only[this]at q;exact nS q
   apply bb g.list λus c hD vs=>?_;apply a8 g.ns λm z1z=>?_;apply a8 z1z λoC z1z=>a8 z1z λes z2z=>ad z2z λep hoC rC=>?_;exact hRR D L out H' s2 ⟨g.st.off apt off prs,g.kp.off off hfp,g.same.trans sm,⟨us,c,off _ _ fpD hD,vs.keep' (VR.off apt off)⟩,g.hD,g.hC,hDL,m,oC,es,ep,off _ _ fpL hoC,rC⟩ (st D g.hD.1)
  ·subst e;apply uO rfl (wpAny_bind (hP _ _ λs3 it3 vw off prs sm=>?_));have apt:uJ W H' s'.heap fp:=it'.apt fpB (λ_ _ _ h=>by ac_nf);have S3:=g.st.off apt off prs;have er3:=erc.off apt off fpC;apply bb g.list λus c hD vs=>?_;have hD3:=off _ _ fpD hD;have vs3:=vs.keep' (VR.off apt off);have kp3:=g.kp.off off hfp;have kl:(compEnvC scope (cX env scope.names []) L env).kindOf x=some .local:=(CompOk.ES C ag er1 (cX env scope.names []) L) x _ C.loc;apply wpAny_assign_Name (kU (x:=xi) (v:=u) hx kl S3 er3 vw λs4 a4 er4=>?_);have so:=Kp.soL er3;have hL:∀b,(λa=>a=(compEnvC scope (cX env scope.names []) L env).locals) b->b=L:=λb e=>e;have hl2:∀y v',((xi,u)::Z).lookup y=some v'->(put (Z.filter λp=>p.1 != xi) xi u).lookup y=some v':=λy v' e=>by
    by_cases hy:y=xi
    ·obtain rfl:=hy.symm;simp only[aB]at e;rw[gP];exact e
    ·rw[aq hy]at e;exact rwL (gO _ _ hy) (kP hy e)
   have hl3:∀y v',(Z.filter λp=>p.1 != xi).lookup y=some v'->(put (Z.filter λp=>p.1 != xi) xi u).lookup y=some v':=λy v' e=>by
    exact rwL (gO _ _ (ez e).1) e
   have it4:=it3.keep a4.kp so (λb hb z=>fpL (by have:b=L:=z;exact rwR this hb));have hD4:=a4.kp.getX hD3 g.hD.1 (λz=>hDL z);have vs4:=vs3.keep' λv u=>VR.kp a4.kp so;have kp4:Kp nX H₀ sb.heap H' s4.heap:=λb o e=>by
    have hb:b≠L:=λz=>by simp only[z,fL1]at e;exact nS e
    apply⟨λz=>?_,λx z=>?_,?_⟩
    ·(apply af ((kp3 b o e).1 z) λz' z1z=>?_;(apply ad z1z λo' e' q=>?_;clear z1z));apply af (a4.kp.getX e' z' hb) λq1 q2=>?_;exact⟨z',o',q1,q⟩
    ·apply af ((kp3 b o e).2 x z) λz' e'=>?_;exact⟨((a4.kp b o e').2 x z').1,((a4.kp b o e').2 x z').2⟩
    ·apply a8 ((kp3 b o e).3) λo' e'=>?_;exact(a4.kp b o' e').3
   apply st A s4 _ _ hr a4.st (er4.congr hl2) λt s5 H5 a5 q5=>?_;have it5:=it4.keep a5.kp (gb _) (λ_ _=>id);have hD5:=a5.kp.get hD4.1 g.hD.1;have vs5:=vs4.keep' λv u=>VR.kp0 a5.kp;have er5:=er4.keep a5.kp;have hL5:H5 L=none:=er5.loc.1;cases t with
   |false=>
    apply ad er5.vals λm hm _=>?_;exact⟨N+1-(i+1),Nat.sub_lt_sub_left (lt_succ_of_lt (step L _ _ _ (q5.2 rfl)).1) (Nat.lt_succ_self i),i+1,out,H5,rfl,(step L _ _ _ (q5.2 rfl)).1,(step L _ _ _ (q5.2 rfl)).2,q5.2 rfl,
     ⟨a5.st,kp4.trans a5.kp,((g.same.trans sm).trans a4.same).trans a5.same,⟨us,c,hD5.1,vs5⟩,⟨hD5.2,g.hD.2,g.hD.3⟩,⟨hL5,g.hC.2,g.hC.3⟩,hDL,m,hm⟩,it5,er5.congr hl3⟩
   |true=>
    apply q5.1 rfl A s5 _ _ hr a5.st (er5.congr hl2) λy w5 s6 H6 vy a6 q6=>?_;have it6:=it5.keep a6.kp (gb _) (λ_ _=>id);have hD6:=a6.kp.get hD5.1 hD5.2;have vs6:=vs5.keep' λv u=>VR.kp0 a6.kp;have er6:=er5.keep a6.kp;have len:us.size<=sizeLine:=by
     have:=vs6.size;have h2:=c0 hN;lia
    apply append_at hD6.1 (λh7 sb7 hD7=>?_) len;have sq:=q6;have apD:uJ W H6 s6.heap [D]:=λb hb=>by
     obtain rfl:=ms hb;apply⟨g.hD.2,.inl ⟨hD6.2,λus' n' e=>?_⟩⟩;simp only[hD6.1]at e;injection e with e;injection e with e;exact cb e
    have offD:jb [D] s6.heap h7:=λb o hm e=>(sb7.2 b (λz=>hm (by simp only[z];exact .head _))).trans e;have prD:zm H6 [D] h7:=λb hb q=>by obtain rfl:=ms hb;simp only[hD6.2]at q;exact nS q
    have it7:dh (.seq v) it fp (i+1) H6 h7:=it6.offD fpD apD offD;have er7:=er6.off apD offD (λb hb z=>by obtain rfl:=ms hb;exact DC z);apply ad er7.vals λm hm _=>?_;apply bH (step L _ _ _ q6) λs1 s2' _=>?_;exact⟨N+1-(i+1),Nat.sub_lt_sub_left (lt_succ_of_lt s1) (Nat.lt_succ_self i),i+1,out++[y],H6,rfl,s1,s2',q6,
     ⟨a6.st.off apD offD prD,((kp4.trans a5.kp).trans a6.kp).off offD (by simpa using fD1),by
      have:=(((g.same.trans sm).trans a4.same).trans a5.same).trans a6.same;exact⟨this.os,this.gens⟩,
      ⟨us.push w5,c+1,hD7,by exact rwL Array.toList_push ((vs6.keep' (VR.off apD offD)).snoc (VR.off apD offD _ _ vy))⟩,⟨hD6.2,g.hD.2,g.hD.3⟩,⟨er7.loc.1,g.hC.2,g.hC.3⟩,hDL,m,hm⟩,it7,er7.congr hl3⟩
 exact codeAny_compStart_list loop (lY (s:={s₁ with heap:=h₁,toks:=s₁.toks+([]:List (Str × Value)).length}) it1 loop)
end
end
section
section
variable {W:Wd} {K:Frag} {n:Nat} {env:Env} {Z:am} {H:AH} {h h':Heap} {fp:List Addr} {sc:av} {scope:Scope} {x:Str}
theorem oH {ai:AI} {i:Nat} {o:Option AV} (hn:bU H ai i=some o):∀v w r,ai=.zip v w r->H r=some (false,.opq):=by
 rintro v w r rfl;exact nx (qi hn).1
structure OutR (H:AH) (h:Heap) (fp:List Addr) (H':AH) (h':Heap):Prop where
 vr:∀v u,VR H h v u->VR H' h' v u
 eq:∀a,a∉fp->H' a=H a
 none:∀a,H a=none->H' a=none
theorem wE {v:AV} {it:Value} {i:Nat} (x:dh (.enum v) it fp i H h):∀a∈fp,H a=none:=by
 obtain⟨⟩:=v<;>first|exact x.elim|skip
 apply zA x λe I old _ z1z _ h1 h2 _=>?_;clear x;subst z1z;simp only[mem_cons,not_mem_nil,or_false];rintro a (rfl|rfl)
 ·exact h1
 ·exact h2
theorem xB {v w:AV} {r:Addr} {it:Value} {i:Nat} (x:dh (.zip v w r) it fp i H h):r∈fp∧∀a∈fp,a=r\/H a=none:=by
 obtain⟨⟩:=v<;>first|exact x.elim|skip
 obtain⟨⟩:=w<;>first|exact x.elim|skip
 apply zy x λz TI i1 i2 _ z1z _ h1 h2 z2z=>?_;clear x;subst z1z;obtain⟨h3,_⟩:=z2z;simp only[mem_cons,not_mem_nil,or_false];apply⟨by simp,?_⟩;rintro a (rfl|rfl|rfl|rfl)
 ·exact .inr h1
 ·exact .inr h2
 ·exact .inr h3
 ·exact .inl rfl
theorem y8 {ai:AI} {it:Value} {i:Nat} {o:Option AV} (x:dh ai it fp i H h) (hn:bU H ai i=some o) (hfr:∀a∈fp,W.B.get? a=none) (S:W.St H h) (off:jb fp h h'):W.St (j5 ai H) h'∧OutR H h fp (j5 ai H) h':=by
 have apt:=x.apt hfr (oH hn);have other:j5 ai H=H->(∀a∈fp,H a≠some (false,.opq))->W.St (j5 ai H) h'∧OutR H h fp (j5 ai H) h':=λe ho=>by
  apply rwL e ?_;exact⟨S.off apt off λa ha q=>absurd q (ho a ha),VR.off apt off,λ_ _=>rfl,λ_ h=>h⟩
 cases ai with
 |seq v=>exact other rfl λa ha q=>by rw[x.nil a ha]at q;exact nS q
 |enum v=>
  apply other rfl λa ha q=>?_;rw[wE x a ha]at q;exact nS q
 |range m=>
  apply other rfl λa ha q=>?_;apply pS x λI _ z1z h1 _=>?_;clear x;subst z1z;obtain rfl:=ms ha;simp only[h1]at q;exact nS q
 |zip v w r=>
  have hr:=oH hn _ _ _ rfl;apply af (xB x) λrfp onl=>?_;show W.St (H.del r) h'∧OutR H h fp (H.del r) h';have dne:∀a,a≠r->H.del r a=H a:=λa ha=>if_neg ha;have deq:H.del r r=none:=if_pos rfl;have dnn:∀a,H a=none->H.del r a=none:=λa ha=>by
   by_cases e:a=r
   ·exact rwL e deq
   ·exact rwL (dne a e) ha
  have vr:∀v u,VR H h v u->VR (H.del r) h' v u:=VR.keep λa us n e z=>by
   apply⟨off a _ (λm=>?_) e,dnn a z⟩;apply((apt a m).2).elim (λq=>?_) λq=>?_
   ·exact q.2 us n e
   ·rw[z]at q;exact nS q
  have own:∀a f o,H a=some (f,o)->o≠.opq->a∉fp:=λa f o e ho m=>by
   rcases(onl a m).imp_left Eq.symm with rfl|q
   ·simp only[hr]at e;cases e;exact ho rfl
   ·simp only[q]at e;exact nS e
  apply⟨⟨λa f o e=>?_,λa o e=>?_,λa f C dx fs e=>?_⟩,vr,λa ha=>dne a (λz=>ha (z▸rfp)),dnn⟩
  ·have har:a≠r:=λz=>by simp only[z,deq]at e;exact nS e
   simp only[dne a har]at e;by_cases ho:o=.opq
   ·subst ho;apply vU (S.objs _ _ _ e) λp q e'=>?_;apply⟨p,q,off a _ (λm=>?_) e'⟩;rcases onl a m with z|z
    ·exact har z
    ·simp only[z]at e;exact nS e
   ·apply(S.objs a f o e).keep vr (λob q=>off a ob (own a f o e ho) q) (λC dx fs q=>?_) λb q=>?_
    ·subst q;have e2:=S.fl _ _ _ _ _ e;have hd:dx≠r:=λz=>by simp only[z,hr]at e2;lia
     exact⟨λob q=>off dx ob (own dx _ _ e2 (λz=>by ac_nf)) q,f,(dne dx hd).trans e2⟩
    ·subst q;apply sU (S.objs _ _ _ e) λg C fs e2=>?_;have hb:b≠r:=λz=>by simp only[z,hr]at e2;lia
     exact⟨g,C,fs,(dne b hb).trans e2⟩
  ·apply af (S.base a o e) λq1 q2=>?_;apply⟨off a o (λm=>by simp only[hfr a m]at e;exact nS e) q1,λx z=>?_⟩;by_cases har:a=r
   ·simp only[har,deq]at z;exact nS z
   ·simp only[dne a har]at z;exact q2 x z
  ·have har:a≠r:=λz=>by simp only[z,deq]at e;exact nS e
   simp only[dne a har]at e;have e2:=S.fl _ _ _ _ _ e;have hd:dx≠r:=λz=>by simp only[z,hr]at e2;lia
   exact(dne dx hd).trans e2
theorem Kp.out {X:Addr->Prop} {H₀ H':AH} {h₀:Heap} (x:Kp X H₀ h₀ H h) (q:OutR H h fp H' h') (k:jb fp h h') (hf:∀a∈fp,h₀.get? a=none):Kp X H₀ h₀ H' h':=λa o e=>by
 have hm:a∉fp:=λm=>by simp only[hf a m]at e;exact nS e
 apply⟨λz=>?_,λy z=>?_,?_⟩
 ·(apply af ((x a o e).1 z) λz' z1z=>?_;(apply ad z1z λo' e' r=>?_;clear z1z));exact⟨q.none a z',o',k a o' hm e',r⟩
 ·apply af ((x a o e).2 y z) λz' e'=>?_;exact⟨(q.eq a hm).trans z',k a o hm e'⟩
 ·apply a8 ((x a o e).3) λo' e'=>?_;exact⟨o',k a o' hm e'⟩
theorem EnvR.out' {H':AH} (e:EnvR W env H h Z) (q:OutR H h fp H' h') (k:jb fp h h') (hd:∀a∈fp,¬iw env a):EnvR W env H' h' Z:=by
 apply ad e.vals λm hn hv=>?_;apply a8 (id hn) λo z1z=>?_;apply a8 z1z λes z1z=>ad z1z λep ho r=>?_;have hl:=k _ _ (λz=>hd _ z (.inl rfl)) ho;have hc:∀x c v,env.cells.lookup x=some c->h.IsCell c v->h'.IsCell c v:=λx c v q z=>ad z λo ho hd'=>⟨o,k _ _ (λz=>hd _ z (.inr ⟨x,q⟩)) ho,hd'⟩;apply⟨e.kind,e.glob,e.blt,⟨q.none _ e.loc.1,e.loc.2⟩,e.has,λx c hx=>?_,e.inj,m,⟨o,es,ep,hl,r⟩,λx v hx=>⟨λz=>?_,λz=>?_⟩⟩
 ·(apply jh (e.cells x c hx) λz1 z2 z3 z1z=>?_;(apply a8 z1z λv z4=>?_;clear z1z));exact⟨q.none _ z1,z2,z3,v,hc x c v hx z4⟩
 ·apply ad ((hv x v hx).1 z) λu a b=>?_;exact⟨u,a,q.vr _ _ b⟩
 ·apply cq ((hv x v hx).2 z) λc u a b d=>?_;exact⟨c,u,a,hc _ _ _ a b,q.vr _ _ d⟩
noncomputable def ey (e:Expr):Bool:=!beq e.ctorIdx 7
theorem fj {e:Expr} {env:Env} (h:ey e=true):∀x,foldedSetIterable e env x=pure x:=by
 intro x;obtain⟨⟩:=e<;>first|rfl|ac_nf
def kD (W:Wd) (n:Nat) (elt:Expr) (ifs:List Expr) (scope:Scope) (env:Env) (xi N:Nat) (Z:am) (v:AV) (I:Nat->List AV->AH->Prop) (Q:AV->AH->Prop):Prop:=
 ∀L i out H,I i out H->i<=N∧out.length<=i∧∃o,bU H (.seq v) i=some o∧match o with
   |none=>∀r,H r=none->Q (.ref r) (H.set r (.list out))
   |some u=>uF W n ifs (compEnvC scope (cX env scope.names []) L env) ((xi,u)::Z) H λt H=>(t=true->aC W n elt (compEnvC scope (cX env scope.names []) L env) ((xi,u)::Z) H λy H=>I (i+1) (out++[y]) H)∧(t=false->I (i+1) out H)
theorem CompOk.hn (C:CompOk sc scope x):∀y∈scope.names,y.2=.local->scope.names.lookup y.1=some .local:=λy hy h=>by have:=(C.all y hy).2;simp only[h]at this;exact this
theorem vL {elt iter:Expr} {px pos:Pos} {ifs:List Expr} {xi:Nat} {Q:AV->AH->Prop} (C:CompOk sc scope x) (ag:bR env sc) (hx:nm xi=x) (hset:ey iter=true)
  (h:aC W n iter env Z H λv H₁=>AI.ok1 (.seq v)∧E2 λ(I:Nat->List AV->AH->Prop) (N:Nat)=>N<=cap∧I 0 [] H₁∧kD W n elt ifs scope env xi N Z v I Q) :
  aC W n (.ListComp elt [⟨.Name x px,iter,ifs,0⟩] scope pos) env Z H Q:=λA s R E hr S er P=>by
 have hfr:∀p∈scope.names,p.2=.free->∃c,env.cells.lookup p.1=some c:=λp hp hf=>(C.free ag er p hp hf).2;simp only[eval_ListComp];apply wpAny_comprehension_free (use:=none) rfl (fj hset) (gJ hfr) C.kind C.hn (h A s _ E hr S er λv u sb H₀ hv a q=>?_);apply af q λhok z1z=>cq z1z λI N hN h0 step=>?_;clear q z1z;apply gN a.st hv ((step 0 0 [] H₀ h0).3.imp λ_=>And.left) λit fp s1 b hit hfp=>?_;apply lI hr C ag hx a.st (er.keep a.kp) b hit hfp hok hN h0 step (RR:=λacc L=>compPost (model W.prog W.w) A E none R acc L) λD L out H' s' g q=>?_;apply a8 g.ns λm hm=>?_;apply⟨m,hm,λh' sb'=>?_⟩;exact P _ _ _ _ (by simp only[dM]) (a.trans (g.done sb'.extBut)) q
end
end
section
section
variable {W:Wd} {K:Frag} {n:Nat} {env:Env} {Z:am} {H:AH} {h h':Heap} {fp:List Addr} {sc:av} {scope:Scope} {x:Str} {Q:am->AH->Prop} {Rt:AV->AH->Prop}
def ol (W:Wd) (n:Nat) (st:Stmt) (env:Env) (Z:am) (H:AH) (Q:am->AH->Prop) (Rt:AV->AH->Prop):Prop:=
 ∀(A:Around) (s:Shared) (R:Flow->Shared->Prop) (E:Value->Shared->Prop),dN n A->W.St H s.heap->EnvR W env H s.heap Z->
  (∀s' H' Z',AftX (iw env) W H s H' s'->EnvR W env H' s'.heap Z'->Q Z' H'->R .next s')->
  (∀v u s' H',VR H' s'.heap v u->AftX (iw env) W H s H' s'->Rt v H'->R (.ret u) s')->wpAny (model W.prog W.w) A (exec st env) R E s
def uH (W:Wd) (n:Nat) (b:List Stmt) (env:Env) (Z:am) (H:AH) (Q:am->AH->Prop) (Rt:AV->AH->Prop):Prop:=
 ∀(A:Around) (s:Shared) (R:Flow->Shared->Prop) (E:Value->Shared->Prop),dN n A->W.St H s.heap->EnvR W env H s.heap Z->
  (∀s' H' Z',AftX (iw env) W H s H' s'->EnvR W env H' s'.heap Z'->Q Z' H'->R .next s')->
  (∀v u s' H',VR H' s'.heap v u->AftX (iw env) W H s H' s'->Rt v H'->R (.ret u) s')->wpAny (model W.prog W.w) A (execs b env) R E s
theorem vI (q:Q Z H):uH W n [] env Z H Q Rt:=λA s R E hr S er P P'=>wpAny_execs_nil (P s H Z (.refl S) er q)
theorem sO {st:Stmt} {b:List Stmt} (h:ol W n st env Z H (λZ H=>uH W n b env Z H Q Rt) Rt):uH W n (st::b) env Z H Q Rt:=λA s R E hr S er P P'=>
 wpAny_execs_cons (h A s _ E hr S er (λs1 H1 Z1 a er1 q=>q A s1 _ E hr a.st er1 (λs' H' Z' b er' q'=>P s' H' Z' (a.trans b) er' q') λv u s' H' x b q'=>P' v u s' H' x (a.trans b) q') P')
noncomputable def sh (e:Expr):Bool:=beq e.ctorIdx 23||beq e.ctorIdx 20||beq e.ctorIdx 21
theorem fR {t e:Expr} {pos:Pos} (hs:swapsWith e (some t) pos.line env=pure false) (ht:sh t=true) (h:aC W n e env Z H λv H=>wZ W n t env v Z H Q):ol W n (.Assign [t] e pos) env Z H Q Rt:=λA s R E hr S er P P'=>by
 have e1:exec (.Assign [t] e pos) env=(do
   standAt pos
   if <-swapsWith e (some t) pos.line env then do
    evalThenUse e env λv=>assignAll v ((assignEach [t] env).map (·.2))
    pure .next
   else do
    let v <-eval e env
    assign t env v
    pure .next):=by obtain⟨⟩:=t<;>first|rfl|ac_nf
 simp only[e1,hs];apply wpAny_bind (wpAny_standAt (wpAny_bind (wpAny_pure ?_)));apply wpAny_bind (h A s _ E hr S er λv u s1 H1 hx a q=>wpAny_bind ?_);exact q A s1 u _ E hr a.st (er.keep a.kp) hx λs2 H2 Z2 b er2 q2=>wpAny_pure (P s2 H2 Z2 (a.x.trans b) er2 q2)
theorem ng {e t:Expr} {l:Nat} (h:mD e=false):swapsWith e (some t) l env=pure false:=by
 obtain⟨⟩:=e<;>first|rfl|ac_nf
theorem nh {e t:Expr} {l:Nat} (h:NN t):swapsWith e (some t) l env=pure false:=by
 unfold swapsWith;split
 ·obtain⟨⟩:=t<;>first|rfl|ac_nf
 ·rfl
theorem oz {e:Expr} {y:Str} {p:Pos} {l:Nat}:∃b,swapsWith e (some (.Name y p)) l env=pure b:=by
 unfold swapsWith;split<;>exact⟨_,rfl⟩
theorem sE {elt iter:Expr} {px py pos spos:Pos} {ifs:List Expr} {xi yi:Nat} {y:Str} (hsw:swapsWith (.ListComp elt [⟨.Name x px,iter,ifs,0⟩] scope pos) (some (.Name y py)) spos.line env=pure true)
  (C:CompOk sc scope x) (ag:bR env sc) (hx:nm xi=x) (hy:nm yi=y) (hk:env.kindOf y=some .local\/env.kindOf y=some .cell) (hset:ey iter=true)
  (h:aC W n iter env Z H λv H₁=>AI.ok1 (.seq v)∧E2 λ(I:Nat->List AV->AH->Prop) (N:Nat)=>N<=cap∧I 0 [] H₁∧kD W n elt ifs scope env xi N Z v I λu H=>Q (put Z yi u) H) :
  ol W n (.Assign [.Name y py] (.ListComp elt [⟨.Name x px,iter,ifs,0⟩] scope pos) spos) env Z H Q Rt:=λA s R E hr S er P P'=>by
 have hfr:∀p∈scope.names,p.2=.free->∃c,env.cells.lookup p.1=some c:=λp hp hf=>(C.free ag er p hp hf).2;apply rwL (exec_Assign_Name_used _ _ _ _ hsw) ?_;apply wpAny_bind (wpAny_standAt (wpAny_bind ?_));show wpAny _ A (do let _ <-comprehension (.ListComp elt [⟨.Name x px,iter,ifs,0⟩] scope pos) scope env _ (newList []) false (eval iter env) (some (assign (.Name y py) env))) _ _ s;apply wpAny_bind (wpAny_mono (wpAny_comprehension_free (use:=some (assign (.Name y py) env)) (Q:=λ_ s'=>R .next s') rfl (fj hset) (gJ hfr) C.kind C.hn (h A s _ E hr S er λv u sb H₀ hv a q=>?_))
  (λ_ s' hq=>wpAny_pure (wpAny_pure hq)) λ_ _ e=>e)
 apply af q λhok z1z=>cq z1z λI N hN h0 step=>?_;clear q z1z;apply gN a.st hv ((step 0 0 [] H₀ h0).3.imp λ_=>And.left) λit fp s1 b hit hfp=>?_;apply lI (Q:=λu H=>Q (put Z yi u) H) hr C ag hx a.st (er.keep a.kp) b hit hfp hok hN h0 step (RR:=λacc L=>compPost (model W.prog W.w) A E (some (assign (.Name y py) env)) (λ_ s'=>R .next s') acc L) λD L out H' s' g q=>?_;apply a8 g.ns λm hm=>?_;have gd:=g.done (h':=s'.heap) λb o _ e=>e;have er1:EnvR W env (H'.set D (.list out)) s'.heap Z:=(er.keep a.kp).keep gd.kp;show wpAny _ A (assign (.Name y py) env (.ref D)) _ _ _;apply wpAny_assign_Name (hU (v:=.ref D) hy hk gd.st er1 (rfl) λs2 a2 er2=>?_);have hLf:¬iw env L:=λz=>by
  apply a8 ((er.keep a.kp).dom L z) λo e=>?_;rw[g.hC.3]at e;exact nS e
 have hL2:(H'.set D (.list out)) L=none:=(AH.EQ H' _ (Ne.symm g.hDC)).trans g.hC.1;apply a8 hm λo z1z=>a8 z1z λes z2z=>ad z2z λep ho r=>?_;clear hm z1z z2z;have hoL:=a2.kp.getX ho hL2 hLf;apply⟨m,⟨o,es,ep,hoL.1,r⟩,λh' sb'=>?_⟩;have off:jb [L] s2.heap h':=λb o m e=>(sb'.2 b (λz=>m (by simp only[z];exact .head _))).trans e;have apt:uJ W (H'.set D (.list out)) s2.heap [L]:=λb hb=>by
  obtain rfl:=ms hb;apply⟨g.hC.2,.inl ⟨hL2,λus n e=>?_⟩⟩;simp only[hoL.1]at e;have hd:=r.1;injection e with e;have hd:=e▸hd;ac_nf
 have prs:zm (H'.set D (.list out)) [L] h':=λb hb q=>by obtain rfl:=ms hb;simp only[hL2]at q;exact nS q
 have kpAll:Kp (iw env) H₀ sb.heap (H'.set D (.list out)) h':=((gd.kp.mono λ_ h=>h.elim).trans a2.kp).off off (by simpa using g.hC.3);apply P _ _ _ ⟨a2.st.off apt off prs,(a.kp.mono λ_ h=>h.elim).trans kpAll,?_⟩ (er2.off apt off λb hb z=>by obtain rfl:=ms hb;exact hLf z) q;have:=(a.same.trans gd.same).trans a2.same;exact⟨this.os,this.gens⟩
theorem y9 {c:Expr} {a b:List Stmt} {pos:Pos} (h:fA W n c env Z H λt H=>(t=true->uH W n a env Z H Q Rt)∧(t=false->uH W n b env Z H Q Rt)):ol W n (.If c a b pos) env Z H Q Rt:=λA s R E hr S er P P'=>
 wpAny_If (h A s _ E hr S er λt s1 H1 x q=>by
  cases t with
  |true=>exact q.1 rfl A s1 _ E hr x.st (er.keep x.kp) (λs' H' Z' b e q=>P s' H' Z' (x.x.trans b) e q) λv u s' H' y b q=>P' v u s' H' y (x.x.trans b) q
  |false=>exact q.2 rfl A s1 _ E hr x.st (er.keep x.kp) (λs' H' Z' b e q=>P s' H' Z' (x.x.trans b) e q) λv u s' H' y b q=>P' v u s' H' y (x.x.trans b) q)
theorem vB {e:Expr} {pos:Pos} (h:aC W n e env Z H Rt):ol W n (.Return (some e) pos) env Z H Q Rt:=λA s R E hr S er P P'=>
 wpAny_Return_some (h A s _ E hr S er λv u s' H' x a q=>P' v u s' H' x a.x q)
theorem sF {pos:Pos} (q:Rt .none H):ol W n (.Return none pos) env Z H Q Rt:=λA s R E hr S er P P'=>wpAny_Return_none (P' .none _ s H (rfl) (.refl S) q)
theorem sG {pos:Pos} (q:Q Z H):ol W n (.Pass pos) env Z H Q Rt:=λA s R E hr S er P P'=>by
 simp only[arm_exec_Pass];exact wpAny_bind (wpAny_standAt (wpAny_pure (P s H Z (.refl S) er q)))
theorem sL {f:Expr} {as:List Expr} {ks:List Keyword} {p pos:Pos} (h:aC W n (.Call f as ks p) env Z H λ_ H=>Q Z H):ol W n (.Expr (.Call f as ks p) pos) env Z H Q Rt:=λA s R E hr S er P P'=>
 wpAny_Expr_any (h A s _ E hr S er λv u s' H' x a q=>P s' H' Z a.x (er.keep a.kp) q) (by simp[interactive,er.kind]) rfl
theorem qJ {c:Expr} {b:List Stmt} {pos:Pos} (I:Nat->am->AH->Prop) (m:Nat) (h0:I m Z H)
  (h:∀m Z H,I m Z H->fA W n c env Z H λt H=>(t=false->Q Z H)∧(t=true->uH W n b env Z H (λZ H=>∃m',m'<m∧I m' Z H) Rt)):ol W n (.While c b [] pos) env Z H Q Rt:=λA s R E hr S er P P'=>by
 apply wpAny_While (codeAny_whileLoop (λk s'=>E2 λH' Z'=>I k Z' H'∧AftX (iw env) W H s H' s'∧EnvR W env H' s'.heap Z') ?_ m ⟨H,Z,h0,.refl S,er⟩);rintro k s' ⟨H',Z',hI,a,er'⟩;apply h k Z' H' hI A s' _ _ hr a.st er' λt s1 H1 x q=>?_;cases t with
 |true=>
  apply q.2 rfl A s1 _ _ hr x.st (er'.keep x.kp) (λs2 H2 Z2 y e2 q2=>?_) λv u s2 H2 vr y q2=>?_
  ·(apply ad q2 λm' hm hI'=>?_;clear q2);exact⟨m',hm,H2,Z2,hI',(a.trans x.x).trans y,e2⟩
  ·exact P' v u s2 H2 vr ((a.trans x.x).trans y) q2
 |false=>exact wpAny_execs_nil (P s1 H1 Z' (a.trans x.x) (er'.keep x.kp) (q.1 rfl))
theorem wa {A:Around} {s:Shared} {E R:Value->Shared->Prop} {y:Str} {xi:Nat} {v:AV} (hy:nm xi=y) (hk:env.kindOf y=some .local\/env.kindOf y=some .cell) (er:EnvR W env H s.heap Z) (hv:Z.lookup xi=some v)
  (P:∀u,VR H s.heap v u->R u s):wpAny (model W.prog W.w) A (loadName env y) R E s:=by
 subst hy;apply ad er.vals λm hn vals=>?_;have r:=vals xi v hv;apply hk.elim (λz=>?_) λz=>?_
 ·apply ad (r.1 z) λu a d=>?_;exact wpAny_loadName_local er.kind z hn a (P u d)
 ·apply cq (r.2 (.inl z)) λc u a b d=>?_;exact wpAny_loadName_cell er.kind z a b (P u d)
theorem vD {y:Str} {p pos:Pos} {o:Operator} {op:Op} {e:Expr} {xi:Nat} {i:Int} (hy:nm xi=y) (hk:env.kindOf y=some .local\/env.kindOf y=some .cell) (ho:(o=.Add∧op=.add)\/(o=.Sub∧op=.sub)) (hv:Z.lookup xi=some (.int i))
  (h:aC W n e env Z H λv H=>∃j,v=.int j∧Q (put Z xi (.int (pt op i j))) H):ol W n (.AugAssign (.Name y p) o e pos) env Z H Q Rt:=λA s R E hr S er P P'=>by
 apply wpAny_AugAssign_Name (wa hy hk er hv λu hu=>h A s _ E hr S er λv w s1 H1 hw a q=>?_);obtain⟨j,rfl,q⟩:=q;simp only[bQ]at hu hw;apply a8 hu λt z1z=>?_;clear hu;subst z1z;apply a8 hw λt' z1z=>?_;clear hw;subst z1z;have fin:∀r,wpAny (model W.prog W.w) A (storeName env y (.int (pt op i j) r)) (λ_=>R .next) E {s1 with toks:=s1.toks+1}:=λr=>by
  have tk:Aft W H1 s1 H1 {s1 with toks:=s1.toks+1}:=.tok a.st _ rfl;apply hU (v:=.int (pt op i j)) hy hk tk.st ((er.keep a.kp).keep tk.kp) (Exists.intro r rfl) λs2 a2 er2=>P s2 H1 _ ((a.trans tk).x.trans a2) er2 q
 rcases ho with⟨rfl,rfl⟩|⟨rfl,rfl⟩
 ·exact AutoIntOps.iadd_0 (fin _)
 ·exact AutoIntOps.isub_0 (fin _)
end
end
section
section
variable {W:Wd} {K:Frag} {n:Nat} {env:Env} {Z:am} {H:AH} {h h':Heap} {fp:List Addr} {sc:av} {scope:Scope} {x:Str} {Q:am->AH->Prop} {Rt:AV->AH->Prop}
def pu (W:Wd) (n:Nat) (ts:List Expr) (env:Env) (vs:List AV) (Z:am) (H:AH) (Q:am->AH->Prop):Prop:=List.rec (motive:=λ_=>List AV->am->AH->Prop) (λvs Z H=>List.casesOn vs (Q Z H) λ_ _=>False)
 (λt _ ih vs Z H=>List.casesOn vs False λv vs=>wZ W n t env v Z H λZ H=>ih vs Z H) ts vs Z H
theorem fI {t:Expr} {ts:List Expr} {env:Env} (h:bG t=false):assignEach (t::ts) env=(false,assign t env)::assignEach ts env:=by
 obtain⟨⟩:=t<;>first|rfl|ac_nf
theorem ky {env:Env}:∀{ts:List Expr},(assignEach ts env).length=ts.length:=by
 intro ts
 induction ts with
 |nil=>
  exact rfl
 |cons t ts ih=>
  have ih:=ih;obtain⟨⟩:=t<;>exact congrArg (·+1) ih
theorem ja {env:Env}:∀{ts:List Expr},aA ts=true->(assignEach ts env).findIdx? (·.1)=none:=by
 intro ts
 induction ts with
 |nil=>
  intro _;exact rfl
 |cons t ts ih=>
  intro h;simp only[aA,all_cons,and_eq_true,not_eq_true']at h;apply rwL (fI h.1) (rwL List.findIdx?_cons (rwL (ih h.2) ?_));rfl
theorem ox:∀{ts:List Expr} {vs:List AV} {us:List Value} {Z:am} {H:AH} {A:Around} {s:Shared} {R:Unit->Shared->Prop} {E:Value->Shared->Prop},aA ts=true->dN n A->W.St H s.heap->EnvR W env H s.heap Z->bK H s.heap vs us->pu W n ts env vs Z H Q->
  (∀s' H' Z',AftX (iw env) W H s H' s'->EnvR W env H' s'.heap Z'->Q Z' H'->R () s')->wpAny (model W.prog W.w) A (assignInOrder ((assignEach ts env).map (·.2)) us) R E s:=by
 intro ts
 induction ts with
 |nil=>
  intro v1;cases v1 with
  |nil=>
   intro us Z H A s R E hst hr S er hv q P;cases hv;exact assignInOrder_nil (P s H Z (.refl S) er q)
  |cons v vs=>
   intro _ _ _ _ _ _ _ _ _ _ _ _ q _;exact q.elim
 |cons t ts ih=>
  intro v1;cases v1 with
  |cons v vs=>
   intro us Z H A s R E hst hr S er hv q P;simp only[aA,all_cons,and_eq_true,not_eq_true']at hst;apply cq hv λu r z1z hu hrs=>?_;clear hv;subst z1z;apply rwL (fI hst.1) ?_;apply assignInOrder_cons (q A s u _ E hr S er hu λs1 H1 Z1 a er1 q1=>?_);exact ih hst.2 hr a.st er1 (hrs.keep' λv u=>VR.kp a.kp er.seqOut) q1 λs' H' Z' b e q=>P s' H' Z' (a.trans b) e q
  |nil=>
   intro _ _ _ _ _ _ _ _ _ _ _ _ q _;exact q.elim
theorem pu.len:∀{ts:List Expr} {vs:List AV} {Z:am} {H:AH} {Q:am->AH->Prop},pu W n ts env vs Z H Q->True:=λ_=>trivial
theorem iM {ts:List Expr} {k:Nat} {pos:Pos} {vs:List AV} (hst:aA ts=true) (hl:ts.length=vs.length) (h:pu W n ts env vs Z H Q):wZ W n (.Tuple ts k pos) env (.tup vs) Z H Q:=λA s u R E hr S er hv P=>by
 apply nC hv λa us m z1z ht hz v=>?_;clear hv;subst z1z;apply wpAny_assign_Tuple hr.3 ⟨_,ht,rfl,m,rfl⟩ (rwL ky (rwL hl (rwR v.size rfl))) (ja hst) λh' he=>?_;have gr:∀b o,s.heap.get? b=some o->h'.get? b=some o:=λb o e=>he b o (λz=>by simp only[z]at e;exact lt_irrefl _ (lt_size e)) e;have g:Aft W H s H {s with heap:=h'}:=.grow S ⟨rfl,rfl⟩ gr;exact ox hst hr g.st (er.keep g.kp) (v.keep' λv u x=>x.kp0 g.kp) h λs' H' Z' b e q=>P s' H' Z' (g.x.trans b) e q
theorem lQ {ts:List Expr} {k:Nat} {pos:Pos} {e:Expr} (ht:∀t∈ts,NN t):swappedStores [.Tuple ts k pos] e env=pure none:=by
 cases ts with
 |nil=>obtain⟨⟩:=e<;>first|rfl|(unfold swappedStores;rfl)
 |cons t ts=>
  have key:∀l:List Expr,(∀t∈l,NN t)->∀(f:Str->Pos->Option Str),l.filterMap (y7 f)=[]:=by
   intro l
   induction l with
   |nil=>intro _ _;rfl
   |cons y l ih=>
    intro h f;have h1:=h y (.head _);have h2:=ih (λt ht=>h t (.tail _ ht)) f;obtain⟨⟩:=y<;>first|exact h2|ac_nf
  set_option tactic.hygienic true in (obtain⟨⟩:=e<;>first|rfl|skip)
  rename_i vs k' p';unfold swappedStores;dsimp only;split
  ·rfl
  ·split
   ·rfl
   ·have e0:=key (t::ts) ht (λid pos=>if (env.kindOf id==some NameKind.local&&pos.line==((t::ts).head?.map (·.pos.line)).getD 0)=true then some id else none);have:((t::ts).filterMap fun
      |.Name id pos=>if (env.kindOf id==some NameKind.local&&pos.line==((t::ts).head?.map (·.pos.line)).getD 0)=true then some id else none
      |_=>none)=[]:=e0
    exact if_pos ((congrArg (λl:List Str=>(l.length != (t::ts).length||l.eraseDups.length != l.length)) this).trans rfl)
end
end
section
noncomputable def ia (Z:am) (xs:List Nat) (vs:List AV):am:=List.rec (motive:=λ_=>am->List AV->am) (λZ _=>Z) (λx _ ih Z vs=>List.casesOn vs Z λv vs=>ih (put Z x v) vs) xs Z vs
theorem i9:∀{xs:List Nat} {vs:List AV} {Z:am} {z:Nat},xs.Nodup->xs.length=vs.length->(ia Z xs vs).lookup z=((xs.zip vs).lookup z).or (Z.lookup z):=by
 intro xs
 induction xs with
 |nil=>
  intro v1;cases v1 with
  |nil=>
   intro Z z _ _;exact rfl
  |cons _ _=>
   intro _ _ _ hl;ac_nf
 |cons x xs ih=>
  intro v1;cases v1 with
  |cons v vs=>
   intro Z z nd hl;(have nd:=nd;rw[nodup_cons]at nd);have ih:=ih (Z:=put Z x v) (z:=z) nd.2 (by simpa using hl);show(ia (put Z x v) xs vs).lookup z=_;simp only[ih,zip_cons_cons];by_cases hz:z=x
   ·obtain rfl:=hz.symm;have hnone:(xs.zip vs).lookup x=none:=by
     cases e:(xs.zip vs).lookup x with
     |none=>rfl
     |some w=>exact absurd (of_mem_zip (ah e)).1 nd.1
    simp only[hnone,aB,gP];rfl
   ·exact rwL (aq hz) (rwL (gO _ _ hz) rfl)
  |nil=>
   intro _ _ _ hl;ac_nf
theorem jY {z:Nat} {v:AV}:∀{l:List (Nat × AV)},(l.map (·.1)).Nodup->(z,v)∈l->l.lookup z=some v:=by
 intro l
 induction l with
 |nil=>
  intro _ hm;exact absurd hm not_mem_nil
 |cons p0 r ih=>
  obtain⟨y,w⟩:=p0;intro nd hm;(have nd:=nd;rw[map_cons,nodup_cons]at nd);apply(mC hm).elim (λe=>?_) λhm=>?_
  ·cases e;exact aB
  ·apply rwL (aq (λe=>nd.1 (by exact rwR e (mR ⟨_,hm,rfl⟩)))) ?_;exact ih nd.2 hm
theorem oN {z:Nat} {l:List (Nat × AV)} (nd:(l.map (·.1)).Nodup):l.reverse.lookup z=l.lookup z:=by
 have nd':(l.reverse.map (·.1)).Nodup:=by exact rwL map_reverse ((List.reverse_perm _).nodup_iff.mpr nd)
 cases e:l.lookup z with
 |some v=>exact jY nd' (List.mem_reverse.mpr (ah e))
 |none=>
  cases e':l.reverse.lookup z with
  |none=>rfl
  |some v=>simp only[jY nd (List.mem_reverse.mp (ah e'))]at e;exact sN e
theorem rA:∀{xs:List Nat} {vs:List AV},xs.length=vs.length->(xs.zip vs).map (·.1)=xs:=by
 intro xs
 induction xs with
 |nil=>
  intro v1;cases v1 with
  |nil=>
   intro _;exact rfl
  |cons _ _=>
   intro h;ac_nf
 |cons x xs ih=>
  intro v1;cases v1 with
  |cons v vs=>
   intro h;simp[ih (vs:=vs) (by simpa using h)]
  |nil=>
   intro h;ac_nf
theorem qE {xs:List Nat} {vs:List AV} {Z:am} {z:Nat} (nd:xs.Nodup) (hl:xs.length=vs.length):(ia Z xs vs).lookup z=(ia Z xs.reverse vs.reverse).lookup z:=by
 apply rwL (i9 nd hl) (rwL (i9 ((List.reverse_perm _).nodup_iff.mpr nd) (by simpa using hl)) ?_);have:xs.reverse.zip vs.reverse=(xs.zip vs).reverse:=by
  simp only[List.zip_eq_zipWith,List.zip_eq_zipWith];exact(List.reverse_zipWith hl).symm
 exact rwL this (rwL (oN (by exact rwL (rA hl) nd)) rfl)
inductive NamesAre (sc:av):List Expr->List Nat->Prop
 |nil:NamesAre sc [] []
 |cons {x:Nat} {p:Pos} {ts:List Expr} {xs:List Nat}:(sc.lookup (nm x)=some .local\/sc.lookup (nm x)=some .cell)->NamesAre sc ts xs->NamesAre sc (.Name (nm x) p::ts) (x::xs)
theorem nE {sc:av} {ts:List Expr}:∀{xs:List Nat},eO sc ts=some xs->NamesAre sc ts xs:=by
 induction ts with
 |nil=>intro xs h;obtain rfl:=sI h;exact .nil
 |cons e ts ih=>
  intro xs h;apply ad (bind_eq_some_iff.mp h) λy hy h1=>a8 (An hy) λp z=>?_;subst z;by_cases hk:(sc.lookup y==some .local||sc.lookup y==some .cell)=true
  ·(have h1:=h1;rw[if_pos hk]at h1);apply ad (bind_eq_some_iff.mp h1) λi hi h2=>ad (map_eq_some_iff.mp h2) λr hr z=>?_;subst z;have e:=lg hi;subst e;apply .cons ?_ (ih hr);simpa using hk
  ·(have h1:=h1;rw[if_neg hk]at h1);exact nS h1
theorem NamesAre.len {sc:av} {ts:List Expr} {xs:List Nat} (h:NamesAre sc ts xs):ts.length=xs.length:=by
 induction h with
 |nil=>rfl
 |cons _ _ ih=>exact congrArg (·+1) ih
theorem NamesAre.stars {sc:av} {ts:List Expr} {xs:List Nat} (h:NamesAre sc ts xs):aA ts=true:=by
 induction h with
 |nil=>rfl
 |cons _ _ ih=>exact ih
theorem nv {f:Str->Pos->Option Str} {x:Str} {p:Pos}:y7 f (.Name x p)=f x p:=rfl
theorem NamesAre.pick {sc:av} {f:Str->Pos->Bool} {ts:List Expr} {xs:List Nat} (h:NamesAre sc ts xs) :
  (ts.filterMap (y7 λid pos=>if f id pos=true then some id else none)).length<=xs.length ∧
   ((ts.filterMap (y7 λid pos=>if f id pos=true then some id else none)).length=xs.length->(ts.filterMap (y7 λid pos=>if f id pos=true then some id else none))=xs.map nm∧∀x∈xs,∃p,f (nm x) p=true):=by
 induction h with
 |nil=>exact⟨le_refl _,λ_=>⟨rfl,λ_ h=>absurd h not_mem_nil⟩⟩
 |@cons x p ts xs hk h ih=>
  apply af ih λh1 h2=>?_;by_cases hf:f (nm x) p=true
  ·simp only[List.filterMap_cons,nv,hf,if_true,length_cons,map_cons];apply⟨Nat.succ_le_succ h1,λe=>?_⟩;apply af (h2 (Nat.succ.inj e)) λe1 e2=>?_;exact⟨by exact congrArg _ e1,λy hy=>by
    rcases mc hy with rfl|hy
    ·exact⟨p,hf⟩
    ·exact e2 y hy⟩
  ·simp only[List.filterMap_cons,nv,hf,false_eq_true,if_false,length_cons];exact⟨Nat.le_succ_of_le h1,λe=>absurd e (ne_of_lt (Nat.lt_succ_of_le h1))⟩
section
variable {W:Wd} {K:Frag} {n:Nat} {env:Env} {Z:am} {H:AH} {h h':Heap} {fp:List Addr} {sc:av} {scope:Scope} {x:Str} {Q:am->AH->Prop} {Rt:AV->AH->Prop}
theorem kH {ts:List Expr} {xs:List Nat} {k:Nat} {pos:Pos} {e:Expr} (hN:NamesAre sc ts xs) (hc:fx e=false) :
  swappedStores [.Tuple ts k pos] e env=pure none\/(swappedStores [.Tuple ts k pos] e env=pure (some (xs.map nm))∧∀x∈xs,env.kindOf (nm x)=some .local):=by
 set_option tactic.hygienic true in (obtain⟨⟩:=e<;>first|exact .inl rfl|skip)
 rename_i vs k' p';have hc':vs.all (constantsAlone 8)=false:=hc;apply af (hN.pick (f:=λid pos=>env.kindOf id==some NameKind.local&&pos.line==(ts.head?.map (·.pos.line)).getD 0)) λh1 h2=>?_;unfold swappedStores;dsimp only;split
 ·exact .inl rfl
 ·split
  ·exact .inl rfl
  ·by_cases hl:(ts.filterMap (y7 λid pos=>if (env.kindOf id==some NameKind.local&&pos.line==(ts.head?.map (·.pos.line)).getD 0)=true then some id else none)).length=xs.length
   ·apply af (h2 hl) λe1 e2=>?_;have loc:∀x∈xs,env.kindOf (nm x)=some .local:=λx hx=>by
     apply a8 (e2 x hx) λp hp=>?_;simp only[and_eq_true,beq_iff_eq]at hp;exact hp.1
    by_cases hd:(xs.map nm).eraseDups.length != (xs.map nm).length
    ·apply .inl (if_pos ?_);apply(congrArg (λl:List Str=>(l.length != ts.length||l.eraseDups.length != l.length)) e1).trans ?_;show((xs.map nm).length != ts.length||(xs.map nm).eraseDups.length != (xs.map nm).length)=true;simp only[hd,Bool.or_true]
    ·have hd':((xs.map nm).length != ts.length||(xs.map nm).eraseDups.length != (xs.map nm).length)=false:=by
      simp only[Bool.not_eq_true]at hd;apply rwL hd (rwL hN.len ?_);simp
     have c1:=(congrArg (λl:List Str=>(l.length != ts.length||l.eraseDups.length != l.length)) e1).trans hd';split
     ·rename_i hz;exact Bool.noConfusion (Eq.trans (Eq.symm hz) c1)
     ·split
      ·exact .inl rfl
      ·apply rwL hc' ?_;apply .inr ⟨?_,loc⟩;exact congrArg (λl=>(pure (some l):Sem (Option (List Str)))) e1
   ·apply .inl (if_pos ?_);have:((ts.filterMap (y7 λid pos=>if (env.kindOf id==some NameKind.local&&pos.line==(ts.head?.map (·.pos.line)).getD 0)=true then some id else none)).length != ts.length)=true:=by simp only[hN.len];simpa using hl
    exact Bool.or_eq_true_iff.mpr (.inl this)
theorem qv:∀{xs:List Nat} {vs:List AV} {us:List Value} {Z:am} {A:Around} {s:Shared} {R:Unit->Shared->Prop} {E:Value->Shared->Prop},(∀x∈xs,env.kindOf (nm x)=some .local\/env.kindOf (nm x)=some .cell)->xs.length=vs.length->W.St H s.heap->EnvR W env H s.heap Z->bK H s.heap vs us->
  (∀s',AftX (iw env) W H s H s'->EnvR W env H s'.heap (ia Z xs vs)->R () s')->wpAny (model W.prog W.w) A (assignInOrder (xs.map λx=>bindName env (nm x)) us) R E s:=by
 intro xs
 induction xs with
 |nil=>
  intro v1;cases v1 with
  |nil=>
   intro us Z A s R E _ _ S er hv P;cases hv;exact assignInOrder_nil (P s (.refl S) er)
  |cons _ _=>
   intro _ _ _ _ _ _ _ hl _ _ _ _;ac_nf
 |cons x xs ih=>
  intro v1;cases v1 with
  |cons v vs=>
   intro us Z A s R E hk hl S er hv P;apply cq hv λu r z1z hu hr=>?_;clear hv;subst z1z;apply assignInOrder_cons (wpAny_bindName (hU (x:=x) rfl (hk x (.head _)) S er hu λs1 a er1=>?_));exact ih (λy hy=>hk y (.tail _ hy)) (by simpa using hl) a.st er1 (hr.keep' λv u=>VR.kp a.kp er.seqOut) λs' b e=>P s' (a.trans b) e
  |nil=>
   intro _ _ _ _ _ _ _ hl _ _ _ _;ac_nf
theorem jN {ts:List Expr} {xs:List Nat} (h:NamesAre sc ts xs):∀{vs:List AV} {Z:am},bR env sc->xs.length=vs.length->Q (ia Z xs vs) H->pu W n ts env vs Z H Q:=by
 induction h with
 |nil=>intro vs Z ag hl q;cases vs with
  |nil=>exact q
  |cons=>ac_nf
 |cons hk h ih=>intro vs Z ag hl q;cases vs with
  |nil=>ac_nf
  |cons v vs=>exact ic rfl (hk.imp (ag _ _) (ag _ _)) (ih ag (Nat.succ.inj hl) q)
theorem kq {ts:List Expr} {k:Nat} {tp pos:Pos} {e:Expr} {A:Around} {s:Shared} {R:Flow->Shared->Prop} {E:Value->Shared->Prop}
  (h:wpAny (model W.prog W.w) A (do let v <-eval e env;assignStores env v (<-swappedStores [.Tuple ts k tp] e env) [assign (.Tuple ts k tp) env]) R E s):wpAny (model W.prog W.w) A (exec (.Assign [.Tuple ts k tp] e pos) env) R E s:=by
 simp only[arm_exec_Assign];apply wpAny_bind (wpAny_standAt ?_);have e0:swapsWith e (some (.Tuple ts k tp)) pos.line env=pure false:=by(generalize e=e'z;obtain⟨⟩:=e'z)<;>rfl
 have:swapsWithSole [.Tuple ts k tp] e pos.line env=pure false:=e0;simp only[this];exact wpAny_bind (wpAny_pure h)
theorem nz {ts:List Expr} {xs:List Nat} {k:Nat} {tp pos:Pos} {e:Expr} (hN:NamesAre sc ts xs) (ag:bR env sc) (nd:xs.Nodup) (hc:fx e=false)
  (h:aC W n e env Z H λv H=>∃vs,v=.tup vs∧xs.length=vs.length∧Q (ia Z xs vs) H):ol W n (.Assign [.Tuple ts k tp] e pos) env Z H Q Rt:=λA s R E hr S er P P'=>by
 apply kq (wpAny_bind (h A s _ E hr S er λv u s1 H1 hx a q=>?_));obtain⟨vs,rfl,hl,q⟩:=q;rcases kH (env:=env) (k:=k) (pos:=tp) hN hc with e0|⟨e0,loc⟩
 ·apply rwL e0 ?_;apply wpAny_bind (wpAny_pure (wpAny_bind ?_));exact iM hN.stars (hN.len.trans hl) (jN hN ag hl q) A s1 u _ E hr a.st (er.keep a.kp) hx λs' H' Z' b e q=>wpAny_pure (P s' H' Z' (a.x.trans b) e q)
 ·apply rwL e0 ?_;apply wpAny_bind (wpAny_pure (wpAny_bind (wpAny_rule (wpAny_bind ?_))));apply nC hx λt us m z1z ht hz v=>?_;clear hx;subst z1z;have sz:(xs.map nm).length=us.size:=by simp only[length_map,hl,v.size]
  simp only[sz];apply wpAny_unpackItems_tuple hr.3 ⟨_,ht,rfl,m,rfl⟩ λh' he=>wpAny_bind ?_;have gr:∀b o,s1.heap.get? b=some o->h'.get? b=some o:=λb o e=>he b o (λz=>by simp only[z]at e;exact lt_irrefl _ (lt_size e)) e;have g:Aft W H1 s1 H1 {s1 with heap:=h'}:=.grow a.st ⟨rfl,rfl⟩ gr;have e2:((xs.map nm).reverse.map λn=>bindName env n)=xs.reverse.map λx=>bindName env (nm x):=by apply rwR map_reverse (rwL map_map ?_);rfl
  simp only[e2];apply qv (xs:=xs.reverse) (vs:=vs.reverse) (λx hx=>.inl (loc x (List.mem_reverse.mp hx))) (by simpa using hl) g.st ((er.keep a.kp).keep g.kp) ((v.keep' λv u x=>x.kp0 g.kp).reverse) λs' b e=>wpAny_pure ?_;exact P s' H1 _ ((a.trans g).x.trans b) (e.congr λx v q=>by exact rwR (qE nd hl) q) q
theorem ny {ts:List Expr} {k:Nat} {tp pos:Pos} {e:Expr} (ht:∀t∈ts,NN t) (hst:aA ts=true)
  (h:aC W n e env Z H λv H=>∃vs,v=.tup vs∧ts.length=vs.length∧pu W n ts env vs Z H Q):ol W n (.Assign [.Tuple ts k tp] e pos) env Z H Q Rt:=λA s R E hr S er P P'=>by
 apply kq (wpAny_bind (h A s _ E hr S er λv u s1 H1 hx a q=>?_));obtain⟨vs,rfl,hl,q⟩:=q;apply rwL (lQ ht) ?_;apply wpAny_bind (wpAny_pure (wpAny_bind ?_));exact iM hst hl q A s1 u _ E hr a.st (er.keep a.kp) hx λs' H' Z' b e q=>wpAny_pure (P s' H' Z' (a.x.trans b) e q)
end
end
section
section
variable {W:Wd} {K:Frag} {n:Nat} {env:Env} {Z:am} {H:AH} {h h':Heap} {fp:List Addr} {sc:av} {scope:Scope} {x:Str} {Q:am->AH->Prop} {Rt:AV->AH->Prop}
theorem pP {target iter:Expr} {body:List Stmt} {pos:Pos} (hset:ey iter=true)
  (h:iS W n iter env Z H λai H₁=>((wj target=true∧ai.ok1)\/(wg target=true∧ai.okT))∧E2 λ(I:Nat->am->AH->Prop) (N:Nat)=>I 0 Z H₁∧∀i Z H,I i Z H->i<=N∧∃o,bU H ai i=some o∧match o with
   |none=>Q Z (j5 ai H)
   |some v=>wZ W n target env v Z H λZ H=>uH W n body env Z H (I (i+1)) Rt):ol W n (.For target iter body [] pos) env Z H Q Rt:=λA s R E hr S er P P'=>by
 apply wpAny_For (h A s _ E hr S er λit ai fp s1 H1 s2 H2 a b hit hfp q=>?_) (fj hset);apply af q λhtg z1z=>bb z1z λI N h0 step=>?_;clear q z1z;have er1:=er.keep a.kp;have fpF:∀c∈fp,¬iw env c:=λc hc z=>by apply a8 (er1.dom c z) λo e=>?_;rw[hfp c hc]at e;exact nS e
 have fpB:∀c∈fp,W.B.get? c=none:=λc hc=>by
  cases e:W.B.get? c with
  |none=>rfl
  |some o=>have:=(a.st.base _ _ e).1;rw[hfp c hc]at this;exact nS this
 apply codeAny_forLoop_any (λk s'=>E3 λi Z' H'=>k=N+1-i∧I i Z' H'∧W.St H' s'.heap∧Kp (iw env) H1 s1.heap H' s'.heap∧Same s1 s'∧dh ai it fp i H' s'.heap∧EnvR W env H' s'.heap Z') ?_ (N+1)
  ⟨0,Z,H2,rfl,h0,b.st,b.kp.mono λ_ h=>h.elim,b.same,hit,er1.keep b.kp⟩
 rintro k s' ⟨i,Z',H',rfl,hI,S',kp,sm,it',er'⟩;apply af (step i Z' H' hI) λhi z1z=>?_;(apply ad z1z λo hn st=>?_;clear z1z);apply pV hr.3 it' fpB S' hn htg (λe s3 off sm3=>?_) λv e u s3 hP=>?_
 ·subst e;apply af (y8 it' hn fpB S' off) λS3 out=>?_;apply wpAny_execs_nil (P s3 _ Z' ⟨S3,(a.kp.mono λ_ h=>h.elim).trans (kp.out out off hfp),(a.same.trans sm).trans sm3⟩ (er'.out' out off fpF) st)
 ·subst e;apply hP _ _ λs4 it4 vw off prs sm4=>?_;have apt:uJ W H' s'.heap fp:=it'.apt fpB (oH hn);have S4:=S'.off apt off prs;have er4:=er'.off apt off fpF;have kp4:=kp.off off hfp;apply st A s4 u _ _ hr S4 er4 vw λs5 H5 Z5 a5 er5 q5=>?_;have it5:=it4.keep a5.kp er4.seqOut fpF;apply q5 A s5 _ _ hr a5.st er5 (λs6 H6 Z6 a6 er6 q6=>?_) λv u s6 H6 vr a6 q6=>?_
  ·apply af (step (i+1) Z6 H6 q6) λhi6 _=>?_;exact⟨N+1-(i+1),by omega,i+1,Z6,H6,rfl,q6,a6.st,(kp4.trans a5.kp).trans a6.kp,((sm.trans sm4).trans a5.same).trans a6.same,it5.keep a6.kp er5.seqOut fpF,er6⟩
  ·exact P' v u s6 H6 vr ⟨a6.st,((a.kp.mono λ_ h=>h.elim).trans ((kp4.trans a5.kp).trans a6.kp)),(a.same.trans (((sm.trans sm4).trans a5.same).trans a6.same))⟩ q6
theorem qF:∀{xs:List Nat} {vs:List AV} {Z Z':am},putAll Z xs vs=some Z'->xs.length=vs.length∧Z'=ia Z xs vs:=by
 intro xs
 induction xs with
 |nil=>
  intro v1;cases v1 with
  |nil=>
   intro Z Z' h;exact⟨rfl,(sI h).symm⟩
  |cons _ _=>
   intro _ _ h;exact nS h
 |cons x xs ih=>
  intro v1;cases v1 with
  |cons v vs=>
   intro Z Z' h;apply af (ih (show putAll (put Z x v) xs vs=_ from h)) λh1 h2=>?_;exact⟨by exact Nat.succ_inj.mpr h1,h2⟩
  |nil=>
   intro _ _ h;exact nS h
theorem sJ {y:Str} {p pos:Pos} {xi:Nat} {iter:Expr} {body:List Stmt} (hset:ey iter=true) (hy:nm xi=y) (hk:env.kindOf y=some .local\/env.kindOf y=some .cell)
  (h:iS W n iter env Z H λai H₁=>ai.ok1∧E2 λ(I:Nat->am->AH->Prop) (N:Nat)=>I 0 Z H₁∧∀i Z H,I i Z H->i<=N∧∃o,bU H ai i=some o∧match o with
   |none=>Q Z (j5 ai H)
   |some v=>uH W n body env (put Z xi v) H (I (i+1)) Rt):ol W n (.For (.Name y p) iter body [] pos) env Z H Q Rt:=
 pP hset λA s R E hr S er P=>h A s R E hr S er λit ai fp s1 H1 s2 H2 a b hit hfp q=>P it ai fp s1 H1 s2 H2 a b hit hfp (by
  apply af q λq1 z1z=>?_;clear q;obtain⟨I,N,h0,st⟩:=z1z;apply⟨.inl ⟨rfl,q1⟩,I,N,h0,λi Z H hI=>?_⟩;apply af (st i Z H hI) λhi z1z=>?_;(apply ad z1z λo hn r=>?_;clear z1z);apply⟨hi,o,hn,?_⟩;cases o with
  |none=>exact r
  |some v=>exact ic hy hk r)
theorem sH {ts:List Expr} {xs:List Nat} {k:Nat} {tp pos:Pos} {iter:Expr} {body:List Stmt} (hset:ey iter=true) (hN:NamesAre sc ts xs) (ag:bR env sc)
  (h:iS W n iter env Z H λai H₁=>ai.okT∧E2 λ(I:Nat->am->AH->Prop) (N:Nat)=>I 0 Z H₁∧∀i Z H,I i Z H->i<=N∧∃o,bU H ai i=some o∧match o with
   |none=>Q Z (j5 ai H)
   |some v=>E2 λvs Z'=>v=.tup vs∧putAll Z xs vs=some Z'∧uH W n body env Z' H (I (i+1)) Rt):ol W n (.For (.Tuple ts k tp) iter body [] pos) env Z H Q Rt:=
 pP hset λA s R E hr S er P=>h A s R E hr S er λit ai fp s1 H1 s2 H2 a b hit hfp q=>P it ai fp s1 H1 s2 H2 a b hit hfp (by
  apply af q λq1 z1z=>?_;clear q;obtain⟨I,N,h0,st⟩:=z1z;apply⟨.inr ⟨rfl,q1⟩,I,N,h0,λi Z H hI=>?_⟩;apply af (st i Z H hI) λhi z1z=>?_;(apply ad z1z λo hn r=>?_;clear z1z);apply⟨hi,o,hn,?_⟩;cases o with
  |none=>exact r
  |some v=>
   apply cq r λvs Z' z1z hp q=>?_;clear r;subst z1z;apply af (qF hp) λhl z1z=>?_;subst z1z;exact iM hN.stars (hN.len.trans hl) (jN hN ag hl q))
end
end
section
section
variable {W:Wd} {K:Frag} {n:Nat}
theorem fA.mono {e:Expr} {env:Env} {Z:am} {H:AH} {Q Q':Bool->AH->Prop} (h:fA W n e env Z H Q) (k:∀t H',Q t H'->Q' t H'):fA W n e env Z H Q':=λA s R E hr S er P=>h A s R E hr S er λt s' H' a q=>P t s' H' a (k t H' q)
theorem kF.mono {env:Env} {Z:am}:∀{f:List Expr} {H:AH} {Q Q':List AV->AH->Prop},(∀vs H,Q vs H->Q' vs H)->kF W n f env Z H Q->kF W n f env Z H Q':=by
 intro f
 induction f with
 |nil=>
  intro H Q Q' k h;exact k _ _ h
 |cons e f ih=>
  intro H Q Q' k h;exact aC.mono h λv H' q=>ih (λvs H'' q=>k _ _ q) q
theorem q9 {sc:av} {y:Str} (hl:sc.lookup y=some .globalImplicit) (hd:(y==ofString "__debug__")=false):ax sc y=true:=by
 rewrite [ax,and_eq_true,beq_iff_eq,bne_iff_ne]
 exact⟨hl,by simpa using hd⟩
theorem CompOk.agree' {env:Env} {sc:av} {scope:Scope} {x:Str} (C:CompOk sc scope x) (ag:bR env sc) (hk:env.scope.kind=.function) (cl:List (Str × Addr)) (L:Addr):bR (compEnvC scope cl L env) scope.names:=by
 intro y k hk';have e:(compEnvC scope cl L env).kindOf y=(scope.names.lookup y).map λk=>if (k==NameKind.free&&env.scope.kind==.function&&env.kindOf y==some .cell)then .cell else k:=dE scope.names;simp only[hk']at e;cases k with
 |«local»=>exact e
 |cell=>
  have:=(C.all _ (ah hk')).1;rcases this with⟨h,_⟩|h|⟨h,_⟩<;>ac_nf
 |free=>
  have:=(C.all _ (ah hk')).1;rcases this with⟨h,_⟩|h|⟨_,h⟩
  ·ac_nf
  ·ac_nf
  ·apply rwL e (rwL hk (rwL (ag y _ h) ?_));exact .inl rfl
 |globalImplicit=>exact e
 |_=>trivial
theorem Da {env:Env} {Z:am} {H:AH} {e:Expr} {pos:Pos} {Q:Bool->AH->Prop} (h:fA W n e env Z H Q):fA W n (.BoolOp .And [e] pos) env Z H Q:=
 mh (fA.mono h λt H r=>⟨λht=>ht▸r,λht=>sM (ht▸r)⟩)
theorem Ek {env:Env} {Z:am} {H:AH} {e:Expr} {pos:Pos} {Q:Bool->AH->Prop} (h:fA W n e env Z H Q):fA W n (.BoolOp .Or [e] pos) env Z H Q:=
 oK (fA.mono h λt H r=>⟨λht=>ht▸r,λht=>vE (ht▸r)⟩)
end
structure Fr (W:Wd) (K:Frag) (env:Env) (sc:av):Prop where
 G:Gd W K
 fn:env.scope.kind=.function
 ag:bR env sc
structure SE (sc:av) (e:Expr) (c:CE):Prop where
 ev:∀{W:Wd} {K:Frag} {n:Nat} {env:Env} {Z:am} {H:AH} {Q:AV->AH->Prop},Fr W K env sc->aD W n c Z H Q->aC W n e env Z H Q
 cond:∀{W:Wd} {K:Frag} {n:Nat} {env:Env} {Z:am} {H:AH} {Q:Bool->AH->Prop},Fr W K env sc->aD W n c Z H (λv H=>gU v λt=>Q t H)->fA W n e env Z H Q
 ns:ey e=true
 asg:∀{W:Wd} {K:Frag} {n:Nat} {env:Env} {Z:am} {H:AH} {y:Str} {py pos:Pos} {yi:Nat} {Q:am->AH->Prop} {Rt:AV->AH->Prop},Fr W K env sc->nm yi=y->(sc.lookup y=some .local\/sc.lookup y=some .cell)->
  aD W n c Z H (λv H=>Q (put Z yi v) H)->ol W n (.Assign [.Name y py] e pos) env Z H Q Rt
structure SL (sc:av) (es:List Expr) (cs:List CE):Prop where
 ev:∀{W:Wd} {K:Frag} {n:Nat} {env:Env} {Z:am} {H:AH} {Q:List AV->AH->Prop},Fr W K env sc->cJ W n cs Z H Q->kF W n es env Z H Q
 st:aA es=true
structure SO (sc:av) (o:Option Expr) (c:CE):Prop where
 ev:∀{W:Wd} {K:Frag} {n:Nat} {env:Env} {Z:am} {H:AH} {Q:AV->AH->Prop},Fr W K env sc->aD W n c Z H Q->Bj W n o env Z H Q
structure SK (sc:av) (ks:List (Option Expr)) (es:List Expr) (cs:List CE):Prop where
 ev:∃fl,eB ks es=some fl∧∀{W:Wd} {K:Frag} {n:Nat} {env:Env} {Z:am} {H:AH} {Q:List AV->AH->Prop},Fr W K env sc->cJ W n cs Z H Q->kF W n fl env Z H Q
section
variable {W:Wd} {K:Frag} {env:Env} {sc:av} {e a b d:Expr} {c x y z:CE} {es:List Expr} {cs:List CE} {p q r:Pos} {f:Str}
theorem Fr.kd (F:Fr W K env sc) (h:sc.lookup f=some .local\/sc.lookup f=some .cell):env.kindOf f=some .local\/env.kindOf f=some .cell:=h.imp (F.ag _ _) (F.ag _ _)
theorem SE.cnd (ev:∀{W:Wd} {K:Frag} {n:Nat} {env:Env} {Z:am} {H:AH} {Q:AV->AH->Prop},Fr W K env sc->aD W n c Z H Q->aC W n e env Z H Q)
  (cond:∀{W:Wd} {K:Frag} {n:Nat} {env:Env} {Z:am} {H:AH} {Q:Bool->AH->Prop},Fr W K env sc->aD W n c Z H (λv H=>gU v λt=>Q t H)->fA W n e env Z H Q) (ns:ey e=true) (nc:mD e=false):SE sc e c:=
 ⟨ev,cond,ns,λF hy hk q=>fR (ng nc) rfl (aC.mono (ev F q) λv H r=>ic hy (F.kd hk) r)⟩
theorem SE.plain (ev:∀{W:Wd} {K:Frag} {n:Nat} {env:Env} {Z:am} {H:AH} {Q:AV->AH->Prop},Fr W K env sc->aD W n c Z H Q->aC W n e env Z H Q)
  (hp:uE e) (ns:ey e=true) (nc:mD e=false):SE sc e c:=
 .cnd ev (λF q=>lc hp (aC.mono (ev F q) λv H r=>cO.mp r)) ns nc
theorem SL.all (h:SL sc es cs) {W:Wd} {K:Frag} {n:Nat} {env:Env} {Z:am} {H:AH} {Q:List AV->AH->Prop} (F:Fr W K env sc) (q:cJ W n cs Z H Q):dO W n es env Z H Q:=kF.es h.st (h.ev F q)
theorem SL.nil:SL sc [] []:=⟨λ_ q=>q,rfl⟩
theorem SL.cons (hs:bG e=false) (h:SE sc e c) (t:SL sc es cs):SL sc (e::es) (c::cs):=
 ⟨λF q=>aC.mono (h.ev F q) λv H q=>t.ev F q,by simp only[aA,all_cons,and_eq_true,not_eq_true'];exact⟨hs,t.st⟩⟩
theorem SO.none:SO sc .none (.k .none):=⟨λ_ q=>sS q⟩
theorem SO.some (h:SE sc e c):SO sc (some e) c:=⟨λF q=>sR (h.ev F q)⟩
theorem SK.nil:SK sc [] [] []:=⟨[],rfl,λ_ q=>q⟩
theorem SK.cons {ks:List (Option Expr)} (h:SE sc e x) (g:SE sc a y) (t:SK sc ks es cs):SK sc (some e::ks) (a::es) (x::y::cs):=
 let ⟨fl,e1,k⟩:=t.ev
 ⟨e::a::fl,congrArg (Option.map λf=>e::a::f) e1,λF q=>aC.mono (h.ev F q) λv H q=>aC.mono (g.ev F q) λv H q=>k F q⟩
theorem rT {k:Const} {m:Nat} {v:AV} (hv:match k with|.none=>v=.none|.bool b=>v=.bool b|.int i=>v=.int i|.str x=>v=.str x|.bytes b=>v=.bytes b.toArray|_=>False):SE sc (.Constant k m p) (.k v):=
 .plain (λF q=>Aa hv q) rfl rfl rfl
theorem oB {i:Nat} (hi:nm i=f) (hk:sc.lookup f=some .local\/sc.lookup f=some .cell\/(sc.lookup f=some .free∧(f==("__classdict__":Str))=false)) (hd:(f==ofString "__debug__")=false):SE sc (.Name f p) (.loc i):=
 .plain (λF q=>let ⟨v,hv,q⟩:=fU.mp q;yk F.ag hi hk hd hv q) rfl rfl rfl
theorem xV {i:Int} (hl:sc.lookup f=some .globalImplicit) (hd:(f==ofString "__debug__")=false) (hi:tC.lookup f=some i):SE sc (.Name f p) (.k (.int i)):=
 .plain (λF q A s R E hr S er P=>let ⟨t,ht⟩:=F.G.gintOK _ _ hi;gv F.G F.ag (q9 hl hd) S er ht (P _ _ _ _ (by simp only[bQ];exact⟨t,rfl⟩) (.refl S) q)) rfl rfl rfl
theorem xW (hl:sc.lookup f=some .globalImplicit) (hd:(f==ofString "__debug__")=false) (hx:(f==vh)=true):SE sc (.Name f p) (.k (.bytes nU)):=
 .plain (λF q A s R E hr S er P=>let ⟨t,ht⟩:=F.G.hexOK;gv F.G F.ag (q9 hl hd) S er (by simp only[beq_iff_eq.mp hx];exact ht) (P _ _ _ _ (by simp only[qn];exact⟨t,rfl⟩) (.refl S) q)) rfl rfl rfl
theorem vf {i:Nat} (hs:bM e=true) (hi:nm i=f) (h:SE sc e c):SE sc (.Attribute e f p) (.attr c i):=.plain (λF q=>vN F.G hs hi (h.ev F q)) rfl rfl rfl
theorem oD (h:SE sc a x) (g:SE sc b y):SE sc (.BoolOp .And [a,b] p) (.and x y):=
 .cnd (λF q=>yo (aC.mono (h.ev F q) λv H r=>ad (cO.mp r) λt e r=>⟨t,e,r.1,λht=>g.ev F (r.2 ht)⟩))
  (λF q=>mh (fA.mono (h.cond F q) λt H r=>⟨r.1,λht=>Da (g.cond F (r.2 ht))⟩)) rfl rfl
theorem rS (h:SE sc a x) (g:SE sc b y):SE sc (.BoolOp .Or [a,b] p) (.or x y):=
 .cnd (λF q=>A9 (aC.mono (h.ev F q) λv H r=>ad (cO.mp r) λt e r=>⟨t,e,r.1,λht=>g.ev F (r.2 ht)⟩))
  (λF q=>oK (fA.mono (h.cond F q) λt H r=>⟨r.1,λht=>Ek (g.cond F (r.2 ht))⟩)) rfl rfl
theorem vg (h:SE sc a x) (g:SE sc b y) (k:SE sc d z):SE sc (.BoolOp .And [a,b,d] p) (.and x (.and y z)):=
 .cnd (λF q=>vO (aC.mono (h.ev F q) λv H r=>ad (cO.mp r) λt e r=>⟨t,e,r.1,λht=>(oD g k).ev F (r.2 ht)⟩))
  (λF q=>mh (fA.mono (h.cond F q) λt H r=>⟨r.1,λht=>(oD g k).cond F (r.2 ht)⟩)) rfl rfl
theorem xQ (h:SE sc a x) (g:SE sc b y) (k:SE sc d z):SE sc (.BoolOp .Or [a,b,d] p) (.or x (.or y z)):=
 .cnd (λF q=>yf (aC.mono (h.ev F q) λv H r=>ad (cO.mp r) λt e r=>⟨t,e,r.1,λht=>(rS g k).ev F (r.2 ht)⟩))
  (λF q=>oK (fA.mono (h.cond F q) λt H r=>⟨r.1,λht=>(rS g k).cond F (r.2 ht)⟩)) rfl rfl
theorem xY {o:Operator} {op:Op} (ho:vv o=some op) (h:SE sc a x) (g:SE sc b y):SE sc (.BinOp a o b p) (.bin op x y):=
 .plain (λF q=>yn ho (aC.mono (h.ev F q) λv H r=>g.ev F r)) rfl rfl rfl
theorem xR (h:SE sc a x):SE sc (.UnaryOp .Not a p) (.not x):=
 .cnd (λF q=>yg (aC.mono (h.ev F q) λv H r=>cO.mp r)) (λ{_ _ _ _ _ _ Q} F q=>vF (h.cond (Q:=λt H=>Q (!t) H) F q)) rfl rfl
theorem xT (h:SE sc a x):SE sc (.UnaryOp .USub a p) (.neg x):=
 .plain (λF q=>yj (aC.mono (h.ev F q) λv H r=>bI.mp r)) rfl rfl rfl
theorem xU (h:SE sc a x) (g:SE sc b y) (k:SE sc d z):SE sc (.IfExp a b d p) (.ite x y z):=
 .cnd (λF q=>yl (fA.mono (h.cond F q) λt H r=>⟨λht=>g.ev F (r.1 ht),λht=>k.ev F (r.2 ht)⟩))
  (λF q=>vG (fA.mono (h.cond F q) λt H r=>⟨λht=>g.cond F (r.1 ht),λht=>k.cond F (r.2 ht)⟩)) rfl rfl
theorem wk {Q:Bool->AH->Prop}:(λ(v:AV) (H:AH)=>gU v λt=>Q t H)=λv H=>∃t,v=.bool t∧Q t H:=funext λv=>funext λH=>propext cO
theorem xX {o:CmpOp} {op:Cm} (ho:u9 o=some op) (hm:behindInMarks o b=false) (h:SE sc a x) (g:SE sc b y):SE sc (.Compare a [o] [b] p) (.cmp op x y):=
 .cnd (λF q=>ym ho hm (aC.mono (h.ev F q) λv H r=>g.ev F r))
  (λF q=>vH ho hm (wk▸aC.mono (h.ev F q) λv H r=>g.ev F r)) rfl rfl
theorem vb (h:SL sc es cs):SE sc (.List es p) (.list cs):=.plain (λF q=>vK (h.all F q)) rfl rfl rfl
theorem xN {k:Nat} (h:SL sc es cs):SE sc (.Tuple es k p) (.tup cs):=.plain (λF q=>yc (h.all F q)) rfl rfl rfl
theorem zN {ks:List (Option Expr)} {ss:List Str} (hk:je ks=some ss) (hl:(!ss.isEmpty&&ss.length==es.length&&decide (ss.length<=10))=true) (h:SL sc es cs):SE sc (.Dict ks es p) (.dS ss cs):=by
 simp only[and_eq_true,beq_iff_eq,decide_eq_true_eq,not_eq_true']at hl;exact .plain (λF q=>Ac F.G hk (λz=>by(have hl:=hl;have hl:=z▸hl);exact Bool.noConfusion hl.1.1) hl.1.2 hl.2 (kF.mono (λvs H q=>(hY q).2.2) (h.ev F q))) rfl rfl rfl
theorem zO {ks:List (Option Expr)} (hl:(!ks.isEmpty&&ks.length==es.length&&decide (ks.length<=10))=true) (h:SK sc ks es cs):SE sc (.Dict ks es p) (.dI cs):=by
 simp only[and_eq_true,beq_iff_eq,decide_eq_true_eq,not_eq_true']at hl;apply ad h.ev λfl e1 k=>?_;exact .plain (λF q=>Ad F.G e1 (λz=>by(have hl:=hl;have hl:=z▸hl);exact Bool.noConfusion hl.1.1) hl.2 (k F q)) rfl rfl rfl
theorem rR {lo hi:Option Expr} (h:SE sc a x) (g:SO sc lo y) (k:SO sc hi z):SE sc (.Subscript a (.Slice lo hi none q) p) (.slice x y z):=
 .plain (λF q=>sP (aC.mono (h.ev F q) λv H r A s R E hr S er P=>g.ev F r A s R E hr S er λv u s' H' x a q=>P v u s' H' x a (k.ev F q))) rfl rfl rfl
theorem xP {m:Nat} {p1 p2:Pos} (h:SE sc a x):SE sc (.Subscript a (.Slice none none (some (.UnaryOp .USub (.Constant (.int 1) m p1) p2)) q) p) (.rev x):=.plain (λF q=>ye (h.ev F q)) rfl rfl rfl
theorem xO (hs:gu b=false) (h:SE sc a x) (g:SE sc b y):SE sc (.Subscript a b p) (.sub x y):=.plain (λF q=>yd hs (aC.mono (h.ev F q) λv H r=>g.ev F r)) rfl rfl rfl
theorem Fr.inner {scope:Scope} (C:CompOk sc scope f) (F:Fr W K env sc) (L:Addr):Fr W K (compEnvC scope (cX env scope.names []) L env) scope.names:=⟨F.G,C.kind,C.agree' F.ag F.fn _ L⟩
structure SC (sc:av) (ifs:List Expr) (c:CE):Prop where
 ev:∀{W:Wd} {K:Frag} {n:Nat} {env:Env} {Z:am} {H:AH} {Q:Bool->AH->Prop},Fr W K env sc->aD W n c Z H (λv H=>gU v λt=>Q t H)->uF W n ifs env Z H Q
theorem SC.nil:SC sc [] (.k (.bool true)):=⟨λF q=>sw q⟩
theorem SC.one (h:SE sc e c):SC sc [e] c:=⟨λF q=>sv (h.cond F q)⟩
theorem vd {scope:Scope} {i:Nat} {ifs:List Expr} (hc:mQ sc scope f=true) (hi:nm i=f) (h:SE sc a x) (g:SE scope.names b y) (k:SC scope.names ifs z):SE sc (.ListComp b [⟨.Name f p,a,ifs,0⟩] scope q) (.comp y i x z):=by
 have C:=pc hc;have step:∀{W:Wd} {K:Frag} {n:Nat} {env:Env} {Z:am} {H:AH} {Q:AV->AH->Prop},Fr W K env sc->aD W n (.comp y i x z) Z H Q->
   aC W n a env Z H λv H₁=>AI.ok1 (.seq v)∧E2 λ(I:Nat->List AV->AH->Prop) (N:Nat)=>N<=cap∧I 0 [] H₁∧kD W n b ifs scope env i N Z v I Q:=λF q=>
  aC.mono (h.ev F q) λv H' r=>by
   apply af r λr1 z1z=>cq z1z λI N hN h0 r2=>?_;clear r z1z;apply⟨r1,I,N,hN,h0,λL j out H hI=>?_⟩;apply bH (r2 j out H hI) λq1 q2 z1z=>?_;(apply ad z1z λo hn q3=>?_;clear z1z);apply⟨q1,q2,o,hn,?_⟩;cases o with
   |none=>exact q3
   |some u=>exact λA s R E hr S er P=>k.ev (F.inner C L) q3 A s R E hr S er λt s' H' x r=>P t s' H' x ⟨λht=>g.ev (F.inner C L) (r.1 ht),r.2⟩
 have ev:∀{W:Wd} {K:Frag} {n:Nat} {env:Env} {Z:am} {H:AH} {Q:AV->AH->Prop},Fr W K env sc->aD W n (.comp y i x z) Z H Q->aC W n (.ListComp b [⟨.Name f p,a,ifs,0⟩] scope q) env Z H Q:=λF q=>vL C F.ag hi h.ns (step F q);apply⟨ev,λF q=>lc rfl (aC.mono (ev F q) λv H r=>cO.mp r),rfl,λ{W K n env Z H u py pos yi Q Rt} F hy hk r=>?_⟩;apply a8 (oz (env:=env) (e:=.ListComp b [⟨.Name f p,a,ifs,0⟩] scope q) (y:=u) (p:=py) (l:=pos.line)) λt ht=>?_;cases t with
 |false=>exact fR ht rfl (aC.mono (ev F r) λv H r=>ic hy (F.kd hk) r)
 |true=>exact sE ht C F.ag hi hy (F.kd hk) h.ns (step F r)
theorem ve {g:Addr} (hg:ax sc f=true) (hf:qV.lookup f=some g) (h:SL sc es cs):SE sc (.Call (.Name f q) es [] p) (.call g cs):=.plain (λF q=>vM F.G F.ag hg hf h.st (h.all F q)) rfl rfl rfl
theorem xS {g:Addr} (hg:ax sc f=true) (hf:qW.lookup f=some g) (h:SL sc es cs):SE sc (.Call (.Name f q) es [] p) (.new g cs):=.plain (λF q=>yh F.G F.ag hg hf h.st (h.all F q)) rfl rfl rfl
theorem zQ {g:BF} (hg:ax sc f=true) (hf:ru.lookup f=some g) (h:SL sc es cs):SE sc (.Call (.Name f q) es [] p) (.bf g cs):=.plain (λF q=>Af F.G F.ag hg hf h.st (h.all F q)) rfl rfl rfl
theorem zP {g:BM} (hc:(decide (es.length<=10)&&q.endLine==p.line&&bM e)=true) (hf:lL.lookup f=some g) (k:SE sc e x) (h:SL sc es cs):SE sc (.Call (.Attribute e f q) es [] p) (.bm g x cs):=by
 simp only[and_eq_true,decide_eq_true_eq]at hc;exact .plain (λF q=>Ae F.G hc.2 hf h.st hc.1.1 hc.1.2 (aC.mono (k.ev F q) λv H r=>⟨r.1,h.all F r.2⟩)) rfl rfl rfl
theorem va {i:Nat} (hc:(decide (es.length<=10)&&q.endLine==p.line&&bM e)=true) (hf:nm i=f) (k:SE sc e x) (h:SL sc es cs):SE sc (.Call (.Attribute e f q) es [] p) (.meth x i cs):=by
 simp only[and_eq_true,decide_eq_true_eq]at hc;exact .plain (λF q=>vJ F.G hc.2 hf h.st hc.1.1 hc.1.2 (aC.mono (k.ev F q) λv H=>E5.i λ_ _ _ _ _=>imp λ_=>A5.r (h.all F))) rfl rfl rfl
end
section
noncomputable abbrev RE (sc:av) (e:Expr):Type:=Option {c:CE // SE sc e c}
noncomputable def rz {U:Type} (o:Option U):Option {x:U // o=some x}:=match o with
 |some x=>some ⟨x,rfl⟩
 |none=>none
noncomputable def u8 (f:Str):Option {i:Nat // nm i=f}:=(rz (mT f)).map λi=>⟨i.1,lg i.2⟩
variable (F:∀sc e,RE sc e) (sc:av)
noncomputable def uc (es:List Expr):Option {cs:List CE // SL sc es cs}:=List.rec (motive:=λes=>Option {cs:List CE // SL sc es cs}) (some ⟨[],.nil⟩)
 (λe es ih=>if h:bG e=false then(F sc e).bind λc=>ih.map λcs=>⟨c.1::cs.1,.cons h c.2 cs.2⟩else none) es
noncomputable def EK (ks:List (Option Expr)) (es:List Expr):Option {cs:List CE // SK sc ks es cs}:=List.rec (motive:=λks=>∀es,Option {cs:List CE // SK sc ks es cs})
 (λes=>List.casesOn (motive:=λes=>Option {cs:List CE // SK sc [] es cs}) es (some ⟨[],.nil⟩) λ_ _=>none)
 (λk ks ih es=>List.casesOn (motive:=λes=>Option {cs:List CE // SK sc (k::ks) es cs}) es none λe es=>Option.casesOn (motive:=λk=>Option {cs:List CE // SK sc (k::ks) (e::es) cs}) k none
  λk=>(F sc k).bind λx=>(F sc e).bind λy=>(ih es).map λcs=>⟨x.1::y.1::cs.1,.cons x.2 y.2 cs.2⟩) ks es
noncomputable def AS:∀o:Option Expr,Option {c:CE // SO sc o c}
 |none=>some ⟨_,.none⟩
 |some e=>(F sc e).map λc=>⟨c.1,.some c.2⟩
noncomputable def z6 (m:Nat) (p:Pos):∀k:Const,RE sc (.Constant k m p)
 |.none=>some ⟨.k .none,rT rfl⟩
 |.bool b=>some ⟨.k (.bool b),rT rfl⟩
 |.int i=>some ⟨.k (.int i),rT rfl⟩
 |.str s=>some ⟨.k (.str s),rT rfl⟩
 |.bytes b=>some ⟨.k (.bytes b.toArray),rT rfl⟩
 |_=>none
noncomputable def AU (f:Str) (p:Pos):RE sc (.Name f p):=
 if hd:(f==ofString "__debug__")=false then(rz (sc.lookup f)).bind fun
  |⟨.local,h⟩=>(u8 f).map λi=>⟨.loc i.1,oB i.2 (.inl h) hd⟩
  |⟨.cell,h⟩=>(u8 f).map λi=>⟨.loc i.1,oB i.2 (.inr (.inl h)) hd⟩
  |⟨.free,h⟩=>if hc:(f==("__classdict__":Str))=false then(u8 f).map λi=>⟨.loc i.1,oB i.2 (.inr (.inr ⟨h,hc⟩)) hd⟩else none
  |⟨.globalImplicit,h⟩=>(match rz (tC.lookup f)with
   |some i=>some ⟨.k (.int i.1),xV h hd i.2⟩
   |none=>if hx:(f==vh)=true then some ⟨.k (.bytes nU),xW h hd hx⟩else none)
  |_=>none
 else none
noncomputable def AY (p:Pos):∀(o:BoolOp) (es:List Expr),RE sc (.BoolOp o es p)
 |.And,[a,b]=>(F sc a).bind λx=>(F sc b).map λy=>⟨.and x.1 y.1,oD x.2 y.2⟩
 |.Or,[a,b]=>(F sc a).bind λx=>(F sc b).map λy=>⟨.or x.1 y.1,rS x.2 y.2⟩
 |.And,[a,b,c]=>(F sc a).bind λx=>(F sc b).bind λy=>(F sc c).map λz=>⟨.and x.1 (.and y.1 z.1),vg x.2 y.2 z.2⟩
 |.Or,[a,b,c]=>(F sc a).bind λx=>(F sc b).bind λy=>(F sc c).map λz=>⟨.or x.1 (.or y.1 z.1),xQ x.2 y.2 z.2⟩
 |_,_=>none
noncomputable def EI (p:Pos) (a:Expr):∀o:UnaryOp,RE sc (.UnaryOp o a p)
 |.Not=>(F sc a).map λx=>⟨.not x.1,xR x.2⟩
 |.USub=>(F sc a).map λx=>⟨.neg x.1,xT x.2⟩
 |_=>none
noncomputable def CI (p:Pos) (a:Expr):∀(os:List CmpOp) (bs:List Expr),RE sc (.Compare a os bs p)
 |[o],[b]=>if hm:behindInMarks o b=false then(rz (u9 o)).bind λop=>(F sc a).bind λx=>(F sc b).map λy=>⟨.cmp op.1 x.1 y.1,xX op.2 hm x.2 y.2⟩else none
 |_,_=>none
noncomputable def AW (p:Pos) (ks:List (Option Expr)) (es:List Expr):RE sc (.Dict ks es p):=match rz (je ks)with
 |some ss=>if hl:(!ss.1.isEmpty&&ss.1.length==es.length&&decide (ss.1.length<=10))=true then(uc F sc es).map λcs=>⟨.dS ss.1 cs.1,zN ss.2 hl cs.2⟩else none
 |none=>if hl:(!ks.isEmpty&&ks.length==es.length&&decide (ks.length<=10))=true then(EK F sc ks es).map λcs=>⟨.dI cs.1,zO hl cs.2⟩else none
noncomputable def CD (p q:Pos) (a st:Expr):RE sc (.Subscript a (.Slice none none (some st) q) p):=
 if h:st.ctorIdx=3 then @Expr.UnaryOp.elim (λst=>RE sc (.Subscript a (.Slice none none (some st) q) p)) st h λo b r=>match o with
  |.USub=>if h:b.ctorIdx=19 then @Expr.Constant.elim (λb=>RE sc (.Subscript a (.Slice none none (some (.UnaryOp .USub b r)) q) p)) b h λc m s=>match c with
    |.int k=>if hk:k=1 then(F sc a).map λx=>⟨.rev x.1,by subst hk;exact xP x.2⟩else none
    |_=>none
   else none
  |_=>none
 else none
noncomputable def CB (p:Pos) (a i:Expr):RE sc (.Subscript a i p):=
 if h:i.ctorIdx=26 then @Expr.Slice.elim (λi=>RE sc (.Subscript a i p)) i h λlo hi st q=>match st with
  |none=>(F sc a).bind λx=>(AS F sc lo).bind λl=>(AS F sc hi).map λh=>⟨.slice x.1 l.1 h.1,rR x.2 l.2 h.2⟩
  |some st=>match lo,hi with
   |none,none=>CD F sc p q a st
   |_,_=>none
 else if hs:gu i=false then(F sc a).bind λx=>(F sc i).map λy=>⟨.sub x.1 y.1,xO hs x.2 y.2⟩else none
noncomputable def CF:∀ifs:List Expr,Option {c:CE // SC sc ifs c}
 |[]=>some ⟨_,.nil⟩
 |[e]=>(F sc e).map λc=>⟨c.1,.one c.2⟩
 |_=>none
noncomputable def CG (b:Expr) (scope:Scope) (q:Pos):∀gs:List Comprehension,RE sc (.ListComp b gs scope q)
 |[⟨.Name f _,a,ifs,0⟩]=>if hc:mQ sc scope f=true then(F sc a).bind λx=>(F scope.names b).bind λy=>(u8 f).bind λi=>(CF F scope.names ifs).map λz=>⟨.comp y.1 i.1 x.1 z.1,vd hc i.2 x.2 y.2 z.2⟩else none
 |_=>none
noncomputable def z7 (f:Str) (q p:Pos) (es:List Expr):RE sc (.Call (.Name f q) es [] p):=
 if hg:ax sc f=true then(uc F sc es).bind λcs=>(match rz (qV.lookup f)with
  |some a=>some ⟨.call a.1 cs.1,ve hg a.2 cs.2⟩
  |none=>(match rz (qW.lookup f)with
   |some a=>some ⟨.new a.1 cs.1,xS hg a.2 cs.2⟩
   |none=>(rz (ru.lookup f)).map λa=>⟨.bf a.1 cs.1,zQ hg a.2 cs.2⟩))else none
noncomputable def z8 (e:Expr) (f:Str) (q p:Pos) (es:List Expr):RE sc (.Call (.Attribute e f q) es [] p):=
 if hc:(decide (es.length<=10)&&q.endLine==p.line&&bM e)=true then(F sc e).bind λx=>(uc F sc es).bind λcs=>(match rz (lL.lookup f)with
  |some b=>some ⟨.bm b.1 x.1 cs.1,zP hc b.2 x.2 cs.2⟩
  |none=>(u8 f).map λi=>⟨.meth x.1 i.1 cs.1,va hc i.2 x.2 cs.2⟩)else none
noncomputable def AX (es:List Expr) (p:Pos) (f:Expr):∀ks:List Keyword,RE sc (.Call f es ks p)
 |[]=>if h:f.ctorIdx=23 then @Expr.Name.elim (λf=>RE sc (.Call f es [] p)) f h λf q=>z7 F sc f q p es else
  if h:f.ctorIdx=20 then @Expr.Attribute.elim (λf=>RE sc (.Call f es [] p)) f h λe f q=>z8 F sc e f q p es else none
 |_=>none
noncomputable def AR (e:Expr):RE sc e:=
 if h:e.ctorIdx=19 then @Expr.Constant.elim (RE sc) e h λk m p=>(z6 sc m p k)else
 if h:e.ctorIdx=23 then @Expr.Name.elim (RE sc) e h λf p=>(AU sc f p)else
 if h:e.ctorIdx=20 then @Expr.Attribute.elim (RE sc) e h λv f _=>(if hs:bM v=true then(F sc v).bind λc=>(u8 f).map λi=>⟨.attr c.1 i.1,vf hs i.2 c.2⟩else none)else
 if h:e.ctorIdx=0 then @Expr.BoolOp.elim (RE sc) e h λo es p=>(AY F sc p o es)else
 if h:e.ctorIdx=2 then @Expr.BinOp.elim (RE sc) e h λa o b _=>((rz (vv o)).bind λop=>(F sc a).bind λx=>(F sc b).map λy=>⟨.bin op.1 x.1 y.1,xY op.2 x.2 y.2⟩)else
 if h:e.ctorIdx=3 then @Expr.UnaryOp.elim (RE sc) e h λo a p=>(EI F sc p a o)else
 if h:e.ctorIdx=5 then @Expr.IfExp.elim (RE sc) e h λa b c _=>((F sc a).bind λx=>(F sc b).bind λy=>(F sc c).map λz=>⟨.ite x.1 y.1 z.1,xU x.2 y.2 z.2⟩)else
 if h:e.ctorIdx=15 then @Expr.Compare.elim (RE sc) e h λa os bs p=>(CI F sc p a os bs)else
 if h:e.ctorIdx=24 then @Expr.List.elim (RE sc) e h λes _=>((uc F sc es).map λcs=>⟨.list cs.1,vb cs.2⟩)else
 if h:e.ctorIdx=25 then @Expr.Tuple.elim (RE sc) e h λes _ _=>((uc F sc es).map λcs=>⟨.tup cs.1,xN cs.2⟩)else
 if h:e.ctorIdx=6 then @Expr.Dict.elim (RE sc) e h λks es p=>(AW F sc p ks es)else
 if h:e.ctorIdx=21 then @Expr.Subscript.elim (RE sc) e h λa i p=>(CB F sc p a i)else
 if h:e.ctorIdx=8 then @Expr.ListComp.elim (RE sc) e h λb gs scope q=>(CG F sc b scope q gs)else
 if h:e.ctorIdx=16 then @Expr.Call.elim (RE sc) e h λf es ks p=>(AX F sc es p f ks)else
 none
end
noncomputable def cE (d:Nat):∀(sc:av) (e:Expr),RE sc e:=Nat.rec (λ_ _=>none) (λ_ r=>AR r) d
end
section
structure ST (sc:av) (t:Expr) (g:Tg):Prop where
 ok:∀{W:Wd} {K:Frag} {n:Nat} {env:Env} {v:AV} {Z:am} {H:AH} {Q:am->AH->Prop},Fr W K env sc->rD W n g v Z H Q->wZ W n t env v Z H Q
 pl:sh t=true
 st:bG t=false
 nn:NN t
structure STs (sc:av) (ts:List Expr) (gs:List Tg):Prop where
 ok:∀{W:Wd} {K:Frag} {n:Nat} {env:Env} {vs:List AV} {Z:am} {H:AH} {Q:am->AH->Prop},Fr W K env sc->ju W n gs vs Z H Q->pu W n ts env vs Z H Q
 nn:∀t∈ts,NN t
 st:aA ts=true
 len:ts.length=gs.length
section
variable {sc:av} {a b t:Expr} {x y z:CE} {g:Tg} {gs:List Tg} {ts:List Expr} {p q:Pos} {f:Str}
theorem uW {i:Nat} (hi:nm i=f) (h:SE sc a x):ST sc (.Attribute a f p) (.attr x i):=⟨λF q=>sx F.G hi (h.ev F q),rfl,rfl,rfl⟩
theorem xE (h:SE sc a x) (k:SE sc b y):ST sc (.Subscript a b p) (.sub x y):=⟨λF q=>vx (aC.mono (h.ev F q) λv H r=>k.ev F r),rfl,rfl,rfl⟩
theorem xF {lo hi:Expr} (h:SE sc a x) (k:SE sc lo y) (l:SE sc hi z):ST sc (.Subscript a (.Slice (some lo) (some hi) none q) p) (.cut x y z):=
 ⟨λF q=>vA (aC.mono (h.ev F q) λv H r=>aC.mono (k.ev F r) λv H r=>l.ev F r),rfl,rfl,rfl⟩
theorem STs.nil:STs sc [] []:=⟨λ{W K n env vs Z H Q} F q=>by
 cases vs with
 |nil=>exact q
 |cons=>exact elim q,λ_ h=>(nomatch h),rfl,rfl⟩
theorem STs.cons (h:ST sc t g) (k:STs sc ts gs):STs sc (t::ts) (g::gs):=
 ⟨λ{W K n env vs Z H Q} F q=>by
  cases vs with
  |nil=>exact elim q
  |cons v vs=>exact λA s u R E hr S er hv P=>h.ok F q A s u R E hr S er hv λs' H' Z' a e q'=>P s' H' Z' a e (k.ok F q'),
  λu hu=>by
  rcases mC hu with rfl|hu
  ·exact h.nn
  ·exact k.nn u hu,
  by simp only[aA,all_cons,and_eq_true,not_eq_true'];exact⟨h.st,k.st⟩,congrArg (·+1) k.len⟩
end
section
variable (F:∀sc e,RE sc e) (sc:av)
noncomputable def CA (p:Pos) (a i:Expr):Option {g:Tg // ST sc (.Subscript a i p) g}:=
 if h:i.ctorIdx=26 then @Expr.Slice.elim (λi=>Option {g:Tg // ST sc (.Subscript a i p) g}) i h λlo hi st _=>match lo,hi,st with
  |some lo,some hi,none=>(F sc a).bind λx=>(F sc lo).bind λy=>(F sc hi).map λz=>⟨.cut x.1 y.1 z.1,xF x.2 y.2 z.2⟩
  |_,_,_=>none
 else(F sc a).bind λx=>(F sc i).map λy=>⟨.sub x.1 y.1,xE x.2 y.2⟩
noncomputable def E8 (t:Expr):Option {g:Tg // ST sc t g}:=
 if h:t.ctorIdx=20 then @Expr.Attribute.elim (λt=>Option {g:Tg // ST sc t g}) t h λa f _=>(F sc a).bind λx=>(u8 f).map λi=>⟨.attr x.1 i.1,uW i.2 x.2⟩else
 if h:t.ctorIdx=21 then @Expr.Subscript.elim (λt=>Option {g:Tg // ST sc t g}) t h λa i p=>CA F sc p a i else none
noncomputable def Cz (ts:List Expr):Option {gs:List Tg // STs sc ts gs}:=List.rec (motive:=λts=>Option {gs:List Tg // STs sc ts gs}) (some ⟨[],.nil⟩)
 (λt ts ih=>(E8 F sc t).bind λg=>ih.map λgs=>⟨g.1::gs.1,.cons g.2 gs.2⟩) ts
end
structure SR (sc:av) (e:Expr) (r:Sr):Prop where
 ok:∀{W:Wd} {K:Frag} {n:Nat} {env:Env} {Z:am} {H:AH} {Q:AI->AH->Prop},Fr W K env sc->jv W n r Z H Q->(∀ai H,Q ai H->(∃o,bU H ai 0=some o)∧(ai.ok1\/ai.okT))->iS W n e env Z H Q
 ns:ey e=true
section
variable {W:Wd} {K:Frag} {n:Nat} {env:Env} {Z:am} {H:AH} {sc:av} {a b e:Expr} {x y:CE} {p q:Pos} {f:Str}
theorem aC.room {e:Expr} {Q:AV->AH->Prop} (h:aC W n e env Z H Q):aC W n e env Z H λv H=>(∃r,H r=none)∧Q v H:=λA s R E hr S er P=>
 h A s R E hr S er λv u s' H' x a q=>P v u s' H' x a ⟨⟨_,a.st.none_of_ge (le_refl _)⟩,q⟩
theorem iS.mono {e:Expr} {Q Q':AI->AH->Prop} (h:iS W n e env Z H Q) (k:∀v H',Q v H'->Q' v H'):iS W n e env Z H Q':=λA s R E hr S er P=>
 h A s R E hr S er λit ai fp s1 H1 s2 H2 a b c d q=>P it ai fp s1 H1 s2 H2 a b c d (k _ _ q)
theorem yK {f s:Str} (h:(f==s&&ax sc f)=true):f=s∧ax sc s=true:=by
 simp only[and_eq_true,beq_iff_eq]at h;obtain⟨rfl,h⟩:=h;exact⟨rfl,h⟩
theorem qs {r l m:Addr} {H:AH} {v u:AV} {o:Option AV} (h:bU (H.set r .opq) (.zip (.ref l) (.ref m) r) 0=some o):E4 λf f' xs ys=>H l=some (f,.list xs)∧H m=some (f',.list ys):=by
 apply ad (bind_eq_some_iff.mp (qi h).2) λxs h1 z1z=>ad (map_eq_some_iff.mp z1z) λys h2 _=>?_;apply a8 (cV h1) λf e1=>?_;apply a8 (cV h2) λf' e2=>?_;have g:∀a f xs,(H.set r .opq) a=some (f,.list xs)->H a=some (f,.list xs):=λa f xs e=>by
  by_cases ha:a=r
  ·simp only[ha,AH.EP]at e;exact nomatch e
  ·rwa [AH.EQ H _ ha]at e
 exact⟨f,f',xs,ys,g _ _ _ e1,g _ _ _ e2⟩
theorem xJ (h:SE sc e x):SR sc e (.one x):=⟨λF q k=>sD (aC.mono (h.ev F q) λv H r=>⟨(k _ _ r).1,r⟩),h.ns⟩
theorem v7 (hg:(f==gG&&ax sc f)=true) (hs:bG a=false) (h:SE sc a x):SR sc (.Call (.Name f q) [a] [] p) (.enum x):=by
 apply af (yK hg) λz1z hg=>?_;subst z1z;exact⟨λF q k=>qI F.G F.ag hg hs (aC.mono (h.ev F q) λv H r=>⟨(k _ _ r).1,(k _ _ r).2.elim (λz=>z.elim) λz=>by
  cases v with
  |ref a=>exact⟨a,rfl⟩
  |_=>exact elim z,r⟩),rfl⟩
theorem rM (hg:(f==ee&&ax sc f)=true) (hs:bG a=false) (h:SE sc a x):SR sc (.Call (.Name f q) [a] [] p) (.range x):=by
 apply af (yK hg) λz1z hg=>?_;subst z1z;exact⟨λF q k=>oJ F.G F.ag hg hs (aC.mono (h.ev F q) λv H r=>ad (bI.mp r) λi e r=>
  ⟨i,e,(k _ _ r).2.elim (λz=>z.1) λz=>z.elim,(k _ _ r).2.elim (λz=>z.2) λz=>z.elim,r⟩),rfl⟩
theorem xI (hg:(f==kL&&ax sc f)=true) (hs:bG a=false) (hs':bG b=false) (h:SE sc a x) (g:SE sc b y):SR sc (.Call (.Name f q) [a,b] [] p) (.zip x y):=by
 apply af (yK hg) λz1z hg=>?_;subst z1z;apply⟨λF q k=>sy F.G F.ag hg hs hs' (aC.mono (h.ev F q) λv H' r=>aC.mono (aC.room (g.ev F r)) λu H'' r=>?_),rfl⟩;obtain⟨⟨r0,hr0⟩,r⟩:=r;apply af (k _ _ (r r0 hr0)) λz1z hz=>?_;obtain⟨o,ho⟩:=z1z;have hz:AI.okT (.zip v u r0):=hz.elim (λz=>z.elim) id;cases v with
 |ref l=>cases u with
  |ref m=>
   apply En (qs (v:=.none) (u:=.none) ho) λf f' xs ys e1 e2=>?_;exact⟨⟨l,m,f,f',xs,ys,rfl,rfl,e1,e2⟩,r⟩
  |_=>exact elim hz
 |_=>exact elim hz
end
section
variable (F:∀sc e,RE sc e) (sc:av)
noncomputable def AT (e:Expr):Option {r:Sr // SR sc e r}:=(F sc e).map λx=>⟨.one x.1,xJ x.2⟩
noncomputable def CC (f:Str) (q p:Pos):∀es:List Expr,Option {r:Sr // SR sc (.Call (.Name f q) es [] p) r}
 |[a]=>if hs:bG a=false then(if hg:(f==gG&&ax sc f)=true then(F sc a).map λx=>⟨.enum x.1,v7 hg hs x.2⟩else
   if hg:(f==ee&&ax sc f)=true then(F sc a).map λx=>⟨.range x.1,rM hg hs x.2⟩else AT F sc _)else none
 |[a,b]=>if hg:(f==kL&&ax sc f)=true then(if hs:bG a=false then(if hs':bG b=false then(F sc a).bind λx=>(F sc b).map λy=>⟨.zip x.1 y.1,xI hg hs hs' x.2 y.2⟩else none)else none)else none
 |_=>none
noncomputable def E9 (e:Expr):Option {r:Sr // SR sc e r}:=
 if h:e.ctorIdx=16 then @Expr.Call.elim (λe=>Option {r:Sr // SR sc e r}) e h λf es ks p=>match ks with
  |[]=>if h:f.ctorIdx=23 then @Expr.Name.elim (λf=>Option {r:Sr // SR sc (.Call f es [] p) r}) f h λf q=>CC F sc f q p es else none
  |_=>none
 else if (beq e.ctorIdx 23||beq e.ctorIdx 20||beq e.ctorIdx 21||beq e.ctorIdx 25)=true then AT F sc e else none
end
end
section
structure SS (sc:av) (st:Stmt) (c:CS):Prop where
 ex:∀{W:Wd} {K:Frag} {n:Nat} {env:Env} {Z:am} {H:AH} {Q:am->AH->Prop} {Rt:AV->AH->Prop},Fr W K env sc->na W n c Z H Q Rt->ol W n st env Z H Q Rt
structure SB (sc:av) (b:List Stmt) (cs:List CS):Prop where
 ex:∀{W:Wd} {K:Frag} {n:Nat} {env:Env} {Z:am} {H:AH} {Q:am->AH->Prop} {Rt:AV->AH->Prop},Fr W K env sc->cG W n cs Z H Q Rt->uH W n b env Z H Q Rt
section
variable {sc:av} {a b t v it:Expr} {x y z:CE} {g:Tg} {gs:List Tg} {ts:List Expr} {p q:Pos} {f:Str} {st:Stmt} {c:CS} {bd od:List Stmt} {cs ds:List CS} {r:Sr}
theorem SB.nil:SB sc [] []:=⟨λF q=>vI q⟩
theorem SB.cons (h:SS sc st c) (k:SB sc bd cs):SB sc (st::bd) (c::cs):=
 ⟨λF q=>sO λA s R E hr S er P P'=>h.ex F q A s R E hr S er (λs' H' Z' a e q'=>P s' H' Z' a e (k.ex F q')) P'⟩
theorem jt {W:Wd} {n:Nat} {H:AH} {Q:am->AH->Prop}:∀{xs:List Nat} {vs:List AV} {Z:am},ju W n (xs.map .name) vs Z H Q->xs.length=vs.length∧Q (ia Z xs vs) H:=by
 intro xs
 induction xs with
 |nil=>
  intro v1;cases v1 with
  |nil=>
   intro Z q;exact⟨rfl,q⟩
  |cons _ _=>
   intro _ q;exact elim q
 |cons x xs ih=>
  intro v1;cases v1 with
  |nil=>
   intro _ q;exact elim q
  |cons v vs=>
   intro Z q;exact
   have h:=ih (vs:=vs) (Z:=put Z x v) q
   ⟨congrArg (·+1) h.1,h.2⟩
theorem rK {xs:List Nat} {k:Nat} (h1:eO sc ts=some xs) (nd:xs.Nodup) (hc:fx v=false) (h:SE sc v x):SS sc (.Assign [.Tuple ts k q] v p) (.assignT (xs.map .name) x):=
 ⟨λF q=>nz (nE h1) F.ag nd hc (aC.mono (h.ev F q) λu H r=>
  let ⟨vs,e,r⟩:=ip.mp r
  ⟨vs,e,(jt (hY r).2).1,(jt (hY r).2).2⟩)⟩
theorem xG {k:Nat} (hg:STs sc ts gs) (h:SE sc v x):SS sc (.Assign [.Tuple ts k q] v p) (.assignT gs x):=
 ⟨λF q=>ny hg.nn hg.st (aC.mono (h.ev F q) λu H r=>
  let ⟨vs,e,r⟩:=ip.mp r
  ⟨vs,e,hg.len.trans (hY r).1,hg.ok F (hY r).2⟩)⟩
theorem uZ {i:Nat} (hi:nm i=f) (hk:sc.lookup f=some .local\/sc.lookup f=some .cell) (h:SE sc v x):SS sc (.Assign [.Name f q] v p) (.assign (.name i) x):=⟨λF q=>h.asg F hi hk q⟩
theorem zJ (hg:ST sc t g) (h:SE sc v x):SS sc (.Assign [t] v p) (.assign g x):=
 ⟨λF q=>fR (nh hg.nn) hg.pl (aC.mono (h.ev F q) λu H r=>hg.ok F r)⟩
theorem rL {i:Nat} {o:Operator} {op:Op} (hi:nm i=f) (hk:sc.lookup f=some .local\/sc.lookup f=some .cell) (ho:(o=.Add∧op=.add)\/(o=.Sub∧op=.sub)) (h:SE sc v x):SS sc (.AugAssign (.Name f q) o v p) (.aug i op x):=
 ⟨λF q=>
  let ⟨u,hj,q⟩:=fU.mp q
  let ⟨j,e,q⟩:=bI.mp q
  vD hi (F.kd hk) ho (hj.trans (congrArg some e)) (aC.mono (h.ev F q) λv H r=>bI.mp r)⟩
theorem v6 {as:List Expr} {ks:List Keyword} (h:SE sc (.Call a as ks q) x):SS sc (.Expr (.Call a as ks q) p) (.expr x):=⟨λF q=>sL (h.ev F q)⟩
theorem zK (h:SE sc a x) (k:SB sc bd cs) (l:SB sc od ds):SS sc (.If a bd od p) (.ite x cs ds):=
 ⟨λF q=>y9 (fA.mono (h.cond F q) λt H r=>⟨λht=>k.ex F (r.1 ht),λht=>l.ex F (r.2 ht)⟩)⟩
theorem rJ (h:SE sc a x) (k:SB sc bd cs):SS sc (.While a bd [] p) (.wh x cs):=
 ⟨λF q=>
  let ⟨I,m,h0,q⟩:=q
  qJ I m h0 λm Z H hI=>fA.mono (h.cond F (q m Z H hI)) λt H r=>⟨r.1,λht=>k.ex F (r.2 ht)⟩⟩
theorem v5 {i:Nat} (hi:nm i=f) (hk:sc.lookup f=some .local\/sc.lookup f=some .cell) (h:SR sc it r) (k:SB sc bd cs):SS sc (.For (.Name f q) it bd [] p) (.for1 i r cs):=
 ⟨λF q=>sJ h.ns hi (F.kd hk) (iS.mono (h.ok F (oF.mp q) λai H r=>⟨bb r.2 λI N h0 r2=>(r2 0 _ _ h0).2.imp λo=>And.left,.inl r.1⟩) λai H=>
  imp_right (E2.i λI N=>imp_right λr2 i Z H hI=>imp_right (imp λo=>imp_right λq2=>by
   cases o with
   |none=>exact q2
   |some v=>exact k.ex F q2) (r2 i Z H hI)))⟩
theorem v0 {xs:List Nat} {m:Nat} (h0:eO sc ts=some xs) (h:SR sc it r) (k:SB sc bd cs):SS sc (.For (.Tuple ts m q) it bd [] p) (.forT xs r cs):=
 ⟨λF q=>sH h.ns (nE h0) F.ag (iS.mono (h.ok F (oE.mp q) λai H r=>⟨bb r.2 λI N h0 r2=>(r2 0 _ _ h0).2.imp λo=>And.left,.inr r.1⟩) λai H=>
  imp_right (E2.i λI N=>imp_right λr2 i Z H hI=>imp_right (imp λo=>imp_right λq2=>by
   cases o with
   |none=>exact q2
   |some v=>exact E2.i (λ_ _=>A3.r (k.ex F)) q2) (r2 i Z H hI)))⟩
theorem uX:SS sc (.Return none p) (.ret none):=⟨λF q=>sF q⟩
theorem xH (h:SE sc v x):SS sc (.Return (some v) p) (.ret (some x)):=⟨λF q=>vB (h.ev F q)⟩
theorem uY:SS sc (.Pass p) .pass:=⟨λF q=>sG q⟩
theorem mt (h:(sc.lookup f==some .local||sc.lookup f==some .cell)=true):sc.lookup f=some .local\/sc.lookup f=some .cell:=by
 simpa only[or_eq_true,beq_iff_eq]using h
end
section
variable (sc:av)
noncomputable def AZ (k:Nat) (q p:Pos) (ts:List Expr) (v:Expr):Option {c:CS // SS sc (.Assign [.Tuple ts k q] v p) c}:=
 if mD v then none else if hc:fx v=false then(match rz (eO sc ts)with
  |some xs=>if nd:xs.1.Nodup then(cE 30 sc v).map λx=>⟨.assignT (xs.1.map .name) x.1,rK xs.2 nd hc x.2⟩else none
  |none=>(Cz (cE 30) sc ts).bind λgs=>(cE 30 sc v).map λx=>⟨.assignT gs.1 x.1,xG gs.2 x.2⟩)else none
noncomputable def CK (p:Pos) (v:Expr):∀ts:List Expr,Option {c:CS // SS sc (.Assign ts v p) c}
 |[t]=>if h:t.ctorIdx=25 then @Expr.Tuple.elim (λt=>Option {c:CS // SS sc (.Assign [t] v p) c}) t h λts k q=>AZ sc k q p ts v else
  if h:t.ctorIdx=23 then @Expr.Name.elim (λt=>Option {c:CS // SS sc (.Assign [t] v p) c}) t h λf q=>if hl:(sc.lookup f==some .local||sc.lookup f==some .cell)=true then(u8 f).bind λi=>(cE 30 sc v).map λx=>⟨.assign (.name i.1) x.1,uZ i.2 (mt hl) x.2⟩else none
  else(E8 (cE 30) sc t).bind λg=>(cE 30 sc v).map λx=>⟨.assign g.1 x.1,zJ g.2 x.2⟩
 |_=>none
noncomputable def CJ (p:Pos) (v:Expr):∀(t:Expr) (o:Operator),Option {c:CS // SS sc (.AugAssign t o v p) c}
 |.Name f q,.Add=>if hl:(sc.lookup f==some .local||sc.lookup f==some .cell)=true then(u8 f).bind λi=>(cE 30 sc v).map λx=>⟨.aug i.1 .add x.1,rL i.2 (mt hl) (.inl ⟨rfl,rfl⟩) x.2⟩else none
 |.Name f q,.Sub=>if hl:(sc.lookup f==some .local||sc.lookup f==some .cell)=true then(u8 f).bind λi=>(cE 30 sc v).map λx=>⟨.aug i.1 .sub x.1,rL i.2 (mt hl) (.inr ⟨rfl,rfl⟩) x.2⟩else none
 |_,_=>none
variable (F:∀st,Option {c:CS // SS sc st c})
noncomputable def lJ (b:List Stmt):Option {cs:List CS // SB sc b cs}:=List.rec (motive:=λb=>Option {cs:List CS // SB sc b cs}) (some ⟨[],.nil⟩)
 (λs b ih=>(F s).bind λc=>ih.map λcs=>⟨c.1::cs.1,.cons c.2 cs.2⟩) b
noncomputable def CH (p:Pos) (it:Expr) (b:List Stmt) (t:Expr):Option {c:CS // SS sc (.For t it b [] p) c}:=
 if h:t.ctorIdx=23 then @Expr.Name.elim (λt=>Option {c:CS // SS sc (.For t it b [] p) c}) t h λf q=>if hl:(sc.lookup f==some .local||sc.lookup f==some .cell)=true then(u8 f).bind λi=>(E9 (cE 30) sc it).bind λr=>(lJ sc F b).map λy=>⟨.for1 i.1 r.1 y.1,v5 i.2 (mt hl) r.2 y.2⟩else none
 else if h:t.ctorIdx=25 then @Expr.Tuple.elim (λt=>Option {c:CS // SS sc (.For t it b [] p) c}) t h λts k q=>(rz (eO sc ts)).bind λxs=>(E9 (cE 30) sc it).bind λr=>(lJ sc F b).map λy=>⟨.forT xs.1 r.1 y.1,v0 xs.2 r.2 y.2⟩
 else none
noncomputable abbrev RS (sc:av) (st:Stmt):Type:=Option {c:CS // SS sc st c}
noncomputable def EJ (s:Stmt):RS sc s:=
 if h:s.ctorIdx=5 then @Stmt.Assign.elim (RS sc) s h λts v p=>CK sc p v ts else
 if h:s.ctorIdx=7 then @Stmt.AugAssign.elim (RS sc) s h λt o v p=>CJ sc p v t o else
 if h:s.ctorIdx=24 then @Stmt.Expr.elim (RS sc) s h λe p=>if h:e.ctorIdx=16 then @Expr.Call.elim (λe=>RS sc (.Expr e p)) e h λf as ks q=>(cE 30 sc (.Call f as ks q)).map λx=>⟨.expr x.1,v6 x.2⟩else none else
 if h:s.ctorIdx=12 then @Stmt.If.elim (RS sc) s h λt b o p=>(cE 30 sc t).bind λx=>(lJ sc F b).bind λy=>(lJ sc F o).map λz=>⟨.ite x.1 y.1 z.1,zK x.2 y.2 z.2⟩else
 if h:s.ctorIdx=11 then @Stmt.While.elim (RS sc) s h λt b o p=>match o with
  |[]=>(cE 30 sc t).bind λx=>(lJ sc F b).map λy=>⟨.wh x.1 y.1,rJ x.2 y.2⟩
  |_=>none
 else
 if h:s.ctorIdx=9 then @Stmt.For.elim (RS sc) s h λt it b o p=>match o with
  |[]=>CH sc F p it b t
  |_=>none
 else
 if h:s.ctorIdx=3 then @Stmt.Return.elim (RS sc) s h λv p=>match v with
  |none=>some ⟨.ret none,uX⟩
  |some v=>(cE 30 sc v).map λx=>⟨.ret (some x.1),xH x.2⟩
 else
 if h:s.ctorIdx=25 then @Stmt.Pass.elim (RS sc) s h λp=>some ⟨.pass,uY⟩else none
end
noncomputable def cS (sc:av) (d:Nat):∀st:Stmt,Option {c:CS // SS sc st c}:=Nat.rec (λ_=>none) (λ_ r=>EJ sc r) d
noncomputable def bO:FuncBody->Option (List Stmt)
 |.stmts b=>some b
 |_=>none
noncomputable def pk (fd:FuncData):Option (List CS):=(bO fd.body).bind λb=>(lJ fd.scope.names (cS fd.scope.names 30) b).map (·.1)
theorem Bh {x:FuncBody} {b:List Stmt} (h:bO x=some b):x=.stmts b:=by
 cases x with
 |stmts c=>exact sI h▸rfl
 |_=>exact nS h
theorem rs {fd:FuncData} {cs:List CS} (h:pk fd=some cs):∃b,fd.body=.stmts b∧SB fd.scope.names b cs:=by
 apply ad (bind_eq_some_iff.mp h) λb e h=>ad (map_eq_some_iff.mp h) λx _ z=>?_;subst z;exact⟨b,Bh e,x.2⟩
end
section
noncomputable def frz (P:Addr->Bool) (H:AH):AH:=λa=>if P a then(H a).map λp=>(true,p.2)else H a
theorem iu {P:Addr->Bool} {H:AH} {a:Addr} (h:H a=none):frz P H a=none:=by unfold frz;split<;>simp[h]
theorem dJ {P:Addr->Bool} {H:AH} {a:Addr} {f:Bool} {o:AO} (h:H a=some (f,o)):frz P H a=some (P a||f,o):=by
 unfold frz;obtain⟨⟩:=P a<;>simp[h]
theorem nY {P:Addr->Bool} {H:AH} {a:Addr} {o:AO} (h:H a=some (true,o)):frz P H a=some (true,o):=by
 rw[dJ h,Bool.or_true]
theorem kn {P:Addr->Bool} {H:AH} {a:Addr} {f:Bool} {o:AO} (h:frz P H a=some (f,o)):∃g,H a=some (g,o):=by
 unfold frz at h;split at h
 ·cases e:H a with
  |none=>simp only[e]at h;exact nS h
  |some p=>simp only[e]at h;obtain⟨g,o'⟩:=p;simp only[map_some,Option.some.injEq,Prod.mk.injEq]at h;exact⟨g,by exact h.2▸rfl⟩
 ·exact⟨f,h⟩
def uD (P:Addr->Bool) (H:AH):Prop:=∀a f C dx fs,H a=some (f,.inst C dx fs)->P a=P dx
section
variable {W:Wd} {K:Frag} {n:Nat} {H:AH} {h:Heap} {P:Addr->Bool}
theorem St.frz (S:W.St H h) (w:uD P H):W.St (frz P H) h:=by
 have kv:∀v u,VR H h v u->VR (Mine.Internal.frz P H) h v u:=VR.keep λa us n e z=>⟨e,iu z⟩;apply⟨λa f o e=>?_,λa o e=>⟨(S.base a o e).1,λx z=>?_⟩,λa f C dx fs e=>?_⟩
 ·apply a8 (kn e) λg e1=>?_;apply(S.objs a g o e1).keep kv (λob q=>q) (λC dx fs q=>?_) λb q=>?_
  ·subst q;apply bH (S.objs _ _ _ e1) λ_ z1z _=>?_;(apply a8 z1z λg' e2=>?_;clear z1z);exact⟨λob q=>q,_,dJ e2⟩
  ·subst q;apply sU (S.objs _ _ _ e1) λg' C fs e2=>?_;exact⟨_,C,fs,dJ e2⟩
 ·apply a8 (kn z) λg e1=>?_;simp only[dJ e1]at z;have hg:g=false:=by obtain⟨⟩:=g;rfl;rw[Bool.or_true]at z;simp at z
  have e1:=hg▸e1;exact(S.base a o e).2 _ e1
 ·apply a8 (kn e) λg e1=>?_;simp only[dJ e1]at e;have e2:=S.fl _ _ _ _ _ e1;apply rwL (dJ e2) (rwR (w _ _ _ _ _ e1) ?_);cases e;rfl
theorem Aft.frz {s:Shared} (S:W.St H s.heap) (w:uD P H):Aft W H s (frz P H) s:=
 ⟨St.frz S w,λa o e=>⟨λz=>⟨iu z,o,e,λ_=>rfl⟩,λx z=>⟨nY z,e⟩,o,e⟩,⟨rfl,rfl⟩⟩
theorem a7.frz {f:Addr} {vs:List AV} {Q:AV->AH->Prop} (h:a7 W f vs n H λv H'=>∃P,uD P H'∧Q v (frz P H')):a7 W f vs n H Q:=λA s us R hr S V Pq=>
 h A s us R hr S V λv u s' H' x a q=>by
  obtain⟨P,w,q⟩:=q;exact Pq v u s' _ (VR.keep (λa us n e z=>⟨e,iu z⟩) v u x) (a.trans (Aft.frz a.st w)) q
noncomputable def wA (K:Frag) (f:Addr):Option (FuncData × List Nat × List CS):=(wB K f).bind λfd=>
 if fd.globals==mainGlobals&&fd.builtins==builtinsNs&&fd.closure.isEmpty&&fd.scope.kind==.function&&!fd.scope.isCoroutine&&!fd.scope.isGenerator&&codeIn K fd.code fd.qualname then
  (og fd.params.args).bind λxs=>(pk fd).bind λb=>
   if decide xs.Nodup&&(xs.all λx=>fd.scope.names.lookup (nm x)==some .local||(fd.scope.names.lookup (nm x)==some .cell&&((cellsFrom 0 fd.scope.names []).lookup (nm x)).isSome)) &&
    (fd.scope.names.all λp=>p.2 != .cell||((cellsFrom 0 fd.scope.names []).lookup p.1).isSome)&&decide ((cellsFrom 0 fd.scope.names []).map (·.1)).Nodup then some (fd,xs,b)else none
 else none
theorem iR {x:Str}:∀(names:List (Str × NameKind)) (n m:Nat) (acc acc':List (Str × Addr)),(acc.lookup x).isSome=(acc'.lookup x).isSome->((cellsFrom n names acc).lookup x).isSome=((cellsFrom m names acc').lookup x).isSome:=by
 intro names
 induction names with
 |nil=>
  intro n m acc acc' h;exact h
 |cons p0 r ih=>
  obtain⟨y,k⟩:=p0;intro n m acc acc' h;dsimp only[cellsFrom];split
  ·apply ih _ _ _ _ ?_;by_cases hy:x=y
   ·subst hy;simp only[aB,aB];rfl
   ·apply rwL (aq hy) (rwL (aq hy) ?_);exact h
  ·exact ih _ _ _ _ h
theorem uq {kindOf:Str->Option NameKind} {y:Str}:∀{xs:List Nat} {us:List Value} {m:Str->Option Value},xs.length=us.length->xs.Nodup->kindOf y=some .local->∀{x:Nat} {u:Value},y=nm x->(xs.zip us).lookup x=some u->bindL kindOf ((xs.map nm).zip us) m y=some u:=by
 intro xs;have keep:∀(xs:List Nat) (us:List Value) (m:Str->Option Value),y∉xs.map nm->bindL kindOf ((xs.map nm).zip us) m y=m y:=by
  intro xs
  induction xs with
  |nil=>intro us m _;rfl
  |cons x xs ih=>
   intro us m hy;cases us with
   |nil=>rfl
   |cons u us=>
    (have hy:=hy;rewrite [map_cons,mem_cons,not_or]at hy);simp only[map_cons,zip_cons_cons,bindL];apply rwL (ih us _ hy.2) ?_;split
    ·exact if_neg hy.1
    ·rfl
 induction xs with
 |nil=>intro us m _ _ _ x u _ h;exact nS h
 |cons z xs ih=>
  intro us m hl nd hk x u hy h;cases us with
  |nil=>ac_nf
  |cons w us=>
   (have nd:=nd;rw[nodup_cons]at nd);simp only[map_cons,zip_cons_cons,bindL];by_cases hx:x=z
   ·obtain rfl:=hx.symm;simp only[zip_cons_cons,aB]at h;cases h;apply rwL (keep xs us _ (λhm=>by
     simp only[hy]at hm;apply ad (mP hm) λx' h1 h2=>?_;exact nd.1 (fS h2▸h1))) ?_
    subst hy;rw[if_pos hk];simp
   ·simp only[zip_cons_cons,aq hx]at h;exact ih (by simpa using hl) nd.2 hk hy h
theorem ur {kindOf:Str->Option NameKind} {y:Str}:∀{xs:List Nat} {us:List Value} {m:Str->Option Value},xs.length=us.length->xs.Nodup->kindOf y=some .cell->∀{x:Nat} {u:Value},y=nm x->(xs.zip us).lookup x=some u->bindC kindOf ((xs.map nm).zip us) m y=some u:=by
 intro xs;have keep:∀(xs:List Nat) (us:List Value) (m:Str->Option Value),y∉xs.map nm->bindC kindOf ((xs.map nm).zip us) m y=m y:=by
  intro xs
  induction xs with
  |nil=>intro us m _;rfl
  |cons x xs ih=>
   intro us m hy;cases us with
   |nil=>rfl
   |cons u us=>
    simp only[map_cons,mem_cons,not_or]at hy;simp only[map_cons,zip_cons_cons,bindC];apply rwL (ih us _ hy.2) ?_;split
    ·rfl
    ·exact if_neg hy.1
 induction xs with
 |nil=>intro us m _ _ _ x u _ h;exact nS h
 |cons z xs ih=>
  intro us m hl nd hk x u hy h;cases us with
  |nil=>ac_nf
  |cons w us=>
   (have nd:=nd;rw[nodup_cons]at nd);simp only[map_cons,zip_cons_cons,bindC];by_cases hx:x=z
   ·obtain rfl:=hx.symm;simp only[zip_cons_cons,aB]at h;cases h;apply rwL (keep xs us _ (λhm=>by
     simp only[hy]at hm;apply ad (mP hm) λx' h1 h2=>?_;exact nd.1 (fS h2▸h1))) ?_
    subst hy;rw[if_neg (by apply rwL hk ?_;decide)];simp
   ·simp only[zip_cons_cons,aq hx]at h;exact ih (by simpa using hl) nd.2 hk hy h
theorem pz {H:AH} {h:Heap}:∀{xs:List Nat} {vs:List AV} {us:List Value} {x:Nat} {v:AV},bK H h vs us->(xs.zip vs).lookup x=some v->∃u,(xs.zip us).lookup x=some u∧VR H h v u:=by
 intro xs
 induction xs with
 |nil=>
  intro _ _ _ _ _ e;exact nS e
 |cons y xs ih=>
  intro v1;cases v1 with
  |nil=>
   intro _ _ _ _ e;exact nS e
  |cons v' vs=>
   intro us x v hv e;apply cq hv λu r z1z p q=>?_;clear hv;subst z1z;by_cases hx:x=y
   ·subst hx;simp only[zip_cons_cons,aB]at e;obtain rfl:=sI e;exact⟨u,by simp only[zip_cons_cons,aB],p⟩
   ·simp only[zip_cons_cons,aq hx]at e;apply ad (ih q e) λu' h1 h2=>?_;exact⟨u',by apply rwL zip_cons_cons (rwL (aq hx) ?_);exact h1,h2⟩
def Bo (K:Frag) (fd:FuncData) (xs:List Nat) (k:Nat) (ds:List Value):Prop:=∀S (us:List Value),us.length=k->peek K S (bindArgs fd ⟨us,[]⟩)=some ((xs.map nm).zip (us++ds))
theorem ub (G:Gd W K) {f:Addr} {fd:FuncData} {xs:List Nat} {b:List CS} {vs ws:List AV} {ds:List Value} {Q:AV->AH->Prop} (hf:wA K f=some (fd,xs,b)) (hb:Bo K fd xs vs.length ds)
  (hd:∀h,W.St H h->bK H h ws ds) (hl:xs.length=vs.length+ws.length) (h:cG W n b (xs.zip (vs++ws)) H (λ_ H=>Q .none H) Q):a7 W f vs (n+1) H Q:=by
 intro A s us R hr S hv P;simp only[wA,bind_eq_some_iff]at hf;apply ad hf λfd' hfd hf=>?_;split at hf
 ·rename_i hc;simp only[and_eq_true,beq_iff_eq,not_eq_true',List.isEmpty_iff]at hc;apply af hc λz1z c7=>af z1z λz2z c6=>af z2z λz3z c5=>af z3z λz4z c4=>af z4z λz5z c3=>af z5z λc1 c2=>?_;clear hc z1z z2z z3z z4z z5z;apply ad ((by simpa only[bind_eq_some_iff]using hf:∃xs',og fd'.params.args=some xs'∧∃b',pk fd'=some b'∧_)) λxs' hxs z1z=>?_;(apply ad z1z λb' hb' hf=>?_;clear z1z);split at hf
  ·rename_i hn;simp only[Option.some.injEq,Prod.mk.injEq]at hf;obtain⟨rfl,rfl,rfl⟩:=hf;simp only[and_eq_true,decide_eq_true_eq,all_eq_true,or_eq_true,beq_iff_eq,bne_iff_ne]at hn;apply af hn λz1z n4=>af z1z λz2z n3=>af z2z λn1 n2=>?_;clear hn z1z z2z;apply ad (bind_eq_some_iff.mp hfd) λob ho hdf=>?_
   ·obtain⟨oc,od,dt,osl⟩:=ob;have e:dt=.func fd':=AN hdf;subst e;have X:=G.at S;apply C4 (G.topAt S) λp loose mg mb T=>?_;apply ad (rs hb') λbody hbody hbd=>?_
    ·apply codeAny_call_function (by have:=hr.1;simp only[show recursionLimit=1000 from rfl];exact Nat.lt_of_add_right_lt this) (X _ _ ho) rfl c5 c6 hbody (codeRec_of X c7) ?_;have bt:BindsTo s fd' ⟨us,[]⟩ ((xs'.map nm).zip (us++ds)):=kp_binds X λSx=>hb Sx us hv.length;apply bt _ _ _ _ ?_;apply rwL c3 ?_;have dv:=hd _ S;have avs:bK H s.heap (vs++ws) (us++ds):=hv.append dv;have ulen:xs'.length=(us++ds).length:=by simp only[length_append,hv.length,dv.length];exact hl
     have celS:∀x n,((cellsFrom n fd'.scope.names []).lookup x).isSome=((cellsFrom 0 fd'.scope.names []).lookup x).isSome:=λx n=>iR _ _ _ _ _ rfl;apply wpAny_newFunctionEnv_cells c4 (λy hy=>?_) λenv he s' IC=>?_
     ·have hm:=(of_mem_zip (a:=y.1) (b:=y.2) hy).1;apply ad (mP hm) λx hx e=>?_;apply rwR e ?_;apply(n2 x hx).elim (λz=>?_) λz=>?_
      ·exact .inl z
      ·exact .inr ⟨z.1,(celS _ _).trans z.2⟩
     have hsame:=IC.toInCall.same;have hkeep:=IC.toInCall.keep;have hfresh:=IC.toInCall.fresh;apply⟨T.nolimit.keeps hkeep,codeAny_func ?_⟩;have gr:Aft W H s H s':=.grow S (by obtain⟨h',tk,rfl⟩:=hsame;exact⟨rfl,rfl⟩) hkeep;have frq:∀a,iw env a->s.heap.objs.size<=a:=λa ha=>by
      rcases ha with rfl|⟨x,hx⟩
      ·exact hfresh
      ·exact le_of_lt (lt_of_le_of_lt hfresh (IC.above x a (ah hx)))
     have nB:∀a,s.heap.objs.size<=a->H a=none∧W.B.get? a=none:=λa ha=>⟨S.none_of_ge ha,by
      cases e:W.B.get? a with
      |none=>rfl
      |some o=>exact absurd (lt_size (S.base _ _ e).1) (Nat.not_lt.mpr ha)⟩
     have ek:∀y,env.kindOf y=fd'.scope.names.lookup y:=λy=>by apply rwL he ?_;rfl
     have er:EnvR W env H s'.heap (xs'.zip (vs++ws)):=by
      apply⟨by apply rwL he ?_;exact c4,by apply rwL he ?_;exact c1,by apply rwL he ?_;exact c2,nB _ hfresh,λy hy=>?_,λy c hc=>?_,λy z c h1 h2=>?_,_,IC.toInCall.ns,λx v hx=>⟨λhk=>?_,λhk=>?_⟩⟩
      ·rw[ek]at hy;apply(n3 _ (ah hy)).elim (λz=>?_) λz=>?_
       ·exact absurd rfl z
       ·have:env.cells=cellsFrom (s.heap.objs.size+1) fd'.scope.names []:=by apply rwL he ?_;rfl
        apply rwL this ?_;exact Option.isSome_iff_exists.mp ((celS _ _).trans z)
      ·have ha:=IC.above y c (ah hc);apply af (nB c (le_of_lt (lt_of_le_of_lt hfresh ha))) λq1 q2=>?_;exact⟨q1,q2,Nat.ne_of_gt ha,_,IC.cell y c hc⟩
      ·exact name_of_addr IC.apart (ah h1) (ah h2)
      ·apply ad (pz avs hx) λu h1 h2=>?_;exact⟨u,uq ulen n1 hk rfl h1,h2.kp0 gr.kp⟩
      ·apply ad (pz avs hx) λu h1 h2=>?_;have hxm:x∈xs':=(of_mem_zip (ah hx)).1;have hkc:env.kindOf (nm x)=some .cell:=by
        apply(n2 x hxm).elim (λz=>?_) λz=>?_
        ·(have hk:=hk;rw[ek]at hk);apply hk.elim (λhk=>?_) λhk=>?_<;>(rw[z]at hk;ac_nf)
        ·rw[ek];exact z.1
       have hcs:(env.cells.lookup (nm x)).isSome=true:=by
        apply(n2 x hxm).elim (λz=>?_) λz=>?_
        ·simp only[ek]at hkc;simp only[z]at hkc;ac_nf
        ·have:env.cells=cellsFrom (s.heap.objs.size+1) fd'.scope.names []:=by apply rwL he ?_;rfl
         exact rwL this ((celS _ _).trans z.2)
       apply a8 (Option.isSome_iff_exists.mp hcs) λc hc=>?_;apply⟨c,u,hc,?_,h2.kp0 gr.kp⟩;have:=IC.cell _ _ hc;rwa [ur ulen n1 hkc rfl h1]at this
     have ag:bR env fd'.scope.names:=λy k hk=>by
      have:env.kindOf y=some k:=by rw[ek];exact hk
      obtain⟨⟩:=k<;>first|exact this|exact .inr this|trivial
     have okb:uH W n body env (xs'.zip (vs++ws)) H (λ_ H=>Q .none H) Q:=hbd.ex ⟨G,er.kind,ag⟩ h;have fin:∀v u s2 H2,VR H2 s2.heap v u->AftX (iw env) W H s' H2 s2->Q v H2->R (.ok (.ret u)) s2:=λv u s2 H2 hvr a q=>by
      apply P v u s2 H2 hvr ⟨a.st,λx o e=>?_,gr.same.trans a.same⟩ q;have e':=hkeep x o e;have hx:¬iw env x:=λz=>absurd (frq x z) (Nat.not_le.mpr (lt_size e));apply bH (a.kp x o e') λk1 k2 k3=>?_;exact⟨λz=>let ⟨z1,o',z2,z3⟩:=k1 z;⟨z1,o',z2,λ_=>z3 hx⟩,k2,k3⟩
     apply okb (A.deeper env) s' _ _ ⟨?_,?_,?_⟩ gr.st er (λs2 H2 Z2 a e q=>?_) λv u s2 H2 hvr a q=>?_
     ·have:=hr.1;show A.depth+1+_<_;lia
     ·exact Ds (c:=3) hr.2 rfl
     ·exact hr.3
     ·exact fin .none .none s2 H2 (rfl) a q
     ·exact fin v u s2 H2 hvr a q
  ·exact nS hf
 ·exact nS hf
end
end
section
noncomputable def zG:List Nat:=[33,6,32,27,34,35]
noncomputable def gF:List CS:=[
 .assign (.name 31) (.call 80 [(.call 61 [(.loc 33)]),(.loc 6)]),
 .ite (.or (.cmp .is (.loc 31) (.k .none)) (.cmp .isIn (.loc 32) (.call 73 [(.loc 33)]))) [
  .ret (some (.k .none))] [
],
 .assign (.name 36) (.sub (.loc 31) (.neg (.k (.int (1))))),
 .assign (.name 28) (.call 94 [(.loc 36),(.loc 27)]),
 .ite (.cmp .lt (.loc 28) (.bin .add (.bin .mul (.k (.int (2))) (.k (.int (1)))) (.k (.int (1))))) [
  .ret (some (.k .none))] [
],
 .assign (.name 37) (.ite (.cmp .is (.loc 34) (.k .none)) (.bin .sub (.bin .fdiv (.bin .add (.loc 28) (.k (.int (1)))) (.k (.int (2)))) (.k (.int (1)))) (.loc 34)),
 .assign (.name 38) (.bf .max [(.k (.int (1))),(.bf .min [(.loc 37),(.bin .sub (.bin .sub (.loc 28) (.k (.int (1)))) (.k (.int (1))))])]),
 .assign (.name 39) (.new 45 [(.k (.str (ofString "pane"))),(.attr (.loc 36) 1),(.attr (.loc 36) 2),(.k (.int (0))),(.k (.int (0))),(.list []),(.loc 32)]),
 .expr (.call 101 [(.loc 39),(.loc 27),(.loc 38)]),
 .assign (.name 40) (.ite (.loc 35) (.list [(.loc 39),(.loc 36)]) (.list [(.loc 36),(.loc 39)])),
 .assignT [(.name 0),(.name 42)] (.tup [(.call 87 [(.loc 27)]),(.sub (.loc 31) (.k (.int (0))))]),
 .ite (.and (.cmp .gt (.bf .len [(.loc 31)]) (.k (.int (1)))) (.cmp .eq (.attr (.sub (.loc 31) (.neg (.k (.int (2))))) 0) (.loc 0))) [
  .assign (.name 41) (.call 108 [(.attr (.sub (.loc 31) (.neg (.k (.int (2))))) 5),(.loc 36)]),
  .assign (.cut (.attr (.sub (.loc 31) (.neg (.k (.int (2))))) 5) (.loc 41) (.bin .add (.loc 41) (.k (.int (1))))) (.loc 40)] [
  .ite (.cmp .gt (.bf .len [(.loc 31)]) (.k (.int (50)))) [
   .ret (some (.k .none))] [
   .assign (.name 42) (.call 134 [(.loc 31),(.new 45 [(.loc 0),(.attr (.loc 36) 1),(.attr (.loc 36) 2),(.k (.int (0))),(.k (.int (0))),(.loc 40),(.k .none)])])]],
 .expr (.call 101 [(.loc 36),(.loc 27),(.bin .sub (.bin .sub (.loc 28) (.k (.int (1)))) (.loc 38))]),
 .ret (some (.call 127 [(.loc 42),(.k (.int (0))),(.k (.int (0)))]))]
noncomputable def zF:List Nat:=[59,63,61,65]
noncomputable def kT:List CS:=[
 .assignT [(.name 6),(.name 55),(.name 27)] (.tup [(.call 470 [(.loc 59),(.loc 61)]),(.call 470 [(.loc 59),(.loc 65)]),(.cmp .eq (.call 456 [(.loc 59),(.k (.int (2)))]) (.k (.int (0))))]),
 .assignT [(.name 34),(.name 35)] (.tup [(.sub (.tup [(.k .none),(.k (.int (2)))]) (.call 456 [(.loc 59),(.k (.int (2)))])),(.cmp .eq (.call 456 [(.loc 59),(.k (.int (2)))]) (.k (.int (1))))]),
 .assignT [(.name 77),(.name 78)] (.tup [(.call 73 [(.sub (.loc 61) (.k (.str (ofString "layout"))))]),(.call 73 [(.sub (.loc 65) (.k (.str (ofString "layout"))))])]),
 .ite (.and (.cmp .isNot (.loc 61) (.loc 65)) (.cmp .eq (.bf .len [(.loc 77)]) (.k (.int (1))))) [
  .ret (some (.tup [(.k (.bool true)),(.k (.bool true))]))] [
],
 .assign (.name 66) (.tup [(.sub (.sub (.loc 63) (.k (.str (ofString "panes")))) (.loc 6)),(.sub (.sub (.loc 63) (.k (.str (ofString "panes")))) (.loc 55))]),
 .assign (.name 64) (.call 439 [(.sub (.loc 61) (.k (.str (ofString "real")))),(.sub (.loc 66) (.k (.int (0)))),(.sub (.loc 65) (.k (.str (ofString "real")))),(.sub (.loc 66) (.k (.int (1)))),(.loc 27),(.loc 34),(.loc 35)]),
 .ite (.or (.cmp .eq (.loc 6) (.loc 55)) (.or (.cmp .notIn (.loc 6) (.loc 77)) (.cmp .notIn (.loc 55) (.loc 78)))) [
  .ret (some (.tup [(.loc 64),(.k (.bool false))]))] [
],
 .assign (.name 67) (.ite (.cmp .is (.loc 61) (.loc 65)) (.call 156 [(.sub (.loc 61) (.k (.str (ofString "layout")))),(.loc 6)]) (.sub (.loc 65) (.k (.str (ofString "layout"))))),
 .assign (.name 19) (.call 142 [(.loc 67),(.loc 55),(.loc 6),(.loc 27),(.loc 34),(.loc 35)]),
 .ite (.and (.cmp .isNot (.loc 19) (.k .none)) (.cmp .isNot (.loc 61) (.loc 65))) [
  .expr (.call 482 [(.loc 61),(.loc 6)])] [
],
 .ret (some (.tup [(.loc 64),(.call 489 [(.loc 65),(.loc 19),(.loc 6)])]))]
noncomputable def zE:List Nat:=[63]
noncomputable def Bi:List CS:=[
 .for1 61 (.one (.sub (.loc 63) (.k (.str (ofString "windows"))))) [
  .assignT [(.name 60),(.name 19)] (.tup [(.sub (.loc 61) (.k (.str (ofString "real")))),(.sub (.loc 61) (.k (.str (ofString "layout"))))]),
  .assign (.name 18) (.ite (.cmp .is (.attr (.loc 60) 18) (.k .none)) (.k .none) (.attr (.attr (.loc 60) 18) 7)),
  .ite (.cmp .ne (.tup [(.attr (.attr (.loc 60) 17) 7),(.loc 18),(.attr (.loc 60) 20)]) (.tup [(.sub (.loc 61) (.k (.str (ofString "active")))),(.sub (.loc 61) (.k (.str (ofString "last")))),(.sub (.loc 61) (.k (.str (ofString "zoom"))))])) [
   .ret (some (.k (.bool false)))] [
],
  .ite (.or (.cmp .ne (.call 207 [(.attr (.loc 60) 19)]) (.call 207 [(.loc 19)])) (.cmp .ne (.attr (.loc 60) 7) (.sub (.loc 61) (.k (.str (ofString "number")))))) [
   .ret (some (.k (.bool false)))] [
],
  .ite (.cmp .ne (.comp (.attr (.loc 6) 7) 6 (.attr (.loc 60) 16) (.k (.bool true))) (.call 73 [(.loc 19)])) [
   .ret (some (.k (.bool false)))] [
],
  .for1 36 (.one (.call 68 [(.loc 19)])) [
   .assign (.name 79) (.ite (.and (.sub (.loc 61) (.k (.str (ofString "zoom")))) (.cmp .eq (.attr (.loc 36) 6) (.sub (.loc 61) (.k (.str (ofString "active")))))) (.loc 19) (.loc 36)),
   .ite (.cmp .ne (.tup [(.attr (.sub (.sub (.loc 63) (.k (.str (ofString "panes")))) (.attr (.loc 36) 6)) 9),(.attr (.sub (.sub (.loc 63) (.k (.str (ofString "panes")))) (.attr (.loc 36) 6)) 10)]) (.tup [(.attr (.loc 79) 2),(.attr (.loc 79) 1)])) [
    .ret (some (.k (.bool false)))] [
]]],
 .ret (some (.k (.bool true)))]
noncomputable def uN:List Nat:=[71,19,73]
noncomputable def wS:List CS:=[
 .assign (.name 74) (.bin .add (.attr (.loc 71) 16) (.bf .list [(.loc 73)])),
 .assign (.attr (.loc 71) 19) (.loc 19),
 .assign (.attr (.loc 71) 16) (.comp (.call 250 [(.loc 74),(.loc 7)]) 7 (.call 73 [(.loc 19)]) (.k (.bool true))),
 .assign (.attr (.loc 71) 20) (.k (.bool false)),
 .expr (.meth (.loc 71) 83 [])]
end
section
noncomputable def Cr (K:Frag) (f:Addr):Option (List Nat × List CS):=(wA K f).map (·.2)
theorem yt {U O γ:Type} [BEq U] [LawfulBEq U] {l:List (U × O)} {F G:U × O->γ} (e:l.map F=l.map G) {x:U} {a:O} (h:l.lookup x=some a):F (x,a)=G (x,a):=List.map_inj_left.mp e _ (ah h)
theorem rh {C:Addr} {f:Nat} (h:bJ C f=true):∃fs,(C,fs)∈wx∧f∈fs:=by
 unfold bJ at h;cases e:wx.lookup C with
 |none=>rw[e]at h;ac_nf
 |some fs=>rw[e]at h;exact⟨fs,ah e,by exact List.mem_of_elem_eq_true h⟩
noncomputable def wD:List (Addr × Nat):=wx.flatMap λp=>p.2.map λf=>(p.1,f)
theorem vP {γ:Type} {F G:Addr × Nat->γ} (e:wD.map F=wD.map G) {C:Addr} {f:Nat} (hf:bJ C f=true):F (C,f)=G (C,f):=
 ad (rh hf) λfs h1 h2=>List.map_inj_left.mp e _ (mG ⟨_,h1,mR ⟨f,h2,rfl⟩⟩)
theorem Bq {U O:Type} {a a':U} {b b':O} {x y:Str} (e:(a,b,x != y)=(a',b',true)):a=a'∧b=b'∧x≠y:=⟨congrArg (·.1) e,congrArg (·.2.1) e,bne_iff_ne.mp (congrArg (·.2.2) e)⟩
section
variable (P:Params)
theorem yE:qV.map (λp=>(nsIn (KK P) mainGlobals p.1,keepIn (KK P) (.ref p.2)))=qV.map λp=>(some (some (.ref p.2)),true):=by kernel_rfl
theorem yF:qW.map (λp=>(nsIn (KK P) mainGlobals p.1,keepIn (KK P) (.ref p.2)))=qW.map λp=>(some (some (.ref p.2)),true):=by kernel_rfl
theorem yD:tC.map (λp=>nsIn (KK P) mainGlobals p.1)=tC.map λp=>some (some (.int p.2 (bif p.2==1 then 207 else bif p.2==50 then 209 else 804))):=by kernel_rfl
theorem Az:nsIn (KK P) mainGlobals vh=some (some (.bytes nU 211)):=by kernel_rfl
theorem yH:ru.map (λp=>(nsIn (KK P) mainGlobals p.1,bootBuiltins p.1,p.1 != ofString "__name__"))=ru.map λp=>(some none,some (ut p.2),true):=by kernel_rfl
theorem yG:(nsIn (KK P) mainGlobals gG,bootBuiltins gG,gG != ofString "__name__")=(some none,some (.type "enumerate"),true):=by kernel_rfl
theorem At:(nsIn (KK P) mainGlobals kL,bootBuiltins kL,kL != ofString "__name__")=(some none,some (.type "zip"),true):=by kernel_rfl
theorem wc:(nsIn (KK P) mainGlobals ee,bootBuiltins ee,ee != ofString "__name__")=(some none,some (.type "range"),true):=by kernel_rfl
theorem AA:wD.map (λp=>(findIn (KK P) (.ref p.1) "__getattribute__",findIn (KK P) (.ref p.1) (nm p.2),findIn (KK P) (.ref p.1) "__setattr__",plainOver (KK P) p.1,(clsIn (KK P) p.1).any (·.hasDict),copiedNames.contains (nm p.2)))=wD.map λ_=>(some (some (.builtin "object.__getattribute__")),some none,some (some (.builtin "object.__setattr__")),true,true,false):=by kernel_rfl
theorem Aw:jQ.map (λp=>(findIn (KK P) (.ref p.1.1) (nm p.1.2),isFn (KK P) (.ref p.2),keepIn (KK P) (.ref p.2),plainGet (KK P) p.1.1 (nm p.1.2)))=jQ.map λp=>(some (some (.ref p.2)),true,true,true):=by kernel_rfl
theorem Ay:wf.map (λp=>(makesIn (KK P) p.1,findIn (KK P) (.ref p.1) "__init__",isFn (KK P) (.ref p.2)))=wf.map λp=>(true,some (some (.ref p.2)),true):=by kernel_rfl
theorem Av:rY.map (λp=>(findIn (KK P) (.ref p.1.1) (nm p.1.2),recIn (KK P) (p.2+1) "property",specialIn (KK P) (.ref (p.2+1)) "__get__",takesIn (KK P) (.ref (p.2+1)),plainGet (KK P) p.1.1 (nm p.1.2),(clsIn (KK P) p.1.1).isSome)) =
  rY.map λp=>(some (some (.ref (p.2+1))),some (.ref p.2::[.none,.none,.none,.str (nm p.1.2) (bif p.2==271 then 573 else 581),.bool false]),some (some (.builtin "property.__get__")),some true,true,true):=by kernel_rfl
end
theorem AG {W:Wd} (kin:(KK W.w.params).In W.B) (sysm:E2 λa o=>sysModules<a∧W.B.get? a=some o) (top:E4 λp loose mg mb=>TopRead p loose mg mb W.B):Gd W (KK W.w.params):=by
 have l {C f}:=@vP _ _ _ (AA W.w.params) C f;apply⟨kin,sysm,top,λx a h=>Prod.mk.inj (yt (yE _) h),λx a h=>Prod.mk.inj (yt (yF _) h),λx i h=>⟨_,yt (yD _) h⟩,⟨_,Az _⟩,λx b h=>Bq (yt (yH _) h),Bq (yG _),Bq (At _),Bq (wc _),
  λC f h=>congrArg (·.1) (l h),λC f h=>congrArg (·.2.1) (l h),λC f h=>⟨congrArg (·.2.2.1) (l h),congrArg (·.2.2.2.1) (l h),congrArg (·.2.2.2.2.1) (l h)⟩,λC f h=>congrArg (·.2.2.2.2.2) (l h),λC m g h=>?_,λC g h=>?_,λC f g h=>?_⟩
 ·have e:=yt (Aw W.w.params) h;exact⟨congrArg (·.1) e,congrArg (·.2.1) e,congrArg (·.2.2.1) e,congrArg (·.2.2.2) e⟩
 ·have e:=yt (Ay W.w.params) h;exact⟨congrArg (·.1) e,congrArg (·.2.1) e,congrArg (·.2.2) e⟩
 ·have e:=yt (Av W.w.params) h;exact⟨_,_,congrArg (·.1) e,congrArg (·.2.1) e,congrArg (·.2.2.1) e,congrArg (·.2.2.2.1) e,congrArg (·.2.2.2.2.1) e,congrArg (·.2.2.2.2.2) e⟩
def Bn (K:Frag) (f:Addr) (xs:List Nat) (b:List CS):Prop:=Cr K f=some (xs,b)
def zq (K:Frag) (f:Addr) (xs:List Nat) (k:Nat) (ds:List Value):Prop:=∀S (us:List Value),us.length=k->(wB K f).bind (λfd=>peek K S (bindArgs fd ⟨us,[]⟩))=some ((xs.map nm).zip (us++ds))
def Cc:Nat->(List Value->Prop)->Prop
 |0,P=>P []
 |n+1,P=>∀u,Cc n λus=>P (u::us)
section
variable {W:Wd} {n:Nat} {H:AH}
theorem AM {K:Frag} (G:Gd W K) {f:Addr} {xs:List Nat} {b:List CS} {vs ws:List AV} {ds:List Value} {Q:AV->AH->Prop} (hf:Bn K f xs b) (hb:zq K f xs vs.length ds)
  (hd:∀h,W.St H h->bK H h ws ds) (hl:xs.length=vs.length+ws.length) (h:cG W n b (xs.zip (vs++ws)) H (λ_ H=>Q .none H) Q):a7 W f vs (n+1) H Q:=by
 unfold Bn Cr at hf;(have hf:=hf;rewrite [map_eq_some_iff]at hf);apply ad hf λz1z hf he=>?_;obtain⟨fd,xs',b'⟩:=z1z;cases he;apply ub G hf (λS us hu=>?_) hd hl h;have:=hb S us hu;have hfd:wB K f=some fd:=by
  unfold wA at hf;(have hf:=hf;rewrite [bind_eq_some_iff]at hf);apply ad hf λfd' h1 h2=>?_;clear hf;split at h2
  ·simp only[bind_eq_some_iff]at h2;obtain⟨_,_,_,_,h2⟩:=h2;split at h2
   ·simp only[Option.some.injEq,Prod.mk.injEq]at h2;exact rwL h1 (rwL h2.1 rfl)
   ·exact nS h2
  ·exact nS h2
 simp only[hfd]at this;exact this
end
end
section
noncomputable def xr:List ((Addr × Nat) × (List Nat × List CS) × List Value):=[((28,1),([7],[ .assign (.name 23) (.ite (.cmp .ge (.loc 7) (.k (.int (0)))) (.loc 7) (.neg (.loc 7))),.assign (.name 24) (.list [(.bin .add (.k (.int (48))) (.bin .mod (.loc 23) (.k (.int (10)))))]),.assign (.name 23) (.bin .fdiv (.loc 23) (.k (.int (10)))),.wh (.cmp .gt (.loc 23) (.k (.int (0)))) [ .expr (.bm .append (.loc 24) [(.bin .add (.k (.int (48))) (.bin .mod (.loc 23) (.k (.int (10)))))]),.assign (.name 23) (.bin .fdiv (.loc 23) (.k (.int (10))))],.ite (.cmp .lt (.loc 7) (.k (.int (0)))) [ .expr (.bm .append (.loc 24) [(.k (.int (45)))])] [ ],.ret (some (.bf .bytes [(.rev (.loc 24))]))]),[]),
 ((56,3),([6,1,2],[ .ret (some (.new 45 [(.k (.str (ofString "pane"))),(.loc 1),(.loc 2),(.k (.int (0))),(.k (.int (0))),(.list []),(.loc 6)]))]),[]),
 ((61,1),([25],[ .assign (.name 5) (.comp (.call 61 [(.loc 26)]) 26 (.attr (.loc 25) 5) (.k (.bool true))),.ret (some (.new 45 [(.attr (.loc 25) 0),(.attr (.loc 25) 1),(.attr (.loc 25) 2),(.attr (.loc 25) 3),(.attr (.loc 25) 4),(.loc 5),(.attr (.loc 25) 6)]))]),[]),
 ((68,1),([25],[ .ite (.cmp .eq (.attr (.loc 25) 0) (.k (.str (ofString "pane")))) [ .ret (some (.list [(.loc 25)]))] [ ],.assign (.name 24) (.list []),.for1 26 (.one (.attr (.loc 25) 5)) [ .expr (.bm .extend (.loc 24) [(.call 68 [(.loc 26)])])],.ret (some (.loc 24))]),[]),
 ((73,1),([25],[ .ret (some (.comp (.attr (.loc 36) 6) 36 (.call 68 [(.loc 25)]) (.k (.bool true))))]),[]),
 ((80,2),([25,6],[ .ite (.cmp .eq (.attr (.loc 25) 0) (.k (.str (ofString "pane")))) [ .ret (some (.ite (.cmp .eq (.attr (.loc 25) 6) (.loc 6)) (.list [(.loc 25)]) (.k .none)))] [ ],.for1 26 (.one (.attr (.loc 25) 5)) [ .assign (.name 24) (.call 80 [(.loc 26),(.loc 6)]),.ite (.cmp .isNot (.loc 24) (.k .none)) [ .ret (some (.bin .add (.list [(.loc 25)]) (.loc 24)))] [ ]],.ret (some (.k .none))]),[]),
 ((87,1),([27],[ .ret (some (.ite (.loc 27) (.k (.str (ofString "row"))) (.k (.str (ofString "column")))))]),[]),
 ((94,2),([25,27],[ .ret (some (.ite (.loc 27) (.attr (.loc 25) 1) (.attr (.loc 25) 2)))]),[]),
 ((101,3),([25,27,28],[ .ite (.loc 27) [ .assign (.attr (.loc 25) 1) (.loc 28)] [ .assign (.attr (.loc 25) 2) (.loc 28)]]),[]),
 ((108,2),([5,25],[ .forT [41,26] (.enum (.loc 5)) [ .ite (.cmp .is (.loc 26) (.loc 25)) [ .ret (some (.loc 41))] [ ]],.ret (some (.k .none))]),[]),
 ((113,2),([25,27],[ .ite (.cmp .eq (.attr (.loc 25) 0) (.k (.str (ofString "pane")))) [ .ret (some (.bin .sub (.call 94 [(.loc 25),(.loc 27)]) (.k (.int (1)))))] [ ],.assign (.name 29) (.comp (.call 113 [(.loc 26),(.loc 27)]) 26 (.attr (.loc 25) 5) (.k (.bool true))),.ret (some (.ite (.cmp .eq (.attr (.loc 25) 0) (.call 87 [(.loc 27)])) (.bf .sum [(.loc 29)]) (.bf .min [(.loc 29)])))]),[]),
 ((120,3),([25,27,30],[ .expr (.call 101 [(.loc 25),(.loc 27),(.bin .add (.call 94 [(.loc 25),(.loc 27)]) (.loc 30))]),.ite (.cmp .ne (.attr (.loc 25) 0) (.call 87 [(.loc 27)])) [ .for1 26 (.one (.attr (.loc 25) 5)) [ .expr (.call 120 [(.loc 26),(.loc 27),(.loc 30)])],.ret none] [ ],.wh (.cmp .ne (.loc 30) (.k (.int (0)))) [ .for1 26 (.one (.attr (.loc 25) 5)) [ .ite (.cmp .gt (.loc 30) (.k (.int (0)))) [ .expr (.call 120 [(.loc 26),(.loc 27),(.k (.int (1)))]),.aug 30 .sub (.k (.int (1)))] [ .ite (.and (.cmp .lt (.loc 30) (.k (.int (0)))) (.cmp .gt (.call 113 [(.loc 26),(.loc 27)]) (.k (.int (0))))) [ .expr (.call 120 [(.loc 26),(.loc 27),(.neg (.k (.int (1))))]),.aug 30 .add (.k (.int (1)))] [ ]]]]]),[]),
 ((127,3),([25,3,4],[ .assignT [(.attr (.loc 25) 3),(.attr (.loc 25) 4)] (.tup [(.loc 3),(.loc 4)]),.for1 26 (.one (.attr (.loc 25) 5)) [ .expr (.call 127 [(.loc 26),(.loc 3),(.loc 4)]),.ite (.cmp .eq (.attr (.loc 25) 0) (.k (.str (ofString "row")))) [ .aug 3 .add (.bin .add (.attr (.loc 26) 1) (.k (.int (1))))] [ .aug 4 .add (.bin .add (.attr (.loc 26) 2) (.k (.int (1))))]],.ret (some (.loc 25))]),[]),
 ((134,2),([31,32],[ .ite (.cmp .eq (.bf .len [(.loc 31)]) (.k (.int (1)))) [ .ret (some (.loc 32))] [ ],.assign (.name 5) (.attr (.sub (.loc 31) (.neg (.k (.int (2))))) 5),.assign (.sub (.loc 5) (.call 108 [(.loc 5),(.sub (.loc 31) (.neg (.k (.int (1)))))])) (.loc 32),.ret (some (.sub (.loc 31) (.k (.int (0)))))]),[]),
 ((142,6),(zG,gF),[]),
 ((149,2),([5,0],[ .assign (.name 24) (.list []),.for1 26 (.one (.loc 5)) [ .expr (.bm .extend (.loc 24) [(.ite (.cmp .eq (.attr (.loc 26) 0) (.loc 0)) (.attr (.loc 26) 5) (.list [(.loc 26)]))])],.ret (some (.loc 24))]),[]),
 ((156,2),([33,6],[ .assign (.name 31) (.call 80 [(.call 61 [(.loc 33)]),(.loc 6)]),.ite (.or (.cmp .is (.loc 31) (.k .none)) (.cmp .eq (.bf .len [(.loc 31)]) (.k (.int (1))))) [ .ret (some (.k .none))] [ ],.assignT [(.name 36),(.name 72)] (.tup [(.sub (.loc 31) (.neg (.k (.int (1))))),(.sub (.loc 31) (.neg (.k (.int (2)))))]),.assign (.name 27) (.cmp .eq (.attr (.loc 72) 0) (.k (.str (ofString "row")))),.assign (.name 41) (.call 108 [(.attr (.loc 72) 5),(.loc 36)]),.expr (.bm .pop (.attr (.loc 72) 5) [(.loc 41)]),.expr (.call 120 [(.sub (.attr (.loc 72) 5) (.bf .max [(.k (.int (0))),(.bin .sub (.loc 41) (.k (.int (1))))])),(.loc 27),(.bin .add (.call 94 [(.loc 36),(.loc 27)]) (.k (.int (1))))]),.ite (.cmp .gt (.bf .len [(.attr (.loc 72) 5)]) (.k (.int (1)))) [ .ret (some (.call 127 [(.sub (.loc 31) (.k (.int (0)))),(.k (.int (0))),(.k (.int (0)))]))] [ ],.assign (.name 42) (.call 134 [(.slice (.loc 31) (.k .none) (.neg (.k (.int (1))))),(.sub (.attr (.loc 72) 5) (.k (.int (0))))]),.ite (.cmp .gt (.bf .len [(.loc 31)]) (.k (.int (2)))) [ .assign (.attr (.sub (.loc 31) (.neg (.k (.int (3))))) 5) (.call 149 [(.attr (.sub (.loc 31) (.neg (.k (.int (3))))) 5),(.attr (.sub (.loc 31) (.neg (.k (.int (3))))) 0)])] [ ],.ret (some (.call 127 [(.loc 42),(.k (.int (0))),(.k (.int (0)))]))]),[]),
 ((163,3),([33,1,2],[ .assign (.name 24) (.call 61 [(.loc 33)]),.forT [27,28] (.one (.tup [(.tup [(.k (.bool true)),(.loc 1)]),(.tup [(.k (.bool false)),(.loc 2)])])) [ .assign (.name 30) (.bf .max [(.bin .sub (.loc 28) (.call 94 [(.loc 24),(.loc 27)])),(.neg (.call 113 [(.loc 24),(.loc 27)]))]),.expr (.call 120 [(.loc 24),(.loc 27),(.loc 30)])],.ret (some (.call 127 [(.loc 24),(.k (.int (0))),(.k (.int (0)))]))]),[]),
 ((170,2),([33,43],[ .assign (.name 24) (.call 61 [(.loc 33)]),.forT [36,6] (.zip (.call 68 [(.loc 24)]) (.loc 43)) [ .assign (.attr (.loc 36) 6) (.loc 6)],.ret (some (.loc 24))]),[]),
 ((175,3),([33,44,39],[ .assign (.name 16) (.call 73 [(.loc 33)]),.ite (.or (.cmp .notIn (.loc 44) (.loc 16)) (.cmp .notIn (.loc 39) (.loc 16))) [ .ret (some (.k .none))] [ ],.assign (.name 45) (.dI [(.loc 44),(.loc 39),(.loc 39),(.loc 44)]),.ret (some (.call 170 [(.loc 33),(.comp (.bm .get (.loc 45) [(.loc 6),(.loc 6)]) 6 (.loc 16) (.k (.bool true)))]))]),[]),
 ((183,2),([33,46],[ .assign (.name 16) (.call 73 [(.loc 33)]),.ret (some (.call 170 [(.loc 33),(.ite (.loc 46) (.bin .add (.slice (.loc 16) (.k (.int (1))) (.k .none)) (.slice (.loc 16) (.k .none) (.k (.int (1))))) (.bin .add (.slice (.loc 16) (.neg (.k (.int (1)))) (.k .none)) (.slice (.loc 16) (.k .none) (.neg (.k (.int (1)))))))]))]),[]),
 ((190,1),([47],[ .assign (.name 24) (.k (.int (0))),.for1 48 (.one (.loc 47)) [ .assign (.name 24) (.bin .band (.bin .add (.bin .add (.bin .shr (.loc 24) (.k (.int (1)))) (.bin .shl (.bin .band (.loc 24) (.k (.int (1)))) (.k (.int (15))))) (.loc 48)) (.k (.int (65535))))],.ret (some (.loc 24))]),[]),
 ((195,1),([7],[ .ret (some (.bf .bytes [(.comp (.sub (.k (.bytes #[48,49,50,51,52,53,54,55,56,57,97,98,99,100,101,102])) (.bin .band (.bin .shr (.loc 7) (.loc 81)) (.k (.int (15))))) 81 (.tup [(.k (.int (12))),(.k (.int (8))),(.k (.int (4))),(.k (.int (0)))]) (.k (.bool true)))]))]),[]),
 ((200,1),([25],[ .assign (.name 49) (.bin .add (.bin .add (.call 28 [(.attr (.loc 25) 1)]) (.k (.bytes #[120]))) (.call 28 [(.attr (.loc 25) 2)])),.assign (.name 50) (.bm .join (.k (.bytes #[44])) [(.list [(.loc 49),(.call 28 [(.attr (.loc 25) 3)]),(.call 28 [(.attr (.loc 25) 4)])])]),.ite (.cmp .eq (.attr (.loc 25) 0) (.k (.str (ofString "pane")))) [ .ret (some (.bin .add (.bin .add (.loc 50) (.k (.bytes #[44]))) (.call 28 [(.attr (.loc 25) 6)])))] [ ],.assign (.name 51) (.bm .join (.k (.bytes #[44])) [(.comp (.call 200 [(.loc 26)]) 26 (.attr (.loc 25) 5) (.k (.bool true)))]),.ret (some (.ite (.cmp .eq (.attr (.loc 25) 0) (.k (.str (ofString "row")))) (.bin .add (.bin .add (.bin .add (.loc 50) (.k (.bytes #[123]))) (.loc 51)) (.k (.bytes #[125]))) (.bin .add (.bin .add (.bin .add (.loc 50) (.k (.bytes #[91]))) (.loc 51)) (.k (.bytes #[93])))))]),[]),
 ((207,1),([33],[ .assign (.name 24) (.call 200 [(.loc 33)]),.ret (some (.bin .add (.bin .add (.call 195 [(.call 190 [(.loc 24)])]) (.k (.bytes #[44]))) (.loc 24)))]),[]),
 ((250,2),([16,7],[ .for1 6 (.one (.loc 16)) [ .ite (.cmp .eq (.attr (.loc 6) 7) (.loc 7)) [ .ret (some (.loc 6))] [ ]],.ret (some (.k .none))]),[]),
 ((431,4),([52,6,7,15],[ .assignT [(.name 1),(.name 2)] (.tup [(.attr (.loc 52) 1),(.attr (.loc 52) 2)]),.ite (.not (.meth (.loc 52) 91 [(.loc 6)])) [ .ret (some (.k .none))] [ ],.ret (some (.new 420 [(.loc 7),(.loc 15),(.loc 6),(.loc 1),(.loc 2)]))]),[]),
 ((439,7),([53,6,54,55,27,34,35,56],[ .ite (.or (.not (.meth (.loc 53) 85 [(.loc 6)])) (.or (.not (.meth (.loc 54) 85 [(.loc 55)])) (.cmp .is (.loc 6) (.loc 55)))) [ .ret (some (.k (.bool false)))] [ ],.assign (.name 19) (.attr (.loc 54) 19),.ite (.cmp .is (.loc 53) (.loc 54)) [ .assign (.name 19) (.call 156 [(.loc 19),(.attr (.loc 6) 7)])] [ ],.assign (.name 24) (.call 142 [(.loc 19),(.attr (.loc 55) 7),(.attr (.loc 6) 7),(.loc 27),(.loc 34),(.loc 35)]),.ite (.cmp .is (.loc 24) (.k .none)) [ .ret (some (.k (.bool false)))] [ ],.ite (.cmp .isNot (.loc 53) (.loc 54)) [ .expr (.meth (.loc 53) 91 [(.loc 6)])] [ ],.expr (.meth (.loc 54) 84 [(.loc 24),(.list [(.loc 6)])]),.ite (.loc 56) [ .expr (.meth (.loc 54) 86 [(.loc 6)])] [ ],.ret (some (.k (.bool true)))]),[.bool true]),
 ((444,4),([44,6,39,57],[ .ite (.or (.not (.meth (.loc 44) 85 [(.loc 6)])) (.not (.meth (.loc 39) 85 [(.loc 57)]))) [ .ret (some (.k (.bool false)))] [ ],.ite (.cmp .is (.loc 44) (.loc 39)) [ .ret (some (.meth (.loc 44) 93 [(.loc 6),(.loc 57)]))] [ ],.forT [52,75,32] (.one (.tup [(.tup [(.loc 44),(.loc 6),(.loc 57)]),(.tup [(.loc 39),(.loc 57),(.loc 6)])])) [ .assign (.name 43) (.comp (.ite (.cmp .eq (.loc 7) (.attr (.loc 75) 7)) (.attr (.loc 32) 7) (.loc 7)) 7 (.call 73 [(.attr (.loc 52) 19)]) (.k (.bool true))),.ite (.cmp .is (.attr (.loc 52) 17) (.loc 75)) [ .assign (.attr (.loc 52) 17) (.loc 32)] [ ],.ite (.cmp .is (.attr (.loc 52) 18) (.loc 75)) [ .assign (.attr (.loc 52) 18) (.loc 32)] [ ],.expr (.meth (.loc 52) 84 [(.call 170 [(.attr (.loc 52) 19),(.loc 43)]),(.list [(.loc 32)])])],.ret (some (.k (.bool true)))]),[]),
 ((449,1),([58],[ .ret (some (.dS [(ofString "cells"),(ofString "at")] [(.comp (.bin .mod (.bf .int [(.loc 25)]) (.k (.int (1000003)))) 25 (.slice (.loc 58) (.k .none) (.k (.int (120)))) (.k (.bool true))),(.k (.int (0)))]))]),[]),
 ((456,2),([59,38],[ .assign (.name 41) (.sub (.loc 59) (.k (.str (ofString "at")))),.assign (.sub (.loc 59) (.k (.str (ofString "at")))) (.bin .add (.loc 41) (.k (.int (1)))),.ret (some (.ite (.cmp .lt (.loc 41) (.bf .len [(.sub (.loc 59) (.k (.str (ofString "cells"))))])) (.bin .mod (.sub (.sub (.loc 59) (.k (.str (ofString "cells")))) (.loc 41)) (.loc 38)) (.bin .mod (.bin .add (.bin .mul (.k (.int (5))) (.loc 41)) (.bin .fdiv (.loc 41) (.k (.int (3))))) (.loc 38))))]),[]),
 ((463,5),([7,60,6,1,2],[ .ret (some (.dS [(ofString "number"),(ofString "real"),(ofString "layout"),(ofString "active"),(ofString "last"),(ofString "zoom")] [(.loc 7),(.loc 60),(.call 56 [(.loc 6),(.loc 1),(.loc 2)]),(.loc 6),(.k .none),(.k (.bool false))]))]),[]),
 ((470,2),([59,61],[ .assign (.name 62) (.call 73 [(.sub (.loc 61) (.k (.str (ofString "layout"))))]),.ret (some (.sub (.bin .add (.bin .add (.loc 62) (.loc 62)) (.list [(.k (.int (90)))])) (.call 456 [(.loc 59),(.bin .add (.bin .mul (.k (.int (2))) (.bf .len [(.loc 62)])) (.k (.int (1))))])))]),[]),
 ((477,2),([61,6],[ .ite (.cmp .notIn (.loc 6) (.call 73 [(.sub (.loc 61) (.k (.str (ofString "layout"))))])) [ .ret (some (.k (.bool false)))] [ ],.ite (.cmp .ne (.loc 6) (.sub (.loc 61) (.k (.str (ofString "active"))))) [ .assignT [(.sub (.loc 61) (.k (.str (ofString "active")))),(.sub (.loc 61) (.k (.str (ofString "last")))),(.sub (.loc 61) (.k (.str (ofString "zoom"))))] (.tup [(.loc 6),(.sub (.loc 61) (.k (.str (ofString "active")))),(.k (.bool false))])] [ ],.ret (some (.k (.bool true)))]),[]),
 ((482,2),([61,6],[ .assign (.name 62) (.call 73 [(.sub (.loc 61) (.k (.str (ofString "layout"))))]),.ite (.or (.cmp .notIn (.loc 6) (.loc 62)) (.cmp .eq (.bf .len [(.loc 62)]) (.k (.int (1))))) [ .ret (some (.k (.bool false)))] [ ],.assignT [(.name 41),(.name 76)] (.tup [(.bm .index (.loc 62) [(.loc 6)]),(.comp (.loc 44) 44 (.loc 62) (.cmp .ne (.loc 44) (.loc 6)))]),.assignT [(.sub (.loc 61) (.k (.str (ofString "layout")))),(.sub (.loc 61) (.k (.str (ofString "zoom"))))] (.tup [(.call 156 [(.sub (.loc 61) (.k (.str (ofString "layout")))),(.loc 6)]),(.k (.bool false))]),.ite (.cmp .eq (.sub (.loc 61) (.k (.str (ofString "last")))) (.loc 6)) [ .assign (.sub (.loc 61) (.k (.str (ofString "last")))) (.k .none)] [ ],.ite (.cmp .eq (.sub (.loc 61) (.k (.str (ofString "active")))) (.loc 6)) [ .assignT [(.sub (.loc 61) (.k (.str (ofString "active")))),(.sub (.loc 61) (.k (.str (ofString "last"))))] (.tup [(.ite (.cmp .is (.sub (.loc 61) (.k (.str (ofString "last")))) (.k .none)) (.sub (.loc 76) (.bf .max [(.bin .sub (.loc 41) (.k (.int (1)))),(.k (.int (0)))])) (.sub (.loc 61) (.k (.str (ofString "last"))))),(.k .none)])] [ ],.ret (some (.k (.bool true)))]),[]),
 ((489,3),([61,19,6],[ .ite (.cmp .is (.loc 19) (.k .none)) [ .ret (some (.k (.bool false)))] [ ],.assignT [(.sub (.loc 61) (.k (.str (ofString "layout")))),(.sub (.loc 61) (.k (.str (ofString "zoom"))))] (.tup [(.loc 19),(.k (.bool false))]),.ite (.cmp .ne (.sub (.loc 61) (.k (.str (ofString "active")))) (.loc 6)) [ .assignT [(.sub (.loc 61) (.k (.str (ofString "active")))),(.sub (.loc 61) (.k (.str (ofString "last"))))] (.tup [(.loc 6),(.sub (.loc 61) (.k (.str (ofString "active"))))])] [ ],.ret (some (.k (.bool true)))]),[]),
 ((496,3),([59,63,61],[ .assignT [(.name 55),(.name 32),(.name 27)] (.tup [(.call 470 [(.loc 59),(.loc 61)]),(.bf .len [(.sub (.loc 63) (.k (.str (ofString "panes"))))]),(.cmp .eq (.call 456 [(.loc 59),(.k (.int (2)))]) (.k (.int (0))))]),.assignT [(.name 34),(.name 35),(.name 56)] (.tup [(.sub (.tup [(.k .none),(.k .none),(.k (.int (1))),(.k (.int (3)))]) (.call 456 [(.loc 59),(.k (.int (4)))])),(.cmp .eq (.call 456 [(.loc 59),(.k (.int (2)))]) (.k (.int (1)))),(.cmp .lt (.call 456 [(.loc 59),(.k (.int (3)))]) (.k (.int (2))))]),.assign (.sub (.sub (.loc 63) (.k (.str (ofString "panes")))) (.loc 32)) (.new 239 [(.loc 32)]),.assign (.name 64) (.meth (.sub (.loc 61) (.k (.str (ofString "real")))) 90 [(.sub (.sub (.loc 63) (.k (.str (ofString "panes")))) (.loc 55)),(.sub (.sub (.loc 63) (.k (.str (ofString "panes")))) (.loc 32)),(.loc 27),(.loc 34),(.loc 35),(.loc 56)]),.assign (.name 19) (.call 142 [(.sub (.loc 61) (.k (.str (ofString "layout")))),(.loc 55),(.loc 32),(.loc 27),(.loc 34),(.loc 35)]),.ret (some (.tup [(.loc 64),(.call 489 [(.loc 61),(.loc 19),(.ite (.loc 56) (.loc 32) (.sub (.loc 61) (.k (.str (ofString "active")))))])]))]),[]),
 ((503,4),(zF,kT),[]),
 ((510,3),([61,44,39],[ .assign (.name 62) (.call 73 [(.sub (.loc 61) (.k (.str (ofString "layout"))))]),.ite (.or (.cmp .notIn (.loc 44) (.loc 62)) (.cmp .notIn (.loc 39) (.loc 62))) [ .ret (some (.k (.bool false)))] [ ],.assignT [(.sub (.loc 61) (.k (.str (ofString "layout")))),(.sub (.loc 61) (.k (.str (ofString "zoom"))))] (.tup [(.call 175 [(.sub (.loc 61) (.k (.str (ofString "layout")))),(.loc 44),(.loc 39)]),(.k (.bool false))]),.ret (some (.k (.bool true)))]),[]),
 ((515,3),([61,6,57],[ .assign (.name 62) (.comp (.ite (.cmp .eq (.loc 44) (.loc 6)) (.loc 57) (.loc 44)) 44 (.call 73 [(.sub (.loc 61) (.k (.str (ofString "layout"))))]) (.k (.bool true))),.assignT [(.sub (.loc 61) (.k (.str (ofString "layout")))),(.sub (.loc 61) (.k (.str (ofString "zoom"))))] (.tup [(.call 170 [(.sub (.loc 61) (.k (.str (ofString "layout")))),(.loc 62)]),(.k (.bool false))]),.assign (.sub (.loc 61) (.k (.str (ofString "active")))) (.ite (.cmp .eq (.sub (.loc 61) (.k (.str (ofString "active")))) (.loc 6)) (.loc 57) (.sub (.loc 61) (.k (.str (ofString "active"))))),.assign (.sub (.loc 61) (.k (.str (ofString "last")))) (.ite (.cmp .eq (.sub (.loc 61) (.k (.str (ofString "last")))) (.loc 6)) (.loc 57) (.sub (.loc 61) (.k (.str (ofString "last")))))]),[]),
 ((522,4),([59,63,61,65],[ .assignT [(.name 6),(.name 57)] (.tup [(.call 470 [(.loc 59),(.loc 61)]),(.call 470 [(.loc 59),(.loc 65)])]),.assign (.name 64) (.call 444 [(.sub (.loc 61) (.k (.str (ofString "real")))),(.sub (.sub (.loc 63) (.k (.str (ofString "panes")))) (.loc 6)),(.sub (.loc 65) (.k (.str (ofString "real")))),(.sub (.sub (.loc 63) (.k (.str (ofString "panes")))) (.loc 57))]),.ite (.cmp .is (.loc 61) (.loc 65)) [ .ret (some (.tup [(.loc 64),(.call 510 [(.loc 61),(.loc 6),(.loc 57)])]))] [ ],.ite (.or (.cmp .notIn (.loc 6) (.call 73 [(.sub (.loc 61) (.k (.str (ofString "layout"))))])) (.cmp .notIn (.loc 57) (.call 73 [(.sub (.loc 65) (.k (.str (ofString "layout"))))]))) [ .ret (some (.tup [(.loc 64),(.k (.bool false))]))] [ ],.expr (.call 515 [(.loc 61),(.loc 6),(.loc 57)]),.expr (.call 515 [(.loc 65),(.loc 57),(.loc 6)]),.ret (some (.tup [(.loc 64),(.k (.bool true))]))]),[]),
 ((529,3),([59,63,61],[ .assignT [(.name 6),(.name 7)] (.tup [(.call 470 [(.loc 59),(.loc 61)]),(.bf .len [(.sub (.loc 63) (.k (.str (ofString "windows"))))])]),.assignT [(.name 60),(.name 34)] (.tup [(.call 431 [(.sub (.loc 61) (.k (.str (ofString "real")))),(.sub (.sub (.loc 63) (.k (.str (ofString "panes")))) (.loc 6)),(.loc 7),(.k (.bytes #[110]))]),(.sub (.loc 61) (.k (.str (ofString "layout"))))]),.ite (.not (.call 482 [(.loc 61),(.loc 6)])) [ .ret (some (.tup [(.cmp .is (.loc 60) (.k .none)),(.k (.bool true))]))] [ ],.expr (.bm .append (.sub (.loc 63) (.k (.str (ofString "windows")))) [(.call 463 [(.loc 7),(.loc 60),(.loc 6),(.attr (.loc 34) 1),(.attr (.loc 34) 2)])]),.ret (some (.tup [(.cmp .is (.loc 60) (.k .none)),(.k (.bool false))]))]),[]),
 ((536,2),([59,61],[ .assignT [(.name 46),(.name 41)] (.tup [(.cmp .eq (.call 456 [(.loc 59),(.k (.int (2)))]) (.k (.int (1)))),(.bm .index (.call 73 [(.sub (.loc 61) (.k (.str (ofString "layout"))))]) [(.sub (.loc 61) (.k (.str (ofString "active"))))])]),.assign (.name 64) (.meth (.sub (.loc 61) (.k (.str (ofString "real")))) 94 [(.loc 46)]),.assignT [(.sub (.loc 61) (.k (.str (ofString "layout")))),(.sub (.loc 61) (.k (.str (ofString "zoom"))))] (.tup [(.call 183 [(.sub (.loc 61) (.k (.str (ofString "layout")))),(.loc 46)]),(.k (.bool false))]),.expr (.call 477 [(.loc 61),(.sub (.call 73 [(.sub (.loc 61) (.k (.str (ofString "layout"))))]) (.loc 41))]),.ret (some (.tup [(.loc 64),(.k .none)]))]),[]),
 ((543,4),([59,63,61,68],[ .assignT [(.name 60),(.name 62)] (.tup [(.sub (.loc 61) (.k (.str (ofString "real")))),(.call 73 [(.sub (.loc 61) (.k (.str (ofString "layout"))))])]),.ite (.cmp .eq (.loc 68) (.k (.int (2)))) [ .assign (.name 6) (.call 470 [(.loc 59),(.loc 61)]),.ret (some (.tup [(.meth (.loc 60) 91 [(.sub (.sub (.loc 63) (.k (.str (ofString "panes")))) (.loc 6))]),(.call 482 [(.loc 61),(.loc 6)])]))] [ ],.ite (.cmp .eq (.loc 68) (.k (.int (3)))) [ .assign (.name 6) (.call 470 [(.loc 59),(.loc 61)]),.ret (some (.tup [(.meth (.loc 60) 86 [(.sub (.sub (.loc 63) (.k (.str (ofString "panes")))) (.loc 6))]),(.call 477 [(.loc 61),(.loc 6)])]))] [ ],.ite (.cmp .eq (.loc 68) (.k (.int (4)))) [ .ret (some (.tup [(.meth (.loc 60) 87 []),(.and (.cmp .isNot (.sub (.loc 61) (.k (.str (ofString "last")))) (.k .none)) (.call 477 [(.loc 61),(.sub (.loc 61) (.k (.str (ofString "last"))))]))]))] [ ],.ite (.cmp .eq (.loc 68) (.k (.int (5)))) [ .assign (.sub (.loc 61) (.k (.str (ofString "zoom")))) (.and (.cmp .gt (.bf .len [(.loc 62)]) (.k (.int (1)))) (.not (.sub (.loc 61) (.k (.str (ofString "zoom")))))),.ret (some (.tup [(.meth (.loc 60) 89 []),(.sub (.loc 61) (.k (.str (ofString "zoom"))))]))] [ ],.ite (.cmp .eq (.loc 68) (.k (.int (6)))) [ .assignT [(.name 44),(.name 39)] (.tup [(.call 470 [(.loc 59),(.loc 61)]),(.call 470 [(.loc 59),(.loc 61)])]),.ret (some (.tup [(.meth (.loc 60) 93 [(.sub (.sub (.loc 63) (.k (.str (ofString "panes")))) (.loc 44)),(.sub (.sub (.loc 63) (.k (.str (ofString "panes")))) (.loc 39))]),(.call 510 [(.loc 61),(.loc 44),(.loc 39)])]))] [ ],.ite (.cmp .eq (.loc 68) (.k (.int (7)))) [ .assign (.name 38) (.bin .sub (.call 456 [(.loc 59),(.k (.int (9)))]) (.k (.int (4)))),.assign (.name 64) (.meth (.loc 60) 88 [(.loc 38)]),.ret (some (.tup [(.loc 64),(.call 477 [(.loc 61),(.sub (.loc 62) (.bin .mod (.bin .add (.bm .index (.loc 62) [(.sub (.loc 61) (.k (.str (ofString "active"))))]) (.loc 38)) (.bf .len [(.loc 62)])))])]))] [ ],.assignT [(.name 1),(.name 2)] (.tup [(.bin .add (.k (.int (4))) (.call 456 [(.loc 59),(.k (.int (30)))])),(.bin .add (.k (.int (3))) (.call 456 [(.loc 59),(.k (.int (12)))]))]),.assign (.sub (.loc 61) (.k (.str (ofString "layout")))) (.call 163 [(.sub (.loc 61) (.k (.str (ofString "layout")))),(.loc 1),(.loc 2)]),.ret (some (.tup [(.meth (.loc 60) 92 [(.loc 1),(.loc 2)]),(.k .none)]))]),[]),
 ((550,2),([59,63],[ .assign (.name 69) (.sub (.loc 63) (.k (.str (ofString "windows")))),.assignT [(.name 61),(.name 65)] (.tup [(.sub (.loc 69) (.call 456 [(.loc 59),(.bf .len [(.loc 69)])])),(.sub (.loc 69) (.call 456 [(.loc 59),(.bf .len [(.loc 69)])]))]),.assign (.name 68) (.call 456 [(.loc 59),(.k (.int (13)))]),.ite (.cmp .lt (.loc 68) (.k (.int (2)))) [ .ret (some (.call 496 [(.loc 59),(.loc 63),(.loc 61)]))] [ ],.ite (.cmp .eq (.loc 68) (.k (.int (8)))) [ .ret (some (.call 536 [(.loc 59),(.loc 61)]))] [ ],.ite (.cmp .eq (.loc 68) (.k (.int (9)))) [ .ret (some (.call 503 [(.loc 59),(.loc 63),(.loc 61),(.loc 65)]))] [ ],.ite (.cmp .eq (.loc 68) (.k (.int (10)))) [ .ret (some (.call 522 [(.loc 59),(.loc 63),(.loc 61),(.loc 65)]))] [ ],.ite (.and (.cmp .eq (.loc 68) (.k (.int (11)))) (.cmp .lt (.bf .len [(.loc 69)]) (.k (.int (3))))) [ .ret (some (.call 529 [(.loc 59),(.loc 63),(.loc 61)]))] [ ],.ret (some (.call 543 [(.loc 59),(.loc 63),(.loc 61),(.loc 68)]))]),[]),
 ((555,1),(zE,Bi),[]),
 ((229,3),([71,9,10],[ .ite (.cmp .eq (.tup [(.loc 9),(.loc 10)]) (.tup [(.attr (.loc 71) 9),(.attr (.loc 71) 10)])) [ .ret (some (.k (.bool false)))] [ ],.assignT [(.attr (.loc 71) 9),(.attr (.loc 71) 10)] (.tup [(.loc 9),(.loc 10)]),.ite (.cmp .isNot (.attr (.loc 71) 8) (.k .none)) [ .expr (.meth (.attr (.loc 71) 8) 92 [(.loc 9),(.loc 10)])] [ ],.ret (some (.k (.bool true)))]),[]),
 ((287,1),([71],[ .for1 36 (.one (.call 68 [(.attr (.loc 71) 19)])) [ .assign (.name 6) (.call 250 [(.attr (.loc 71) 16),(.attr (.loc 36) 6)]),.ite (.and (.attr (.loc 71) 20) (.cmp .is (.loc 6) (.attr (.loc 71) 17))) [ .expr (.meth (.loc 6) 82 [(.attr (.attr (.loc 71) 19) 2),(.attr (.attr (.loc 71) 19) 1)])] [ .expr (.meth (.loc 6) 82 [(.attr (.loc 36) 2),(.attr (.loc 36) 1)])]]]),[]),
 ((294,2),(uN,wS),[.ref 288]),
 ((294,3),(uN,wS),[]),
 ((301,2),([71,6],[ .ret (some (.cmp .is (.call 250 [(.attr (.loc 71) 16),(.attr (.loc 6) 7)]) (.loc 6)))]),[]),
 ((308,2),([71,6],[ .ite (.not (.meth (.loc 71) 85 [(.loc 6)])) [ .ret (some (.k (.bool false)))] [ ],.ite (.cmp .isNot (.loc 6) (.attr (.loc 71) 17)) [ .assign (.attr (.loc 71) 18) (.attr (.loc 71) 17),.assign (.attr (.loc 71) 17) (.loc 6),.ite (.attr (.loc 71) 20) [ .assign (.attr (.loc 71) 20) (.k (.bool false)),.expr (.meth (.loc 71) 83 [])] [ ]] [ ],.ret (some (.k (.bool true)))]),[]),
 ((315,1),([71],[ .ret (some (.and (.cmp .isNot (.attr (.loc 71) 18) (.k .none)) (.meth (.loc 71) 86 [(.attr (.loc 71) 18)])))]),[]),
 ((330,2),([71,38],[ .assign (.name 41) (.bm .index (.call 73 [(.attr (.loc 71) 19)]) [(.attr (.attr (.loc 71) 17) 7)]),.ret (some (.meth (.loc 71) 86 [(.sub (.attr (.loc 71) 16) (.bin .mod (.bin .add (.loc 41) (.loc 38)) (.bf .len [(.attr (.loc 71) 16)])))]))]),[]),
 ((337,1),([71],[ .assign (.attr (.loc 71) 20) (.and (.not (.attr (.loc 71) 20)) (.cmp .gt (.bf .len [(.attr (.loc 71) 16)]) (.k (.int (1))))),.expr (.meth (.loc 71) 83 []),.ret (some (.attr (.loc 71) 20))]),[]),
 ((345,7),([71,6,32,27,34,35,56],[ .assign (.name 24) (.call 142 [(.attr (.loc 71) 19),(.attr (.loc 6) 7),(.attr (.loc 32) 7),(.loc 27),(.loc 34),(.loc 35)]),.ite (.cmp .is (.loc 24) (.k .none)) [ .ret (some (.k (.bool false)))] [ ],.expr (.meth (.loc 71) 84 [(.loc 24),(.list [(.loc 32)])]),.ite (.loc 56) [ .expr (.meth (.loc 71) 86 [(.loc 32)])] [ ],.ret (some (.k (.bool true)))]),[]),
 ((352,2),([71,6],[ .assign (.name 24) (.ite (.meth (.loc 71) 85 [(.loc 6)]) (.call 156 [(.attr (.loc 71) 19),(.attr (.loc 6) 7)]) (.k .none)),.ite (.cmp .is (.loc 24) (.k .none)) [ .ret (some (.k (.bool false)))] [ ],.assign (.name 41) (.bm .index (.call 73 [(.attr (.loc 71) 19)]) [(.attr (.loc 6) 7)]),.expr (.meth (.loc 71) 84 [(.loc 24)]),.ite (.cmp .is (.attr (.loc 71) 18) (.loc 6)) [ .assign (.attr (.loc 71) 18) (.k .none)] [ ],.ite (.cmp .is (.attr (.loc 71) 17) (.loc 6)) [ .assign (.attr (.loc 71) 17) (.ite (.cmp .is (.attr (.loc 71) 18) (.k .none)) (.sub (.attr (.loc 71) 16) (.bf .max [(.k (.int (0))),(.bin .sub (.loc 41) (.k (.int (1))))])) (.attr (.loc 71) 18)),.assign (.attr (.loc 71) 18) (.k .none)] [ ],.ret (some (.k (.bool true)))]),[]),
 ((359,3),([71,1,2],[ .assign (.attr (.loc 71) 19) (.call 163 [(.attr (.loc 71) 19),(.loc 1),(.loc 2)]),.expr (.meth (.loc 71) 83 [])]),[]),
 ((380,3),([71,44,39],[ .assign (.name 24) (.call 175 [(.attr (.loc 71) 19),(.attr (.loc 44) 7),(.attr (.loc 39) 7)]),.ite (.cmp .isNot (.loc 24) (.k .none)) [ .expr (.meth (.loc 71) 84 [(.loc 24)])] [ ],.ret (some (.cmp .isNot (.loc 24) (.k .none)))]),[]),
 ((388,2),([71,46],[ .assign (.name 41) (.bm .index (.call 73 [(.attr (.loc 71) 19)]) [(.attr (.attr (.loc 71) 17) 7)]),.expr (.meth (.loc 71) 84 [(.call 183 [(.attr (.loc 71) 19),(.loc 46)])]),.expr (.meth (.loc 71) 86 [(.sub (.attr (.loc 71) 16) (.loc 41))])]),[]),
 ((42,8),([71,0,1,2,3,4,5,6],[ .assign (.attr (.loc 71) 0) (.loc 0),.assign (.attr (.loc 71) 1) (.loc 1),.assign (.attr (.loc 71) 2) (.loc 2),.assign (.attr (.loc 71) 3) (.loc 3),.assign (.attr (.loc 71) 4) (.loc 4),.assign (.attr (.loc 71) 5) (.loc 5),.assign (.attr (.loc 71) 6) (.loc 6)]),[]),
 ((222,2),([71,7,8],[ .assign (.attr (.loc 71) 7) (.loc 7),.assign (.attr (.loc 71) 8) (.loc 8),.assign (.attr (.loc 71) 9) (.k (.int (0))),.assign (.attr (.loc 71) 10) (.k (.int (0))),.assign (.attr (.loc 71) 11) (.k (.int (0))),.assign (.attr (.loc 71) 12) (.k (.bytes #[])),.assign (.attr (.loc 71) 13) (.k (.bool false)),.assign (.attr (.loc 71) 14) (.k .none)]),[.none]),
 ((264,6),([71,7,15,6,1,2],[ .assign (.attr (.loc 71) 7) (.loc 7),.assign (.attr (.loc 71) 15) (.loc 15),.assign (.attr (.loc 71) 16) (.list [(.loc 6)]),.assign (.attr (.loc 71) 17) (.loc 6),.assign (.attr (.loc 71) 18) (.k .none),.assign (.attr (.loc 71) 19) (.call 56 [(.attr (.loc 6) 7),(.loc 1),(.loc 2)]),.assign (.attr (.loc 71) 20) (.k (.bool false)),.assign (.attr (.loc 71) 21) (.k (.bool false)),.assign (.attr (.loc 71) 22) (.k (.bool false)),.assign (.attr (.loc 71) 14) (.k .none),.expr (.meth (.loc 71) 83 [])]),[]),
 ((271,1),([71],[ .ret (some (.attr (.attr (.loc 71) 19) 1))]),[]),
 ((279,1),([71],[ .ret (some (.attr (.attr (.loc 71) 19) 2))]),[]),
 ((562,1),([58],[ .assign (.name 59) (.call 449 [(.loc 58)]),.assignT [(.name 1),(.name 2)] (.tup [(.bin .add (.k (.int (24))) (.call 456 [(.loc 59),(.k (.int (12)))])),(.bin .add (.k (.int (8))) (.call 456 [(.loc 59),(.k (.int (6)))]))]),.assign (.name 63) (.dS [(ofString "panes"),(ofString "windows")] [(.dI [(.k (.int (0))),(.new 239 [(.k (.int (0)))]),(.k (.int (90))),(.new 239 [(.k (.int (90)))])]),(.list [])]),.expr (.bm .append (.sub (.loc 63) (.k (.str (ofString "windows")))) [(.call 463 [(.k (.int (0))),(.new 420 [(.k (.int (0))),(.k (.bytes #[119])),(.sub (.sub (.loc 63) (.k (.str (ofString "panes")))) (.k (.int (0)))),(.loc 1),(.loc 2)]),(.k (.int (0))),(.loc 1),(.loc 2)])]),.ite (.not (.call 555 [(.loc 63)])) [ .ret (some (.k (.bool false)))] [ ],.for1 70 (.range (.bin .add (.k (.int (4))) (.call 456 [(.loc 59),(.k (.int (6)))]))) [ .assignT [(.name 64),(.name 80)] (.call 550 [(.loc 59),(.loc 63)]),.ite (.or (.cmp .isNot (.loc 64) (.loc 80)) (.not (.call 555 [(.loc 63)]))) [ .ret (some (.k (.bool false)))] [ ]],.ret (some (.k (.bool true)))]),[])]
theorem Cp (P:Params):xr.map (λp=>Cr (KK P) p.1.1)=xr.map λp=>some p.2.1:=by kernel_rfl
theorem Cq (P:Params) (S:Setting) (u0 u1 u2 u3 u4 u5 u6 u7:Value):xr.map (λp=>(wB (KK P) p.1.1).bind λfd=>peek (KK P) S (bindArgs fd ⟨[u0,u1,u2,u3,u4,u5,u6,u7].take p.1.2,[]⟩))=xr.map λp=>some ((p.2.1.1.map nm).zip ([u0,u1,u2,u3,u4,u5,u6,u7].take p.1.2++p.2.2)):=by kernel_rfl
theorem Co:xr.all (λp=>ble p.1.2 8)=true:=by decide +kernel
theorem DK {n:Nat} {W:Wd} (G:Gd W (KK W.w.params)) {f:Addr} {xs:List Nat} {b:List CS} {vs ws:List AV} {ds:List Value} {H:AH} {Q:AV->AH->Prop} (e:xr.lookup (f,vs.length)=some ((xs,b),ds))
  (hd:∀h,W.St H h->bK H h ws ds) (hl:xs.length=vs.length+ws.length) (h:cG W n b (xs.zip (vs++ws)) H (λ_ H=>Q .none H) Q):a7 W f vs (n+1) H Q:=by
 have x:=ah e;have k8:=le_of_ble_eq_true (all_eq_true.mp Co _ x);apply AM G (List.map_inj_left.mp (Cp W.w.params) _ x) (λS us hu=>?_) hd hl h;have y:=List.map_inj_left.mp (Cq W.w.params S (us.getD 0 .none) (us.getD 1 .none) (us.getD 2 .none) (us.getD 3 .none) (us.getD 4 .none) (us.getD 5 .none) (us.getD 6 .none) (us.getD 7 .none)) _ x;have z:[us.getD 0 .none,us.getD 1 .none,us.getD 2 .none,us.getD 3 .none,us.getD 4 .none,us.getD 5 .none,us.getD 6 .none,us.getD 7 .none].take vs.length=us:=by
  rw[<-hu]at k8 ⊢;show((List.range 8).map λi=>us.getD i .none).take us.length=us;exact List.ext_getElem (by simp only[length_take,length_map,length_range];exact Nat.min_eq_left k8) λi h1 h2=>by simp[List.getD_eq_getElem?_getD,h2]
 simp only[z]at y;exact y
theorem tL {k m:Nat} {W:Wd} (G:Gd W (KK W.w.params)) {f:Addr} {xs:List Nat} {b:List CS} {vs ws:List AV} {ds:List Value} {H:AH} {Q:AV->AH->Prop} (e:xr.lookup (f,vs.length)=some ((xs,b),ds)) (hm:k+1<=m)
  (hd:∀h,W.St H h->bK H h ws ds) (hl:xs.length=vs.length+ws.length) (h:∀n,k<=n->cG W n b (xs.zip (vs++ws)) H (λ_ H=>Q .none H) Q):a7 W f vs m H Q:=by
 cases m with
 |zero=>exact absurd hm (Nat.not_succ_le_zero _)
 |succ n=>exact DK G e hd hl (h n (Nat.le_of_succ_le_succ hm))
theorem bZ {k m:Nat} {W:Wd} (G:Gd W (KK W.w.params)) {f:Addr} {xs:List Nat} {b:List CS} {vs:List AV} {H:AH} {Q:AV->AH->Prop} (e:xr.lookup (f,vs.length)=some ((xs,b),[])) (hm:k+1<=m)
  (hl:xs.length=vs.length) (h:∀n,k<=n->cG W n b (xs.zip vs) H (λ_ H=>Q .none H) Q):a7 W f vs m H Q:=
 tL G e hm (ws:=[]) (λh _=>rfl) hl λn hn=>by rw[append_nil];exact h n hn
end
section
section
variable {W:Wd} {n:Nat} {Z:am} {H:AH} {Q:AV->AH->Prop} {Qs:List AV->AH->Prop} {QS:am->AH->Prop} {R:AV->AH->Prop} {e a b c i lo hi:CE} {es:List CE}
theorem EO {v}:aD W n (.k v) Z H Q=Q v H:=rfl
theorem DR {x}:aD W n (.loc x) Z H Q=lk (Z.lookup x) λv=>Q v H:=rfl
theorem Cy {f}:aD W n (.attr e f) Z H Q=aD W n e Z H λv H=>aQ W v f n H Q:=rfl
theorem Cw {f}:aD W n (.call f es) Z H Q=cJ W n es Z H λvs H=>a7 W f vs n H Q:=rfl
theorem DP {C}:aD W n (.new C es) Z H Q=cJ W n es Z H λvs H=>iT W C vs n H Q:=rfl
theorem Ct {m}:aD W n (.meth e m es) Z H Q=aD W n e Z H λv H=>E5 λa f C dx fs=>∃ g, v=.ref a∧H a=some (f,.inst C dx fs)∧jQ.lookup (C,m)=some g∧fs.lookup m=none ∧
   cJ W n es Z H λvs H=>a7 W g (v::vs) n H Q:=rfl
theorem EG {m}:aD W n (.bm m e es) Z H Q=aD W n e Z H λv H=>oo m v H∧cJ W n es Z H λvs H=>gL m v vs H Q:=rfl
theorem EH {f}:aD W n (.bf f es) Z H Q=cJ W n es Z H λvs H=>fC f vs H Q:=rfl
theorem DU {op}:aD W n (.bin op a b) Z H Q=aD W n a Z H λx H=>aD W n b Z H λy H=>eH op x y H Q:=rfl
theorem DT {op}:aD W n (.cmp op a b) Z H Q=aD W n a Z H λx H=>aD W n b Z H λy H=>fB op x y H Q:=rfl
theorem DV:aD W n (.and a b) Z H Q=aD W n a Z H λx H=>gU x λt=>(t=false->Q (.bool false) H)∧(t=true->aD W n b Z H Q):=rfl
theorem EC:aD W n (.or a b) Z H Q=aD W n a Z H λx H=>gU x λt=>(t=true->Q (.bool true) H)∧(t=false->aD W n b Z H Q):=rfl
theorem DO:aD W n (.not a) Z H Q=aD W n a Z H λx H=>gU x λt=>Q (.bool (!t)) H:=rfl
theorem DQ:aD W n (.neg a) Z H Q=aD W n a Z H λx H=>bg x λi=>Q (.int (-i)) H:=rfl
theorem DS:aD W n (.ite c a b) Z H Q=aD W n c Z H λx H=>gU x λt=>(t=true->aD W n a Z H Q)∧(t=false->aD W n b Z H Q):=rfl
theorem Cu:aD W n (.list es) Z H Q=cJ W n es Z H λvs H=>vs.length<=cap∧∀r,H r=none->Q (.ref r) (H.set r (.list vs)):=rfl
theorem DL:aD W n (.tup es) Z H Q=cJ W n es Z H λvs H=>vs.length<=cap∧Q (.tup vs) H:=rfl
theorem EE {ks}:aD W n (.dS ks es) Z H Q=cJ W n es Z H λvs H=>qx ks vs (ks.length<=10∧∀r,H r=none->Q (.ref r) (H.set r (.dS ((ks.zip vs).foldl (λes p=>ch es p.1 p.2) [])))):=rfl
theorem EF:aD W n (.dI es) Z H Q=cJ W n es Z H λvs H=>∃ps:List (Int × AV),vs=ps.flatMap (λp=>[AV.int p.1,p.2])∧ps.length<=10∧∀r,H r=none->Q (.ref r) (H.set r (.dI (ps.foldl (λes p=>ch es p.1 p.2) []))):=rfl
theorem DM:aD W n (.sub a i) Z H Q=aD W n a Z H λx H=>aD W n i Z H λy H=>be x y H Q:=rfl
theorem BJ:aD W n (.slice a lo hi) Z H Q=aD W n a Z H λx H=>aD W n lo Z H λl H=>aD W n hi Z H λh H=>E5 λa f xs i j=>x=.ref a∧H a=some (f,.list xs)∧xs.length<=cap ∧
   p9 l=some i∧p9 h=some j∧∀r,H r=none->Q (.ref r) (H.set r (.list (cut xs i j))):=rfl
theorem DN:aD W n (.rev a) Z H Q=aD W n a Z H λx H=>E3 λl f xs=>x=.ref l∧H l=some (f,.list xs)∧xs.length<=cap∧∀r,H r=none->Q (.ref r) (H.set r (.list xs.reverse)):=rfl
theorem Cs:cJ W n [] Z H Qs=Qs [] H:=rfl
theorem BI:cJ W n (e::es) Z H Qs=aD W n e Z H λv H=>cJ W n es Z H λvs H=>Qs (v::vs) H:=rfl
theorem BO {x v}:rD W n (.name x) v Z H QS=QS (put Z x v) H:=rfl
theorem BP {f v}:rD W n (.attr e f) v Z H QS=aD W n e Z H λo H=>cx o f v H (QS Z):=rfl
theorem Dk {v}:rD W n (.sub e i) v Z H QS=aD W n e Z H λo H=>aD W n i Z H λk H=>dR o k v H (QS Z):=rfl
theorem Dl {v}:rD W n (.cut e lo hi) v Z H QS=aD W n e Z H λo H=>aD W n lo Z H λl H=>aD W n hi Z H λh H=>fY o l h v H (QS Z):=rfl
theorem BN:ju W n [] [] Z H QS=QS Z H:=rfl
theorem Bp {t ts v vs}:ju W n (t::ts) (v::vs) Z H QS=rD W n t v Z H λZ H=>ju W n ts vs Z H QS:=rfl
theorem zS {t}:na W n (.assign t e) Z H QS R=aD W n e Z H λv H=>rD W n t v Z H QS:=rfl
theorem zv {ts}:na W n (.assignT ts e) Z H QS R=aD W n e Z H λv H=>uL v λvs=>qx ts vs (ju W n ts vs Z H QS):=rfl
theorem Dr {x op}:na W n (.aug x op e) Z H QS R=lk (Z.lookup x) λu=>bg u λi=>aD W n e Z H λv H=>bg v λj=>QS (put Z x (.int (pt op i j))) H:=rfl
theorem BZ:na W n (.expr e) Z H QS R=aD W n e Z H λ_ H=>QS Z H:=rfl
theorem Dq {x y}:na W n (.ite c x y) Z H QS R=aD W n c Z H λv H=>gU v λt=>(t=true->cG W n x Z H QS R)∧(t=false->cG W n y Z H QS R):=rfl
theorem BX:na W n (.ret none) Z H QS R=R .none H:=rfl
theorem Dp:na W n (.ret (some e)) Z H QS R=aD W n e Z H R:=rfl
theorem BY:na W n .pass Z H QS R=QS Z H:=rfl
theorem Ed:cG W n [] Z H QS R=QS Z H:=rfl
theorem n8 {s ss}:cG W n (s::ss) Z H QS R=na W n s Z H (λZ H=>cG W n ss Z H QS R) R:=rfl
theorem EM {s ss} (h:na W n s Z H (λZ H=>cG W n ss Z H QS R) R):cG W n (s::ss) Z H QS R:=h
theorem EL (h:QS Z H):cG W n [] Z H QS R:=h
theorem ED (h:aD W n e Z H Q):aD W n e Z H Q:=h
end
set_option genInjectivity false in
inductive Tr (U:Type) where
 |leaf (a:U) (w h x y p:Int)
 |node (a:U) (r:Bool) (w h x y:Int) (cs:List (Tr U))
abbrev L:=Tr (Addr × Addr)
noncomputable def sPane:Str:=ofString "pane"
noncomputable def zT:Str:=ofString "row"
noncomputable def zX:Str:=ofString "column"
noncomputable def kd (r:Bool):Str:=if r then zT else zX
section
universe u
variable {U:Type} {O γ:Sort u} (lf:U->Int->Int->Int->Int->Int->O) (nd:U->Bool->Int->Int->Int->Int->List (Tr U)->γ->O) (ni:γ) (co:Tr U->List (Tr U)->O->γ->γ)
noncomputable def Tr.fo (t:Tr U):O:=Tr.rec (motive_1:=λ_=>O) (motive_2:=λ_=>γ) lf nd ni co t
noncomputable def Tr.fos (ts:List (Tr U)):γ:=Tr.rec_1 (motive_1:=λ_=>O) (motive_2:=λ_=>γ) lf nd ni co ts
end
namespace Tr
variable {U O:Type}
noncomputable def tag (t:Tr U):U:=Tr.casesOn t (λa _ _ _ _ _=>a) λa _ _ _ _ _ _=>a
noncomputable def kind (t:Tr U):Str:=Tr.casesOn t (λ_ _ _ _ _ _=>sPane) λ_ r _ _ _ _ _=>kd r
noncomputable def w (t:Tr U):Int:=Tr.casesOn t (λ_ w _ _ _ _=>w) λ_ _ w _ _ _ _=>w
noncomputable def h (t:Tr U):Int:=Tr.casesOn t (λ_ _ h _ _ _=>h) λ_ _ _ h _ _ _=>h
noncomputable def x (t:Tr U):Int:=Tr.casesOn t (λ_ _ _ x _ _=>x) λ_ _ _ _ x _ _=>x
noncomputable def y (t:Tr U):Int:=Tr.casesOn t (λ_ _ _ _ y _=>y) λ_ _ _ _ _ y _=>y
noncomputable def cs (t:Tr U):List (Tr U):=Tr.casesOn t (λ_ _ _ _ _ _=>[]) λ_ _ _ _ _ _ cs=>cs
noncomputable def pv (t:Tr U):AV:=Tr.casesOn t (λ_ _ _ _ _ p=>.int p) λ_ _ _ _ _ _ _=>.none
noncomputable def isLeaf (t:Tr U):Bool:=Tr.casesOn t (λ_ _ _ _ _ _=>true) λ_ _ _ _ _ _ _=>false
noncomputable def side (d:Bool) (t:Tr U):Int:=if d then t.w else t.h
noncomputable def aG (d:Bool) (s:Int) (t:Tr U):Tr U:=Tr.casesOn t (λa w h x y p=>if d then leaf a s h x y p else leaf a w s x y p) λa r w h x y cs=>if d then node a r s h x y cs else node a r w s x y cs
theorem aK {d:Bool} {s:Int} {t:Tr U}:(aG d s t).tag=t.tag:=by obtain⟨⟩:=t<;>obtain⟨⟩:=d<;>rfl
theorem hZ {d:Bool} {s:Int} {t:Tr U}:(aG d s t).cs=t.cs:=by obtain⟨⟩:=t<;>obtain⟨⟩:=d<;>rfl
end Tr
noncomputable def cw (k:Str) (w h x y:Int) (l:Addr) (pv:AV):List (Nat × AV):=[(0,.str k),(1,.int w),(2,.int h),(3,.int x),(4,.int y),(5,.ref l),(6,pv)]
noncomputable def L.at (t:L):Addr:=t.tag.1
def Nd (f:Bool) (H:AH) (t:L):Prop:=
 (∃dx,H t.tag.1=some (f,.inst 45 dx (cw t.kind t.w t.h t.x t.y t.tag.2 t.pv)))∧H t.tag.2=some (f,.list (t.cs.map λc=>.ref c.tag.1))
def LR (f:Bool) (H:AH) (t:L):Prop:=Tr.fo (λa w h x y p=>Nd f H (.leaf a w h x y p)) (λa r w h x y cs c=>Nd f H (.node a r w h x y cs)∧c) True (λ_ _ a b=>a∧b) t
def Bk (f:Bool) (H:AH) (ts:List L):Prop:=Tr.fos (λa w h x y p=>Nd f H (.leaf a w h x y p)) (λa r w h x y cs c=>Nd f H (.node a r w h x y cs)∧c) True (λ_ _ a b=>a∧b) ts
theorem zp {f H}: Bk f H []=True:=rfl
theorem zo {f H c cs}: Bk f H (c::cs)=(LR f H c∧Bk f H cs):=rfl
theorem Bm {f H a w h x_1 y p}: LR f H (Tr.leaf a w h x_1 y p)=Nd f H (Tr.leaf a w h x_1 y p):=rfl
theorem Bl {f H a r w h x_1 y cs}: LR f H (Tr.node a r w h x_1 y cs)=(Nd f H (Tr.node a r w h x_1 y cs)∧Bk f H cs):=rfl
theorem x0 {f:Bool} {H:AH}:∀{cs:List L},Bk f H cs↔∀c∈cs,LR f H c:=by
 intro cs
 induction cs with
 |nil=>
  simp[zp]
 |cons c cs ih=>
  simp[zo,ih]
theorem bz {f:Bool} {H:AH} {t:L}:LR f H t↔Nd f H t∧∀c∈t.cs,LR f H c:=by
 cases t with
 |leaf=>simp[Bm,Tr.cs]
 |node=>simp[Bl,Tr.cs,x0]
theorem LR.nd {f:Bool} {H:AH} {t:L} (h:LR f H t):Nd f H t:=(bz.mp h).1
theorem LR.kid {f:Bool} {H:AH} {t c:L} (h:LR f H t) (hc:c∈t.cs):LR f H c:=(bz.mp h).2 c hc
namespace Tr
variable {U O:Type}
noncomputable def dep (t:Tr U):Nat:=fo (λ_ _ _ _ _ _=>0) (λ_ _ _ _ _ _ _ n=>n+1) 0 (λ_ _ a b=>max a b) t
noncomputable def fu (ts:List (Tr U)):Nat:=fos (λ_ _ _ _ _ _=>0) (λ_ _ _ _ _ _ _ n=>n+1) 0 (λ_ _ a b=>max a b) ts
theorem wG {U:Type}:fu ([]:List (Tr U))=0:=rfl
theorem ft {U:Type} {c:Tr U} {cs}:fu (c::cs)=max (dep c) (fu cs):=rfl
theorem yS {U:Type} {a:U} {w h x_1 y p}:dep (leaf a w h x_1 y p)=0:=rfl
theorem fv {U:Type} {a:U} {r w h x_1 y cs}:dep (node a r w h x_1 y cs)=fu cs+1:=rfl
theorem o7 {cs:List (Tr U)} {c:Tr U} (h:c∈cs):c.dep<=fu cs:=by
 induction h with
 |head=>simp only[ft];exact Nat.le_max_left _ _
 |tail _ _ ih=>simp only[ft];exact le_trans ih (Nat.le_max_right _ _)
theorem cF {t c:Tr U} (h:c∈t.cs):c.dep<t.dep:=by
 cases t with
 |leaf=>exact absurd h not_mem_nil
 |node=>simp only[Tr.cs]at h;simp only[fv];have:=o7 h;exact Nat.lt_succ_of_le this
theorem bn {P:Tr U->Prop} (step:∀t,(∀c∈t.cs,P c)->P t):∀t,P t:=by
 have:∀n (t:Tr U),t.dep<=n->P t:=by
  intro n
  induction n with
  |zero=>intro t ht;exact step t λc hc=>absurd (cF hc) (by lia)
  |succ n ih=>intro t ht;exact step t λc hc=>ih c (by have:=cF hc;exact Nat.le_of_lt_succ (lt_of_lt_of_le this ht))
 exact λt=>this _ t (le_refl _)
end Tr
end
section
def no (o:AO):Prop:=∀b,o≠.own b
theorem aw {vs}:no (.list vs):=λ_ h=>by ac_nf
theorem gi {C dx fs}:no (.inst C dx fs):=λ_ h=>by ac_nf
theorem xk {es}:no (.dS es):=λ_ h=>by ac_nf
theorem Ai {es}:no (.dI es):=λ_ h=>by ac_nf
def Ex (X:List Addr) (H H':AH):Prop:=∀a f o,no o->H a=some (f,o)->a∉X->H' a=some (f,o)
abbrev Sb (H H':AH):Prop:=Ex [] H H'
theorem Ex.refl {X:List Addr} {H:AH}:Ex X H H:=λ_ _ _ _ e _=>e
theorem Ex.trans {X:List Addr} {H H' H'':AH} (x:Ex X H H') (y:Ex X H' H''):Ex X H H'':=λa f o n e h=>y a f o n (x a f o n e h) h
theorem Ex.mono {X Y:List Addr} {H H':AH} (x:Ex X H H') (h:∀a∈X,a∈Y):Ex Y H H':=λa f o n e z=>x a f o n e λq=>z (h a q)
theorem Sb.ex {X:List Addr} {H H':AH} (x:Sb H H'):Ex X H H':=x.mono λ_ h=>by exact absurd h not_mem_nil
theorem Ex.list {X:List Addr} {H H':AH} (x:Ex X H H') {a:Addr} {f:Bool} {vs:List AV} (e:H a=some (f,.list vs)) (h:a∉X):H' a=some (f,.list vs):=x a f _ aw e h
theorem Ex.inst {X:List Addr} {H H':AH} (x:Ex X H H') {a:Addr} {f:Bool} {C dx:Addr} {fs:List (Nat × AV)} (e:H a=some (f,.inst C dx fs)) (h:a∉X):H' a=some (f,.inst C dx fs):=x a f _ gi e h
theorem Ex.dS {X:List Addr} {H H':AH} (x:Ex X H H') {a:Addr} {f:Bool} {es:List (Str × AV)} (e:H a=some (f,.dS es)) (h:a∉X):H' a=some (f,.dS es):=x a f _ xk e h
theorem Ex.dI {X:List Addr} {H H':AH} (x:Ex X H H') {a:Addr} {f:Bool} {es:List (Int × AV)} (e:H a=some (f,.dI es)) (h:a∉X):H' a=some (f,.dI es):=x a f _ Ai e h
theorem Sb.list {H H':AH} (x:Sb H H') {a:Addr} {f:Bool} {vs:List AV} (e:H a=some (f,.list vs)):H' a=some (f,.list vs):=Ex.list x e not_mem_nil
theorem Sb.inst {H H':AH} (x:Sb H H') {a:Addr} {f:Bool} {C dx:Addr} {fs:List (Nat × AV)} (e:H a=some (f,.inst C dx fs)):H' a=some (f,.inst C dx fs):=Ex.inst x e not_mem_nil
theorem Sb.dS {H H':AH} (x:Sb H H') {a:Addr} {f:Bool} {es:List (Str × AV)} (e:H a=some (f,.dS es)):H' a=some (f,.dS es):=Ex.dS x e not_mem_nil
theorem Sb.dI {H H':AH} (x:Sb H H') {a:Addr} {f:Bool} {es:List (Int × AV)} (e:H a=some (f,.dI es)):H' a=some (f,.dI es):=Ex.dI x e not_mem_nil
theorem Sb.new {H:AH} {r:Addr} {o:AO} (h:H r=none):Sb H (H.set r o):=λa f o' n e _=>by
 exact rwL (AH.EQ _ _ (λz=>by simp only[z,h]at e;exact nS e)) e
theorem Ex.put {H:AH} {r:Addr} {o:AO}:Ex [r] H (H.set r o):=λa f o' n e z=>by
 exact rwL (AH.EQ _ _ (λq=>z (by simp only[q];exact .head _))) e
theorem AH.set_set (H:AH) (a:Addr) (o o':AO):(H.set a o).set a o'=H.set a o':=by
 funext b;unfold AH.set;split<;>rfl
theorem ak {H:AH} {a r:Addr} {p:Bool × AO} (h:H r=none) (e:H a=some p):a≠r:=λz=>by simp only[z,h]at e;exact nS e
noncomputable def ads (t:L):List Addr:=Tr.fo (λa _ _ _ _ _=>[a.1,a.2]) (λa _ _ _ _ _ _ l=>a.1::a.2::l) [] (λ_ _ a b=>a++b) t
noncomputable def uy (ts:List L):List Addr:=Tr.fos (λa _ _ _ _ _=>[a.1,a.2]) (λa _ _ _ _ _ _ l=>a.1::a.2::l) [] (λ_ _ a b=>a++b) ts
theorem wW:uy []=[]:=rfl
theorem wV {c cs}: uy (c::cs)=ads c++uy cs:=rfl
theorem uC {a w h x_1 y p}: ads (Tr.leaf a w h x_1 y p)=[Prod.fst a,Prod.snd a]:=rfl
theorem uB {a r w h x_1 y cs}: ads (Tr.node a r w h x_1 y cs)=Prod.fst a::Prod.snd a::uy cs:=rfl
theorem rv:∀{cs:List L},uy cs=cs.flatMap ads:=by
 intro cs
 induction cs with
 |nil=>
  simp[wW]
 |cons c cs ih=>
  simp[wV,ih]
theorem bj (t:L):ads t=t.tag.1::t.tag.2::t.cs.flatMap ads:=by
 cases t with
 |leaf=>rfl
 |node=>simp[uB,Tr.tag,Tr.cs,rv]
theorem aO (t:L):t.tag.1∈ads t:=by rw[bj];exact .head _
theorem gS (t:L):t.tag.2∈ads t:=by rw[bj];exact .tail _ (.head _)
theorem mz {t c:L} (hc:c∈t.cs) {a:Addr} (h:a∈ads c):a∈ads t:=by
 rw[bj];exact .tail _ (.tail _ (mG ⟨c,hc,h⟩))
theorem Nd.ex {X:List Addr} {f:Bool} {H H':AH} {t:L} (k:Ex X H H') (h:t.tag.1∉X) (h':t.tag.2∉X) (x:Nd f H t):Nd f H' t:=
 let ⟨⟨dx,e⟩,l⟩:=x
 ⟨⟨dx,k.inst e h⟩,k.list l h'⟩
theorem LR.ex {X:List Addr} {f:Bool} {H H':AH} (k:Ex X H H'):∀{t:L},(∀a∈ads t,a∉X)->LR f H t->LR f H' t:=by
 intro t
 induction t using Tr.bn with
 |step t ih=>
  intro h x;exact bz.mpr ⟨x.nd.ex k (h _ (aO t)) (h _ (gS t)),λc hc=>ih c hc (λa ha=>h a (mz hc ha)) (x.kid hc)⟩
theorem LR.sb {f:Bool} {H H':AH} (k:Sb H H') {t:L} (x:LR f H t):LR f H' t:=x.ex k λ_ _=>by exact not_mem_nil
theorem LR.le {H H':AH} (k:Le H H'):∀{t:L},LR true H t->LR true H' t:=by
 intro t
 induction t using Tr.bn with
 |step t ih=>
  intro x;apply af (bz.mp x) λz1z _=>?_;apply af z1z λz1z l=>a8 z1z λdx e=>?_;exact bz.mpr ⟨⟨⟨dx,k _ _ e⟩,k _ _ l⟩,λc hc=>ih c hc (x.kid hc)⟩
theorem LR.some {f:Bool} {H:AH}:∀{t:L},LR f H t->∀a∈ads t,∃o,H a=some (f,o)∧no o∧o≠.opq:=by
 intro t
 induction t using Tr.bn with
 |step t ih=>
  intro x a ha;apply af x.nd λz1z l=>?_;(apply a8 z1z λdx e=>?_;clear z1z);simp only[bj]at ha;rcases mC ha with rfl|ha
  ·exact⟨_,e,gi,λz=>by ac_nf⟩
  ·rcases mC ha with rfl|ha
   ·exact⟨_,l,aw,λz=>by ac_nf⟩
   ·apply ad (mF ha) λc hc ha=>?_;exact ih c hc (x.kid hc) a ha
section
variable {W:Wd} {n:Nat} {H:AH} {Q:AV->AH->Prop} {QS:AH->Prop}
theorem bP {a:Addr} {b:Bool} {C dx:Addr} {fs:List (Nat × AV)} {f:Nat} {u:AV} (e:H a=some (b,.inst C dx fs)) (hf:bJ C f=true) (hl:fs.lookup f=some u) (hp:rY.lookup (C,f)=none):aQ W (.ref a) f n H Q=Q u H:=by
 apply propext ⟨λh=>?_,λq=>⟨a,b,C,dx,fs,rfl,e,.inl ⟨hf,u,hl,q⟩⟩⟩;apply El h λa' b' C' dx' fs' h1 h2 h3=>?_;clear h;cases h1;simp only[e]at h2;cases h2;rcases h3 with⟨_,u',h4,h5⟩|⟨g,m,h4,_⟩
 ·simp only[hl]at h4;obtain rfl:=sI h4;exact h5
 ·simp only[hp]at h4;exact nS h4
theorem bX {a C dx:Addr} {fs:List (Nat × AV)} {f:Nat} {u:AV} (e:H a=some (false,.inst C dx fs)) (hf:bJ C f=true) (hl:fs.length<=100):cx (.ref a) f u H QS=QS (H.set a (.inst C dx (put fs f u))):=by
 apply propext ⟨λh=>?_,λq=>⟨a,C,dx,fs,rfl,e,hf,hl,q⟩⟩;apply Em h λa' C' dx' fs' h1 h2 h3 h4 h5=>?_;clear h;cases h1;simp only[e]at h2;cases h2;exact h5
section
variable {a:Addr} {b:Bool} {dx:Addr} {k:Str} {w h x y:Int} {l:Addr} {pv:AV} (e:H a=some (b,.inst 45 dx (cw k w h x y l pv)))
include e
theorem gk:aQ W (.ref a) 0 n H Q=Q (.str k) H:=bP e (by decide) rfl (by decide)
theorem AF (q:Q (.str k) H):aQ W (.ref a) 0 n H Q:=(gk e).mpr q
theorem gw:aQ W (.ref a) 1 n H Q=Q (.int w) H:=bP e (by decide) rfl (by decide)
theorem yO (q:Q (.int w) H):aQ W (.ref a) 1 n H Q:=(gw e).mpr q
theorem gh:aQ W (.ref a) 2 n H Q=Q (.int h) H:=bP e (by decide) rfl (by decide)
theorem yP (q:Q (.int h) H):aQ W (.ref a) 2 n H Q:=(gh e).mpr q
theorem gx:aQ W (.ref a) 3 n H Q=Q (.int x) H:=bP e (by decide) rfl (by decide)
theorem gy:aQ W (.ref a) 4 n H Q=Q (.int y) H:=bP e (by decide) rfl (by decide)
theorem gl:aQ W (.ref a) 5 n H Q=Q (.ref l) H:=bP e (by decide) rfl (by decide)
theorem tB (q:Q (.ref l) H):aQ W (.ref a) 5 n H Q:=(gl e).mpr q
theorem gp:aQ W (.ref a) 6 n H Q=Q pv H:=bP e (by decide) rfl (by decide)
theorem DI (q:Q pv H):aQ W (.ref a) 6 n H Q:=(gp e).mpr q
end
section
variable {a dx:Addr} {k:Str} {w h x y:Int} {l:Addr} {pv u:AV} {i:Int} {r:Addr} (e:H a=some (false,.inst 45 dx (cw k w h x y l pv)))
include e
theorem pw:cx (.ref a) 1 (.int i) H QS=QS (H.set a (.inst 45 dx (cw k i h x y l pv))):=bX e (by decide) (by simp[cw])
theorem ph:cx (.ref a) 2 (.int i) H QS=QS (H.set a (.inst 45 dx (cw k w i x y l pv))):=bX e (by decide) (by simp[cw])
theorem px:cx (.ref a) 3 (.int i) H QS=QS (H.set a (.inst 45 dx (cw k w h i y l pv))):=bX e (by decide) (by simp[cw])
theorem py:cx (.ref a) 4 (.int i) H QS=QS (H.set a (.inst 45 dx (cw k w h x i l pv))):=bX e (by decide) (by simp[cw])
theorem pl:cx (.ref a) 5 (.ref r) H QS=QS (H.set a (.inst 45 dx (cw k w h x y r pv))):=bX e (by decide) (by simp[cw])
theorem pp:cx (.ref a) 6 u H QS=QS (H.set a (.inst 45 dx (cw k w h x y l u))):=bX e (by decide) (by simp[cw])
end
section
variable {op:Cm} {u v:AV}
theorem E7:fB .eq u v H Q=kE H u v λb=>Q (.bool b) H:=rfl
theorem DW:fB .ne u v H Q=kE H u v λb=>Q (.bool (!b)) H:=rfl
theorem DX:fB .lt u v H Q=bg u λa=>bg v λb=>Q (.bool (decide (a<b))) H:=rfl
theorem DY:fB .le u v H Q=bg u λa=>bg v λb=>Q (.bool (decide (a<=b))) H:=rfl
theorem E1:fB .gt u v H Q=bg u λa=>bg v λb=>Q (.bool (decide (b<a))) H:=rfl
theorem E6:fB .ge u v H Q=bg u λa=>bg v λb=>Q (.bool (decide (b<=a))) H:=rfl
theorem DZ:fB .is u v H Q=∃b,lM u v=some b∧fh H u v∧Q (.bool b) H:=rfl
theorem AQ:fB .isNot u v H Q=∃b,lM u v=some b∧fh H u v∧Q (.bool (!b)) H:=rfl
theorem E0:fB .isIn u v H Q=E4 λ(a:Int) (l:Addr) (f:Bool) (xs:List Int)=>u=.int a∧v=.ref l∧H l=some (f,.list (xs.map .int))∧Q (.bool (decide (a∈xs))) H:=rfl
theorem AP:fB .notIn u v H Q=E4 λ(a:Int) (l:Addr) (f:Bool) (xs:List Int)=>u=.int a∧v=.ref l∧H l=some (f,.list (xs.map .int))∧Q (.bool (!decide (a∈xs))) H:=rfl
end
section
variable {a b:Int}
theorem aU:eH .add (.int a) (.int b) H Q=Q (.int (a+b)) H:=rfl
theorem eG:eH .sub (.int a) (.int b) H Q=Q (.int (a-b)) H:=rfl
theorem pq:eH .mul (.int a) (.int b) H Q=(a.natAbs<2 ^ 60∧b.natAbs<2 ^ 60∧Q (.int (a * b)) H):=rfl
theorem jq:eH .fdiv (.int a) (.int b) H Q=(b≠0∧a.natAbs<2 ^ 60∧b.natAbs<2 ^ 60∧Q (.int (a.fdiv b)) H):=rfl
theorem gY:eH .mod (.int a) (.int b) H Q=(b≠0∧Q (.int (a.fmod b)) H):=rfl
theorem n6:eH .band (.int a) (.int b) H Q=Q (.int (Builtin.bitAnd a b)) H:=rfl
theorem eV {x y:Array UInt8}:eH .add (.bytes x) (.bytes y) H Q=(x.size+y.size<=cap∧Q (.bytes (x++y)) H):=rfl
theorem xx:fC .max [.int a,.int b] H Q=Q (.int (if a<b then b else a)) H:=rfl
theorem xy:fC .min [.int a,.int b] H Q=Q (.int (if b<a then b else a)) H:=rfl
end
section
variable {P:Bool->Prop}
theorem jr {a b:Str}:kE H (.str a) (.str b) P=P (decide (a=b)):=rfl
theorem bu {a b:Int}:kE H (.int a) (.int b) P=P (a==b):=rfl
theorem ux {b:Int}:kE H .none (.int b) P=P false:=rfl
theorem Dd {a:Int}:kE H (.int a) .none P=P false:=rfl
theorem Dc:kE H .none .none P=P true:=rfl
theorem De {a b:Bool}:kE H (.bool a) (.bool b) P=P (a==b):=rfl
theorem zk {a b:Array UInt8}:kE H (.bytes a) (.bytes b) P=P (a==b):=rfl
theorem Db {a b:List AV}:kE H (.tup a) (.tup b) P=lk (mI a b) P:=rfl
end
theorem fF {H:AH} {r:Addr} {m:Nat} {f:Bool} {C dx g:Addr} {fs:List (Nat × AV)} {P:Addr->Prop} (e:H r=some (f,.inst C dx fs)) (h:jQ.lookup (C,m)=some g) (hl:fs.lookup m=none) (p:P g) :
  E5 λa f C dx fs=>∃ g, AV.ref r=.ref a∧H a=some (f,.inst C dx fs)∧jQ.lookup (C,m)=some g∧fs.lookup m=none∧P g:=⟨r,f,C,dx,fs,g,rfl,e,h,hl,p⟩
section
variable {H:AH} {x y:AV} {P Q:Prop}
theorem j6 (h:lM x y=some true) (o:fh H x y) (p:P):∃b,lM x y=some b∧fh H x y∧((b=true->P)∧(b=false->Q)):=⟨true,h,o,λ_=>p,λz=>by ac_nf⟩
theorem iN (h:lM x y=some false) (o:fh H x y) (q:Q):∃b,lM x y=some b∧fh H x y∧((b=true->P)∧(b=false->Q)):=⟨false,h,o,(λz=>by ac_nf),λ_=>q⟩
theorem yr (h:lM x y=some true) (o:fh H x y) (q:Q):∃b,lM x y=some b∧fh H x y∧(((!b)=true->P)∧((!b)=false->Q)):=⟨true,h,o,(λz=>by ac_nf),λ_=>q⟩
theorem Ah (h:lM x y=some false) (o:fh H x y) (p:P):∃b,lM x y=some b∧fh H x y∧(((!b)=true->P)∧((!b)=false->Q)):=⟨false,h,o,λ_=>p,λz=>by ac_nf⟩
end
variable {Z:am}
def om (W:Wd) (n:Nat) (elt cond:CE) (x:Nat) (Z:am) (v:AV) (H:AH) (Q:AV->AH->Prop):Prop:=
 AI.ok1 (.seq v)∧E2 λ(I:Nat->List AV->AH->Prop) (N:Nat)=>N<=cap∧I 0 [] H∧∀i out H,I i out H->i<=N∧out.length<=i ∧
   ∃o,bU H (.seq v) i=some o∧match o with
    |none=>∀r,H r=none->Q (.ref r) (H.set r (.list out))
    |some u=>aD W n cond ((x,u)::Z) H λy H=>gU y λt=>(t=true->aD W n elt ((x,u)::Z) H λy H=>I (i+1) (out++[y]) H)∧(t=false->I (i+1) out H)
theorem Cv {elt src cond:CE} {x:Nat}:aD W n (.comp elt x src cond) Z H Q=aD W n src Z H λv H=>om W n elt cond x Z v H Q:=rfl
theorem qj {elt cond:CE} {x:Nat} {v:AV} {xs:List AV} (hc:AI.ok1 (.seq v)) (hx:xs.length<=cap) (J:List AV->List AV->AH->Prop) (h0:J [] [] H) (hl:∀pre out H,J pre out H->iB H v=some xs∧out.length<=pre.length)
  (step:∀pre u suf out H,xs=pre++u::suf->J pre out H->aD W n cond ((x,u)::Z) H λy H=>gU y λt=>(t=true->aD W n elt ((x,u)::Z) H λy H=>J (pre++[u]) (out++[y]) H)∧(t=false->J (pre++[u]) out H))
  (fin:∀out H,J xs out H->∀r,H r=none->Q (.ref r) (H.set r (.list out))):om W n elt cond x Z v H Q:=by
 apply⟨hc,λi out H=>i<=xs.length∧J (xs.take i) out H,xs.length,hx,⟨zero_le _,by simpa using h0⟩,λi out H hI=>?_⟩;apply af hI λhi hJ=>?_;clear hI;apply af (hl _ _ _ hJ) λe hlen=>?_;simp only[length_take,Nat.min_eq_left hi]at hlen;apply⟨hi,hlen,xs[i]?,congrArg (Option.map (·[i]?)) e,?_⟩;cases hu:xs[i]? with
 |none=>
  have:i=xs.length:=le_antisymm hi (by simpa using hu);simp only[this,take_length]at hJ;exact fin out H hJ
 |some u=>
  have hlt:i<xs.length:=by
   have:=mE hu;exact this.1
  have hd:xs=xs.take i++u::xs.drop (i+1):=by
   have:=mE hu;simp only[<-this.2,getElem_cons_drop,take_append_drop]
  have ht:xs.take (i+1)=xs.take i++[u]:=by
   apply rwL take_add_one (rwL hu ?_);rfl
  simp only[ht];have:=step _ _ _ out H hd hJ;have e2:∀out H,(i+1<=xs.length∧J (xs.take i++[u]) out H)=J (xs.take i++[u]) out H:=λout H=>propext ⟨λh=>h.2,λh=>⟨hlt,h⟩⟩;simp only[e2];exact this
theorem tZ {elt:CE} {x:Nat} {v:AV} {xs:List AV} (hc:AI.ok1 (.seq v)) (hx:xs.length<=cap) (J:List AV->List AV->AH->Prop) (h0:J [] [] H) (hl:∀pre out H,J pre out H->iB H v=some xs∧out.length<=pre.length)
  (step:∀pre u suf out H,xs=pre++u::suf->J pre out H->aD W n elt ((x,u)::Z) H λy H=>J (pre++[u]) (out++[y]) H)
  (fin:∀out H,J xs out H->∀r,H r=none->Q (.ref r) (H.set r (.list out))):om W n elt (.k (.bool true)) x Z v H Q:=
 qj hc hx J h0 hl (λpre u suf out H e hJ=>⟨λ_=>step pre u suf out H e hJ,λz=>by ac_nf⟩) fin
theorem tY {elt:CE} {x:Nat} {v:AV} {xs:List AV} {F:AV->AV} (hc:AI.ok1 (.seq v)) (hx:xs.length<=cap) (hl:iB H v=some xs)
  (step:∀u∈xs,∀Q':AV->AH->Prop,Q' (F u) H->aD W n elt ((x,u)::Z) H Q')
  (fin:∀r,H r=none->Q (.ref r) (H.set r (.list (xs.map F)))):om W n elt (.k (.bool true)) x Z v H Q:=
 tZ hc hx (λpre out H'=>H'=H∧out=pre.map F) ⟨rfl,rfl⟩ (λpre out H' h=>⟨by apply rwL h.1 ?_;exact hl,by simp only[h.2,length_map];exact le_refl _⟩)
  (λpre u suf out H' e h=>by(apply af h λz1z z2z=>?_;clear h;obtain rfl:=z1z.symm;subst z2z);exact step u (by exact rwL e (mem_append_right _ (.head _))) _ ⟨rfl,by simp⟩) λout H' h r hr=>by obtain⟨rfl,rfl⟩:=h;exact fin r hr
variable {QS:am->AH->Prop} {R:AV->AH->Prop}
theorem zs {e:CE} {Q:AI->AH->Prop}:jv W n (.one e) Z H Q=aD W n e Z H λv H=>Q (.seq v) H:=rfl
theorem xK {e:CE} {Q:AI->AH->Prop}:jv W n (.enum e) Z H Q=aD W n e Z H λv H=>Q (.enum v) H:=rfl
theorem zr {a b:CE} {Q:AI->AH->Prop}:jv W n (.zip a b) Z H Q=aD W n a Z H λv H=>aD W n b Z H λu H=>∀r,H r=none->Q (.zip v u r) (H.set r .opq):=rfl
theorem xd {e:CE} {Q:AI->AH->Prop}:jv W n (.range e) Z H Q=aD W n e Z H λv H=>bg v λi=>Q (.range i) H:=rfl
theorem tJ {x:Nat} {b:List CS} {v:AV} {xs:List AV} (hc:AI.ok1 (.seq v)) (J:List AV->am->AH->Prop) (h0:J [] Z H) (hl:∀pre Z H,J pre Z H->iB H v=some xs)
  (step:∀pre u suf Z H,xs=pre++u::suf->J pre Z H->cG W n b (put Z x u) H (J (pre++[u])) R) (fin:∀Z H,J xs Z H->QS Z H):qr W n x b Z (.seq v) H QS R:=by
 apply⟨hc,λi Z H=>J (xs.take i) Z H∧i<=xs.length,xs.length,⟨by simpa using h0,zero_le _⟩,λi Z H hI=>?_⟩;apply af hI λhJ hi=>?_;clear hI;have e:=hl _ _ _ hJ;apply⟨hi,xs[i]?,congrArg (Option.map (·[i]?)) e,?_⟩;cases hu:xs[i]? with
 |none=>
  have:i=xs.length:=le_antisymm hi (by simpa using hu);simp only[this,take_length]at hJ;exact fin Z H hJ
 |some u=>
  have hlt:i<xs.length:=(mE hu).1;have hd:xs=xs.take i++u::xs.drop (i+1):=by
   have:=mE hu;simp only[<-this.2,getElem_cons_drop,take_append_drop]
  have ht:xs.take (i+1)=xs.take i++[u]:=by apply rwL take_add_one (rwL hu ?_);rfl
  have:=step _ _ _ Z H hd hJ;have e2:(λZ H=>J (xs.take (i+1)) Z H∧i+1<=xs.length)=J (xs.take i++[u]):=by
   funext Z H;exact rwL ht (propext ⟨λh=>h.1,λh=>⟨h,hlt⟩⟩)
  show cG W n b (put Z x u) H (λZ H=>J (xs.take (i+1)) Z H∧i+1<=xs.length) R;simp only[e2];exact this
def EN (W:Wd) (n:Nat) (c:CE) (b:List CS) (Z:am) (H:AH) (Q:am->AH->Prop) (R:AV->AH->Prop):Prop:=
 E2 λ(I:Nat->am->AH->Prop) (m:Nat)=>I m Z H∧∀m Z H,I m Z H->aD W n c Z H λv H=>gU v λt=>(t=false->Q Z H) ∧
   (t=true->cG W n b Z H (λZ H=>∃m',m'<m∧I m' Z H) R)
theorem Ei {c b}:na W n (.wh c b) Z H QS R=EN W n c b Z H QS R:=rfl
end
end
section
def eZ (Z Z':am):Prop:=∀x v,Z'.lookup x=some v->Z.lookup x=some v
section
variable {Z Z':am} {x:Nat} {v:AV}
theorem eZ.refl:eZ Z Z:=λ_ _ h=>h
theorem eZ.nil:eZ Z []:=λx v h=>by exact nS h
theorem eZ.cons (h:Z.lookup x=some v) (t:eZ Z Z'):eZ Z ((x,v)::Z'):=λy u e=>by
 by_cases hx:y=x
 ·subst hx;rw[aB]at e;exact h.trans e
 ·rw[aq hx]at e;exact t y u e
theorem eZ.put (t:eZ Z Z'):eZ (put Z x v) (put Z' x v):=λy u e=>by
 by_cases hy:y=x
 ·subst hy;simp only[gP]at e ⊢;exact e
 ·rw[gO _ _ hy]at e ⊢;exact t y u e
theorem eZ.bind (t:eZ Z Z'):eZ ((x,v)::Z) ((x,v)::Z'):=λy u e=>by
 by_cases hy:y=x
 ·subst hy;simp only[aB]at e ⊢;exact e
 ·rw[aq hy]at e ⊢;exact t y u e
theorem eZ.lk {P P':AV->Prop} (t:eZ Z Z') (h:lk (Z'.lookup x) P) (k:∀v,P v->P' v):lk (Z.lookup x) P':=
 fU.mpr ((fU.mp h).imp λv=>And.imp (t _ _) (k v))
theorem eZ.putAll {xs:List Nat}:∀{vs:List AV} {Z Z' Z1':am},eZ Z Z'->putAll Z' xs vs=some Z1'->∃Z1,putAll Z xs vs=some Z1∧eZ Z1 Z1':=by
 induction xs with
 |nil=>intro vs Z Z' Z1' t h;cases vs with
  |nil=>exact⟨_,rfl,sI h▸t⟩
  |cons=>exact nS h
 |cons x xs ih=>intro vs Z Z' Z1' t h;cases vs with
  |nil=>exact nS h
  |cons v vs=>exact ih (vs:=vs) t.put h
end
section
theorem lk.mono {U:Type} {o:Option U} {P P':U->Prop} (h:lk o P) (k:∀a,P a->P' a):lk o P':=fU.mpr ((fU.mp h).imp λa=>imp_right (k a))
theorem gU.mono {x:AV} {P P':Bool->Prop} (h:gU x P) (k:∀a,P a->P' a):gU x P':=cO.mpr ((cO.mp h).imp λa=>imp_right (k a))
theorem bg.mono {x:AV} {P P':Int->Prop} (h:bg x P) (k:∀a,P a->P' a):bg x P':=bI.mpr ((bI.mp h).imp λa=>imp_right (k a))
theorem uL.mono {x:AV} {P P':List AV->Prop} (h:uL x P) (k:∀a,P a->P' a):uL x P':=ip.mpr ((ip.mp h).imp λa=>imp_right (k a))
theorem fH.mono {x:AV} {P P':Addr->Prop} (h:fH x P) (k:∀a,P a->P' a):fH x P':=by
 cases x with
 |ref a=>exact k a h
 |_=>exact elim h
theorem uK.mono {x:AV} {P P':Array UInt8->Prop} (h:uK x P) (k:∀a,P a->P' a):uK x P':=by
 cases x with
 |bytes a=>exact k a h
 |_=>exact elim h
theorem zB.mono {x:AV} {P P':Str->Prop} (h:zB x P) (k:∀a,P a->P' a):zB x P':=by
 cases x with
 |str a=>exact k a h
 |_=>exact elim h
theorem j7.mono {xs:List AV} {P P':AV->Prop} (h:j7 xs P) (k:∀a,P a->P' a):j7 xs P':=by
 cases xs with
 |nil=>exact elim h
 |cons a xs=>cases xs with
  |nil=>exact k a h
  |cons=>exact elim h
theorem xn.mono {xs:List AV} {P P':AV->AV->Prop} (h:xn xs P) (k:∀a b,P a b->P' a b):xn xs P':=by
 cases xs with
 |nil=>exact elim h
 |cons a xs=>cases xs with
  |nil=>exact elim h
  |cons b xs=>cases xs with
   |nil=>exact k a b h
   |cons=>exact elim h
theorem qx.mono {U O:Type} {P P':Prop} (k:P->P') {xs:List U}:∀{ys:List O},qx xs ys P->qx xs ys P':=by
 induction xs with
 |nil=>intro ys h;cases ys with
  |nil=>exact k h
  |cons=>exact elim h
 |cons x xs ih=>intro ys h;cases ys with
  |nil=>exact elim h
  |cons y ys=>exact ih (ys:=ys) h
variable {W:Wd} {n:Nat} {H:AH} {Q Q':AV->AH->Prop} (k:∀v H,Q v H->Q' v H) {QS QS':AH->Prop} (kS:∀H,QS H->QS' H)
include k
theorem aQ.mono {v:AV} {f:Nat}:aQ W v f n H Q->aQ W v f n H Q':=
 E5.i λa b C dx fs=>A3.r (Or.imp (imp_right (imp λu=>imp_right (k _ _))) (E2.i λg m=>A3.r λc=>c.mono k))
theorem iT.mono {C:Addr} {vs:List AV}:iT W C vs n H Q->iT W C vs n H Q':=E2.i λg m=>A3.r λc x dx a b d=>(c x dx a b d).mono λr H=>imp_right (k _ _)
theorem eH.mono {op:Op} {x y:AV} (h:eH op x y H Q):eH op x y H Q':=by
 cases op with
 |add=>cases x with
  |int a=>exact bg.mono h λb=>k _ _
  |ref a=>exact fH.mono h λb=>E4.i λf g xs ys=>A4.r λq r hr=>k _ _ (q r hr)
  |bytes a=>exact uK.mono h λb=>imp_right (k _ _)
  |_=>exact elim h
 |sub=>exact bg.mono h λa h=>bg.mono h λb=>k _ _
 |mul=>exact bg.mono h λa h=>bg.mono h λb=>A3.r (k _ _)
 |fdiv=>exact bg.mono h λa h=>bg.mono h λb=>A4.r (k _ _)
 |mod=>exact bg.mono h λa h=>bg.mono h λb=>imp_right (k _ _)
 |shr=>exact bg.mono h λa h=>bg.mono h λb=>A3.r (k _ _)
 |shl=>exact bg.mono h λa h=>bg.mono h λb=>A4.r (k _ _)
 |band=>exact bg.mono h λa h=>bg.mono h λb=>k _ _
omit k in
theorem kE.mono {x y:AV} {P P':Bool->Prop} (h:kE H x y P) (k:∀b,P b->P' b):kE H x y P':=by
 cases x with
 |tup xs=>exact uL.mono h λys q=>lk.mono q k
 |bytes a=>exact uK.mono h λb=>k _
 |str a=>exact zB.mono h λb=>k _
 |ref a=>exact fH.mono h λb=>E4.i λf g xs ys=>A3.r (k _)
 |_=>exact lk.mono h k
theorem fB.mono {op:Cm} {x y:AV} (h:fB op x y H Q):fB op x y H Q':=by
 cases op with
 |eq=>exact kE.mono h λb=>k _ _
 |ne=>exact kE.mono h λb=>k _ _
 |is=>exact imp (λb=>A3.r (k _ _)) h
 |isNot=>exact imp (λb=>A3.r (k _ _)) h
 |isIn=>exact E4.i (λa l f xs=>A4.r (k _ _)) h
 |notIn=>exact E4.i (λa l f xs=>A4.r (k _ _)) h
 |_=>exact bg.mono h λa h=>bg.mono h λb=>k _ _
theorem be.mono {v i:AV} (h:be v i H Q):be v i H Q':=by
 cases v with
 |ref a=>cases i with
  |int j=>exact Or.imp (E4.i λf xs j u=>A6.r (k _ _)) (E3.i λf es u=>A3.r (k _ _)) h
  |str j=>exact E3.i (λf es u=>A3.r (k _ _)) h
  |_=>exact elim h
 |tup xs=>exact bg.mono h λj=>E2.i λi u=>A5.r (k _ _)
 |bytes b=>exact bg.mono h λj=>A3.r (imp λc=>imp_right (k _ _))
 |_=>exact elim h
theorem gL.mono {m:BM} {v:AV} {vs:List AV} (h:gL m v vs H Q):gL m v vs H Q':=by
 cases m with
 |append=>exact fH.mono h λa h=>j7.mono h λy=>imp λxs=>A3.r (k _ _)
 |extend=>exact fH.mono h λa h=>j7.mono h λy h=>fH.mono h λb=>imp_right (E3.i λf xs ys=>A4.r (k _ _))
 |pop=>exact fH.mono h λa h=>j7.mono h λy h=>bg.mono h λb=>E2.i λxs u=>A6.r (k _ _)
 |index=>exact fH.mono h λa h=>j7.mono h λy h=>bg.mono h λb=>E2.i λf xs=>A4.r (k _ _)
 |get=>exact fH.mono h λa h=>xn.mono h λy d h=>bg.mono h λb=>imp λes=>imp_right (k _ _)
 |join=>exact uK.mono h λa h=>j7.mono h λy h=>fH.mono h λb=>E2.i λf xs=>A5.r (k _ _)
theorem fC.mono {b:BF} {vs:List AV} (h:fC b vs H Q):fC b vs H Q':=by
 cases b with
 |len=>exact j7.mono h λv h=>fH.mono h λa=>Or.imp (E2.i λf xs=>A3.r (k _ _)) (imp λes=>A3.r (k _ _))
 |min=>cases vs with
  |nil=>exact elim h
  |cons v vs=>cases vs with
   |nil=>exact fH.mono h λa=>E2.i λf xs=>A3.r λq M a b=>k _ _ (q M a b)
   |cons u vs=>cases vs with
    |nil=>exact bg.mono h λa h=>bg.mono h λb=>k _ _
    |cons=>exact elim h
 |max=>exact xn.mono h λv u h=>bg.mono h λa h=>bg.mono h λb=>k _ _
 |sum=>exact j7.mono h λv h=>fH.mono h λa=>E2.i λf xs=>imp_right (k _ _)
 |list=>
  apply j7.mono h λv h=>?_;cases v with
  |ref a=>exact E2.i (λf xs=>A3.r λq r hr=>k _ _ (q r hr)) h
  |tup xs=>exact imp_right (λq r hr=>k _ _ (q r hr)) h
  |_=>exact elim h
 |bytes=>exact j7.mono h λv h=>fH.mono h λa=>E2.i λf xs=>A4.r (k _ _)
 |int=>exact j7.mono h λv h=>bg.mono h λa=>k _ _
omit k
include kS
theorem cx.mono {v:AV} {f:Nat} {u:AV}:cx v f u H QS->cx v f u H QS':=E4.i λa C dx fs=>A5.r (kS _)
theorem dR.mono {v i u:AV} (h:dR v i u H QS):dR v i u H QS':=by
 apply fH.mono h λa h=>?_;cases i with
 |int j=>exact Or.imp (imp λxs=>A5.r (kS _)) (imp λes=>A3.r (kS _)) h
 |str j=>exact imp (λes=>A3.r (kS _)) h
 |_=>exact elim h
theorem fY.mono {v lo hi u:AV}:fY v lo hi u H QS->fY v lo hi u H QS':=E5.i λ_ _ _ _ _=>E2.i λ_ _=>A6.r (A6.r (kS _))
end
section
variable {W:Wd} {n:Nat}
def X1 (W:Wd) (n:Nat) (e:CE):Prop:=∀(Z Z':am) (H:AH) (Q Q':AV->AH->Prop),eZ Z Z'->(∀v H,Q v H->Q' v H)->aD W n e Z' H Q->aD W n e Z H Q'
def X2 (W:Wd) (n:Nat) (es:List CE):Prop:=∀(Z Z':am) (H:AH) (Q Q':List AV->AH->Prop),eZ Z Z'->(∀v H,Q v H->Q' v H)->cJ W n es Z' H Q->cJ W n es Z H Q'
theorem ba (e:CE):X1 W n e:=CE.rec (motive_1:=X1 W n) (motive_2:=X2 W n)
 (λv _ _ _ _ _ t k h=>k _ _ h)
 (λx _ _ _ _ _ t k h=>t.lk h λv=>k _ _)
 (λe f i _ _ _ _ _ t k h=>i _ _ _ _ _ t (λv H=>aQ.mono k) h)
 (λf es i _ _ _ _ _ t k h=>i _ _ _ _ _ t (λv H q=>a7.mono q k) h)
 (λC es i _ _ _ _ _ t k h=>i _ _ _ _ _ t (λv H=>iT.mono k) h)
 (λe m es i j _ _ _ _ _ t k h=>i _ _ _ _ _ t (λv H=>E5.i λ_ _ _ _ _=>imp λ_=>A5.r λq=>j _ _ _ _ _ t (λv H q=>a7.mono q k) q) h)
 (λm e es i j _ _ _ _ _ t k h=>i _ _ _ _ _ t (λv H=>imp_right λq=>j _ _ _ _ _ t (λv H=>gL.mono k) q) h)
 (λb es i _ _ _ _ _ t k h=>i _ _ _ _ _ t (λv H=>fC.mono k) h)
 (λop a b i j _ _ _ _ _ t k h=>i _ _ _ _ _ t (λx H q=>j _ _ _ _ _ t (λv H=>eH.mono k) q) h)
 (λop a b i j _ _ _ _ _ t k h=>i _ _ _ _ _ t (λx H q=>j _ _ _ _ _ t (λv H=>fB.mono k) q) h)
 (λa b i j _ _ _ _ _ t k h=>i _ _ _ _ _ t (λx H q=>gU.mono q λz q=>⟨λz=>k _ _ (q.1 z),λz=>j _ _ _ _ _ t k (q.2 z)⟩) h)
 (λa b i j _ _ _ _ _ t k h=>i _ _ _ _ _ t (λx H q=>gU.mono q λz q=>⟨λz=>k _ _ (q.1 z),λz=>j _ _ _ _ _ t k (q.2 z)⟩) h)
 (λa i _ _ _ _ _ t k h=>i _ _ _ _ _ t (λx H q=>gU.mono q λz=>k _ _) h)
 (λa i _ _ _ _ _ t k h=>i _ _ _ _ _ t (λx H q=>bg.mono q λz=>k _ _) h)
 (λc a b i j l _ _ _ _ _ t k h=>i _ _ _ _ _ t (λx H q=>gU.mono q λz q=>⟨λz=>j _ _ _ _ _ t k (q.1 z),λz=>l _ _ _ _ _ t k (q.2 z)⟩) h)
 (λes i _ _ _ _ _ t k h=>i _ _ _ _ _ t (λv H=>imp_right λq r hr=>k _ _ (q r hr)) h)
 (λes i _ _ _ _ _ t k h=>i _ _ _ _ _ t (λv H=>imp_right (k _ _)) h)
 (λks es i _ _ _ _ _ t k h=>i _ _ _ _ _ t (λv H=>qx.mono (imp_right λq r hr=>k _ _ (q r hr))) h)
 (λes i _ _ _ _ _ t k h=>i _ _ _ _ _ t (λv H=>imp λps=>A3.r λq r hr=>k _ _ (q r hr)) h)
 (λa b i j _ _ _ _ _ t k h=>i _ _ _ _ _ t (λx H q=>j _ _ _ _ _ t (λv H=>be.mono k) q) h)
 (λa b c i j l _ _ _ _ _ t k h=>i _ _ _ _ _ t (λx H q=>j _ _ _ _ _ t (λv H q=>l _ _ _ _ _ t (λv H=>E5.i λ_ _ _ _ _=>A6.r λq r hr=>k _ _ (q r hr)) q) q) h)
 (λa i _ _ _ _ _ t k h=>i _ _ _ _ _ t (λx H=>E3.i λ_ _ _=>A4.r λq r hr=>k _ _ (q r hr)) h)
 (λe x s c i j l _ _ _ _ _ t k h=>j _ _ _ _ _ t (λv H=>imp_right (E2.i λI N=>A3.r λst a out H hI=>A3.r (imp λo=>imp_right λq=>by
  cases o with
  |none=>exact λr hr=>k _ _ (q r hr)
  |some u=>exact l _ _ _ _ _ t.bind (λy H q=>gU.mono q λz q=>⟨λz=>i _ _ _ _ _ t.bind (λy H q=>q) (q.1 z),q.2⟩) q) (st a out H hI))) h)
 (λ_ _ _ _ _ t k h=>k _ _ h)
 (λe es i j _ _ _ _ _ t k h=>i _ _ _ _ _ t (λv H q=>j _ _ _ _ _ t (λvs H=>k _ _) q) h)
 e
theorem pA {Z Z':am} {H:AH} {v:AV} {Q Q':am->AH->Prop} (t:eZ Z Z') (k:∀Z Z' H,eZ Z Z'->Q Z' H->Q' Z H) {g:Tg} (h:rD W n g v Z' H Q):rD W n g v Z H Q':=by
 cases g with
 |name x=>exact k _ _ _ t.put h
 |attr e f=>exact ba e _ _ _ _ _ t (λo H=>cx.mono λH=>k _ _ _ t) h
 |sub e i=>exact ba e _ _ _ _ _ t (λo H q=>ba i _ _ _ _ _ t (λo H=>dR.mono λH=>k _ _ _ t) q) h
 |cut e lo hi=>exact ba e _ _ _ _ _ t (λo H q=>ba lo _ _ _ _ _ t (λo H q=>ba hi _ _ _ _ _ t (λo H=>fY.mono λH=>k _ _ _ t) q) q) h
theorem rB {Q Q':am->AH->Prop} (k:∀Z Z' H,eZ Z Z'->Q Z' H->Q' Z H) {gs:List Tg}:∀{vs:List AV} {Z Z':am} {H:AH},eZ Z Z'->ju W n gs vs Z' H Q->ju W n gs vs Z H Q':=by
 induction gs with
 |nil=>intro vs Z Z' H t h;cases vs with
  |nil=>exact k _ _ _ t h
  |cons=>exact elim h
 |cons g gs ih=>intro vs Z Z' H t h;cases vs with
  |nil=>exact elim h
  |cons v vs=>exact pA (v:=v) (g:=g) (Q:=λZ H=>ju W n gs vs Z H Q) t (λZ Z' H t q=>ih t q) h
theorem n9 {Z Z':am} {H:AH} {Q Q':AI->AH->Prop} (t:eZ Z Z') (k:∀v H,Q v H->Q' v H) {s:Sr} (h:jv W n s Z' H Q):jv W n s Z H Q':=by
 cases s with
 |one e=>exact ba e _ _ _ _ _ t (λv H=>k _ _) h
 |enum e=>exact ba e _ _ _ _ _ t (λv H=>k _ _) h
 |zip a b=>exact ba a _ _ _ _ _ t (λv H q=>ba b _ _ _ _ _ t (λv H q r hr=>k _ _ (q r hr)) q) h
 |range e=>exact ba e _ _ _ _ _ t (λv H q=>bg.mono q λi=>k _ _) h
def X3 (W:Wd) (n:Nat) (s:CS):Prop:=∀(Z Z':am) (H:AH) (Q Q':am->AH->Prop) (R:AV->AH->Prop),eZ Z Z'->(∀Z Z' H,eZ Z Z'->Q Z' H->Q' Z H)->na W n s Z' H Q R->na W n s Z H Q' R
def X4 (W:Wd) (n:Nat) (b:List CS):Prop:=∀(Z Z':am) (H:AH) (Q Q':am->AH->Prop) (R:AV->AH->Prop),eZ Z Z'->(∀Z Z' H,eZ Z Z'->Q Z' H->Q' Z H)->cG W n b Z' H Q R->cG W n b Z H Q' R
theorem uQ (b:List CS):X4 W n b:=CS.rec_1 (motive_1:=X3 W n) (motive_2:=X4 W n)
 (λg e _ _ _ _ _ _ t k h=>ba e _ _ _ _ _ t (λv H=>pA t k) h)
 (λgs e _ _ _ _ _ _ t k h=>ba e _ _ _ _ _ t (λv H q=>uL.mono q λvs=>qx.mono (rB k t)) h)
 (λx op e _ _ _ _ _ _ t k h=>t.lk h λu q=>bg.mono q λi=>ba e _ _ _ _ _ t λv H q=>bg.mono q λj=>k _ _ _ t.put)
 (λe _ _ _ _ _ _ t k h=>ba e _ _ _ _ _ t (λv H=>k _ _ _ t) h)
 (λc a b i j _ _ _ _ _ _ t k h=>ba c _ _ _ _ _ t (λv H q=>gU.mono q λz q=>⟨λz=>i _ _ _ _ _ _ t k (q.1 z),λz=>j _ _ _ _ _ _ t k (q.2 z)⟩) h)
 (λc b i _ _ _ _ _ _ t k h=>bb h λI m h0 st=>⟨λm Z H=>∃Z',eZ Z Z'∧I m Z' H,m,⟨_,t,h0⟩,λm Z H x=>ad x λZ' t hI=>
  ba c _ _ _ _ _ t (λv H q=>gU.mono q λz q=>⟨λz=>k _ _ _ t (q.1 z),λz=>i _ _ _ _ _ _ t (λZ1 Z1' H t=>imp λm'=>imp_right λhI=>⟨_,t,hI⟩) (q.2 z)⟩) (st m Z' H hI)⟩)
 (λx s b i _ _ _ _ _ _ t k h=>oF.mpr (n9 t (λai H=>imp_right λh=>bb h λI N h0 st=>⟨λi Z H=>∃Z',eZ Z Z'∧I i Z' H,N,⟨_,t,h0⟩,λa Z H x=>ad x λZ' t hI=>imp_right (imp λo=>imp_right λq=>by
  cases o with
  |none=>exact k _ _ _ t q
  |some v=>exact i _ _ _ _ _ _ t.put (λZ1 Z1' H t q=>⟨_,t,q⟩) q) (st a Z' H hI)⟩) (oF.mp h)))
 (λxs s b i _ _ _ _ _ _ t k h=>oE.mpr (n9 t (λai H=>imp_right λh=>bb h λI N h0 st=>⟨λi Z H=>∃Z',eZ Z Z'∧I i Z' H,N,⟨_,t,h0⟩,λa Z H x=>ad x λZ' t hI=>imp_right (imp λo=>imp_right λq=>by
  cases o with
  |none=>exact k _ _ _ t q
  |some v=>exact cq q λvs Z1' e e1 q=>ad (t.putAll e1) λZ1 e2 t=>⟨vs,Z1,e,e2,i _ _ _ _ _ _ t (λZ1 Z1' H t q=>⟨_,t,q⟩) q⟩) (st a Z' H hI)⟩) (oE.mp h)))
 (λe _ _ _ _ _ _ t k h=>by
  cases e with
  |none=>exact h
  |some e=>exact ba e _ _ _ _ _ t (λv H q=>q) h)
 (λ_ _ _ _ _ _ t k h=>k _ _ _ t h)
 (λ_ _ _ _ _ _ t k h=>k _ _ _ t h)
 (λs ss i j _ _ _ _ _ _ t k h=>i _ _ _ _ _ _ t (λZ Z' H t=>j _ _ _ _ _ _ t k) h)
 b
theorem cI {Z Z':am} {b:List CS} {H:AH} {Q:am->AH->Prop} {R:AV->AH->Prop} (t:eZ Z Z') (h:cG W n b Z' H (λZ1' H=>∀Z1,eZ Z1 Z1'->Q Z1 H) R):cG W n b Z H Q R:=uQ b _ _ _ _ _ _ t (λZ1 Z1' H t q=>q Z1 t) h
end
end
section
theorem my {Z:am} {x z:Nat} {v:AV}:(put Z x v).lookup z=if z=x then some v else Z.lookup z:=by
 by_cases h:z=x
 ·rw[h,gP,if_pos rfl]
 ·exact rwL (gO Z v h) (rwL (if_neg h) rfl)
theorem xt {k:Nat} (h:ble k 1000000=true):k<=cap:=le_of_ble_eq_true h
theorem iU {U:Type} {o:Option U} {v:U} {P:U->Prop} (e:o=some v) (q:P v):lk o P:=by subst e;exact q
noncomputable abbrev GD (W:Wd):=Gd W (KK W.w.params)
theorem jH {k m:Nat} (h:k+1<=m):∃j,m=j+1∧k<=j:=⟨m-1,(Nat.sub_one_add_one_eq_of_pos (lt_of_lt_of_le (succ_pos k) h)).symm,by exact Nat.le_sub_of_add_le h⟩
section
variable {W:Wd} {m:Nat} {H:AH} {Q:AV->AH->Prop}
theorem B0 (G:GD W) {d:Bool} (hm:1<=m) (q:Q (.str (kd d)) H):a7 W 87 [.bool d] m H Q:=by
 apply bZ G rfl hm rfl λn _=>?_;ext;obtain⟨⟩:=d<;>simpa[kd,zT,zX]using q
theorem zD (G:GD W) {d f:Bool} {t:L} (hm:1<=m) (ht:Nd f H t) (q:Q (.int (t.side d)) H):a7 W 94 [.ref t.tag.1,.bool d] m H Q:=by
 apply af ht λz1z _=>a8 z1z λdx e=>?_;clear ht z1z;apply bZ G rfl hm rfl λn _=>?_;ext;apply rwL (gw e) (rwL (gh e) ?_);obtain⟨⟩:=d<;>simpa[Tr.side]using q
theorem wO (G:GD W) {d:Bool} {s:Int} {t:L} (hm:1<=m) (ht:Nd false H t) (q:∀H',Ex [t.tag.1] H H'->Nd false H' (Tr.aG d s t)->Q .none H'):a7 W 101 [.ref t.tag.1,.bool d,.int s] m H Q:=by
 apply af ht λz1z l=>a8 z1z λdx e=>?_;clear ht z1z;have hl:t.tag.2≠t.tag.1:=λz=>by(have l:=l;rw[z,e]at l);simp at l
 apply bZ G rfl hm rfl λn _=>?_
 walk_at "wp"
 apply rwL (pw e) (rwL (ph e) ?_);apply⟨λhd=>q _ .put ⟨⟨dx,?_⟩,?_⟩,λhd=>q _ .put ⟨⟨dx,?_⟩,?_⟩⟩
 ·simp only[Tr.aK,AH.EP];(generalize t=t'z;obtain⟨⟩:=t'z)<;>(subst hd;rfl)
 ·apply rwL Tr.aK (rwL (AH.EQ _ _ hl) (rwL Tr.hZ ?_));exact l
 ·simp only[Tr.aK,AH.EP];(generalize t=t'z;obtain⟨⟩:=t'z)<;>(subst hd;rfl)
 ·apply rwL Tr.aK (rwL (AH.EQ _ _ hl) (rwL Tr.hZ ?_));exact l
theorem jj (G:GD W) {k:Str} {w h x y:Int} {l:Addr} {pv:AV} (hm:2<=m) (q:∀a H',H a=none->Sb H H'->(∃dx,H' a=some (false,.inst 45 dx (cw k w h x y l pv)))->Q (.ref a) H') :
  iT W 45 [.str k,.int w,.int h,.int x,.int y,.ref l,pv] m H Q:=by
 apply ad (jH hm) λn z1z hn=>?_;subst z1z;apply⟨42,n,rfl,rfl,λa dx ha hd hne=>?_⟩;apply bZ G rfl hn rfl λn _=>?_
 walk_at "wp"
 have e0:((H.set dx (.own a)).set a (.inst 45 dx [])) a=some (false,.inst 45 dx []):=AH.EP _ _ _;have st:∀{H:AH} {fs:List (Nat × AV)} {f:Nat} {u:AV} {QS:AH->Prop},H a=some (false,.inst 45 dx fs)->bJ 45 f=true->fs.length<=100->QS (H.set a (.inst 45 dx (put fs f u)))->cx (.ref a) f u H QS:=λe hf hl q=>by
  exact rwL (bX e hf hl) q
 apply st e0 (by decide) (by simp) (st (AH.EP _ _ _) (by decide) (by simp[aS]) (st (AH.EP _ _ _) (by decide) (by simp[aS,bB]) (st (AH.EP _ _ _) (by decide) (by simp[aS,bB]) (st (AH.EP _ _ _) (by decide) (by simp[aS,bB]) (st (AH.EP _ _ _) (by decide) (by simp[aS,bB]) (st (AH.EP _ _ _) (by decide) (by simp[aS,bB]) ?_))))));simp only[AH.set_set];apply⟨trivial,q a _ ha (λb f o n e _=>?_) ⟨dx,AH.EP _ _ _⟩⟩;apply rwL (AH.EQ _ _ (ak ha e)) (rwL (AH.EQ _ _ (ak hd e)) ?_);exact e
noncomputable def fz (as:List Addr) (H:AH):AH:=frz (λb=>Option.casesOn (H b) (decide (b∈as)) λp=>AO.casesOn p.2 (λ_=>decide (b∈as)) (λ_ _ _=>decide (b∈as)) (λ_=>decide (b∈as)) (λ_=>decide (b∈as)) (λa=>decide (a∈as)) (decide (b∈as))) H
theorem a7.fz {f:Addr} {vs:List AV} {n:Nat} (h:a7 W f vs n H λv H'=>∃as:List Addr,Q v (fz as H')):a7 W f vs n H Q:=λA s us R hr S V Pq=>
 h A s us R hr S V λv u s' H' x a q=>by
  obtain⟨as,q⟩:=q;apply Pq v u s' _ (VR.keep (λa us n e z=>⟨e,iu z⟩) v u x) (a.trans (Aft.frz a.st λb f C dx fs e=>?_)) q;exact rwL (a.st.fl _ _ _ _ _ e) (rwL e rfl)
theorem xp {as:List Addr} {H:AH} {b:Addr} {f:Bool} {o:AO} (hn:no o) (h:H b=some (f,o)):fz as H b=some (decide (b∈as)||f,o):=by
 unfold Mine.Internal.fz;apply rwL (dJ h) (rwL h ?_);obtain⟨⟩:=o<;>first|rfl|exact absurd rfl (hn _)
theorem ir {as:List Addr} {H:AH} {b:Addr} {f:Bool} {o:AO} (hn:no o) (h:H b=some (f,o)) (hb:b∈as):fz as H b=some (true,o):=by
 apply rwL (xp hn h) ?_;simp[hb]
theorem gX {as:List Addr} {H:AH} {b:Addr} {f:Bool} {o:AO} (hn:no o) (h:H b=some (f,o)) (hb:b∉as):fz as H b=some (f,o):=by
 apply rwL (xp hn h) ?_;simp[hb]
theorem AJ {X as:List Addr} {H H':AH} (k:Ex X H H') (hf:∀a∈as,H a=none):Ex X H (fz as H'):=λa f o n e h=>
 gX n (k a f o n e h) λz=>by simp only[hf a z]at e;exact nS e
theorem LR.fz {as:List Addr} {H:AH}:∀{t:L},(∀a∈ads t,a∈as)->LR false H t->LR true (fz as H) t:=by
 intro t
 induction t using Tr.bn with
 |step t ih=>
  intro h x;apply af x.nd λz1z l=>?_;(apply a8 z1z λdx e=>?_;clear z1z);exact bz.mpr ⟨⟨⟨dx,ir gi e (h _ (aO t))⟩,ir aw l (h _ (gS t))⟩,λc hc=>ih c hc (λa ha=>h a (mz hc ha)) (x.kid hc)⟩
namespace Tr
variable {U O:Type}
noncomputable def map (g:U->O) (t:Tr U):Tr O:=fo (λa w h x y p=>.leaf (g a) w h x y p) (λa r w h x y _ cs=>.node (g a) r w h x y cs) [] (λ_ _ c cs=>c::cs) t
noncomputable def t0 (g:U->O) (ts:List (Tr U)):List (Tr O):=fos (λa w h x y p=>.leaf (g a) w h x y p) (λa r w h x y _ cs=>.node (g a) r w h x y cs) [] (λ_ _ c cs=>c::cs) ts
theorem By {U O:Type} {g:U->O}:t0 g ([]:List (Tr U))=[]:=rfl
theorem vX {U O:Type} {g:U->O} {c cs}:t0 g (c::cs)=map g c::t0 g cs:=rfl
theorem gR {U O:Type} {g:U->O} {a w h x_1 y p}:map g (leaf a w h x_1 y p)=leaf (g a) w h x_1 y p:=rfl
theorem fT {U O:Type} {g:U->O} {a r w h x_1 y cs}:map g (node a r w h x_1 y cs)=node (g a) r w h x_1 y (t0 g cs):=rfl
theorem pW {g:U->O}:∀{cs:List (Tr U)},t0 g cs=cs.map (map g):=by
 intro cs
 induction cs with
 |nil=>
  exact rfl
 |cons c cs ih=>
  simp[vX,ih]
noncomputable def wb:Nat->Tr U->List (Tr U)
 |_,.leaf a w h x y p=>[.leaf a w h x y p]
 |0,_=>[]
 |n+1,.node _ _ _ _ _ _ cs=>cs.flatMap (wb n)
noncomputable def leaves (t:Tr U):List (Tr U):=fo (λa w h x y p=>[.leaf a w h x y p]) (λ_ _ _ _ _ _ _ l=>l) [] (λ_ _ a b=>a++b) t
noncomputable def il (ts:List (Tr U)):List (Tr U):=fos (λa w h x y p=>[.leaf a w h x y p]) (λ_ _ _ _ _ _ _ l=>l) [] (λ_ _ a b=>a++b) ts
theorem lv {U:Type} {a:U} {w h x_1 y p}:leaves (leaf a w h x_1 y p)=[leaf a w h x_1 y p]:=rfl
theorem cr {U:Type} {a:U} {r w h x_1 y cs}:leaves (node a r w h x_1 y cs)=il cs:=rfl
theorem yx {U:Type}:il ([]:List (Tr U))=[]:=rfl
theorem oO {U:Type} {c:Tr U} {cs}:il (c::cs)=leaves c++il cs:=rfl
theorem bN:∀{cs:List (Tr U)},il cs=cs.flatMap leaves:=by
 intro cs
 induction cs with
 |nil=>
  rfl
 |cons c cs ih=>
  simp[oO,ih]
noncomputable def pane:Tr U->Int
 |.leaf _ _ _ _ _ p=>p
 |.node ..=>0
noncomputable def panes (t:Tr U):List Int:=t.leaves.map pane
end Tr
abbrev T:=Tr Unit
noncomputable def er (t:L):T:=t.map λ_=>()
theorem Ec (G:GD W) {p w h:Int} (hm:3<=m) (q:∀a l H',H a=none->H l=none->Sb H H'->LR true H' (.leaf (a,l) w h 0 0 p)->Q (.ref a) H'):a7 W 56 [.int p,.int w,.int h] m H Q:=by
 apply a7.fz (bZ G rfl hm rfl λn hn=>?_);ext;apply⟨by decide,λl hl=>jj G hn λa H' ha hs z=>a8 z λdx e=>⟨[a,l],?_⟩⟩;have el:H' l=some (false,.list []):=hs.list (AH.EP _ _ _);have hal:l≠a:=ak ha (AH.EP _ _ _);have haH:H a=none:=by(have ha:=ha;rw[AH.EQ _ _ (Ne.symm hal)]at ha);exact ha
 apply q a l _ haH hl (AJ ((Sb.new hl).trans hs) λb hb=>?_) (LR.fz (t:=.leaf (a,l) w h 0 0 p) (λb hb=>hb) (bz.mpr ⟨⟨⟨dx,e⟩,el⟩,λc hc=>by exact absurd hc not_mem_nil⟩));rcases mc hb with rfl|hb
 ·exact haH
 ·obtain rfl:=ms hb;exact hl
end
end
section
theorem ka (r:Bool):kd r≠sPane:=by obtain⟨⟩:=r<;>decide
theorem lq {U O:Type} {f:U->O} {l:List U} {pre:List O} {u:O} {suf:List O} (h:l.map f=pre++u::suf):E3 λa b c=>l=a++b::c∧pre=a.map f∧u=f b∧suf=c.map f:=by
 apply a8 (List.map_eq_append_iff.mp h) λa z1z=>?_;apply ad z1z λl' h1 z1z=>af z1z λh2 h3=>?_;apply a8 (List.map_eq_cons_iff.mp h3) λb z1z=>?_;apply ad z1z λc h4 z1z=>af z1z λh5 h6=>?_;exact⟨a,b,c,by simp only[h1,h4],h2.symm,h5.symm,h6.symm⟩
noncomputable def rf (c:L):AV:=.ref c.tag.1
section
variable {W:Wd} {m:Nat} {H:AH} {Q:AV->AH->Prop}
theorem uj {H:AH} {r:Addr} {f:Bool} {xs:List AV} (e:H r=some (f,.list xs)):oo .extend (.ref r) H:=⟨r,f,xs,rfl,e⟩
theorem cC {U:Type} {W:Wd} {n:Nat} {Z:am} {H:AH} {QS:am->AH->Prop} {R:AV->AH->Prop} {x:Nat} {b:List CS} {l:Addr} {g:U->AV} {cs:List U} (J:List U->am->AH->Prop) (h0:J [] Z H) (hl:∀pre Z H,J pre Z H->∃f,H l=some (f,.list (cs.map g)))
  (step:∀pre u suf Z H,cs=pre++u::suf->J pre Z H->cG W n b (put Z x (g u)) H (J (pre++[u])) R) (fin:∀Z H,J cs Z H->QS Z H):qr W n x b Z (.seq (.ref l)) H QS R:=by
 apply⟨trivial,λi Z H=>J (cs.take i) Z H∧i<=cs.length,cs.length,⟨by simpa using h0,zero_le _⟩,λi Z H hI=>?_⟩;apply af hI λhJ hi=>?_;clear hI;apply a8 (hl _ _ _ hJ) λf e=>?_;apply⟨hi,(cs[i]?).map g,(congrArg (Option.map (·[i]?)) (gA e)).trans (congrArg some getElem?_map),?_⟩;cases hu:cs[i]? with
 |none=>
  have:i=cs.length:=le_antisymm hi (by simpa using hu);simp only[this,take_length]at hJ;exact fin Z H hJ
 |some u=>
  have hlt:i<cs.length:=(mE hu).1;have hd:cs=cs.take i++u::cs.drop (i+1):=by
   have:=mE hu;simp only[<-this.2,getElem_cons_drop,take_append_drop]
  have ht:cs.take (i+1)=cs.take i++[u]:=by simp only[take_add_one,hu];rfl
  have:=step _ _ _ Z H hd hJ;have e2:(λZ H=>J (cs.take (i+1)) Z H∧i+1<=cs.length)=J (cs.take i++[u]):=by
   funext Z H;simp only[ht];exact propext ⟨λh=>h.1,λh=>⟨h,hlt⟩⟩
  show cG W n b (put Z x (g u)) H (λZ H=>J (cs.take (i+1)) Z H∧i+1<=cs.length) R;simp only[e2];exact this
theorem cQ {U:Type} {W:Wd} {n:Nat} {Z:am} {H:AH} {elt:CE} {x:Nat} {l:Addr} {g:U->AV} {cs:List U} (hx:cs.length<=cap) (J:List U->List AV->AH->Prop) (h0:J [] [] H) (hl:∀pre out H,J pre out H->(∃f,H l=some (f,.list (cs.map g)))∧out.length<=pre.length)
  (step:∀pre u suf out H,cs=pre++u::suf->J pre out H->aD W n elt ((x,g u)::Z) H λy H=>J (pre++[u]) (out++[y]) H)
  (fin:∀out H,J cs out H->∀r,H r=none->Q (.ref r) (H.set r (.list out))):om W n elt (.k (.bool true)) x Z (.ref l) H Q:=by
 apply⟨trivial,λi out H=>i<=cs.length∧J (cs.take i) out H,cs.length,hx,⟨zero_le _,by simpa using h0⟩,λi out H hI=>?_⟩;apply af hI λhi hJ=>?_;clear hI;apply af (hl _ _ _ hJ) λz1z hlen=>?_;(apply a8 z1z λf e=>?_;clear z1z);simp only[length_take,Nat.min_eq_left hi]at hlen;apply⟨hi,hlen,(cs[i]?).map g,(congrArg (Option.map (·[i]?)) (gA e)).trans (congrArg some getElem?_map),?_⟩;cases hu:cs[i]? with
 |none=>
  have:i=cs.length:=le_antisymm hi (by simpa using hu);simp only[this,take_length]at hJ;exact fin out H hJ
 |some u=>
  have hlt:i<cs.length:=(mE hu).1;have hd:cs=cs.take i++u::cs.drop (i+1):=by
   have:=mE hu;simp only[<-this.2,getElem_cons_drop,take_append_drop]
  have ht:cs.take (i+1)=cs.take i++[u]:=by simp only[take_add_one,hu];rfl
  have st:=step _ _ _ out H hd hJ;have e2:∀out H,(i+1<=cs.length∧J (cs.take i++[u]) out H)=J (cs.take i++[u]) out H:=λout H=>propext ⟨λh=>h.2,λh=>⟨hlt,h⟩⟩;show aD W n (.k (.bool true)) ((x,g u)::Z) H _;apply⟨λ_=>?_,λz=>by ac_nf⟩;simp only[ht,e2];exact st
theorem k7 {U:Type} {t c:Tr U} (h:c∈t.cs):c.leaves.length<=t.leaves.length:=by
 cases t with
 |leaf=>exact absurd h not_mem_nil
 |node a r w h' x y cs=>
  simp only[Tr.cr,Tr.bN,Tr.cs]at h ⊢;apply a8 (List.append_of_mem h) λs z1z=>?_;obtain⟨t,rfl⟩:=z1z;simp only[flatMap_append,flatMap_cons,length_append];lia
theorem oP {U:Type} {a:U} {r w h x y} {cs s t:List (Tr U)} {c:Tr U} (e:cs=s++c::t):(s.flatMap Tr.leaves).length+c.leaves.length<=(Tr.node a r w h x y cs).leaves.length:=by
 subst e;simp only[Tr.cr,Tr.bN,flatMap_append,flatMap_cons,length_append];lia
theorem Eb (G:GD W):∀{t:L} {f:Bool} {m:Nat} {H:AH} {Q:AV->AH->Prop},t.dep+1<=m->LR f H t->t.leaves.length<=cap->(∀r H',H r=none->Sb H H'->H' r=some (false,.list (t.leaves.map rf))->Q (.ref r) H')->a7 W 68 [.ref t.tag.1] m H Q:=by
 intro t
 induction t using Tr.bn with
 |step t ih=>
  intro f m H Q hm ht hcap q;apply af ht.nd λz1z el=>?_;(apply a8 z1z λdx e=>?_;clear z1z);apply bZ G rfl hm rfl λn hn=>?_
  walk_at "wp"
  simp only[gk e];cases t with
  |leaf a w h x y p=>
   apply⟨λ_=>⟨by decide,λr hr=>q r _ hr (.new hr) (AH.EP _ _ _)⟩,λhk=>absurd rfl (of_decide_eq_false hk)⟩
  |node a k w h x y cs=>
   apply⟨λhk=>absurd (of_decide_eq_true hk) (ka k),λ_=>⟨zero_le _,?_⟩⟩;intro r hr;apply rwL (gl ((Sb.new hr).inst e)) ?_;apply cC (g:=rf) (cs:=cs) (λpre Z H'=>Z.lookup 24=some (.ref r)∧Sb H H'∧H' r=some (false,.list ((pre.flatMap Tr.leaves).map rf))) ⟨rfl,.new hr,AH.EP _ _ _⟩ (λpre Z H' hJ=>⟨f,hJ.2.list el⟩) ?_ ?_
   ·rintro pre u suf Z H' hcs ⟨h1,h2,h3⟩;have hu:u∈(Tr.node a k w h x y cs).cs:=by exact rwL hcs (mem_append_right _ (.head _))
    walk_at "wp"
    simp only[h1,cz];apply⟨uj h3,ih u hu (by have:=Tr.cF hu;exact le_trans this hn) ((ht.kid hu).sb h2) (le_trans (k7 hu) hcap) λr' H'' hr' hs hl=>?_⟩;have h3':=hs.list h3;apply⟨ak hr' h3,_,_,_,h3',hl,?_,trivial,?_,?_⟩
    ·simp only[length_map,length_map];exact le_trans (oP hcs) hcap
    ·exact λa f o n e _=>(AH.EQ _ _ (ak hr e)).trans ((h2.trans hs) a f o n e (by assumption))
    ·simp only[AH.EP];simp
   ·rintro Z H' ⟨h1,h2,h3⟩;apply iU h1 (q r _ hr h2 ?_);simp only[h3];simp only[Tr.cr,Tr.bN]
end
end
section
noncomputable def gT (l:List Int):Int:=List.rec 0 (λa l ih=>List.casesOn l a λ_ _=>min a ih) l
theorem BB:gT []=0:=rfl
theorem BA {a}: gT [a]=a:=rfl
theorem q7 {a b l}: gT (a::b::l)=min a (gT (b::l)):=rfl
theorem jk:∀{l:List Int} {a:Int},a∈l->gT l<=a:=by
 intro l
 induction l with
 |nil=>intro a h;exact absurd h not_mem_nil
 |cons x l ih=>
  intro a h;cases l with
  |nil=>obtain rfl:=mS h;exact Int.le_refl _
  |cons b l=>
   simp only[q7];rcases mC h with rfl|h
   ·lia
   ·exact Int.le_trans (Int.min_le_right _ _) (ih h)
theorem jZ {l:List Int} (h:l≠[]):gT l∈l:=by
 induction l with
 |nil=>exact absurd rfl h
 |cons a l ih=>cases l with
  |nil=>exact .head _
  |cons b l=>
  simp only[q7];have:=ih (λh=>nomatch h);clear ih h;by_cases h:a<=gT (b::l)
  ·simp only[Int.min_eq_left h];exact .head _
  ·simp only[Int.min_eq_right (Int.le_of_not_le h)];exact .tail _ this
theorem pZ {l:List Int} {M:Int} (h:M∈l) (k:∀a∈l,M<=a):M=gT l:=
 Int.le_antisymm (k _ (jZ (by rintro rfl;exact absurd h not_mem_nil))) (jk h)
theorem th {l:List Int} {c:Int} (hl:l≠[]):gT (l.map (·+c))=gT l+c:=by
 apply(pZ (mR ⟨_,jZ hl,rfl⟩) λa ha=>?_).symm;apply ad (mP ha) λb hb z1z=>?_;subst z1z;have:=jk hb;exact Int.add_le_add_right this _
namespace Tr
variable {U O:Type}
noncomputable def room (d:Bool) (t:Tr U):Int:=fo (λ_ w h _ _ _=>(if d then w else h)-1) (λ_ r _ _ _ _ _ l=>if r=d then l.sum else gT l) [] (λ_ _ a l=>a::l) t
noncomputable def kZ (d:Bool) (ts:List (Tr U)):List Int:=fos (λ_ w h _ _ _=>(if d then w else h)-1) (λ_ r _ _ _ _ _ l=>if r=d then l.sum else gT l) [] (λ_ _ a l=>a::l) ts
theorem zZ {U:Type} {d}:kZ d ([]:List (Tr U))=[]:=rfl
theorem rV {U:Type} {d} {c:Tr U} {cs}:kZ d (c::cs)=room d c::kZ d cs:=rfl
theorem jf {U:Type} {d} {a:U} {w h x_1 y p}:room d (leaf a w h x_1 y p)=(if d=true then w else h)-1:=rfl
theorem vj {U:Type} {d} {a:U} {r w h x_1 y cs}:room d (node a r w h x_1 y cs)=if r=d then List.sum (kZ d cs)else gT (kZ d cs):=rfl
theorem rU {d:Bool}:∀{cs:List (Tr U)},kZ d cs=cs.map (room d):=by
 intro cs
 induction cs with
 |nil=>
  exact rfl
 |cons c cs ih=>
  simp[rV,ih]
noncomputable def ok (t:Tr U):Prop:=fo (λ_ w h _ _ _=>1<=w∧1<=h) (λ_ _ _ _ _ _ cs c=>2<=cs.length∧c) True (λ_ _ a b=>a∧b) t
noncomputable def A8 (ts:List (Tr U)):Prop:=fos (λ_ w h _ _ _=>1<=w∧1<=h) (λ_ _ _ _ _ _ cs c=>2<=cs.length∧c) True (λ_ _ a b=>a∧b) ts
theorem yb {U:Type}:A8 ([]:List (Tr U))=True:=rfl
theorem ya {U:Type} {c:Tr U} {cs}:A8 (c::cs)=(ok c∧A8 cs):=rfl
theorem jM {U:Type} {a:U} {w h x_1 y p}:ok (leaf a w h x_1 y p)=(1<=w∧1<=h):=rfl
theorem Ab {U:Type} {a:U} {r w h x_1 y cs}:ok (node a r w h x_1 y cs)=(2<=List.length cs∧A8 cs):=rfl
theorem vC:∀{cs:List (Tr U)},A8 cs↔∀c∈cs,ok c:=by
 intro cs
 induction cs with
 |nil=>
  simp[yb]
 |cons c cs ih=>
  simp[ya,ih]
theorem aH {a:U} {r w h x y} {cs:List (Tr U)}:ok (.node a r w h x y cs)↔2<=cs.length∧∀c∈cs,ok c:=by simp only[Ab,vC]
theorem aI {d:Bool} {a:U} {r w h x y} {cs:List (Tr U)}:room d (.node a r w h x y cs)=if r=d then(cs.map (room d)).sum else gT (cs.map (room d)):=by simp only[vj,rU]
theorem oA:∀{l:List Int},(∀a∈l,0<=a)->0<=l.sum:=by
 intro l
 induction l with
 |nil=>
  intro _;exact Int.le_refl _
 |cons a l ih=>
  intro h;have:=h a (.head _);have:=ih λb hb=>h b (.tail _ hb);simp only[sum_cons];lia
theorem ck {d:Bool}:∀{t:Tr U},t.ok->0<=t.room d:=by
 intro t
 induction t using bn with
 |step t ih=>
  intro h;cases t with
  |leaf a w h' x y p=>simp only[jM]at h;simp only[jf];split<;>lia
  |node a r w h' x y cs=>
   (have h:=h;rewrite [aH]at h);have hk:∀v∈cs.map (room d),0<=v:=λv hv=>by
    apply ad (mP hv) λc hc z1z=>?_;subst z1z;exact ih c hc (h.2 c hc)
   apply rwL aI ?_;split
   ·exact oA hk
   ·exact hk _ (jZ (by intro z;have:=congrArg List.length z;simp at this;(have h:=h;have h:=this▸h);simp at h))
noncomputable def sk (t:Tr U):Tr U:=fo (λa _ _ _ _ p=>.leaf a 0 0 0 0 p) (λa r _ _ _ _ _ cs=>.node a r 0 0 0 0 cs) [] (λ_ _ c cs=>c::cs) t
noncomputable def zu (ts:List (Tr U)):List (Tr U):=fos (λa _ _ _ _ p=>.leaf a 0 0 0 0 p) (λa r _ _ _ _ _ cs=>.node a r 0 0 0 0 cs) [] (λ_ _ c cs=>c::cs) ts
theorem BW {U:Type}:zu ([]:List (Tr U))=[]:=rfl
theorem rP {U:Type} {c:Tr U} {cs}:zu (c::cs)=sk c::zu cs:=rfl
theorem rQ {U:Type} {a:U} {w h x_1 y p}:sk (leaf a w h x_1 y p)=leaf a 0 0 0 0 p:=rfl
theorem jB {U:Type} {a:U} {r w h x_1 y cs}:sk (node a r w h x_1 y cs)=node a r 0 0 0 0 (zu cs):=rfl
theorem lR:∀{cs:List (Tr U)},zu cs=cs.map sk:=by
 intro cs
 induction cs with
 |nil=>
  exact rfl
 |cons c cs ih=>
  simp[rP,ih]
theorem lS {t:Tr U}:t.sk.tag=t.tag:=by obtain⟨⟩:=t<;>simp[rQ,jB,tag]
theorem pG {t:Tr U}:t.sk.kind=t.kind:=by obtain⟨⟩:=t<;>simp[rQ,jB,kind]
theorem zL {t:Tr U}:t.sk.cs=t.cs.map sk:=by obtain⟨⟩:=t<;>simp[rQ,jB,Tr.cs,lR]
theorem lU:∀{t:Tr U},t.sk.dep=t.dep:=by
 intro t
 induction t using bn with
 |step t ih=>
  cases t with
  |leaf=>rfl
  |node a r w h x y cs=>
   simp only[jB,fv];have:∀l:List (Tr U),(∀c∈l,c.sk.dep=c.dep)->fu (zu l)=fu l:=by
    intro l
    induction l with
    |nil=>intro _;rfl
    |cons c l ih2=>intro h;simp only[rP,ft];simp only[h c (.head _),ih2 λc hc=>h c (.tail _ hc)]
   exact congrArg _ (this cs ih)
theorem hV:∀{t:Tr U},t.sk.panes=t.panes:=by
 intro t
 induction t using bn with
 |step t ih=>
  cases t with
  |leaf=>rfl
  |node a r w h x y cs=>
   simp only[jB,panes,cr,bN,lR];have:∀l:List (Tr U),(∀c∈l,c.sk.panes=c.panes)->((l.map sk).flatMap leaves).map pane=(l.flatMap leaves).map pane:=by
    intro l
    induction l with
    |nil=>intro _;rfl
    |cons c l ih2=>
     intro h;have h1:=h c (.head _);simp only[panes]at h1;simp only[map_cons,flatMap_cons,map_append];simp only[h1,ih2 λc hc=>h c (.tail _ hc)]
   exact this cs ih
theorem lT {d:Bool} {s:Int} {t:Tr U}:(aG d s t).sk=t.sk:=by obtain⟨⟩:=t<;>obtain⟨⟩:=d<;>rfl
noncomputable def pass (g:Int->Tr U->Tr U) (d:Bool) (c:Int) (l:List (Tr U)):Int × List (Tr U):=List.rec (motive:=λ_=>Int->Int × List (Tr U)) (λc=>(c,[]))
 (λt ts ih c=>if 0<c then((ih (c-1)).1,g 1 t::(ih (c-1)).2)else if c<0∧0<t.room d then((ih (c+1)).1,g (-1) t::(ih (c+1)).2)else((ih c).1,t::(ih c).2)) l c
theorem pO {U:Type} {g:Int->Tr U->Tr U} {d z0}:pass g d z0 []=(z0,[]):=rfl
section
variable {U:Type} {g:Int->Tr U->Tr U} {d:Bool} {c:Int} {t:Tr U} {ts:List (Tr U)}
theorem me (h:0<c):pass g d c (t::ts)=((pass g d (c-1) ts).1,g 1 t::(pass g d (c-1) ts).2):=if_pos h
theorem ma (h:¬0<c) (h2:c<0∧0<t.room d):pass g d c (t::ts)=((pass g d (c+1) ts).1,g (-1) t::(pass g d (c+1) ts).2):=(if_neg h).trans (if_pos h2)
theorem jK (h:¬0<c) (h2:¬(c<0∧0<t.room d)):pass g d c (t::ts)=((pass g d c ts).1,t::(pass g d c ts).2):=(if_neg h).trans (if_neg h2)
end
noncomputable def j8 (g:Int->Tr U->Tr U) (d:Bool) (m:Nat) (c:Int) (cs:List (Tr U)):List (Tr U):=Nat.rec (motive:=λ_=>Int->List (Tr U)->List (Tr U)) (λ_ cs=>cs)
 (λ_ ih c cs=>if c=0 then cs else ih (pass g d c cs).1 (pass g d c cs).2) m c cs
theorem mM {U:Type} {g:Int->Tr U->Tr U} {d z0 z1}:j8 g d 0 z0 z1=z1:=rfl
theorem mL {U:Type} {g:Int->Tr U->Tr U} {d z0 z1 m}:j8 g d (Nat.succ m) z0 z1 =
 if z0=0 then z1 else j8 g d m (Prod.fst (pass g d z0 z1)) (Prod.snd (pass g d z0 z1)):=rfl
noncomputable def gD (k:Nat):Bool->Int->Tr U->Tr U:=Nat.rec (motive:=λ_=>Bool->Int->Tr U->Tr U) (λd c t=>aG d (t.side d+c) t)
 (λ_ ih d c t=>Tr.casesOn t (λ_ _ _ _ _ _=>aG d (t.side d+c) t) λa r w h x y cs=>aG d (t.side d+c) (.node a r w h x y (if r=d then j8 (ih d) d c.natAbs c cs else cs.map (ih d c)))) k
theorem yZ {U:Type} {z0 z1} {z2:Tr U}:gD 0 z0 z1 z2=aG z0 (side z0 z2+z1) z2:=rfl
theorem yY {U:Type} {z0 z1 k} {a:U} {w h x_5 y p}:gD (Nat.succ k) z0 z1 (leaf a w h x_5 y p)=aG z0 (side z0 (leaf a w h x_5 y p)+z1) (leaf a w h x_5 y p):=rfl
theorem mW {U:Type} {z0 z1 k} {a:U} {r w h x_5 y cs}:gD (Nat.succ k) z0 z1 (node a r w h x_5 y cs) =
 aG z0 (side z0 (node a r w h x_5 y cs)+z1)
  (node a r w h x_5 y (if r=z0 then j8 (gD k z0) z0 (Int.natAbs z1) z1 cs else List.map (gD k z0 z1) cs)):=rfl
theorem dC {d:Bool} {s:Int} {t:Tr U}:(aG d s t).side d=s:=by obtain⟨⟩:=t<;>obtain⟨⟩:=d<;>rfl
theorem cf {d:Bool} {s:Int} {t:Tr U}:(aG d s t).side (!d)=t.side (!d):=by obtain⟨⟩:=t<;>obtain⟨⟩:=d<;>rfl
noncomputable def geo (t:Tr U):Prop:=fo (λ_ _ _ _ _ _=>True) (λa r w h x y cs z=>side r (.node a r w h x y cs)=(cs.map (side r)).sum+cs.length-1∧(∀c∈cs,c.side (!r)=side (!r) (.node a r w h x y cs))∧z) True (λ_ _ a b=>a∧b) t
noncomputable def tH (ts:List (Tr U)):Prop:=fos (λ_ _ _ _ _ _=>True) (λa r w h x y cs z=>side r (.node a r w h x y cs)=(cs.map (side r)).sum+cs.length-1∧(∀c∈cs,c.side (!r)=side (!r) (.node a r w h x y cs))∧z) True (λ_ _ a b=>a∧b) ts
theorem ww {U:Type}:tH ([]:List (Tr U))=True:=rfl
theorem wv {U:Type} {c:Tr U} {cs}:tH (c::cs)=(geo c∧tH cs):=rfl
theorem Cn {U:Type} {a:U} {w h x_1 y p}:geo (leaf a w h x_1 y p)=True:=rfl
theorem yQ {U:Type} {a:U} {r w h x_1 y cs}:geo (node a r w h x_1 y cs) =
 A3 (side r (node a r w h x_1 y cs)=List.sum (List.map (side r) cs)+↑(List.length cs)-1)
  (∀(c:Tr U),c∈cs->side (!r) c=side (!r) (node a r w h x_1 y cs)) (tH cs):=rfl
theorem tG:∀{cs:List (Tr U)},tH cs↔∀c∈cs,geo c:=by
 intro cs
 induction cs with
 |nil=>
  simp[ww]
 |cons c cs ih=>
  simp[wv,ih]
theorem aR {a:U} {r w h x y} {cs:List (Tr U)}:geo (.node a r w h x y cs)↔side r (.node a r w h x y cs)=(cs.map (side r)).sum+cs.length-1∧(∀c∈cs,c.side (!r)=side (!r) (.node a r w h x y cs))∧∀c∈cs,geo c:=by simp only[yQ,tG]
structure Chg (d:Bool) (c:Int) (t t':Tr U):Prop where
 sk:t'.sk=t.sk
 ok:t'.ok
 room:t'.room d=t.room d+c
 other:t'.room (!d)=t.room (!d)
 sd:t'.side d=t.side d+c
 so:t'.side (!d)=t.side (!d)
 geo:t.geo->t'.geo
structure Pas (d:Bool) (c:Int) (cs:List (Tr U)) (q:Int × List (Tr U)):Prop where
 sk:q.2.map Tr.sk=cs.map Tr.sk
 ok:∀t∈q.2,t.ok
 rm:(q.2.map (room d)).sum+q.1=(cs.map (room d)).sum+c
 ro:q.2.map (room (!d))=cs.map (room (!d))
 sd:(q.2.map (side d)).sum+q.1=(cs.map (side d)).sum+c
 so:q.2.map (side (!d))=cs.map (side (!d))
 ge:(∀t∈cs,t.geo)->∀t∈q.2,t.geo
 up:0<=c->0<=q.1∧q.1<=c
 dn:c<=0->c<=q.1∧q.1<=0
 lt:0<c->cs≠[]->q.1<c
 gt:c<0->0<(cs.map (room d)).sum->c<q.1
theorem pN {g:Int->Tr U->Tr U} {d:Bool}:∀{cs:List (Tr U)} {c:Int},(∀t∈cs,t.ok∧∀c,(c=1\/c = -1)->0<=t.room d+c->Chg d c t (g c t))->Pas d c cs (pass g d c cs):=by
 intro cs
 induction cs with
 |nil=>
  intro c _;constructor<;>simp[pO]<;>omega
 |cons t ts ih=>
  intro c h;have ht:=h t (.head _);have hs:=λu hu=>h u (.tail _ hu);have h0:=ck (d:=d) ht.1;by_cases hc:0<c
  ·apply rwL (me hc) ?_;have e:=ih (c:=c-1) hs;have k:=ht.2 1 (.inl rfl) (le_add_one h0);have e1:=e.rm;have e2:=e.sd;have e3:=e.up (Int.sub_nonneg_of_le hc);have k1:=k.room;have k2:=k.sd;apply⟨by simp[e.sk,k.sk],λu hu=>?_,?_,by simp[e.ro,k.other],?_,by simp[e.so,k.so],λhg u hu=>?_,λ_=>?_,λz=>absurd hc (Int.not_lt.mpr z),λ_ _=>?_,λz=>absurd hc (Int.not_lt.mpr (Int.le_of_lt z))⟩
   ·rcases mC hu with rfl|hu
    ·exact k.ok
    ·exact e.ok u hu
   ·simp only[map_cons,sum_cons];omega
   ·simp only[map_cons,sum_cons];omega
   ·rcases mC hu with rfl|hu
    ·exact k.geo (hg _ (.head _))
    ·exact e.ge (λv hv=>hg v (.tail _ hv)) u hu
   ·exact⟨e3.1,by dsimp only;omega⟩
   ·dsimp only;omega
  ·by_cases hc2:c<0∧0<t.room d
   ·apply rwL (ma hc hc2) ?_;have e:=ih (c:=c+1) hs;have k:=ht.2 (-1) (.inr rfl) (by lia);have e1:=e.rm;have e2:=e.sd;have e3:=e.dn (by lia);have k1:=k.room;have k2:=k.sd;apply⟨by simp[e.sk,k.sk],λu hu=>?_,?_,by simp[e.ro,k.other],?_,by simp[e.so,k.so],λhg u hu=>?_,λz=>absurd hc2.1 (Int.not_lt.mpr z),λ_=>?_,λz=>absurd z hc,λ_ _=>?_⟩
    ·rcases mC hu with rfl|hu
     ·exact k.ok
     ·exact e.ok u hu
    ·simp only[map_cons,sum_cons];lia
    ·simp only[map_cons,sum_cons];lia
    ·rcases mC hu with rfl|hu
     ·exact k.geo (hg _ (.head _))
     ·exact e.ge (λv hv=>hg v (.tail _ hv)) u hu
    ·dsimp only;lia
    ·dsimp only;lia
   ·apply rwL (jK hc hc2) ?_;have e:=ih (c:=c) hs;have e1:=e.rm;have e2:=e.sd;apply⟨by simp[e.sk],λu hu=>?_,?_,by simp[e.ro],?_,by simp[e.so],λhg u hu=>?_,λh=>e.up h,λh=>e.dn h,λz=>absurd z hc,λh1 h2=>?_⟩
    ·rcases mc hu with rfl|hu
     ·exact ht.1
     ·exact e.ok u hu
    ·simp only[map_cons,sum_cons];lia
    ·simp only[map_cons,sum_cons];lia
    ·rcases mc hu with rfl|hu
     ·exact hg _ (.head _)
     ·exact e.ge (λv hv=>hg v (.tail _ hv)) u hu
    ·apply e.gt h1 ?_;simp only[map_cons,sum_cons]at h2;have:t.room d=0:=Int.le_antisymm (Int.not_lt.mp λz=>hc2 ⟨h1,z⟩) h0;lia
structure Dis (d:Bool) (c:Int) (cs cs':List (Tr U)):Prop where
 sk:cs'.map Tr.sk=cs.map Tr.sk
 ok:∀t∈cs',t.ok
 rm:(cs'.map (room d)).sum=(cs.map (room d)).sum+c
 ro:cs'.map (room (!d))=cs.map (room (!d))
 sd:(cs'.map (side d)).sum=(cs.map (side d)).sum+c
 so:cs'.map (side (!d))=cs.map (side (!d))
 ge:(∀t∈cs,t.geo)->∀t∈cs',t.geo
theorem wF {g:Int->Tr U->Tr U} {d:Bool} {K:List (Tr U)} (hg:∀t:Tr U,t.sk∈K.map Tr.sk->t.ok->∀c,(c=1\/c = -1)->0<=t.room d+c->Chg d c t (g c t)):∀{m:Nat} {cs:List (Tr U)} {c:Int},c.natAbs<=m->cs≠[]->(∀t∈cs,t.ok)->cs.map Tr.sk=K.map Tr.sk->0<=(cs.map (room d)).sum+c->
  Dis d c cs (j8 g d m c cs):=by
 intro m
 induction m with
 |zero=>
  intro cs c hm hne ho hk hr;have:c=0:=Int.natAbs_eq_zero.mp (Nat.le_zero.mp hm);subst this;exact⟨rfl,ho,by simp[mM],rfl,by simp[mM],rfl,λh=>h⟩
 |succ m ih=>
  intro cs c hm hne ho hk hr;dsimp only[j8];split
  ·rename_i hc;subst hc;exact⟨rfl,ho,by simp,rfl,by simp,rfl,λh=>h⟩
  ·rename_i hc;have hh:∀t∈cs,t.ok∧∀c,(c=1\/c = -1)->0<=t.room d+c->Chg d c t (g c t):=λt ht=>⟨ho t ht,hg t (by exact rwR hk (mR ⟨t,ht,rfl⟩)) (ho t ht)⟩;have e:=pN (c:=c) hh;have e1:=e.rm;have e2:=e.sd;have hlt:(pass g d c cs).1.natAbs<c.natAbs:=by
    apply(Int.lt_or_gt_of_ne hc).elim (λh=>?_) λh=>?_
    ·exact Dx h (e.dn (Int.le_of_lt h)) (e.gt h (by lia))
    ·exact Dw (e.up (Int.le_of_lt h)) (e.lt h hne)
   have hne':(pass g d c cs).2≠[]:=λz=>by
    have e1:=e.sk;rw[z]at e1;have:=congrArg List.length e1;simp at this;exact hne (eq_nil_of_length_eq_zero this.symm)
   have i:=ih (cs:=(pass g d c cs).2) (c:=(pass g d c cs).1) (Nat.le_of_lt_succ (lt_of_lt_of_le hlt hm)) hne' e.ok (e.sk.trans hk) (le_of_le_of_eq hr (Eq.symm e1));exact⟨i.sk.trans e.sk,i.ok,i.rm.trans (e1),i.ro.trans e.ro,i.sd.trans (e2),i.so.trans e.so,λh=>i.ge (e.ge h)⟩
theorem fM {d d':Bool} {s:Int} {a:U} {r w h x y} {cs:List (Tr U)}:(aG d s (.node a r w h x y cs)).room d'=(Tr.node a r w h x y cs).room d':=by obtain⟨⟩:=d<;>rfl
theorem mj {d:Bool} {s:Int} {a:U} {r w h x y} {cs:List (Tr U)}:(aG d s (.node a r w h x y cs)).ok↔(Tr.node a r w h x y cs).ok:=by obtain⟨⟩:=d<;>rfl
theorem cc {d:Bool} {s:Int} {a:U} {w h x y p}:(aG d s (.leaf a w h x y p)).geo:=by obtain⟨⟩:=d<;>trivial
theorem mV {d:Bool}:∀{k:Nat} {t:Tr U} {c:Int},t.dep<=k->t.ok->0<=t.room d+c->Chg d c t (gD k d c t):=by
 have leafCase:∀{a:U} {w h x y p c:Int},(Tr.leaf a w h x y p).ok->0<=(Tr.leaf a w h x y p).room d+c->Chg d c (.leaf a w h x y p) (aG d ((Tr.leaf a w h x y p).side d+c) (.leaf a w h x y p)):=by
  intro a w h x y p c ho hr;apply⟨lT,?_,?_,?_,dC,cf,λ_=>cc⟩
  all_goals simp only[jM]at ho
  all_goals obtain⟨⟩:=d<;>simp only[jf,if_true,false_eq_true,if_false]at hr<;>simp[aG,jM,jf,side,Tr.w,Tr.h]<;>lia
 intro k
 induction k with
 |zero=>
  intro t c hk ho hr;cases t with
  |leaf a w h x y p=>exact leafCase ho hr
  |node=>ac_nf
 |succ k ih=>
  intro t c hk ho hr;cases t with
  |leaf a w h x y p=>exact leafCase ho hr
  |node a r w h x y cs=>
   have hkids:∀u∈cs,u.dep<=k:=λu hu=>by
    have:=cF (t:=.node a r w h x y cs) hu;exact Nat.le_of_lt_succ (lt_of_lt_of_le this hk)
   simp only[aH]at ho;have hne:cs≠[]:=by rintro rfl;simp at ho
   simp only[mW];have fin:∀cs':List (Tr U),cs'.map Tr.sk=cs.map Tr.sk->(∀u∈cs',u.ok)->(Tr.node a r w h x y cs').room d=(Tr.node a r w h x y cs).room d+c->(Tr.node a r w h x y cs').room (!d)=(Tr.node a r w h x y cs).room (!d)->
     ((Tr.node a r w h x y cs).geo->(aG d ((Tr.node a r w h x y cs).side d+c) (.node a r w h x y cs')).geo)->
     Chg d c (.node a r w h x y cs) (aG d ((Tr.node a r w h x y cs).side d+c) (.node a r w h x y cs')):=by
    intro cs' h1 h2 h3 h4 h5;apply⟨?_,?_,by simp only[fM,h3],by simp only[fM,h4],dC,cf,h5⟩
    ·simp only[lT];simp[Tr.jB,lR,h1]
    ·rewrite [mj,aH]
     have:=congrArg List.length h1;simp only[length_map]at this;exact⟨by lia,h2⟩
   have gfin:∀{s:Int} {cs':List (Tr U)},(aG d s (.node a r w h x y cs')).geo↔(if r=d then s else side r (.node a r w h x y cs))=(cs'.map (side r)).sum+cs'.length-1∧(∀c∈cs',c.side (!r)=if r=d then side (!r) (.node a r w h x y cs)else s)∧∀c∈cs',geo c:=by
    intro s cs';(generalize d=d'z;obtain⟨⟩:=d'z)<;>(generalize r=r'z;obtain⟨⟩:=r'z)<;>simp[aG,aR,side,Tr.w,Tr.h]
   simp only[aI]at hr;by_cases hd:r=d
   ·simp only[if_pos hd]at hr ⊢;have i:=wF (g:=gD k d) (d:=d) (K:=cs) (λt ht ho c hc hr=>by
     apply ad (mP ht) λu hu e=>?_;exact ih (by apply rwR lU (rwR e (rwL lU ?_));exact hkids u hu) ho hr) (m:=c.natAbs) (le_refl _) hne ho.2 rfl hr
    apply fin _ i.sk i.ok ?_ ?_ λhg=>?_
    ·simp only[aI,aI,if_pos hd,i.rm]
    ·exact rwL aI (rwL aI (rwL (if_neg (by apply rwL hd ?_;(generalize d=d'z;obtain⟨⟩:=d'z)<;>simp)) (rwL (if_neg (by apply rwL hd ?_;(generalize d=d'z;obtain⟨⟩:=d'z)<;>simp)) (rwL i.ro rfl))))
    ·simp only[aR]at hg;have hl:=congrArg List.length i.sk;simp only[length_map]at hl;obtain rfl:=hd.symm;apply gfin.mpr ⟨?_,λu hu=>?_,i.ge hg.3⟩
     ·apply rwL (if_pos rfl) (rwL i.sd (rwL hl (rwL hg.1 ?_)));lia
     ·apply rwL (if_pos rfl) ?_;have:u.side (!d)∈cs.map (side (!d)):=by exact rwR i.so (mR ⟨u,hu,rfl⟩)
      apply ad (mP this) λv hv e=>?_;simp only[<-e];exact hg.2 v hv
   ·simp only[if_neg hd]at hr ⊢;have kid:∀u∈cs,Chg d c u (gD k d c u):=λu hu=>ih (hkids u hu) (ho.2 u hu) (by
     have:=jk (mR ⟨u,hu,rfl⟩:u.room d∈cs.map (room d));lia)
    have hd':r = !d:=by revert hd;(generalize r=r'z;obtain⟨⟩:=r'z)<;>(generalize d=d'z;obtain⟨⟩:=d'z)<;>simp
    have hd2:d = !r:=by apply rwL hd' ?_;simp
    apply fin _ ?_ (λu hu=>?_) ?_ ?_ λhg=>?_
    ·exact rwL map_map (map_congr_left λu hu=>(kid u hu).sk)
    ·(apply ad (mP hu) λv hv z1z=>?_;subst z1z);exact(kid v hv).ok
    ·apply rwL aI (rwL aI (rwL (if_neg hd) (rwL (if_neg hd) (rwL map_map (rwR (th (by simpa using hne)) (rwL map_map ?_))))));exact congrArg gT (map_congr_left λu hu=>(kid u hu).room)
    ·simp only[aI,aI,if_pos hd',map_map];exact congrArg List.sum (map_congr_left λu hu=>(kid u hu).other)
    ·simp only[aR]at hg;apply gfin.mpr ⟨?_,λu hu=>?_,λu hu=>?_⟩
     ·rw[if_neg hd,map_map,length_map,hg.1];have:cs.map (side r ∘ gD k d c)=cs.map (side r):=map_congr_left λu hu=>by exact rwL hd' ((kid u hu).so)
      simp only[this]
     ·apply rwL (if_neg hd) ?_;apply ad (mP hu) λv hv z1z=>?_;subst z1z;have h1:=(kid v hv).sd;have h2:=hg.2 v hv;simp only[<-hd2]at h2 ⊢;simp only[h1,h2]
     ·(apply ad (mP hu) λv hv z1z=>?_;subst z1z);exact(kid v hv).geo (hg.3 v hv)
end Tr
end
section
set_option genInjectivity false in
structure Fm (U:Type) where
 a:U
 r:Bool
 w:Int
 h:Int
 x:Int
 y:Int
 l:List (Tr U)
 rt:List (Tr U)
namespace Tr
variable {U O:Type}
noncomputable def fill (F:Fm U) (t:Tr U):Tr U:=.node F.a F.r F.w F.h F.x F.y (F.l++t::F.rt)
noncomputable def aa (C:List (Fm U)) (t:Tr U):Tr U:=List.rec t (λF _ ih=>fill F ih) C
theorem gf {U:Type} {z0:Tr U}:aa [] z0=z0:=rfl
theorem bS {U:Type} {z0:Tr U} {F C}:aa (F::C) z0=Tr.fill F (aa C z0):=rfl
theorem dU {C D:List (Fm U)} {t:Tr U}:aa (C++D) t=aa C (aa D t):=by
 induction C with
 |nil=>rfl
 |cons F C ih=>exact flip (λa=>a) ih (congrArg (fill F))
noncomputable def find (p:Int) (t:Tr U):Option (List (Fm U) × Tr U):=fo (γ:=U->Bool->Int->Int->Int->Int->List (Tr U)->Option (List (Fm U) × Tr U)) (λa w h x y q=>if q=p then some ([],.leaf a w h x y q)else none) (λa r w h x y cs k=>k a r w h x y []) (λ_ _ _ _ _ _ _=>none) (λc cs q k a r w h x y pre=>match q with|some q=>some (⟨a,r,w,h,x,y,pre,cs⟩::q.1,q.2)|none=>k a r w h x y (pre++[c])) t
noncomputable def gI (p:Int) (a:U) (r:Bool) (w h x y:Int) (pre ts:List (Tr U)):Option (List (Fm U) × Tr U):=fos (γ:=U->Bool->Int->Int->Int->Int->List (Tr U)->Option (List (Fm U) × Tr U)) (λa w h x y q=>if q=p then some ([],.leaf a w h x y q)else none) (λa r w h x y cs k=>k a r w h x y []) (λ_ _ _ _ _ _ _=>none) (λc cs q k a r w h x y pre=>match q with|some q=>some (⟨a,r,w,h,x,y,pre,cs⟩::q.1,q.2)|none=>k a r w h x y (pre++[c])) ts a r w h x y pre
theorem AK {U:Type} {p} {a:U} {r w h x y z0}:gI p a r w h x y z0 []=none:=rfl
theorem ix {U:Type} {p} {a:U} {r w h x y z0 c cs}:gI p a r w h x y z0 (c::cs) =
 match find p c with
 |some q=>some ({a:=a,r:=r,w:=w,h:=h,x:=x,y:=y,l:=z0,rt:=cs}::Prod.fst q,Prod.snd q)
 |none=>gI p a r w h x y (z0++[c]) cs:=rfl
theorem iz {U:Type} {p} {a:U} {w h x_1 y q}:find p (leaf a w h x_1 y q)=if q=p then some ([],leaf a w h x_1 y q)else none:=rfl
theorem iy {U:Type} {p} {a:U} {r w h x_1 y cs}:find p (node a r w h x_1 y cs)=gI p a r w h x_1 y [] cs:=rfl
theorem lG {p:Int} {a:U} {r:Bool} {w h x y:Int}:∀{cs pre:List (Tr U)},match gI p a r w h x y pre cs with
  |none=>∀c∈cs,find p c=none
  |some q=>E4 λs c t C=>cs=s++c::t∧(∀u∈s,find p u=none)∧find p c=some (C,q.2)∧q.1=⟨a,r,w,h,x,y,pre++s,t⟩::C:=by
 intro cs
 induction cs with
 |nil=>
  intro pre;exact λz hz=>nomatch hz
 |cons c cs ih=>
  intro pre;apply rwL ix ?_;cases e:find p c with
  |some q=>
   dsimp only;exact⟨[],c,cs,q.1,rfl,(λ_ h=>by simp at h),e,by simp⟩
  |none=>
   have:=ih (pre:=pre++[c]);dsimp only;revert this;cases gI p a r w h x y (pre++[c]) cs with
   |none=>
    intro k u hu;rcases mc hu with rfl|hu
    ·exact e
    ·exact k u hu
   |some q=>
    rintro⟨s,u,t,C,rfl,h1,h2,h3⟩;apply⟨c::s,u,t,C,rfl,λv hv=>?_,h2,by simp only[h3];simp⟩;rcases mc hv with rfl|hv
    ·exact e
    ·exact h1 v hv
theorem au {a:U} {w h x y p}:(Tr.leaf a w h x y p).panes=[p]:=rfl
theorem az {a:U} {r w h x y} {cs:List (Tr U)}:(Tr.node a r w h x y cs).panes=cs.flatMap panes:=by
 simp only[panes,cr,bN,map_flatMap];rfl
theorem iO {p:Int}:∀{t:Tr U},find p t=none↔p∉t.panes:=by
 intro t
 induction t using bn with
 |step t ih=>
  cases t with
  |leaf a w h x y q=>
   simp only[iz,au,mem_singleton];by_cases hq:q=p
   ·simp[hq]
   ·simp[hq];exact λz=>hq z.symm
  |node a r w h x y cs=>
   simp only[iy,az];have:=lG (p:=p) (a:=a) (r:=r) (w:=w) (h:=h) (x:=x) (y:=y) (cs:=cs) (pre:=[]);revert this;cases gI p a r w h x y [] cs with
   |none=>
    intro k;simp only[mem_flatMap,not_exists,not_and,true_iff];exact λc hc=>(ih c hc).mp (k c hc)
   |some q=>
    rintro⟨s,c,t,C,rfl,h1,h2,h3⟩;simp only[mem_flatMap,not_exists,not_and];apply⟨(λz=>by exact sN z),λz=>?_⟩;have:=(ih c (mem_append_right _ (.head _))).mpr (z c (mem_append_right _ (.head _)));simp only[this]at h2;exact nS h2
theorem dA {p:Int}:∀{t:Tr U} {C:List (Fm U)} {l:Tr U},find p t=some (C,l)->t=aa C l∧E5 λa w h x y=>l=.leaf a w h x y p:=by
 intro t
 induction t using bn with
 |step t ih=>
  intro C l e;cases t with
  |leaf a w h x y q=>
   simp only[iz]at e;split at e
   ·rename_i hq;cases e;subst hq;exact⟨rfl,a,w,h,x,y,rfl⟩
   ·exact nS e
  |node a r w h x y cs=>
   simp only[iy]at e;have:=lG (p:=p) (a:=a) (r:=r) (w:=w) (h:=h) (x:=x) (y:=y) (cs:=cs) (pre:=[]);rw[e]at this;apply Bw this λs c t C' z1z h1 h2 h3=>?_;clear this;subst z1z;dsimp only at h2 h3;apply af (ih c (by exact mem_append_right _ (.head _)) h2) λe1 e2=>?_;subst h3;apply⟨?_,e2⟩;simp only[bS,fill,nil_append,<-e1]
noncomputable def dQ (C:List (Fm U)):List Int:=List.rec [] (λF _ ih=>F.l.flatMap panes++ih) C
theorem jp {U:Type}:dQ ([]:List (Fm U))=[]:=rfl
theorem dZ {U:Type} {F:Fm U} {C}:dQ (F::C)=List.flatMap panes (Fm.l F)++dQ C:=rfl
noncomputable def ct (C:List (Fm U)):List Int:=List.rec [] (λF _ ih=>ih++F.rt.flatMap panes) C
theorem iC {U:Type}:ct ([]:List (Fm U))=[]:=rfl
theorem dL {U:Type} {F:Fm U} {C}:ct (F::C)=ct C++List.flatMap panes (Fm.rt F):=rfl
theorem dD {F:Fm U} {t:Tr U}:(fill F t).panes=F.l.flatMap panes++t.panes++F.rt.flatMap panes:=by
 simp[fill,az]
theorem aE:∀{C:List (Fm U)} {t:Tr U},(aa C t).panes=dQ C++t.panes++ct C:=by
 intro C
 induction C with
 |nil=>
  intro t;simp[gf,jp,iC]
 |cons F C ih=>
  intro t;simp[bS,dD,ih,dZ,dL]
theorem dW {F:Fm U} {t:Tr U}:(fill F t).ok↔2<=F.l.length+F.rt.length+1∧(∀c∈F.l,c.ok)∧t.ok∧∀c∈F.rt,c.ok:=by
 rewrite [fill,aH]
 simp only[length_append,length_cons,mem_append,mem_cons];constructor
 ·rintro⟨h1,h2⟩;exact⟨by exact h1,λc hc=>h2 c (.inl hc),h2 t (.inr (.inl rfl)),λc hc=>h2 c (.inr (.inr hc))⟩
 ·rintro⟨h1,h2,h3,h4⟩;apply⟨by exact h1,λc hc=>?_⟩;rcases hc with hc|rfl|hc
  ·exact h2 c hc
  ·exact h3
  ·exact h4 c hc
theorem cy:∀{C:List (Fm U)} {t:Tr U},(aa C t).ok->t.ok∧∀u:Tr U,u.ok->(aa C u).ok:=by
 intro C
 induction C with
 |nil=>
  intro t h;exact⟨h,λ_ k=>k⟩
 |cons F C ih=>
  intro t h;simp only[bS]at h ⊢;(have h:=h;rewrite [dW]at h);apply jh h λh1 h2 h3 h4=>?_;clear h;apply af (ih h3) λk1 k2=>?_;exact⟨k1,λu hu=>dW.mpr ⟨h1,h2,k2 u hu,h4⟩⟩
theorem cj {C:List (Fm U)} {t u:Tr U} (h:∀d,u.side d=t.side d) (d:Bool):(aa C u).side d=(aa C t).side d:=by
 cases C with
 |nil=>exact h d
 |cons F C=>rfl
theorem dH {F:Fm U} {t:Tr U}:(fill F t).geo↔((fill F t).side F.r=((F.l.map (side F.r)).sum+t.side F.r+(F.rt.map (side F.r)).sum)+(F.l.length+F.rt.length)) ∧
  ((∀c∈F.l,c.side (!F.r)=(fill F t).side (!F.r))∧t.side (!F.r)=(fill F t).side (!F.r)∧∀c∈F.rt,c.side (!F.r)=(fill F t).side (!F.r))∧(∀c∈F.l,c.geo)∧t.geo∧∀c∈F.rt,c.geo:=by
 simp only[fill,aR];simp only[map_append,map_cons,sum_append,sum_cons,length_append,length_cons,mem_append,mem_cons];constructor
 ·rintro⟨h1,h2,h3⟩;apply⟨by simp only[h1];lia,⟨λc hc=>h2 c (.inl hc),h2 t (.inr (.inl rfl)),λc hc=>h2 c (.inr (.inr hc))⟩,λc hc=>h3 c (.inl hc),h3 t (.inr (.inl rfl)),λc hc=>h3 c (.inr (.inr hc))⟩
 ·rintro⟨h1,⟨h2,h3,h4⟩,h5,h6,h7⟩;apply⟨by simp only[h1];lia,λc hc=>?_,λc hc=>?_⟩
  ·rcases hc with hc|rfl|hc
   ·exact h2 c hc
   ·exact h3
   ·exact h4 c hc
  ·rcases hc with hc|rfl|hc
   ·exact h5 c hc
   ·exact h6
   ·exact h7 c hc
theorem eT:∀{C:List (Fm U)} {t:Tr U},(aa C t).geo->t.geo∧∀u:Tr U,(∀d,u.side d=t.side d)->u.geo->(aa C u).geo:=by
 intro C
 induction C with
 |nil=>
  intro t h;exact⟨h,λ_ _ k=>k⟩
 |cons F C ih=>
  intro t h;simp only[bS]at h ⊢;(have h:=h;rewrite [dH]at h);apply yq h λh1 h2 h3 h4 h5=>?_;clear h;apply af (ih h4) λk1 k2=>?_;apply⟨k1,λu hu hg=>dH.mpr ?_⟩;have e:=cj (C:=C) hu;have e':∀d,(fill F (aa C u)).side d=(fill F (aa C t)).side d:=λd=>by exact Int.neg_inj.mp rfl
  simp only[e',e];exact⟨h1,h2,h3,k2 u hu hg,h5⟩
noncomputable def cH (x y:Int) (t:Tr U):Tr U:=fo (O:=Int->Int->Tr U) (γ:=Bool->Int->Int->List (Tr U)) (λa w h _ _ p x y=>.leaf a w h x y p) (λa r w h _ _ _ k x y=>.node a r w h x y (k r x y)) (λ_ _ _=>[]) (λc _ q k r x y=>q x y::k r (if r then x+(c.w+1)else x) (if r then y else y+(c.h+1))) t x y
noncomputable def jJ (r:Bool) (x y:Int) (ts:List (Tr U)):List (Tr U):=fos (O:=Int->Int->Tr U) (γ:=Bool->Int->Int->List (Tr U)) (λa w h _ _ p x y=>.leaf a w h x y p) (λa r w h _ _ _ k x y=>.node a r w h x y (k r x y)) (λ_ _ _=>[]) (λc _ q k r x y=>q x y::k r (if r then x+(c.w+1)else x) (if r then y else y+(c.h+1))) ts r x y
theorem m9 {U:Type} {r x y}:jJ r x y ([]:List (Tr U))=[]:=rfl
theorem gg {U:Type} {r x y} {c:Tr U} {cs}:jJ r x y (c::cs) =
 cH x y c::jJ r (if r=true then x+(w c+1)else x) (if r=true then y else y+(h c+1)) cs:=rfl
theorem iK {U:Type} {x y} {a:U} {w h x_2 y_1 q}:cH x y (leaf a w h x_2 y_1 q)=leaf a w h x y q:=rfl
theorem dc {U:Type} {x y} {a:U} {r w h x_2 y_1 cs}:cH x y (node a r w h x_2 y_1 cs)=node a r w h x y (jJ r x y cs):=rfl
theorem cN {x y:Int} {t:Tr U}:(cH x y t).tag=t.tag:=by obtain⟨⟩:=t<;>simp[iK,dc,tag]
theorem ca {x y:Int} {t:Tr U} {d:Bool}:(cH x y t).side d=t.side d:=by obtain⟨⟩:=t<;>obtain⟨⟩:=d<;>rfl
theorem eK {γ:Type} {f:Tr U->γ} {r:Bool}:∀{cs:List (Tr U)} {x y:Int},(∀c∈cs,∀x y,f (cH x y c)=f c)->(jJ r x y cs).map f=cs.map f:=by
 intro cs
 induction cs with
 |nil=>
  intro _ _ _;rfl
 |cons c cs ih=>
  intro x y h;simp only[gg,map_cons];simp only[h c (.head _),ih λc hc=>h c (.tail _ hc)]
theorem nq {P Q:Tr U->Prop} {r:Bool}:∀{cs:List (Tr U)} {x y:Int},(∀c∈cs,∀x y,Q (cH x y c))->∀c∈jJ r x y cs,Q c:=by
 intro cs
 induction cs with
 |nil=>
  intro _ _ _ _ h;simp[m9]at h
 |cons c cs ih=>
  intro x y h u hu;simp only[gg]at hu;rcases mC hu with rfl|hu
  ·exact h c (.head _) _ _
  ·exact ih (λc hc=>h c (.tail _ hc)) u hu
theorem fO:∀{t:Tr U} {x y:Int},(cH x y t).sk=t.sk:=by
 intro t
 induction t using bn with
 |step t ih=>
  intro x y;cases t with
  |leaf=>rfl
  |node a r w h x' y' cs=>simp only[dc,jB,lR];exact congrArg _ (eK (cs:=cs) λc hc x y=>ih c hc)
theorem cn {t:Tr U} {x y:Int}:(cH x y t).panes=t.panes:=by exact rwR hV (rwL fO (rwL hV rfl))
theorem y6:∀{t:Tr U} {x y:Int},t.ok->(cH x y t).ok:=by
 intro t
 induction t using bn with
 |step t ih=>
  intro x y;cases t with
  |leaf=>exact imp_self.mpr trivial
  |node a r w h x' y' cs=>
   simp only[dc,aH];rintro⟨h1,h2⟩;have:=congrArg List.length (eK (f:=sk) (r:=r) (cs:=cs) (x:=x) (y:=y) λc hc x y=>fO);simp only[length_map]at this;exact⟨by exact le_of_le_of_eq h1 (Eq.symm this),nq (P:=ok) λc hc x y=>ih c hc (h2 c hc)⟩
theorem vq:∀{t:Tr U} {x y:Int},t.geo->(cH x y t).geo:=by
 intro t
 induction t using bn with
 |step t ih=>
  intro x y;cases t with
  |leaf=>exact imp_self.mpr trivial
  |node a r w h x' y' cs=>
   simp only[dc,aR];rintro⟨h1,h2,h3⟩;have:=congrArg List.length (eK (f:=sk) (r:=r) (cs:=cs) (x:=x) (y:=y) λc hc x y=>fO);simp only[length_map]at this;apply⟨?_,?_,nq (P:=geo) λc hc x y=>ih c hc (h3 c hc)⟩
   ·apply rwL (eK λc hc x y=>ca) (rwL this ?_);obtain⟨⟩:=r<;>exact h1
   ·intro c hc;have:c.side (!r)∈cs.map (side (!r)):=by rw[<-eK λc hc x y=>ca];exact mR ⟨c,hc,rfl⟩
    apply ad (mP this) λv hv e=>?_;simp only[<-e,h2 v hv];(generalize r=r'z;obtain⟨⟩:=r'z)<;>rfl
noncomputable def subs (t:Tr U):List (Tr U):=fo (λa w h x y p=>[.leaf a w h x y p]) (λa r w h x y cs l=>.node a r w h x y cs::l) [] (λ_ _ a b=>a++b) t
noncomputable def nj (ts:List (Tr U)):List (Tr U):=fos (λa w h x y p=>[.leaf a w h x y p]) (λa r w h x y cs l=>.node a r w h x y cs::l) [] (λ_ _ a b=>a++b) ts
theorem zH {U:Type}:nj ([]:List (Tr U))=[]:=rfl
theorem rI {U:Type} {c:Tr U} {cs}:nj (c::cs)=subs c++nj cs:=rfl
theorem pE {U:Type} {a:U} {w h x_1 y q}:subs (leaf a w h x_1 y q)=[leaf a w h x_1 y q]:=rfl
theorem uU {U:Type} {a:U} {r w h x_1 y cs}:subs (node a r w h x_1 y cs)=node a r w h x_1 y cs::nj cs:=rfl
theorem rH:∀{cs:List (Tr U)},nj cs=cs.flatMap subs:=by
 intro cs
 induction cs with
 |nil=>
  rfl
 |cons c cs ih=>
  simp[rI,ih]
theorem uT {t:Tr U}:subs t=t::t.cs.flatMap subs:=by obtain⟨⟩:=t<;>simp[pE,uU,rH,Tr.cs]
def Bx (M:Int) (t:Tr U):Prop:=1<=t.w∧t.w<=M∧1<=t.h∧t.h<=M∧0<=t.x∧t.x<=M∧0<=t.y∧t.y<=M
def box (M:Int) (t:Tr U):Prop:=∀s∈subs t,Bx M s
theorem iE {M:Int} {t:Tr U}:box M t↔Bx M t∧∀c∈t.cs,box M c:=by
 unfold box;apply rwL uT ?_;constructor
 ·intro h;exact⟨h t (.head _),λc hc s hs=>h s (.tail _ (mG ⟨c,hc,hs⟩))⟩
 ·rintro⟨h1,h2⟩ s hs;rcases mc hs with rfl|hs
  ·exact h1
  ·apply ad (mF hs) λc hc hs=>?_;exact h2 c hc s hs
theorem dm {d:Bool}:∀{cs:List (Tr U)},(∀c∈cs,1<=c.side d)->(cs.length:Int)<=(cs.map (side d)).sum:=by
 intro cs
 induction cs with
 |nil=>
  intro _;simp
 |cons c cs ih=>
  intro h;have:=h c (.head _);have:=ih λc hc=>h c (.tail _ hc);simp only[length_cons,map_cons,sum_cons];lia
theorem cB:∀{t:Tr U},t.ok->t.geo->∀d,1<=t.side d:=by
 intro t
 induction t using bn with
 |step t ih=>
  intro ho hg d;cases t with
  |leaf a w' h' x' y' p=>simp only[jM]at ho;obtain⟨⟩:=d<;>simp only[side,w,h]<;>simp<;>lia
  |node a r w' h' x' y' cs=>
   simp only[aH]at ho;simp only[aR]at hg;by_cases hd:d=r
   ·subst hd;apply rwL hg.1 ?_;have:=dm (d:=d) (cs:=cs) λc hc=>ih c hc (ho.2 c hc) (hg.3 c hc) d;lia
   ·have hd':d = !r:=by revert hd;(generalize r=r'z;obtain⟨⟩:=r'z)<;>obtain⟨⟩:=d<;>simp
    subst hd';cases cs with
    |nil=>simp at ho
    |cons c cs=>
     apply rwR (hg.2 c (.head _)) ?_;exact ih c (.head _) (ho.2 c (.head _)) (hg.3 c (.head _)) _
theorem cY {t:Tr U}:t.w=t.side true:=rfl
theorem cZ {t:Tr U}:t.h=t.side false:=rfl
theorem vo {M:Int} {r:Bool} {X Y:Int}:∀{cs:List (Tr U)} {x y:Int},(∀c∈cs,∀x y,0<=x->0<=y->x+c.w<=M->y+c.h<=M->box M (cH x y c))->(∀c∈cs,1<=c.w∧1<=c.h)->0<=x->0<=y->
  (r=true->x+((cs.map (side r)).sum+cs.length)<=M+1∧∀c∈cs,y+c.h<=M)->(r=false->y+((cs.map (side r)).sum+cs.length)<=M+1∧∀c∈cs,x+c.w<=M)->∀c∈jJ r x y cs,box M c:=by
 intro cs
 induction cs with
 |nil=>
  intro _ _ _ _ _ _ _ _ c h;simp[m9]at h
 |cons c cs ih=>
  intro x y ib hp h1 h2 h3 h4 u hu;have hc:=hp c (.head _);have nn:0<=(cs.map (side r)).sum+cs.length:=by
   have:=dm (d:=r) (cs:=cs) λc hc=>by
    have:=hp c (.tail _ hc);(generalize r=r'z;obtain⟨⟩:=r'z)
    ·exact this.2
    ·exact this.1
   lia
  simp only[gg]at hu;cases r with
  |true=>
   apply af (h3 rfl) λk1 k2=>?_;simp only[map_cons,sum_cons,length_cons]at k1;simp only[cY]at hc;rcases mC hu with rfl|hu
   ·exact ib c (.head _) _ _ h1 h2 (by simp only[cY];exact yA k1 nn) (k2 c (.head _))
   ·simp only[if_true]at hu;apply ih (λc hc=>ib c (.tail _ hc)) (λc hc=>hp c (.tail _ hc)) (by simp only[cY];lia) h2 (λ_=>⟨by simp only[cY];exact yB k1,λc hc=>k2 c (.tail _ hc)⟩) (λz=>by ac_nf) u hu
  |false=>
   apply af (h4 rfl) λk1 k2=>?_;simp only[map_cons,sum_cons,length_cons]at k1;simp only[cZ]at hc;rcases mC hu with rfl|hu
   ·exact ib c (.head _) _ _ h1 h2 (k2 c (.head _)) (by simp only[cZ];exact yA k1 nn)
   ·simp only[false_eq_true,if_false]at hu;apply ih (λc hc=>ib c (.tail _ hc)) (λc hc=>hp c (.tail _ hc)) h1 (by simp only[cZ];lia) (λz=>by ac_nf) (λ_=>⟨by simp only[cZ];exact yB k1,λc hc=>k2 c (.tail _ hc)⟩) u hu
theorem nr {x y:Int} {t:Tr U}:(cH x y t).w=t.w:=ca (d:=true)
theorem nu {x y:Int} {t:Tr U}:(cH x y t).h=t.h:=ca (d:=false)
theorem pL {x y:Int} {t:Tr U}:(cH x y t).x=x:=by obtain⟨⟩:=t<;>simp[iK,dc,Tr.x]
theorem pK {x y:Int} {t:Tr U}:(cH x y t).y=y:=by obtain⟨⟩:=t<;>simp[iK,dc,Tr.y]
theorem vt {M:Int}:∀{t:Tr U} {x y:Int},t.ok->t.geo->0<=x->0<=y->x+t.w<=M->y+t.h<=M->box M (cH x y t):=by
 intro t
 induction t using bn with
 |step t ih=>
  intro x y ho hg hx hy hw hh;have p1:=cB ho hg true;have p2:=cB ho hg false;simp only[<-cY]at p1;simp only[<-cZ]at p2;rw[iE];apply⟨⟨by apply rwL nr ?_;exact p1,by apply rwL nr ?_;lia,by apply rwL nu ?_;exact p2,by apply rwL nu ?_;lia,by apply rwL pL ?_;exact hx,by apply rwL pL ?_;lia,by apply rwL pK ?_;exact hy,by apply rwL pK ?_;lia⟩,?_⟩;cases t with
  |leaf=>simp[iK,cs]
  |node a r w h x' y' cs=>
   simp only[aH]at ho;simp only[aR]at hg;simp only[dc,Tr.cs];apply vo (X:=0) (Y:=0) (λc hc x y=>ih c hc (ho.2 c hc) (hg.3 c hc)) (λc hc=>⟨cB (ho.2 c hc) (hg.3 c hc) true,cB (ho.2 c hc) (hg.3 c hc) false⟩) hx hy (λhr=>?_) (λhr=>?_)
   ·subst hr;have:=hg.1;simp only[<-cY]at this;apply⟨yC this hw,λc hc=>?_⟩;have:=hg.2 c hc;simp only[Bool.not_true,<-cZ,<-cZ]at this;exact le_of_eq_of_le (congrArg (HAdd.hAdd y) this) hh
   ·subst hr;have:=hg.1;simp only[<-cZ]at this;apply⟨yC this hh,λc hc=>?_⟩;have:=hg.2 c hc;simp only[Bool.not_false,<-cY,<-cY]at this;exact le_of_eq_of_le (congrArg (HAdd.hAdd x) this) hw
theorem fg:∀{t:Tr U},t.ok->t.dep<t.panes.length:=by
 intro t
 induction t using bn with
 |step t ih=>
  intro ho;cases t with
  |leaf=>exact le_refl _
  |node a r w h x y cs=>
   simp only[aH]at ho;simp only[az];simp only[fv];have:∀l:List (Tr U),(∀c∈l,c∈cs)->l.length<=(l.flatMap panes).length∧(l≠[]->fu l+l.length<=(l.flatMap panes).length):=by
    intro l
    induction l with
    |nil=>simp
    |cons c l ih2=>
     intro hl;have h1:=ih c (hl c (.head _)) (ho.2 c (hl c (.head _)));apply af (ih2 λc hc=>hl c (.tail _ hc)) λh2 h3=>?_;simp only[ft,length_cons,flatMap_cons,length_append];apply⟨le_trans (Nat.add_le_add h2 (Nat.zero_lt_of_lt h1)) (le_of_eq (Nat.add_comm _ _)),λ_=>?_⟩;cases l with
     |nil=>simp only[wG,length_nil];exact DA h1 (zero_le _) (zero_le _)
     |cons c' l'=>
      have:=h3 (λh=>nomatch h);exact DA h1 h2 (h3 (λz=>by ac_nf))
   have:=(this cs λ_ h=>h).2 (by rintro rfl;simp at ho);exact le_trans (Nat.add_le_add_left ho.1 _) this
theorem nL {t:Tr U} (ho:t.ok):t.panes.length=1↔t.isLeaf=true:=by
 cases t with
 |leaf=>simp[au,isLeaf]
 |node a r w h x y cs=>
  have:=fg ho;simp only[fv]at this;simp only[isLeaf];constructor
  ·intro h;lia
  ·intro h;ac_nf
theorem dy {t:Tr U}:t.panes.length=t.leaves.length:=by exact length_map ..
end Tr
end
section
namespace Tr
variable {U O:Type}
structure Sm (t:Tr U):Prop where
 ok:t.ok
 len:t.panes.length<=20
theorem qH {t c:Tr U} (h:c∈t.cs):c.panes.length<=t.panes.length:=by
 simp only[dy,dy];exact k7 h
theorem sQ {t c:Tr U} (h:c∈t.cs) (o:t.ok):c.ok:=by
 cases t with
 |leaf=>exact absurd h not_mem_nil
 |node=>(have o:=o;rewrite [aH]at o);exact o.2 c h
theorem Sm.kid {t c:Tr U} (s:Sm t) (h:c∈t.cs):Sm c:=⟨sQ h s.ok,le_trans (qH h) s.len⟩
theorem Sm.dep {t:Tr U} (s:Sm t):t.dep<20:=lt_of_lt_of_le (fg s.ok) s.len
theorem nO {cs:List (Tr U)} (h:∀c∈cs,c.ok):cs.length<=(cs.flatMap panes).length:=by
 induction cs with
 |nil=>exact le_refl _
 |cons c cs ih=>
  have:=fg (h c (.head _));have:=ih λc hc=>h c (.tail _ hc);simp only[length_cons,flatMap_cons,length_append];lia
theorem Sm.kids {t:Tr U} (s:Sm t):t.cs.length<=20:=by
 cases t with
 |leaf=>simp[cs]
 |node a r w h x y cs=>
  have:=s.len;rw[az]at this;exact le_trans (nO (aH.mp s.ok).2) this
noncomputable def re (b:O) (cs':List (Tr O)):Tr U->Tr O
 |.leaf _ w h x y p=>.leaf b w h x y p
 |.node _ r w h x y _=>.node b r w h x y cs'
theorem oG {b:O} {cs':List (Tr O)} {t:Tr U}:(re b cs' t).tag=b:=by obtain⟨⟩:=t<;>rfl
theorem vm {b:O} {cs':List (Tr O)} {t:Tr U}:(re b cs' t).kind=t.kind:=by obtain⟨⟩:=t<;>rfl
theorem C2 {b:O} {cs':List (Tr O)} {t:Tr U}:(re b cs' t).w=t.w:=by obtain⟨⟩:=t<;>rfl
theorem C3 {b:O} {cs':List (Tr O)} {t:Tr U}:(re b cs' t).h=t.h:=by obtain⟨⟩:=t<;>rfl
theorem C1 {b:O} {cs':List (Tr O)} {t:Tr U}:(re b cs' t).x=t.x:=by obtain⟨⟩:=t<;>rfl
theorem C0 {b:O} {cs':List (Tr O)} {t:Tr U}:(re b cs' t).y=t.y:=by obtain⟨⟩:=t<;>rfl
theorem A1 {b:O} {cs':List (Tr O)} {t:Tr U}:(re b cs' t).pv=t.pv:=by obtain⟨⟩:=t<;>rfl
theorem rX {b:O} {cs':List (Tr O)} {t:Tr U} (h:cs'.length=t.cs.length):(re b cs' t).cs=cs':=by
 cases t with
 |leaf=>simp only[cs,length_nil]at h;simp[re,cs,List.length_eq_zero_iff.mp h]
 |node=>rfl
theorem t7 {g:U->O} {t:Tr U}:(t.map g).kind=t.kind:=by obtain⟨⟩:=t<;>simp[gR,fT,kind]
theorem ii {g:U->O} {t:Tr U}:(t.map g).w=t.w:=by obtain⟨⟩:=t<;>simp[gR,fT,Tr.w]
theorem ik {g:U->O} {t:Tr U}:(t.map g).h=t.h:=by obtain⟨⟩:=t<;>simp[gR,fT,Tr.h]
theorem Ap {g:U->O} {t:Tr U}:(t.map g).x=t.x:=by obtain⟨⟩:=t<;>simp[gR,fT,Tr.x]
theorem Ao {g:U->O} {t:Tr U}:(t.map g).y=t.y:=by obtain⟨⟩:=t<;>simp[gR,fT,Tr.y]
theorem nH {g:U->O} {t:Tr U}:(t.map g).pane=t.pane:=by obtain⟨⟩:=t<;>simp[gR,fT,pane]
theorem eQ {g:U->O} {t:Tr U} {d:Bool}:(t.map g).side d=t.side d:=by obtain⟨⟩:=t<;>rfl
theorem t8 {g:U->O} {t:Tr U}:(t.map g).cs=t.cs.map (map g):=by obtain⟨⟩:=t<;>simp[gR,fT,Tr.cs,pW]
theorem jU {g:U->O} {a:U} {w h x y p}:map g (.leaf a w h x y p)=.leaf (g a) w h x y p:=rfl
theorem aZ {g:U->O} {a:U} {r w h x y} {cs:List (Tr U)}:map g (.node a r w h x y cs)=.node (g a) r w h x y (cs.map (map g)):=by simp[fT,pW]
theorem jT {g:U->O}:∀{t:Tr U},(t.map g).leaves=t.leaves.map (map g):=by
 intro t
 induction t using bn with
 |step t ih=>
  cases t with
  |leaf=>rfl
  |node a r w h x y cs=>
   simp only[aZ];simp only[cr,bN,flatMap_map,map_flatMap];have:∀l:List (Tr U),(∀c∈l,c∈cs)->l.flatMap (λc=>(map g c).leaves)=l.flatMap λc=>c.leaves.map (map g):=by
    intro l
    induction l with
    |nil=>intro _;rfl
    |cons c l ih2=>intro h;simp only[flatMap_cons];simp only[ih c (h c (.head _)),ih2 λc hc=>h c (.tail _ hc)]
   exact this cs λ_ h=>h
theorem gj {g:U->O} {t:Tr U}:(t.map g).panes=t.panes:=by
 simp only[panes,jT,map_map];exact map_congr_left λc _=>nH
theorem pX {g:U->O}:∀{t:Tr U},(t.map g).dep=t.dep:=by
 intro t
 induction t using bn with
 |step t ih=>
  cases t with
  |leaf=>rfl
  |node a r w h x y cs=>
   apply rwL aZ ?_;simp only[fv];have:∀l:List (Tr U),(∀c∈l,c∈cs)->fu (l.map (map g))=fu l:=by
    intro l
    induction l with
    |nil=>intro _;rfl
    |cons c l ih2=>intro h;simp only[map_cons,ft];simp only[ih c (h c (.head _)),ih2 λc hc=>h c (.tail _ hc)]
   exact congrArg _ (this cs λ_ h=>h)
theorem mr {g:U->O}:∀{t:Tr U},(t.map g).ok↔t.ok:=by
 intro t
 induction t using bn with
 |step t ih=>
  cases t with
  |leaf=>rfl
  |node a r w h x y cs=>
   simp only[aZ,aH,aH,length_map];simp only[mem_map,forall_exists_index,and_imp,forall_apply_eq_imp_iff₂];exact and_congr_right λ_=>⟨λk c hc=>(ih c hc).mp (k c hc),λk c hc=>(ih c hc).mpr (k c hc)⟩
theorem jS {g:U->O} {d:Bool}:∀{t:Tr U},(t.map g).room d=t.room d:=by
 intro t
 induction t using bn with
 |step t ih=>
  cases t with
  |leaf=>rfl
  |node a r w h x y cs=>
   simp only[aZ,aI,aI,map_map];exact rwL (map_congr_left (l:=cs) (f:=room d ∘ map g) (g:=room d) λc hc=>ih c hc) rfl
theorem yv {g:U->O} {t:Tr U}:Sm (t.map g)↔Sm t:=⟨λh=>⟨mr.mp h.ok,by have:=h.len;rwa [gj]at this⟩,λh=>⟨mr.mpr h.ok,by exact rwL gj h.len⟩⟩
end Tr
theorem AL {b:Addr × Addr} {cs':List L} {t:L} (h:cs'.map er=t.cs.map er):er (Tr.re b cs' t)=er t:=by
 cases t with
 |leaf=>rfl
 |node a r w x y z cs=>
  have:∀(a:Addr × Addr) (cs:List L),er (.node a r w x y z cs)=.node () r w x y z (cs.map er):=λa cs=>Tr.aZ;simp only[Tr.re];simp only[this,h];rfl
theorem iA {a:Addr × Addr} {r w h x y} {cs:List L}:er (.node a r w h x y cs)=.node () r w h x y (cs.map er):=Tr.aZ
theorem aL {t:L}:(er t).Sm↔t.Sm:=Tr.yv
theorem pF {t t':L} (h:er t'=er t) (s:t.Sm):t'.Sm:=aL.mp (h▸aL.mpr s)
theorem sn {t t':L} (h:er t'=er t):t'.panes=t.panes:=by
 have:(er t').panes=(er t).panes:=by exact congrArg _ h
 simpa[er,Tr.gj]using this
theorem bD {n:Nat} (h:n<=20):n<=cap:=by unfold cap;exact le_trans h (by decide)
theorem uA {b:Addr × Addr} {cs':List L} {t:L} (h:cs'.length=t.cs.length):ads (Tr.re b cs' t)=b.1::b.2::cs'.flatMap ads:=by
 simp only[bj,Tr.oG,Tr.rX h]
theorem Am {f:Bool} {H:AH} {b:Addr × Addr} {cs':List L} {t:L} (h:cs'.length=t.cs.length) (e:∃dx,H b.1=some (f,.inst 45 dx (cw t.kind t.w t.h t.x t.y b.2 t.pv))) (l:H b.2=some (f,.list (cs'.map rf))):Nd f H (Tr.re b cs' t):=by
 unfold Nd;simp only[Tr.oG,Tr.vm,Tr.C2,Tr.C3,Tr.C1,Tr.C0,Tr.A1,Tr.rX h];exact⟨e,l⟩
section
variable {W:Wd} {m:Nat} {H:AH} {Q:AV->AH->Prop}
def Nw (H:AH) (as:List Addr):Prop:=∀a∈as,∀f o,no o->H a≠some (f,o)
theorem Nw.sb {H H':AH} {as:List Addr} (k:Sb H H') (h:Nw H' as):Nw H as:=λa ha f o n e=>h a ha f o n (k a f o n e not_mem_nil)
theorem Nw.of_none {H:AH} {as:List Addr} (h:∀a∈as,H a=none):Nw H as:=λa ha f o _ e=>by rw[h a ha]at e;exact nS e
theorem Nw.append {H:AH} {as bs:List Addr} (h:Nw H as) (k:Nw H bs):Nw H (as++bs):=λa ha=>by
 apply(mA ha).elim (λq=>?_) λq=>?_
 ·exact h a q
 ·exact k a q
theorem Nw.cons {H:AH} {a:Addr} {bs:List Addr} (h:H a=none) (k:Nw H bs):Nw H (a::bs):=λb hb=>by
 rcases mC hb with rfl|q
 ·exact λf o _ e=>by rw[h]at e;exact nS e
 ·exact k b q
theorem Nw.nil {H:AH}:Nw H []:=λ_ h=>by simp at h
theorem BL (G:GD W):∀{t:L} {f:Bool} {m:Nat} {H:AH} {Q:AV->AH->Prop},t.dep+3<=m->LR f H t->t.Sm->(∀t' H',Sb H H'->LR false H' t'->er t'=er t->Nw H (ads t')->(ads t').Nodup->Q (.ref t'.tag.1) H')->a7 W 61 [.ref t.tag.1] m H Q:=by
 intro t
 induction t using Tr.bn with
 |step t ih=>
  intro f m H Q hm ht hs q;apply af ht.nd λz1z el=>?_;(apply a8 z1z λdx e=>?_;clear z1z);apply bZ G rfl hm rfl λn hn=>?_
  walk_at "wp"
  apply rwL (gl e) ?_;apply cQ (g:=rf) (cs:=t.cs) (bD hs.kids) (λpre out H'=>∃cs':List L,out=cs'.map rf∧cs'.map er=pre.map er∧Sb H H'∧(∀c∈cs',LR false H' c)∧Nw H (cs'.flatMap ads)∧(cs'.flatMap ads).Nodup)
   ⟨[],rfl,rfl,.refl,by simp,.nil,by simp⟩ ?_ ?_ ?_
  ·rintro pre out H' ⟨cs',rfl,h1,h2,_⟩;have:=congrArg List.length h1;simp only[length_map]at this;exact⟨⟨f,h2.list el⟩,by simp only[length_map,this];exact le_refl _⟩
  ·rintro pre u suf out H' hcs ⟨cs',rfl,h1,h2,h3,h4,h5⟩;have hu:u∈t.cs:=by exact rwL hcs (mem_append_right _ (.head _))
   walk_at "wp"
   apply ih u hu (by have:=Tr.cF hu;lia) ((ht.kid hu).sb h2) (hs.kid hu) λu' H'' k1 k2 k3 k4 k5=>?_;apply⟨cs'++[u'],by simp[rf],by simp[h1,k3],h2.trans k1,λc hc=>?_,?_,?_⟩
   ·apply(mA hc).elim (λhc=>?_) λhc=>?_
    ·exact(h3 c hc).sb k1
    ·exact rwL (mS hc) k2
   ·apply rwL flatMap_append ?_;exact h4.append (by simpa using k4.sb h2)
   ·rewrite [flatMap_append,nodup_append]
    apply⟨h5,by simpa using k5,λa ha b hb=>?_⟩;rintro rfl;apply ad (mF ha) λc hc hac=>?_;apply de ((h3 c hc).some a hac) λo e1 n1 _=>?_;exact k4 a (by simpa using hb) _ o n1 e1
  ·rintro out H' ⟨cs',rfl,h1,h2,h3,h4,h5⟩ r hr;have k1:Sb H' (H'.set r (.list (cs'.map rf))):=.new hr;have e1:=k1.inst (h2.inst e);have hl:=congrArg List.length h1;simp only[length_map]at hl;simp only[gk e1,gw e1,gh e1,gx e1,gy e1,gp e1];apply jj G (ay hn rfl) λa H'' ha k2 e2=>?_;have er':H'' r=some (false,.list (cs'.map rf)):=k2.list (AH.EP _ _ _);have hra:r≠a:=λz=>by simp only[<-z,AH.EP]at ha;exact sN ha
   have haH:H' a=none:=by have ha:=(AH.EQ _ _ (Ne.symm hra))▸ha;exact ha
   have:=q (Tr.re (a,r) cs' t) H'' (h2.trans (k1.trans k2)) (bz.mpr ⟨Am hl e2 er',λc hc=>by
    rw[Tr.rX hl]at hc;exact((h3 c hc).sb k1).sb k2⟩) (AL h1) (by
     apply rwL (uA hl) ?_;exact(Nw.of_none (H:=H') (as:=[a,r]) (by simp[haH,hr])).sb h2 |>.append h4) (by
     rw[uA hl,nodup_cons,nodup_cons];have nn:∀b,H' b=none->b∉cs'.flatMap ads:=λb hb hm=>by
      apply ad (mF hm) λc hc hbc=>?_;obtain⟨o,e3,_⟩:=(h3 c hc).some b hbc;simp only[hb]at e3;exact nS e3
     apply⟨λhm=>?_,nn r hr,h5⟩;apply(mC hm).elim (λz=>?_) λhm=>?_
     ·exact hra z.symm
     ·exact nn a haH hm)
   rw[Tr.oG]at this;exact this
theorem LR.leaf {f:Bool} {u:L}:∀{t:L},LR f H t->u∈t.leaves->E5 λa w h x y=>∃ p, u=.leaf a w h x y p∧LR f H u:=by
 intro t
 induction t using Tr.bn with
 |step t ih=>
  intro ht hu;cases t with
  |leaf a w h x y p=>simp only[Tr.lv,mem_singleton]at hu;exact⟨a,w,h,x,y,p,hu,hu▸ht⟩
  |node a r w h x y cs=>
   simp only[Tr.cr,Tr.bN,mem_flatMap]at hu;apply ad hu λc hc hu=>?_;exact ih c hc (ht.kid hc) hu
theorem dY {as:List Addr} {H H':AH} (k:Sb H H') (h:Nw H as):Sb H (fz as H'):=λa f o n e _=>
 gX n (k a f o n e (by assumption)) λz=>h a z f o n e
theorem z9 (G:GD W) {t:L} {f:Bool} (hm:t.dep+1<=m) (ht:LR f H t) (hs:t.Sm) (q:∀r H',Sb H H'->H' r=some (true,.list (t.leaves.map rf))->Q (.ref r) H'):a7 W 68 [.ref t.tag.1] m H Q:=by
 have hl:t.leaves.length<=20:=by have:=hs.len;rwa [Tr.dy]at this
 apply a7.fz (Eb G hm ht (bD hl) λr H' hr k el=>⟨[r],q r _ (dY k (.of_none (by simp[hr]))) (ir aw el (.head _))⟩)
theorem kx (G:GD W) {t:L} {f:Bool} (hm:t.dep+2<=m) (ht:LR f H t) (hs:t.Sm) (q:∀r H',Sb H H'->H' r=some (true,.list (t.panes.map .int))->Q (.ref r) H'):a7 W 73 [.ref t.tag.1] m H Q:=by
 apply a7.fz (bZ G rfl hm rfl λn hn=>?_);ext;have hl:t.leaves.length<=20:=by have:=hs.len;rwa [Tr.dy]at this
 apply Eb G hn ht (bD hl) λr H' hr k el=>?_;apply cQ (g:=rf) (cs:=t.leaves) (bD hl) (λpre out H''=>H''=H'∧out=pre.map λc=>.int c.pane) ⟨rfl,rfl⟩ ?_ ?_ ?_
 ·rintro pre out H'' ⟨rfl,rfl⟩;exact⟨⟨_,el⟩,by simp⟩
 ·rintro pre u suf out H'' hcs ⟨rfl,rfl⟩;ext;have hu:u∈t.leaves:=by exact rwL hcs (mem_append_right _ (.head _))
  apply vS ((ht.sb k).leaf hu) λa w h x y z1z=>?_;obtain⟨p,rfl,hL⟩:=z1z;apply af hL.nd λz1z _=>?_;(apply a8 z1z λdx e=>?_;clear z1z);simp only[rf];apply DI e ?_;simp[Tr.pane,Tr.pv]
 ·rintro out H'' ⟨rfl,rfl⟩ r' hr';exact⟨[r'],q r' _ (dY (k.trans (Sb.new hr')) (Nw.sb k (.of_none (by simp[hr'])))) (ir aw (by simp only[AH.EP];simp[Tr.panes];rfl) (.head _))⟩
end
end
section
namespace Tr
variable {U O:Type}
theorem r9 {p:Int} {a:U} {r:Bool} {w h x y:Int} {c:Tr U} {t:List (Tr U)} {C:List (Fm U)} {l:Tr U} (e:find p c=some (C,l)):∀{s pre:List (Tr U)},(∀u∈s,find p u=none)->gI p a r w h x y pre (s++c::t)=some (⟨a,r,w,h,x,y,pre++s,t⟩::C,l):=by
 intro s
 induction s with
 |nil=>
  intro pre _;simp[ix,e]
 |cons u s ih=>
  intro pre hs;simp only[cons_append,ix,hs u (.head _)];apply rwL (ih λv hv=>hs v (.tail _ hv)) ?_;simp
theorem rc {p:Int} {a:U} {r:Bool} {w h x y:Int} {c:Tr U} {s t cs:List (Tr U)} {C:List (Fm U)} {l:Tr U} (hc:cs=s++c::t) (hs:∀u∈s,find p u=none) (e:find p c=some (C,l)) :
  find p (.node a r w h x y cs)=some (⟨a,r,w,h,x,y,s,t⟩::C,l):=by
 subst hc;apply rwL iy (rwL (r9 e hs) ?_);simp
theorem oZ {p:Int} {a:U} {r:Bool} {w h x y:Int} {cs:List (Tr U)} (hs:∀u∈cs,find p u=none):find p (.node a r w h x y cs)=none:=by
 rewrite [iO,az]
 simp only[mem_flatMap,not_exists,not_and];exact λc hc=>iO.mp (hs c hc)
theorem se:∀{C:List (Fm U)} {l:Tr U},C.length+l.dep<=(aa C l).dep:=by
 intro C
 induction C with
 |nil=>
  intro l;simp[gf]
 |cons F C ih=>
  intro l;have h1:=ih (l:=l);have h2:=cF (t:=fill F (aa C l)) (c:=aa C l) (mem_append_right _ (.head _));simp only[bS,length_cons];lia
theorem ko {p:Int} {t:Tr U} {C:List (Fm U)} {l:Tr U} (e:find p t=some (C,l)):C.length<=t.dep:=by
 apply rwL ((dA e).1) ?_;have:=se (C:=C) (l:=l);exact Nat.le_of_add_right_le this
theorem oy {t t':Tr U} (h:t'.sk=t.sk):t'.tag=t.tag:=by exact rwR lS (rwL h (rwL lS rfl))
theorem q8 {t t':Tr U} (h:t'.sk=t.sk):t'.kind=t.kind:=by exact rwR pG (rwL h (rwL pG rfl))
theorem tU {t t':Tr U} (h:t'.sk=t.sk):t'.dep=t.dep:=by exact rwR lU (rwL h (rwL lU rfl))
theorem jL {t t':Tr U} (h:t'.sk=t.sk):t'.panes=t.panes:=by exact rwR hV (rwL h (rwL hV rfl))
theorem rO {t t':Tr U} (h:t'.sk=t.sk) (o:t'.ok) (s:t.Sm):t'.Sm:=⟨o,by exact rwL (jL h) s.len⟩
end Tr
theorem uz:∀{t:L},ads t.sk=ads t:=by
 intro t
 induction t using Tr.bn with
 |step t ih=>
  simp only[bj,bj,Tr.lS,Tr.zL];have:∀l:List L,(∀c∈l,c∈t.cs)->(l.map Tr.sk).flatMap ads=l.flatMap ads:=by
   intro l
   induction l with
   |nil=>intro _;rfl
   |cons c l ih2=>intro h;simp only[map_cons,flatMap_cons];simp only[ih c (h c (.head _)),ih2 λc hc=>h c (.tail _ hc)]
  exact rwL (this t.cs λ_ h=>h) rfl
theorem cu {t t':L} (h:t'.sk=t.sk):ads t'=ads t:=by exact rwR uz (rwL h (rwL uz rfl))
theorem gZ:∀{cs cs':List L},cs'.map Tr.sk=cs.map Tr.sk->cs'.flatMap ads=cs.flatMap ads:=by
 intro cs
 induction cs with
 |nil=>
  intro v1;cases v1 with
  |nil=>
   intro _;exact rfl
  |cons _ _=>
   intro h;ac_nf
 |cons c cs ih=>
  intro v1;cases v1 with
  |nil=>
   intro h;ac_nf
  |cons c' cs'=>
   intro h;simp only[map_cons,List.cons.injEq]at h;simp only[flatMap_cons];simp only[cu h.1,ih h.2]
theorem jE {cs cs':List L} (h:cs'.map Tr.sk=cs.map Tr.sk):cs'.map rf=cs.map rf:=by
 have:∀l:List L,l.map rf=(l.map Tr.sk).map rf:=λl=>by
  simp only[map_map];exact map_congr_left λc _=>by simp only[Function.comp,rf,Tr.lS]
 rw[this,h,<-this]
section
variable {W:Wd} {m:Nat} {H:AH} {Q:AV->AH->Prop}
theorem Ea (G:GD W) {p:Int}:∀{t:L} {f:Bool} {m:Nat} {H:AH} {Q:AV->AH->Prop},t.dep+1<=m->LR f H t->t.Sm->(t.find p=none->∀H',Sb H H'->Q .none H')->
  (∀C l,t.find p=some (C,l)->∀r H',Sb H H'->H' r=some (true,.list ((C.map λF=>.ref F.a.1)++[rf l]))->Q (.ref r) H')->a7 W 80 [.ref t.tag.1,.int p] m H Q:=by
 intro t
 induction t using Tr.bn with
 |step t ih=>
  intro f m H Q hm ht hs q0 q1;apply af ht.nd λz1z el=>?_;(apply a8 z1z λdx e=>?_;clear z1z);apply a7.fz (bZ G rfl hm rfl λn hn=>?_)
  walk_at "wp"
  apply rwL (gk e) (rwL (gl e) (rwL (gp e) ?_));cases t with
  |leaf a w h x y p'=>
   apply⟨λ_=>⟨λhp=>⟨by decide,λr hr=>⟨[r],q1 [] (.leaf a w h x y p') ?_ r _ (dY (.new hr) (.of_none (by simp[hr]))) (ir aw (AH.EP _ _ _) (.head _))⟩⟩,λhp=>⟨[],q0 ?_ _ (dY .refl .nil)⟩⟩,λhk=>absurd rfl (of_decide_eq_false hk)⟩
   ·simp[Tr.iz,beq_iff_eq.mp hp]
   ·simp[Tr.iz];exact λz=>by simp[z]at hp
  |node a k w h x y cs=>
   apply⟨λhk=>absurd (of_decide_eq_true hk) (ka k),λ_=>?_⟩;apply cC (g:=rf) (cs:=cs) (λpre Z H'=>Z.lookup 25=some (.ref a.1)∧Z.lookup 6=some (.int p)∧Sb H H'∧∀c∈pre,Tr.find p c=none) ⟨rfl,rfl,.refl,by exact λz hz=>nomatch hz⟩ (λpre Z H' hJ=>⟨f,hJ.3.list el⟩) ?_ ?_
   ·rintro pre u suf Z H' hcs ⟨h1,h2,h3,h4⟩;have hu:u∈(Tr.node a k w h x y cs).cs:=by exact rwL hcs (mem_append_right _ (.head _))
    walk_at "wp"
    simp only[h1,h2,cz];apply ih u hu (by have:=Tr.cF hu;exact le_trans this hn) ((ht.kid hu).sb h3) (hs.kid hu) (λhf H'' k1=>?_) λC l hf r H'' k1 k2=>?_
    ·apply yr rfl trivial ⟨trivial,trivial,h3.trans k1,λc hc=>?_⟩;apply(mA hc).elim (λhc=>?_) λhc=>?_
     ·exact h4 c hc
     ·exact rwL (mS hc) hf
    ·apply Ah rfl trivial ⟨by decide,λr' hr'=>⟨_,_,_,_,AH.EP _ _ _,(AH.EQ _ _ (ak hr' k2)).trans k2,?_,λr2 hr2=>⟨[r2],?_⟩⟩⟩
     ·have:=Tr.ko hf;have:=(hs.kid hu).dep;simp only[length_append,length_map,length_cons,length_nil];unfold cap;lia
     ·apply q1 _ _ (Tr.rc hcs h4 hf) r2 _ (dY ((h3.trans k1).trans ((Sb.new hr').trans (Sb.new hr2))) ?_) (ir aw (by simp only[AH.EP];simp;rfl) (.head _));exact Nw.sb ((h3.trans k1).trans (Sb.new (o:=.list [.ref a.1]) hr')) (.of_none (by simp[hr2]))
   ·rintro Z H' ⟨h1,h2,h3,h4⟩;exact⟨[],q0 (Tr.oZ h4) _ (dY h3 .nil)⟩
theorem tK {U:Type} {W:Wd} {n:Nat} {Z:am} {H:AH} {QS:am->AH->Prop} {R:AV->AH->Prop} {x z:Nat} {b:List CS} {l:Addr} {g:U->AV} {cs:List U} (J:List U->am->AH->Prop) (h0:J [] Z H) (hl:∀pre Z H,J pre Z H->∃f,H l=some (f,.list (cs.map g)))
  (step:∀pre u suf Z H,cs=pre++u::suf->J pre Z H->cG W n b (put (put Z x (.int (Int.ofNat pre.length))) z (g u)) H (J (pre++[u])) R) (fin:∀Z H,J cs Z H->QS Z H):qp W n [x,z] b Z (.enum (.ref l)) H QS R:=by
 apply⟨trivial,λi Z H=>J (cs.take i) Z H∧i<=cs.length,cs.length,⟨by simpa using h0,zero_le _⟩,λi Z H hI=>?_⟩;apply af hI λhJ hi=>?_;clear hI;apply a8 (hl _ _ _ hJ) λf e=>?_;apply⟨hi,(cs[i]?).map λu=>.tup [.int (Int.ofNat i),g u],(congrArg (Option.map _) (gA e)).trans (congrArg some ((congrArg (Option.map _) getElem?_map).trans (Option.map_map _ _ _))),?_⟩;cases hu:cs[i]? with
 |none=>
  have:i=cs.length:=le_antisymm hi (by simpa using hu);simp only[this,take_length]at hJ;exact fin Z H hJ
 |some u=>
  have hlt:i<cs.length:=(mE hu).1;have hd:cs=cs.take i++u::cs.drop (i+1):=by
   have:=mE hu;simp only[<-this.2,getElem_cons_drop,take_append_drop]
  have ht:cs.take (i+1)=cs.take i++[u]:=by simp only[take_add_one,hu];rfl
  have:=step _ _ _ Z H hd hJ;simp only[length_take,Nat.min_eq_left hi]at this;have e2:(λZ H=>J (cs.take (i+1)) Z H∧i+1<=cs.length)=J (cs.take i++[u]):=by
   funext Z H;simp only[ht];exact propext ⟨λh=>h.1,λh=>⟨h,hlt⟩⟩
  apply⟨_,_,rfl,rfl,?_⟩;show cG W n b _ H (λZ H=>J (cs.take (i+1)) Z H∧i+1<=cs.length) R;simp only[e2];exact this
theorem ze (G:GD W) {l:Addr} {f:Bool} {s t:List L} {c:L} (hm:1<=m) (el:H l=some (f,.list ((s++c::t).map rf))) (ha:∀u∈s++c::t,∃p,H u.tag.1=some p∧p.2≠.opq) (hn:∀u∈s,u.tag.1≠c.tag.1) (q:Q (.int s.length) H) :
  a7 W 108 [.ref l,.ref c.tag.1] m H Q:=by
 apply bZ G rfl hm rfl λn _=>?_
 walk_at "wp"
 apply tK (g:=rf) (cs:=s++c::t) (λpre Z H'=>H'=H∧Z.lookup 25=some (.ref c.tag.1)∧pre.length<=s.length) ⟨rfl,rfl,zero_le _⟩ (λpre Z H' hJ=>⟨f,by exact rwL hJ.1 el⟩) ?_ ?_
 ·rintro pre u suf Z H' hcs ⟨rfl,h2,h3⟩
  walk_at "wp"
  simp only[h2,cz];have hu:u∈s++c::t:=by exact rwL hcs (mem_append_right _ (.head _))
  apply ad (ha u hu) λp1 a1 a2=>?_;apply ad (ha c (by exact mem_append_right _ (.head _))) λp2 a3 _=>?_;have hi:(s++c::t)[pre.length]?=some u:=by apply rwL hcs ?_;simp
  apply⟨decide (u.tag.1=c.tag.1),rfl,⟨⟨p1,a1,a2⟩,p2,a3⟩,λhd=>?_,λhd=>⟨trivial,trivial,?_⟩⟩
  ·have hl:pre.length=s.length:=by
    apply(lt_or_ge pre.length s.length).elim (λhlt=>?_) λhge=>?_
    ·rw[getElem?_append_left hlt]at hi;exact absurd (of_decide_eq_true hd) (hn u (mem_of_getElem? hi))
    ·exact le_antisymm h3 hge
   exact hl▸q
  ·simp only[length_append,length_singleton];apply(lt_or_ge pre.length s.length).elim (λhlt=>?_) λhge=>?_
   ·assumption
   ·have:pre.length=s.length:=by exact le_antisymm h3 hge
    rw[this,List.getElem?_append_right (le_refl _)]at hi;simp at hi;exact absurd (hi▸rfl) (of_decide_eq_false hd)
 ·rintro Z H' ⟨rfl,h2,h3⟩;simp at h3;lia
theorem Bf (G:GD W) {d:Bool}:∀{t:L} {f:Bool} {m:Nat} {H:AH} {Q:AV->AH->Prop},t.dep+2<=m->LR f H t->t.Sm->(∀H',Sb H H'->Q (.int (t.room d)) H')->a7 W 113 [.ref t.tag.1,.bool d] m H Q:=by
 intro t
 induction t using Tr.bn with
 |step t ih=>
  intro f m H Q hm ht hs q;apply af ht.nd λz1z el=>?_;(apply a8 z1z λdx e=>?_;clear z1z);apply bZ G rfl hm rfl λn hn=>?_
  walk_at "wp"
  apply rwL (gk e) (rwL (gl e) ?_);cases t with
  |leaf a w h x y p'=>
   apply⟨λ_=>zD G (by assumption) ht.nd ?_,λhk=>absurd rfl (of_decide_eq_false hk)⟩;have:=q H .refl;simp only[Tr.jf]at this;obtain⟨⟩:=d<;>exact this
  |node a k w h x y cs=>
   apply⟨λhk=>absurd (of_decide_eq_true hk) (ka k),λ_=>?_⟩;apply cQ (g:=rf) (cs:=cs) (bD hs.kids) (λpre out H'=>out=pre.map (λc=>.int (c.room d))∧Sb H H') ⟨rfl,.refl⟩ ?_ ?_ ?_
   ·rintro pre out H' ⟨rfl,h1⟩;exact⟨⟨f,h1.list el⟩,by simp⟩
   ·rintro pre u suf out H' hcs ⟨rfl,h1⟩;have hu:u∈(Tr.node a k w h x y cs).cs:=by exact rwL hcs (mem_append_right _ (.head _))
    walk_at "wp"
    exact ih u hu (by have:=Tr.cF hu;exact lt_of_le_of_lt this hn) ((ht.kid hu).sb h1) (hs.kid hu) λH'' k1=>⟨by simp,h1.trans k1⟩
   ·rintro out H' ⟨rfl,h1⟩ r hr;have k1:Sb H' (H'.set r (.list (cs.map λc=>.int (c.room d)))):=.new hr;apply rwL (gk (k1.inst (h1.inst e))) ?_;apply B0 G (ay hn rfl) ⟨λhk=>?_,λhk=>?_⟩
    ·have hk:=of_decide_eq_true hk;have hkd:k=d:=by revert hk;(generalize k=k'z;obtain⟨⟩:=k'z)<;>(generalize d=d'z;obtain⟨⟩:=d'z)<;>simp[kd,Tr.kind]<;>decide
     apply⟨false,cs.map (Tr.room d),by simp only[AH.EP];simp,?_⟩;have:=q _ (h1.trans k1);simp only[Tr.aI,if_pos hkd]at this;exact this
    ·have hk:=of_decide_eq_false hk;have hkd:k≠d:=λz=>hk (by apply rwL z ?_;rfl);apply⟨false,cs.map (Tr.room d),by simp only[AH.EP];simp,?_,λM h1' h2'=>?_⟩
     ·have:=(Tr.aH.mp hs.ok).1;intro z;simp only[List.map_eq_nil_iff.mp z]at this;ac_nf
     ·have:=q _ (h1.trans k1);simp only[Tr.aI,if_neg hkd,<-pZ h1' h2']at this;exact this
end
end
section
namespace Tr
variable {U O:Type}
end Tr
theorem wX {x y:Int} {t:L}:ads (Tr.cH x y t)=ads t:=cu Tr.fO
theorem xZ {x y:Int} {t:L}:rf (Tr.cH x y t)=rf t:=by simp[rf,Tr.cN]
theorem bo {as bs:List Addr} (h:(as++bs).Nodup) {a:Addr} (ha:a∈as):a∉bs:=λhb=>(nodup_append.mp h).2.2 a ha a hb rfl
section
variable {W:Wd} {m:Nat} {H:AH} {Q:AV->AH->Prop}
theorem D8 (G:GD W):∀{t:L} {x y:Int} {m:Nat} {H:AH} {Q:AV->AH->Prop},t.dep+1<=m->LR false H t->(ads t).Nodup->(∀H',Ex (ads t) H H'->LR false H' (Tr.cH x y t)->Q (.ref t.tag.1) H')->a7 W 127 [.ref t.tag.1,.int x,.int y] m H Q:=by
 intro t
 induction t using Tr.bn with
 |step t ih=>
  intro x y m H Q hm ht hn q;apply af ht.nd λz1z el=>?_;(apply a8 z1z λdx e=>?_;clear z1z);have hal:t.tag.2≠t.tag.1:=λz=>by(have el:=el;rw[z,e]at el);simp at el
  simp only[bj,nodup_cons,nodup_cons]at hn;apply af hn λn1 z1z=>af z1z λn2 n3=>?_;clear hn z1z;have m1:t.tag.1∉t.cs.flatMap ads:=λz=>n1 (.tail _ z);apply bZ G rfl hm rfl λn hn'=>?_;ext;apply⟨by decide,?_⟩;apply rwL (px e) ?_;ext;rw[py (AH.EP _ _ _),AH.set_set];ext;apply rwL (gl (AH.EP _ _ _)) ?_;apply cC (g:=rf) (cs:=t.cs) (λpre Z H'=>E5 λx' y' dn suf k=>t.cs=pre++suf∧Z.lookup 25=some (.ref t.tag.1)∧Z.lookup 3=some (.int x')∧Z.lookup 4=some (.int y') ∧
    (t.kind=kd k->Tr.jJ k x y t.cs=dn++Tr.jJ k x' y' suf)∧dn.map Tr.sk=pre.map Tr.sk∧Ex (ads t) H H'∧(∃dx,H' t.tag.1=some (false,.inst 45 dx (cw t.kind t.w t.h x y t.tag.2 t.pv)))∧H' t.tag.2=some (false,.list (t.cs.map rf))∧(∀c∈dn,LR false H' c)∧(∀c∈suf,LR false H' c)∧(∀k',t.kind=kd k'->k'=k))
   ?_ (λpre Z H' z=>Dt z λ_ _ _ _ _ _ _ _ _ _ z=>jO z λ_ _ _ h _ _=>⟨_,h⟩) ?_ ?_
  ·apply a8 ((show ∃k,∀k',t.kind=kd k'->k'=k from by
    cases t with
    |leaf=>exact⟨true,λk' h=>absurd h.symm (ka k')⟩
    |node a r=>exact⟨r,λk' h=>by revert h;(generalize r=r'z;obtain⟨⟩:=r'z)<;>obtain⟨⟩:=k'<;>simp[Tr.kind,kd]<;>decide⟩)) λk hk=>?_
   have k1:Ex (ads t) H (H.set t.tag.1 (.inst 45 dx (cw t.kind t.w t.h x y t.tag.2 t.pv))):=Ex.put.mono λa ha=>by simp only[mS ha];exact aO t
   apply⟨x,y,[],t.cs,k,rfl,rfl,rfl,rfl,λ_=>rfl,rfl,k1,⟨dx,AH.EP _ _ _⟩,(AH.EQ _ _ hal).trans el,by simp,λc hc=>(ht.kid hc).ex Ex.put λa ha hz=>?_,hk⟩;simp only[mS hz]at ha;exact m1 (mG ⟨c,hc,ha⟩)
  ·rintro pre u suf' Z H' hcs ⟨x',y',dn,suf,k,h0,h1,h2,h3,h4,h5,h6,⟨dx',h7⟩,h8,h9,h10,h11⟩;have hsuf:suf=u::suf':=append_cancel_left (h0.symm.trans hcs);subst hsuf;have hu:u∈t.cs:=by exact rwL h0 (mem_append_right _ (.head _))
   simp only[h0,flatMap_append,flatMap_cons]at n3 m1;have n4:=(nodup_append.mp n3).2.1;apply cI (eZ.put (.cons h1 (.cons h2 (.cons h3 .nil)))) ?_;dsimp only[rf];ext;apply ih u hu (by have:=Tr.cF hu;exact le_trans this hn') (h10 u (.head _)) (nodup_append.mp n4).1 λH'' k1 k2=>?_<;>ext;have m2:t.tag.1∉ads u:=λz=>m1 (mem_append_right _ (mem_append_left _ z));have m3:t.tag.2∉ads u:=λz=>n2 (mG ⟨u,hu,z⟩);have e7:=k1.inst h7 m2;have e8:=k1.list h8 m3;have k3:Ex (ads t) H H'':=h6.trans (k1.mono λa ha=>mz hu ha);have hd:∀c∈dn,LR false H'' c:=λc hc=>(h9 c hc).ex k1 λa ha hz=>by
    have:a∈pre.flatMap ads:=by exact rwR (gZ h5) (mG ⟨c,hc,ha⟩)
    exact bo n3 this (mem_append_left _ hz)
   have hs:∀c∈suf',LR false H'' c:=λc hc=>(h10 c (.tail _ hc)).ex k1 λa ha hz=>bo n4 hz (mG ⟨c,hc,ha⟩);have hw:∃dx,H'' u.tag.1=some (false,.inst 45 dx (cw u.kind u.w u.h x' y' u.tag.2 u.pv)):=by
    apply af k2.nd λz1z _=>?_;(apply a8 z1z λdx2 e2=>?_;clear z1z);simp only[Tr.cN,Tr.nr,Tr.nu,Tr.pL,Tr.pK,Tr.q8 Tr.fO]at e2;exact⟨dx2,by simp only[e2];(generalize u=u'z;obtain⟨⟩:=u'z)<;>simp[Tr.iK,Tr.dc,Tr.pv]⟩
   apply a8 hw λdx2 e2=>?_;clear hw;apply AF e7 ?_;have com:∀(c:L),c∈dn++[Tr.cH x' y' u]->LR false H'' c:=λc hc=>by
    apply(mA hc).elim (λhc=>?_) λhc=>?_
    ·exact hd c hc
    ·exact rwL (mS hc) k2
   have e5:(dn++[Tr.cH x' y' u]).map Tr.sk=(pre++[u]).map Tr.sk:=by simp[h5,Tr.fO]
   apply⟨λhk=>?_,λhk=>?_⟩<;>ext
   ·apply yO e2 ?_;simp only[aU];apply λZ1 E=>⟨_,y',dn++[Tr.cH x' y' u],suf',k,by simp[h0],E 25 _ rfl,E 3 _ rfl,E 4 _ rfl,λhk'=>?_,e5,k3,⟨dx',e7⟩,e8,com,hs,h11⟩
    ·have:=of_decide_eq_true hk;have:k=true:=(h11 true this).symm;subst this;simp only[h4 hk'];simp[Tr.gg,show ∀i j,pt .add i j=i+j from λ_ _=>rfl]
   ·apply yP e2 ?_;simp only[aU];apply λZ1 E=>⟨x',_,dn++[Tr.cH x' y' u],suf',k,by simp[h0],E 25 _ rfl,E 3 _ rfl,E 4 _ rfl,λhk'=>?_,e5,k3,⟨dx',e7⟩,e8,com,hs,h11⟩
    ·have hk:=of_decide_eq_false hk;have:k=false:=by obtain⟨⟩:=k;rfl;exact absurd hk' hk
     subst this;simp only[h4 hk'];simp[Tr.gg,show ∀i j,pt .add i j=i+j from λ_ _=>rfl]
  ·rintro Z H' ⟨x',y',dn,suf,k,h0,h1,h2,h3,h4,h5,h6,⟨dx',h7⟩,h8,h9,h10,h11⟩;have hsuf:suf=[]:=by simpa using h0
   subst hsuf;apply iU h1 (q H' h6 (bz.mpr ⟨?_,?_⟩))
   ·apply⟨⟨dx',?_⟩,?_⟩
    ·simp only[Tr.cN,Tr.nr,Tr.nu,Tr.pL,Tr.pK,Tr.q8 Tr.fO,h7];(generalize t=t'z;obtain⟨⟩:=t'z)<;>simp[Tr.iK,Tr.dc,Tr.pv]
    ·apply rwL Tr.cN ?_;show H' t.tag.2=some (false,.list ((Tr.cH x y t).cs.map rf));simp only[h8];cases t with
     |leaf=>rfl
     |node a r w h _ _ cs=>simp only[Tr.dc,Tr.cs];exact rwL (Tr.eK λc _ x y=>xZ) rfl
   ·cases t with
    |leaf=>assumption
    |node a r w h _ _ cs=>
     have:r=k:=h11 r rfl;subst this;have:=h4 rfl;simp only[Tr.cs,Tr.m9,append_nil]at this;simp only[Tr.dc,Tr.cs,this];exact h9
end
end
section
section
variable {W:Wd} {m:Nat} {H:AH} {Q:AV->AH->Prop}
theorem xl {H:AH} {d:Bool} {s:Int} {a:Addr × Addr} {r w h x y} {cs cs':List L} (n:Nd false H (Tr.aG d s (.node a r w h x y cs))) (e:cs'.map rf=cs.map rf):Nd false H (Tr.aG d s (.node a r w h x y cs')):=by
 obtain⟨⟩:=d<;>exact⟨n.1,by have:=n.2;show H a.2=some (false,.list (cs'.map rf));exact rwL e this⟩
theorem sW {X:List Addr} {H H':AH} {d:Bool} {s:Int} {a:Addr × Addr} {r w h x y} {cs:List L} (k:Ex X H H') (n:Nd false H (Tr.aG d s (.node a r w h x y cs))) (h1:a.1∉X) (h2:a.2∉X):Nd false H' (Tr.aG d s (.node a r w h x y cs)):=
 n.ex k (by exact rwL Tr.aK h1) (by exact rwL Tr.aK h2)
theorem lK (G:GD W) {d:Bool} {a:Addr × Addr} {w h x y p c:Int} (hm:2<=m) (ht:LR false H (.leaf a w h x y p))
  (q:∀H',Ex (ads (.leaf a w h x y p)) H H'->LR false H' (Tr.aG d ((Tr.leaf a w h x y p).side d+c) (.leaf a w h x y p))->Q .none H'):a7 W 120 [.ref a.1,.bool d,.int c] m H Q:=by
 apply bZ G rfl hm rfl λn hn=>?_;ext;apply zD G hn ht.nd ?_;simp only[aU];apply wO G hn ht.nd λH1 k1 n1=>?_<;>ext;apply af n1 λz1z el=>a8 z1z λdx e=>?_;clear n1 z1z;simp only[Tr.aK]at e el;have hk:(Tr.aG d ((Tr.leaf a w h x y p).side d+c) (.leaf a w h x y p)).kind=sPane:=by(generalize d=d'z;obtain⟨⟩:=d'z)<;>rfl
 have hc:(Tr.aG d ((Tr.leaf a w h x y p).side d+c) (.leaf a w h x y p)).cs=[]:=by(generalize d=d'z;obtain⟨⟩:=d'z)<;>rfl
 simp only[hk]at e;simp only[hc]at el;have e':H1 a.1=_:=e;apply AF e' ?_;apply B0 G hn ⟨λ_=>?_,λz=>?_⟩<;>ext
 ·apply tB e' ?_;apply cC (g:=rf) (cs:=[]) (λ_ _ H'=>H'=H1) rfl (λ_ _ H' hJ=>⟨false,by exact rwL hJ el⟩) (λpre u suf Z H' hcs=>by simp at hcs) ?_;rintro Z H' rfl;apply q H' (k1.mono λb hb=>?_) (bz.mpr ⟨⟨⟨dx,by apply rwL hk (rwL Tr.aK ?_);exact e⟩,by apply rwL hc (rwL Tr.aK ?_);exact el⟩,by exact rwL hc (λz hz=>nomatch hz)⟩);simp only[mS hb];exact aO (.leaf a w h x y p)
 ·have:decide (sPane=kd d)=false:=decide_eq_false λz=>(ka d) z.symm;simp only[this]at z;ac_nf
theorem rq (G:GD W) {d:Bool} {k:Nat} (ih:∀{t:L} {c:Int} {m:Nat} {H:AH} {Q:AV->AH->Prop},t.dep<=k->t.dep+3<=m->LR false H t->(ads t).Nodup->t.Sm->0<=t.room d+c->(∀H',Ex (ads t) H H'->LR false H' (Tr.gD k d c t)->Q .none H')->a7 W 120 [.ref t.tag.1,.bool d,.int c] m H Q)
  {a:Addr × Addr} {r:Bool} {w h x y:Int} {cs:List L} {t:L} (et:t=.node a r w h x y cs) {c:Int} (hk:t.dep<=k+1) (hm:t.dep+3<=m) (ht:LR false H t) (hnd:(ads t).Nodup) (hs:t.Sm) (hr:0<=t.room d+c)
  (q:∀H',Ex (ads t) H H'->LR false H' (Tr.gD (k+1) d c t)->Q .none H'):a7 W 120 [.ref a.1,.bool d,.int c] m H Q:=by
 apply bZ G rfl (k:=t.dep+2) hm rfl λn hn=>?_;have hcs:t.cs=cs:=by apply rwL et ?_;rfl
 have htag:t.tag=a:=by apply rwL et ?_;rfl
 have hkid:∀u:L,u.sk∈cs.map Tr.sk->u.dep<=k∧u.dep+3<=n:=λu hu=>by
  apply ad (mP hu) λv hv e=>?_;have:=Tr.cF (t:=t) (c:=v) (by exact rwL hcs hv);apply rwL (Tr.tU e.symm) ?_;lia
 have hok:=hs.ok;(have hok:=hok;rewrite [et,Tr.aH]at hok);have hne:cs≠[]:=by rintro rfl;simp at hok
 have hsm:∀u:L,u.sk∈cs.map Tr.sk->u.ok->u.Sm:=λu hu ho=>by
  apply ad (mP hu) λv hv e=>?_;exact Tr.rO e.symm ho (hs.kid (by exact rwL hcs hv))
 simp only[bj,nodup_cons,nodup_cons,hcs,htag]at hnd;apply af hnd λd1 z1z=>af z1z λd2 d3=>?_;clear hnd z1z;have m1:a.1∉cs.flatMap ads:=λz=>d1 (.tail _ z);have kmem:∀u:L,u.sk∈cs.map Tr.sk->∀b∈ads u,b∈cs.flatMap ads:=λu hu b hb=>by
  apply ad (mP hu) λv hv e=>?_;exact mG ⟨v,hv,by exact rwL (cu e) hb⟩
 have tmem:∀b∈cs.flatMap ads,b∈ads t:=λb hb=>by simp only[bj,hcs];exact .tail _ (.tail _ hb)
 ext;have hnd:=ht.nd;simp only[et]at hnd;apply zD G (t:=.node a r w h x y cs) (ay hn rfl) hnd ?_;simp only[aU];apply wO G (t:=.node a r w h x y cs) (ay hn rfl) hnd λH1 k1 n1=>?_<;>ext;generalize hsd:(Tr.node a r w h x y cs).side d+c=s at n1;have k1':Ex (ads t) H H1:=k1.mono λb hb=>by apply rwL (mS hb) ?_;show a.1∈_;exact rwR htag (aO t)
 have l1:∀u∈cs,LR false H1 u:=λu hu=>(ht.kid (by exact rwL hcs hu)).ex k1 λb hb hz=>by
  simp only[mS hz]at hb;exact m1 (mG ⟨u,hu,hb⟩)
 apply af (id n1) λz1z el=>?_;(apply a8 z1z λdx e=>?_;clear z1z);simp only[Tr.aK]at e el;have hkd:(Tr.aG d s (.node a r w h x y cs)).kind=kd r:=by(generalize d=d'z;obtain⟨⟩:=d'z)<;>rfl
 have hcs1:(Tr.aG d s (.node a r w h x y cs)).cs=cs:=by(generalize d=d'z;obtain⟨⟩:=d'z)<;>rfl
 have e:=hkd▸e;simp only[hcs1]at el;have e':H1 a.1=_:=e;have el':H1 a.2=some (false,.list (cs.map rf)):=el;apply AF e' ?_;apply B0 G (ay hn rfl) ⟨λhb=>?_,λhb=>?_⟩<;>ext
 ·have hrd:r≠d:=λz=>by obtain rfl:=z.symm;simp at hb
  have hr':∀u∈cs,0<=u.room d+c:=λu hu=>by
   simp only[et,Tr.aI,if_neg hrd]at hr;have:=jk (mR ⟨u,hu,rfl⟩:u.room d∈cs.map (Tr.room d));exact Int.le_trans hr (Int.add_le_add_right this c)
  apply tB e' ?_;apply cC (g:=rf) (cs:=cs) (λpre Z H'=>Z.lookup 27=some (.bool d)∧Z.lookup 30=some (.int c)∧∃suf,cs=pre++suf∧Ex (ads t) H H'∧Nd false H' (Tr.aG d s (.node a r w h x y cs))∧(∀u∈pre,LR false H' (Tr.gD k d c u))∧∀u∈suf,LR false H' u)
   ⟨rfl,rfl,cs,rfl,k1',n1,by simp,l1⟩ (λpre Z H' z=>bH z λ_ _ z=>a8 z λ_ z=>yq z λ_ _ hJ _ _=>⟨false,by have:=hJ.2;simp only[Tr.aK,hcs1]at this;exact this⟩) ?_ ?_
  ·rintro pre u suf' Z H' hc ⟨h2,h3,suf,h0,h4,h5,h6,h7⟩;have hsuf:suf=u::suf':=append_cancel_left (h0.symm.trans hc);subst hsuf;have hu:u∈cs:=by exact rwL h0 (mem_append_right _ (.head _))
   have husk:u.sk∈cs.map Tr.sk:=mR ⟨u,hu,rfl⟩;have d3':=d3;simp only[h0,flatMap_append,flatMap_cons]at d3';have d4:=(nodup_append.mp d3').2.1;apply cI (eZ.put (.cons h2 (.cons h3 .nil))) ?_;ext;apply ih (t:=u) (hkid u husk).1 (hkid u husk).2 (h7 u (.head _)) (nodup_append.mp d4).1 (hs.kid (by exact rwL hcs hu)) (hr' u hu) λH'' k2 k3=>?_;apply λZ1 E=>⟨E 27 _ rfl,E 30 _ rfl,suf',by simp[h0],h4.trans (k2.mono λb hb=>tmem b (kmem u husk b hb)),sW k2 h5 (λz=>m1 (kmem u husk _ z)) (λz=>d2 (kmem u husk _ z)),λv hv=>?_,λv hv=>?_⟩
   ·apply(mA hv).elim (λhv=>?_) λhv=>?_
    ·have hv':v∈cs:=by exact rwL h0 (mem_append_left _ hv)
     have hch:=Tr.mV (d:=d) (k:=k) (hkid v (mR ⟨v,hv',rfl⟩)).1 (hok.2 v hv') (hr' v hv');apply(h6 v hv).ex k2 λb hb hz=>?_;simp only[cu hch.sk]at hb;exact bo d3' (mG ⟨v,hv,hb⟩) (mem_append_left _ hz)
    ·exact rwL (mS hv) k3
   ·exact(h7 v (.tail _ hv)).ex k2 λb hb hz=>bo d4 hz (mG ⟨v,hv,hb⟩)
  ·rintro Z H' ⟨h2,h3,suf,h0,h4,h5,h6,h7⟩;apply q H' h4 ?_;apply rwL et ?_;simp only[Tr.mW,if_neg hrd,hsd];have hsk:(cs.map (Tr.gD k d c)).map Tr.sk=cs.map Tr.sk:=by
    apply rwL map_map ?_;exact map_congr_left λu hu=>(Tr.mV (hkid u (mR ⟨u,hu,rfl⟩)).1 (hok.2 u hu) (hr' u hu)).sk
   apply bz.mpr ⟨xl h5 (jE hsk),λu hu=>?_⟩;rw[Tr.hZ]at hu;apply ad (mP hu) λv hv z1z=>?_;subst z1z;exact h6 v hv
 ·have hrd:r=d:=by
   revert hb;(generalize r=r'z;obtain⟨⟩:=r'z)<;>(generalize d=d'z;obtain⟨⟩:=d'z)<;>simp[kd]<;>decide
  have hr0:0<=(cs.map (Tr.room d)).sum+c:=by simp only[et,Tr.aI,if_pos hrd]at hr;exact hr
  have hP:∀cs':List L,cs'.map Tr.sk=cs.map Tr.sk->(∀u∈cs',u.ok)->∀u∈cs',u.ok∧∀c,(c=1\/c = -1)->0<=u.room d+c->Tr.Chg d c u (Tr.gD k d c u):=λcs' h1 h2 u hu=>
   ⟨h2 u hu,λc _ hc=>Tr.mV (hkid u (by exact rwR h1 (mR ⟨u,hu,rfl⟩))).1 (h2 u hu) hc⟩
  apply⟨λμ Z H'=>E3 λ(c':Int) (cs':List L) (m':Nat)=>μ=c'.natAbs∧Z.lookup 25=some (.ref a.1)∧Z.lookup 27=some (.bool d)∧Z.lookup 30=some (.int c')∧c'.natAbs<=m' ∧
    Tr.j8 (Tr.gD k d) d m' c' cs'=Tr.j8 (Tr.gD k d) d c.natAbs c cs∧cs'.map Tr.sk=cs.map Tr.sk∧(∀u∈cs',u.ok)∧0<=(cs'.map (Tr.room d)).sum+c'∧Ex (ads t) H H'∧Nd false H' (Tr.aG d s (.node a r w h x y cs))∧∀u∈cs',LR false H' u,
   c.natAbs,⟨c,cs,c.natAbs,rfl,rfl,rfl,rfl,le_refl _,rfl,rfl,hok.2,hr0,k1',n1,l1⟩,?_⟩
  rintro μ Z H' ⟨c',cs',m',rfl,h1,h2,h3,h4,h5,h6,h7,h8,h9,h10,h11⟩
  walk_at "wp"
  simp only[h3,cz];apply⟨λhz=>?_,λhz=>?_⟩
  ·have hc0:c'=0:=by simpa using hz
   subst hc0;have h5':Tr.j8 (Tr.gD k d) d c.natAbs c cs=cs':=by apply rwR h5 ?_;(generalize m'=m''z;obtain⟨⟩:=m''z)<;>simp[Tr.mM,Tr.mL]
   apply q H' h9 ?_;apply rwL et ?_;simp only[Tr.mW,if_pos hrd,hsd,h5'];exact bz.mpr ⟨xl h10 (jE h6),λu hu=>h11 u (by rwa [Tr.hZ]at hu)⟩
  ·have hc0:c'≠0:=by simpa using hz
   have hmm:∃m2,m'=m2+1:=⟨m'-1,(Nat.sub_one_add_one_eq_of_pos (lt_of_lt_of_le (Int.natAbs_pos.mpr (by simpa using hz)) h4)).symm⟩;apply a8 hmm λm2 z1z=>?_;clear hmm;subst z1z;simp only[Tr.mL,if_neg hc0]at h5;have hpass:=Tr.pN (c:=c') (hP cs' h6 h7);have hne':cs'≠[]:=λz=>by simp only[z]at h6;exact hne (List.map_eq_nil_iff.mp h6.symm)
   have hlt:(Tr.pass (Tr.gD k d) d c' cs').1.natAbs<c'.natAbs:=by
    have:=hpass.rm;apply(Int.lt_or_gt_of_ne hc0).elim (λh=>?_) λh=>?_
    ·exact Dx h (hpass.dn (Int.le_of_lt h)) (hpass.gt h (by lia))
    ·exact Dw (hpass.up (Int.le_of_lt h)) (hpass.lt h hne')
   apply af (id h10) λz1z el2=>?_;(apply a8 z1z λdx2 e2=>?_;clear z1z);simp only[Tr.aK]at e2 el2;simp only[hcs1]at el2;have e2':H' a.1=_:=e2;simp only[h1,cz];apply rwL (gl e2') ?_;have d3':=d3;rw[<-gZ h6]at d3';apply cC (g:=rf) (cs:=cs') (λpre Z H''=>Z.lookup 25=some (.ref a.1)∧Z.lookup 27=some (.bool d)∧E3 λc2 dn suf=>Z.lookup 30=some (.int c2)∧cs'=pre++suf ∧
     (Tr.pass (Tr.gD k d) d c' cs').1=(Tr.pass (Tr.gD k d) d c2 suf).1∧(Tr.pass (Tr.gD k d) d c' cs').2=dn++(Tr.pass (Tr.gD k d) d c2 suf).2∧dn.map Tr.sk=pre.map Tr.sk∧Ex (ads t) H H'' ∧
     Nd false H'' (Tr.aG d s (.node a r w h x y cs))∧(∀u∈dn,LR false H'' u)∧∀u∈suf,LR false H'' u)
    ⟨h1,h2,c',[],cs',h3,rfl,rfl,rfl,rfl,h9,h10,by simp,h11⟩ (λpre Z H'' z=>bH z λ_ _ z=>zA z λ_ _ _ _ _ _ _ _ z=>jh z λ_ hJ _ _=>⟨false,by have:=hJ.2;simp only[Tr.aK,hcs1]at this;exact rwL (jE h6) this⟩) ?_ ?_
   ·rintro pre u suf' Z H2 hc ⟨g1,g2,c2,dn,suf,g3,g4,g5,g6,g7,g8,g9,g10,g11⟩;have hsuf:suf=u::suf':=append_cancel_left (g4.symm.trans hc);subst hsuf;have hu:u∈cs':=by exact rwL g4 (mem_append_right _ (.head _))
    have husk:u.sk∈cs.map Tr.sk:=by exact rwR h6 (mR ⟨u,hu,rfl⟩)
    have d4:=d3';simp only[g4,flatMap_append,flatMap_cons]at d4;have d5:=(nodup_append.mp d4).2.1;have huok:=h7 u hu;have hur:=Tr.ck (d:=d) huok;have after:∀(e:Int) (H3:AH),(e=1\/e = -1)->0<=u.room d+e->Ex (ads u) H2 H3->LR false H3 (Tr.gD k d e u)->Ex (ads t) H H3∧Nd false H3 (Tr.aG d s (.node a r w h x y cs))∧(∀v∈dn++[Tr.gD k d e u],LR false H3 v)∧(∀v∈suf',LR false H3 v)∧(dn++[Tr.gD k d e u]).map Tr.sk=(pre++[u]).map Tr.sk:=by
     intro e H3 he hre k2 k3;have hch:=(hP cs' h6 h7 u hu).2 e he hre;apply⟨g8.trans (k2.mono λb hb=>tmem b (kmem u husk b hb)),sW k2 g9 (λz=>m1 (kmem u husk _ z)) (λz=>d2 (kmem u husk _ z)),λv hv=>?_,λv hv=>?_,by simp[g7,hch.sk]⟩
     ·apply(mA hv).elim (λhv=>?_) λhv=>?_
      ·apply(g10 v hv).ex k2 λb hb hz=>?_;have:b∈pre.flatMap ads:=by exact rwR (gZ g7) (mG ⟨v,hv,hb⟩)
       exact bo d4 this (mem_append_left _ hz)
      ·exact rwL (mS hv) k3
     ·exact(g11 v (.tail _ hv)).ex k2 λb hb hz=>bo d5 hz (mG ⟨v,hv,hb⟩)
    apply cI (eZ.put (.cons g1 (.cons g2 (.cons g3 .nil)))) ?_;ext;apply⟨λhp=>?_,λhp=>?_⟩<;>ext
    ·have hp:0<c2:=of_decide_eq_true hp;apply ih (t:=u) (hkid u husk).1 (hkid u husk).2 (g11 u (.head _)) (nodup_append.mp d5).1 (hsm u husk huok) (le_add_one hur) λH3 k2 k3=>?_<;>ext;apply yq (after 1 H3 (.inl rfl) (by exact le_add_one hur) k2 k3) λa1 a2 a3 a4 a5=>?_;simp only[Tr.me hp]at g5 g6;apply λZ1 E=>⟨E 25 _ rfl,E 27 _ rfl,c2-1,dn++[Tr.gD k d 1 u],suf',E 30 _ rfl,by simp[g4],g5,by simp only[g6];simp,a5,a1,a2,a3,a4⟩
    ·have hp:¬0<c2:=of_decide_eq_false hp;apply⟨λhq=>?_,λhq=>?_⟩
     ·have hq:¬c2<0:=of_decide_eq_false hq;have hp2:¬(c2<0∧0<u.room d):=λz=>hq z.1;simp only[Tr.jK hp hp2]at g5 g6;apply⟨(λz=>by ac_nf),λ_=>?_⟩;apply λZ1 E=>⟨E 25 _ rfl,E 27 _ rfl,c2,dn++[u],suf',E 30 _ rfl,by simp[g4],g5,by simp only[g6];simp,by simp[g7],g8,g9,λv hv=>?_,λv hv=>g11 v (.tail _ hv)⟩;apply(mA hv).elim (λhv=>?_) λhv=>?_
      ·exact g10 v hv
      ·exact rwL (mS hv) (g11 u (.head _))
     ·have hq:c2<0:=of_decide_eq_true hq;apply Bf G (t:=u) (by have:=(hkid u husk).2;exact le_of_lt (by assumption)) (g11 u (.head _)) (hsm u husk huok) λH3 k4=>?_;have b1:=g8.trans (k4.ex (X:=ads t));have b2:Nd false H3 (Tr.aG d s (.node a r w h x y cs)):=sW k4 g9 not_mem_nil not_mem_nil;apply⟨λhz=>?_,λhz=>?_⟩<;>ext
      ·have hz:0<u.room d:=of_decide_eq_true hz;apply ih (t:=u) (hkid u husk).1 (hkid u husk).2 ((g11 u (.head _)).sb k4) (nodup_append.mp d5).1 (hsm u husk huok) (Int.add_nonneg_iff_neg_le.mpr hz) λH4 k2 k3=>?_<;>ext;apply yq (after (-1) H4 (.inr rfl) (by exact Int.add_nonneg_iff_neg_le.mpr hz) ((Sb.ex k4).trans k2) k3) λa1 a2 a3 a4 a5=>?_;simp only[Tr.ma hp ⟨hq,hz⟩]at g5 g6;exact λZ1 E=>⟨E 25 _ rfl,E 27 _ rfl,c2+1,dn++[Tr.gD k d (-1) u],suf',E 30 _ rfl,by simp[g4],g5,by simp only[g6];simp,a5,a1,a2,a3,a4⟩
      ·have hz:¬0<u.room d:=of_decide_eq_false hz;simp only[Tr.jK hp λz=>hz z.2]at g5 g6;apply λZ1 E=>⟨E 25 _ rfl,E 27 _ rfl,c2,dn++[u],suf',E 30 _ rfl,by simp[g4],g5,by simp only[g6];simp,by simp[g7],b1,b2,λv hv=>?_,λv hv=>(g11 v (.tail _ hv)).sb k4⟩;apply(mA hv).elim (λhv=>?_) λhv=>?_
       ·exact(g10 v hv).sb k4
       ·exact rwL (mS hv) ((g11 u (.head _)).sb k4)
   ·rintro Z H2 ⟨g1,g2,c2,dn,suf,g3,g4,g5,g6,g7,g8,g9,g10,g11⟩;have hsuf:suf=[]:=by simpa using g4
    subst hsuf;simp only[Tr.pO,append_nil]at g5 g6;apply⟨c2.natAbs,by apply rwR g5 ?_;exact hlt,c2,dn,m2,rfl,g1,g2,g3,by apply rwR g5 ?_;exact Nat.le_of_lt_succ (lt_of_lt_of_le hlt h4),by simp only[<-g5,<-g6];exact h5,by apply rwL g7 ?_;exact h6,by apply rwR g6 ?_;exact hpass.ok,by apply rwR g5 (rwR g6 (rwL hpass.rm ?_));exact h8,g8,g9,g10⟩
theorem Be (G:GD W) {d:Bool}:∀{k:Nat} {t:L} {c:Int} {m:Nat} {H:AH} {Q:AV->AH->Prop},t.dep<=k->t.dep+3<=m->LR false H t->(ads t).Nodup->t.Sm->0<=t.room d+c->(∀H',Ex (ads t) H H'->LR false H' (Tr.gD k d c t)->Q .none H')->
  a7 W 120 [.ref t.tag.1,.bool d,.int c] m H Q:=by
 intro k
 induction k with
 |zero=>
  intro t c m H Q hk hm ht hn hs hr q;cases t with
  |leaf a w h x y p=>exact lK G (le_of_lt (by assumption)) ht q
  |node=>ac_nf
 |succ k ih=>
  intro t c m H Q hk hm ht hn hs hr q;cases t with
  |leaf a w h x y p=>exact lK G (le_of_lt (by assumption)) ht q
  |node a r w h x y cs=>exact rq G ih rfl hk hm ht hn hs hr q
end
end
section
noncomputable def Fm.map {U O:Type} (g:U->O) (F:Fm U):Fm O:=⟨g F.a,F.r,F.w,F.h,F.x,F.y,F.l.map (Tr.map g),F.rt.map (Tr.map g)⟩
namespace Tr
variable {U O:Type}
theorem ij {g:U->O} {d:Bool} {s:Int} {t:Tr U}:(aG d s t).map g=aG d s (t.map g):=by obtain⟨⟩:=t<;>obtain⟨⟩:=d<;>rfl
theorem sj {g:U->O} {f:Int->Tr U->Tr U} {f':Int->Tr O->Tr O} {d:Bool} (hf:∀e t,f' e (t.map g)=(f e t).map g):∀{cs:List (Tr U)} {c:Int},pass f' d c (cs.map (map g))=((pass f d c cs).1,(pass f d c cs).2.map (map g)):=by
 intro cs
 induction cs with
 |nil=>
  intro c;exact rfl
 |cons t ts ih=>
  intro c;show pass f' d c (t.map g::ts.map (map g))=_;by_cases h1:0<c
  ·rw[me h1,me h1];simp[hf,ih]
  ·by_cases h2:c<0∧0<t.room d
   ·rw[ma h1 (jS.symm▸h2),ma h1 h2];simp[hf,ih]
   ·rw[jK h1 (jS.symm▸h2),jK h1 h2];simp[ih]
theorem tR {g:U->O} {f:Int->Tr U->Tr U} {f':Int->Tr O->Tr O} {d:Bool} (hf:∀e t,f' e (t.map g)=(f e t).map g):∀{m:Nat} {cs:List (Tr U)} {c:Int},j8 f' d m c (cs.map (map g))=(j8 f d m c cs).map (map g):=by
 intro m
 induction m with
 |zero=>
  intro cs c;exact rfl
 |succ m ih=>
  intro cs c;simp only[mL];split
  ·rfl
  ·exact rwL (sj hf) ih
theorem wI {g:U->O} {d:Bool}:∀{k:Nat} {c:Int} {t:Tr U},gD k d c (t.map g)=(gD k d c t).map g:=by
 intro k
 induction k with
 |zero=>intro c t;simp only[yZ,ij,eQ]
 |succ k ih=>
  intro c t;cases t with
  |leaf a w h x y p=>simp only[yY,jU,ij];(generalize d=d'z;obtain⟨⟩:=d'z)<;>rfl
  |node a r w h x y cs=>
   simp only[aZ];simp only[mW,ij,aZ];have:∀l:List (Tr U),(Tr.node (g a) r w h x y (l.map (map g))).side d=(Tr.node a r w h x y l).side d:=λl=>by(generalize d=d'z;obtain⟨⟩:=d'z)<;>rfl
   simp only[this];split
   ·simp only[tR (f:=gD k d) λe t=>ih]
   ·simp only[map_map,map_map];exact congrArg (λl=>aG d ((Tr.node a r w h x y cs).side d+c) (.node (g a) r w h x y l)) (map_congr_left λt _=>ih)
theorem qG {g:U->O} {r:Bool}:∀{cs:List (Tr U)} {x y:Int},(∀c∈cs,∀x y,cH x y (c.map g)=(cH x y c).map g)->jJ r x y (cs.map (map g))=(jJ r x y cs).map (map g):=by
 intro cs
 induction cs with
 |nil=>
  intro _ _ _;exact rfl
 |cons c cs ih=>
  intro x y h;simp only[map_cons,gg,ii,ik];simp only[h c (.head _),ih λc hc=>h c (.tail _ hc)]
theorem vp {g:U->O}:∀{t:Tr U} {x y:Int},cH x y (t.map g)=(cH x y t).map g:=by
 intro t
 induction t using bn with
 |step t ih=>
  intro x y;cases t with
  |leaf=>rfl
  |node a r w h x' y' cs=>
   simp only[aZ];simp only[dc,aZ];exact congrArg _ (qG (cs:=cs) λc hc x y=>ih c hc)
theorem rZ {g:U->O}:∀{C:List (Fm U)} {t:Tr U},(aa C t).map g=aa (C.map (Fm.map g)) (t.map g):=by
 intro C
 induction C with
 |nil=>
  intro t;exact rfl
 |cons F C ih=>
  intro t;simp only[bS,map_cons,fill,aZ,map_append,ih,Fm.map]
theorem r8 {g:U->O} {p:Int} {a:U} {r:Bool} {w h x y:Int}:∀{cs pre:List (Tr U)},(∀c∈cs,find p (c.map g)=(find p c).map λq=>(q.1.map (Fm.map g),q.2.map g))->
  gI p (g a) r w h x y (pre.map (map g)) (cs.map (map g))=(gI p a r w h x y pre cs).map λq=>(q.1.map (Fm.map g),q.2.map g):=by
 intro cs
 induction cs with
 |nil=>
  intro pre _;exact rfl
 |cons c cs ih=>
  intro pre h';simp only[map_cons,ix,h' c (.head _)];cases find p c with
  |some q=>rfl
  |none=>
   have:=ih (pre:=pre++[c]) λc hc=>h' c (.tail _ hc);simpa using this
theorem tP {g:U->O} {p:Int}:∀{t:Tr U},find p (t.map g)=(find p t).map λq=>(q.1.map (Fm.map g),q.2.map g):=by
 intro t
 induction t using bn with
 |step t ih=>
  cases t with
  |leaf a w h x y q=>simp only[jU,iz];split<;>rfl
  |node a r w h x y cs=>
   simp only[aZ,iy,iy];exact r8 (pre:=[]) λc hc=>ih c hc
noncomputable def mn (a b:Int):Int:=if b<a then b else a
noncomputable def mx (a b:Int):Int:=if a<b then b else a
noncomputable def aY (s:Int) (size:Option Int):Int:=mx 1 (mn (size.getD ((s+1).fdiv 2-1)) (s-1-1))
noncomputable def ae (b:U) (fresh:Int) (d:Bool) (size:Option Int) (before:Bool) (l:Tr U):List (Tr U):=
 let other:=aG d (aY (l.side d) size) (.leaf b l.w l.h 0 0 fresh)
 let leaf:=aG d (l.side d-1-aY (l.side d) size) l
 if before then [other,leaf]else [leaf,other]
noncomputable def bl (t:T) (p fresh:Int) (d:Bool) (size:Option Int) (before:Bool):Option T:=
 match t.find p with
 |none=>none
 |some (C,l)=>if fresh∈t.panes then none else if l.side d<3 then none else
  match C.getLast? with
  |some F=>if F.r=d then some (cH 0 0 (aa C.dropLast (.node () F.r F.w F.h F.x F.y (F.l++ae () fresh d size before l++F.rt))))
   else if 50<C.length+1 then none else some (cH 0 0 (aa C (.node () d l.w l.h 0 0 (ae () fresh d size before l))))
  |none=>some (cH 0 0 (.node () d l.w l.h 0 0 (ae () fresh d size before l)))
noncomputable def ry (d:Bool) (c:Int) (t:Tr U):Tr U:=gD t.dep d c t
noncomputable def aT (r:Bool) (cs:List (Tr U)):List (Tr U):=cs.flatMap λc=>if c.kind=kd r then c.cs else [c]
noncomputable def bV (F:Fm U) (c:Int):List (Tr U):=(F.l++F.rt).modify (F.l.length-1) (ry F.r c)
noncomputable def bc (t:T) (p:Int):Option T:=
 match t.find p with
 |none=>none
 |some (C,l)=>match C.getLast? with
  |none=>none
  |some F=>
   let ks:=bV F (l.side F.r+1)
   if 1<ks.length then some (cH 0 0 (aa C.dropLast (.node () F.r F.w F.h F.x F.y ks)))
   else match ks,C.dropLast.getLast? with
    |[k],none=>some (cH 0 0 k)
    |[k],some E=>some (cH 0 0 (aa C.dropLast.dropLast (.node () E.r E.w E.h E.x E.y (aT E.r (E.l++k::E.rt)))))
    |_,_=>none
theorem iX {t:T} {p:Int} {D:List (Fm Unit)} {F:Fm Unit} {l:T} {ks:List T} (e:t.find p=some (D++[F],l)) (hk:bV F (l.side F.r+1)=ks) (h:1<ks.length):bc t p=some (cH 0 0 (aa D (.node () F.r F.w F.h F.x F.y ks))):=by
 unfold bc;apply rwL e ?_;dsimp only;apply rwL getLast?_concat (rwL dropLast_concat ?_);dsimp only;exact rwL hk (rwL (if_pos h) rfl)
theorem ku {t:T} {p:Int} {F:Fm Unit} {l k:T} (e:t.find p=some ([F],l)) (hk:bV F (l.side F.r+1)=[k]):bc t p=some (cH 0 0 k):=by
 unfold bc;apply rwL e ?_;dsimp only[List.getLast?_singleton];exact rwL hk rfl
theorem kt {t:T} {p:Int} {D:List (Fm Unit)} {E F:Fm Unit} {l k:T} (e:t.find p=some (D++[E]++[F],l)) (hk:bV F (l.side F.r+1)=[k]):bc t p=some (cH 0 0 (aa D (.node () E.r E.w E.h E.x E.y (aT E.r (E.l++k::E.rt))))):=by
 unfold bc;apply rwL e ?_;dsimp only;apply rwL getLast?_concat (rwL dropLast_concat ?_);dsimp only;exact rwL hk (rwL getLast?_concat (rwL dropLast_concat rfl))
noncomputable def dK (d:Bool) (s:Int) (t:Tr U):Tr U:=ry d (mx (s-t.side d) (-(t.room d))) t
noncomputable def qY (w h:Int) (t:Tr U):Tr U:=cH 0 0 (dK false h (dK true w t))
theorem ql {g:U->O} {d:Bool} {c:Int} {t:Tr U}:ry d c (t.map g)=(ry d c t).map g:=by simp only[ry,pX,wI]
theorem tO {g:U->O} {d:Bool} {s:Int} {t:Tr U}:dK d s (t.map g)=(dK d s t).map g:=by simp only[dK,eQ,jS,ql]
theorem pf {d:Bool} {t:Tr U} {c:Int} (ho:t.ok) (hr:0<=t.room d+c):Chg d c t (ry d c t):=mV (le_refl _) ho hr
theorem pY {s:Int} {size:Option Int} (h:3<=s):1<=aY s size∧aY s size<=s-2:=by
 delta aY mx mn;split<;>split<;>omega
theorem kW {a:U} {w h x y p:Int} {d:Bool}:(Tr.leaf a w h x y p).side d=if d then w else h:=by obtain⟨⟩:=d<;>rfl
theorem dG {b:U} {fresh:Int} {d:Bool} {size:Option Int} {before:Bool} {l:Tr U}:(ae b fresh d size before l).length=2:=by unfold ae;split<;>rfl
theorem fi {a b:U} {fresh:Int} {d:Bool} {size:Option Int} {before:Bool} {w h x y p:Int}:(ae b fresh d size before (.leaf a w h x y p)).flatMap panes=if before then [fresh,p]else [p,fresh]:=by
 unfold ae;have:∀{a:U} {s w h x y p:Int},(aG d s (.leaf a w h x y p)).panes=[p]:=by intros;obtain⟨⟩:=d<;>rfl
 obtain⟨⟩:=before<;>simp[this]
theorem dr {a:U} {s:Int} {d:Bool} {w h x y p:Int} (h1:1<=w) (h2:1<=h) (h3:1<=s):(aG d s (.leaf a w h x y p)).ok:=by obtain⟨⟩:=d<;>simp[aG,jM]<;>lia
theorem cL {b:U} {fresh:Int} {d:Bool} {size:Option Int} {before:Bool} {l:Tr U} {P:Tr U->Prop} (h1:P (aG d (aY (l.side d) size) (.leaf b l.w l.h 0 0 fresh))) (h2:P (aG d (l.side d-1-aY (l.side d) size) l)):∀c∈ae b fresh d size before l,P c:=by
 unfold ae;intro c hc;obtain⟨⟩:=before<;>simp at hc<;>rcases hc with rfl|rfl<;>assumption
theorem kg {b:U} {fresh:Int} {d:Bool} {size:Option Int} {before:Bool} {l:Tr U}:((ae b fresh d size before l).map (side d)).sum=l.side d-1:=by
 unfold ae;obtain⟨⟩:=before<;>simp[dC]<;>exact Eq.symm ((λ{b a c}=>Int.sub_eq_iff_eq_add'.mp) rfl)
theorem iV {a b:U} {fresh:Int} {d:Bool} {size:Option Int} {before:Bool} {w h x y p:Int}:∀c∈ae b fresh d size before (.leaf a w h x y p),c.side (!d)=(Tr.leaf a w h x y p).side (!d):=by
 apply cL ?_ ?_
 ·simp only[cf];obtain⟨⟩:=d<;>rfl
 ·exact cf
structure Fine (t:Tr U):Prop where
 sm:Sm t
 geo:t.geo
 bw:t.w<=64
 bh:t.h<=64
 box:box 64 t
theorem Fine.ok {t:Tr U} (h:Fine t):t.ok:=h.sm.ok
structure Good (t:Tr U):Prop where
 ok:t.ok
 geo:t.geo
 bw:t.w<=64
 bh:t.h<=64
theorem Fine.good {t:Tr U} (h:Fine t):Good t:=⟨h.ok,h.geo,h.bw,h.bh⟩
theorem Good.fine {t:Tr U} (h:Good t) (hl:t.panes.length<=20):Fine (cH 0 0 t):=
 ⟨⟨y6 h.ok,by exact rwL cn hl⟩,vq h.geo,by apply rwL nr ?_;exact h.bw,by apply rwL nu ?_;exact h.bh,vt h.ok h.geo (by decide) (natCast_nonneg _) (by have:=h.bw;exact Int.add_le_of_le_neg_add this) (by have:=h.bh;exact Int.add_le_of_le_neg_add this)⟩
theorem cK {C:List U} {F:U} (h:C.getLast?=some F):C=C.dropLast++[F]:=by
 have hne:C≠[]:=by rintro rfl;exact nS h
 rw[List.getLast?_eq_some_getLast hne]at h;obtain rfl:=sI h;exact(List.dropLast_concat_getLast hne).symm
theorem dz {C:List (Fm U)} {t u:Tr U} (h:Good (aa C t)) (hu:u.ok) (hg:u.geo) (hs:∀d,u.side d=t.side d):Good (aa C u):=
 ⟨(cy h.ok).2 u hu,(eT h.geo).2 u hs hg,by rw[cY,cj hs];exact h.bw,by rw[cZ,cj hs];exact h.bh⟩
theorem aX {a:U} {r w h x y d} {cs:List (Tr U)}:(Tr.node a r w h x y cs).side d=if d then w else h:=by obtain⟨⟩:=d<;>rfl
theorem qU {a b c:U} {fresh:Int} {d:Bool} {size:Option Int} {before:Bool} {w h x y p:Int} (ho:(Tr.leaf a w h x y p).ok) (h3:3<=(Tr.leaf a w h x y p).side d) :
  (Tr.node c d w h 0 0 (ae b fresh d size before (.leaf a w h x y p))).ok∧(Tr.node c d w h 0 0 (ae b fresh d size before (.leaf a w h x y p))).geo:=by
 have ⟨m1,m2⟩:=pY (size:=size) h3;simp only[jM]at ho;apply⟨aH.mpr ⟨by apply rwL dG ?_;exact le_refl _,cL (P:=ok) (dr ho.1 ho.2 m1) (dr ho.1 ho.2 (by lia))⟩,aR.mpr ⟨?_,λu hu=>?_,cL (P:=geo) cc cc⟩⟩
 ·simp only[kg,dG,aX,kW];lia
 ·simp only[iV u hu,aX,kW]
theorem jA {t:T} {p fresh:Int} {d:Bool} {size:Option Int} {before:Bool} {t':T} (hg:Fine t) (e:bl t p fresh d size before=some t') (hl:t.panes.length+1<=20) :
  Fine t'∧(∀d,t'.side d=t.side d)∧fresh∉t.panes∧E2 λpre post=>t.panes=pre++p::post∧t'.panes=pre++(if before then [fresh,p]else [p,fresh])++post:=by
 unfold bl at e
 set_option tactic.hygienic true in split at e
 ·exact nS e
 ·rename_i C l hf;split at e
  ·exact nS e
  ·rename_i hfr;split at e
   ·exact nS e
   ·rename_i h3;apply af (dA hf) λet z1z=>?_;obtain⟨a,w,h,x,y,rfl⟩:=z1z;have hgd:=hg.good;rw[et]at hgd;have hok:=(cy hgd.ok).1;apply af (qU (d:=d) (c:=()) (b:=()) (fresh:=fresh) (size:=size) (before:=before) hok (Int.not_lt.mp h3)) λn1 n2=>?_;have pan:t.panes=dQ C++p::ct C:=by simp only[et,aE,au];exact append_assoc ..
    have cnt:∀m:List Int,m=(if before then [fresh,p]else [p,fresh])->(dQ C++m++ct C).length<=20:=λm hm=>by
     have hl:=pan▸hl;subst hm;(generalize before=before'z;obtain⟨⟩:=before'z)<;>simp only[length_append,length_cons,length_nil,if_true,false_eq_true,if_false]at hl ⊢<;>lia
    have npan:∀c w h x y,(Tr.node c d w h x y (ae () fresh d size before (.leaf a w h x y p))).panes=(if before then [fresh,p]else [p,fresh]):=λc w h x y=>by simp only[az,fi]
    have whole:∀C:List (Fm Unit),∀u:T,Good (aa C (.leaf a w h x y p))->u=aa C (.node () d w h 0 0 (ae () fresh d size before (.leaf a w h x y p)))->Good u∧(∀d,u.side d=(aa C (.leaf a w h x y p)).side d)∧u.panes=dQ C++(if before then [fresh,p]else [p,fresh])++ct C:=by
     intro C u hgd hu;have hs:∀d',(Tr.node () d w h 0 0 (ae () fresh d size before (.leaf a w h x y p))).side d'=(Tr.leaf a w h x y p).side d':=λd'=>by exact Int.neg_inj.mp rfl
     subst hu;apply⟨dz hgd n1 n2 hs,λd=>cj hs d,?_⟩;simp only[aE,az,fi]
    split at e
    ·rename_i F hF;have hC:=cK hF;split at e
     ·rename_i hr;obtain rfl:=sI e;subst hr;(have hgd:=hgd;rw[hC,dU]at hgd);have hok2:=(cy hgd.ok).1;have hgeo2:=(eT hgd.geo).1;simp only[gf,bS]at hok2 hgeo2;rw[dW]at hok2;(have hgeo2:=hgeo2;rewrite [dH]at hgeo2);apply jh hok2 λo1 o2 o3 o4=>?_;clear hok2;apply yq hgeo2 λg1 z1z g5 g6 g7=>bH z1z λg2 g3 g4=>?_;clear hgeo2 z1z;have ⟨m1,m2⟩:=pY (size:=size) (by exact Int.not_lt.mp h3:3<=(Tr.leaf a w h x y p).side F.r);simp only[jM]at hok;have k1:(Tr.node () F.r F.w F.h F.x F.y (F.l++ae () fresh F.r size before (.leaf a w h x y p)++F.rt)).ok:=by
       apply aH.mpr ⟨by simp only[length_append,dG];lia,λc hc=>?_⟩;simp only[mem_append]at hc;rcases hc with(hc|hc)|hc
       ·exact o2 c hc
       ·exact cL (P:=Tr.ok) (l:=.leaf a w h x y p) (dr (w:=w) (h:=h) hok.1 hok.2 m1) (dr hok.1 hok.2 (by lia)) c hc
       ·exact o4 c hc
      have sd:∀d',(Tr.node () F.r F.w F.h F.x F.y (F.l++ae () fresh F.r size before (.leaf a w h x y p)++F.rt)).side d'=(fill F (.leaf a w h x y p)).side d':=λd'=>by exact Int.neg_inj.mp rfl
      have k2:(Tr.node () F.r F.w F.h F.x F.y (F.l++ae () fresh F.r size before (.leaf a w h x y p)++F.rt)).geo:=by
       apply aR.mpr ⟨?_,λc hc=>?_,λc hc=>?_⟩
       ·simp only[sd,g1];simp only[map_append,sum_append,length_append,dG,kg];lia
       ·simp only[sd];simp only[mem_append]at hc;rcases hc with(hc|hc)|hc
        ·exact g2 c hc
        ·simp only[iV c hc];exact g3
        ·exact g4 c hc
       ·simp only[mem_append]at hc;rcases hc with(hc|hc)|hc
        ·exact g5 c hc
        ·exact cL (P:=Tr.geo) cc cc c hc
        ·exact g7 c hc
      have hgd':=dz hgd k1 k2 sd;have pp:(aa C.dropLast (Tr.node () F.r F.w F.h F.x F.y (F.l++ae () fresh F.r size before (.leaf a w h x y p)++F.rt))).panes=dQ C++(if before then [fresh,p]else [p,fresh])++ct C:=by
       have e1:dQ C++[p]++ct C=dQ C.dropLast++(F.l.flatMap panes++[p]++F.rt.flatMap panes)++ct C.dropLast:=by
        have:=aE (C:=C) (t:=.leaf a w h x y p);simp only[au]at this;apply rwR this (rwL hC (rwL dU (rwL aE ?_)));simp[gf,bS,dD,au]
       have cp:dQ C=dQ C.dropLast++F.l.flatMap panes∧ct C=F.rt.flatMap panes++ct C.dropLast:=by
        apply rwL hC ?_;generalize C.dropLast=D;apply rwL dropLast_concat ?_;clear hC hF hf et hgd pan cnt e1 hgd' whole
        induction D with
        |nil=>simp[jp,dZ,iC,dL]
        |cons E D ih=>simp only[cons_append,dZ,dL,ih.1,ih.2,append_assoc];exact⟨trivial,trivial⟩
       simp only[aE,az,cp.1,cp.2];simp only[flatMap_append,fi,append_assoc]
      apply⟨hgd'.fine (by exact rwL pp (cnt _ rfl)),λd=>?_,hfr,_,_,pan,by simp only[cn,pp]⟩;rw[ca,cj sd,et];have:aa C (.leaf a w h x y p)=aa C.dropLast (fill F (.leaf a w h x y p)):=by apply rwL hC (rwL dU (rwL dropLast_concat ?_));rfl
      exact congrArg _ this.symm
     ·split at e
      ·exact nS e
      ·obtain rfl:=sI e;apply bH (whole C _ hgd rfl) λw1 w2 w3=>?_;exact⟨w1.fine (by exact rwL w3 (cnt _ rfl)),λd=>by simp only[ca,et];exact w2 d,hfr,_,_,pan,by simp only[cn];exact w3⟩
    ·rename_i hF;obtain rfl:=sI e;have hC:C=[]:=List.getLast?_eq_none_iff.mp hF;subst hC;apply bH (whole [] _ hgd rfl) λw1 w2 w3=>?_;exact⟨w1.fine (by exact rwL w3 (cnt _ rfl)),λd=>by simp only[ca,et];exact w2 d,hfr,_,_,pan,by simp only[cn];exact w3⟩
end Tr
end
section
namespace Tr
variable {U O:Type}
theorem lz {t:Tr U} {r:Bool} (h:t.kind=kd r):E5 λa w h x y=>∃ cs, t=.node a r w h x y cs:=by
 cases t with
 |leaf=>exact absurd h.symm (ka r)
 |node a r' w h' x y cs=>
  have:r'=r:=by revert h;obtain⟨⟩:=r<;>obtain⟨⟩:=r'<;>simp[kind,kd]<;>decide
  subst this;exact⟨a,w,h',x,y,cs,rfl⟩
theorem qN {r:Bool} {S:Int}:∀{cs:List (Tr U)},(∀c∈cs,c.ok)->(∀c∈cs,c.geo)->(∀c∈cs,c.side (!r)=S)->
  cs.length<=(aT r cs).length∧(∀c∈aT r cs,c.ok)∧(∀c∈aT r cs,c.geo)∧(∀c∈aT r cs,c.side (!r)=S)∧((aT r cs).map (side r)).sum+(aT r cs).length=(cs.map (side r)).sum+cs.length∧(aT r cs).flatMap panes=cs.flatMap panes:=by
 intro cs
 induction cs with
 |nil=>
  intro _ _ _;constructor<;>simp[aT]
 |cons c cs ih=>
  intro h1 h2 h3;apply jO (ih (λc hc=>h1 c (.tail _ hc)) (λc hc=>h2 c (.tail _ hc)) (λc hc=>h3 c (.tail _ hc))) λi1 i2 i3 i4 i5 i6=>?_;have e:aT r (c::cs)=(if c.kind=kd r then c.cs else [c])++aT r cs:=by rfl
  apply rwL e ?_;have one:∀m:List (Tr U),1<=m.length->(∀u∈m,u.ok)->(∀u∈m,u.geo)->(∀u∈m,u.side (!r)=S)->(m.map (side r)).sum+m.length=c.side r+1->m.flatMap panes=c.panes->
    (c::cs).length<=(m++aT r cs).length∧(∀u∈m++aT r cs,u.ok)∧(∀u∈m++aT r cs,u.geo)∧(∀u∈m++aT r cs,u.side (!r)=S)∧((m++aT r cs).map (side r)).sum+(m++aT r cs).length=((c::cs).map (side r)).sum+(c::cs).length∧(m++aT r cs).flatMap panes=(c::cs).flatMap panes:=by
   intro m k1 k2 k3 k4 k5 k6;apply⟨by simp only[length_cons,length_append];lia,λu hu=>?_,λu hu=>?_,λu hu=>?_,?_,by simp only[flatMap_append,k6,i6];rfl⟩
   ·apply(mA hu).elim (λhu=>?_) λhu=>?_
    ·exact k2 u hu
    ·exact i2 u hu
   ·apply(mA hu).elim (λhu=>?_) λhu=>?_
    ·exact k3 u hu
    ·exact i3 u hu
   ·apply(mA hu).elim (λhu=>?_) λhu=>?_
    ·exact k4 u hu
    ·exact i4 u hu
   ·simp only[map_append,sum_append,length_append,map_cons,sum_cons,length_cons];lia
  split
  ·rename_i hk;apply vS (lz hk) λa w h x y z1z=>?_;obtain⟨ccs,rfl⟩:=z1z;have o:=h1 _ (.head _);have g:=h2 _ (.head _);have s:=h3 _ (.head _);(have o:=o;rw[aH]at o);(have g:=g;rw[aR]at g);apply one ccs (by lia) o.2 g.3 (λu hu=>by exact rwL (g.2 u hu) s) ?_ az.symm;simp only[g.1];simp
  ·exact one [c] (le_refl _) (by simpa using h1 c (.head _)) (by simpa using h2 c (.head _)) (by simpa using h3 c (.head _)) (by simp) (append_nil _)
theorem qO {a a':U} {r w h x y} {cs:List (Tr U)} (ho:(Tr.node a r w h x y cs).ok) (hg:(Tr.node a r w h x y cs).geo):(Tr.node a' r w h x y (aT r cs)).ok∧(Tr.node a' r w h x y (aT r cs)).geo∧(aT r cs).flatMap panes=cs.flatMap panes:=by
 rw[aH]at ho;(have hg:=hg;rewrite [aR]at hg);apply jO (qN (r:=r) ho.2 hg.3 hg.2) λi1 i2 i3 i4 i5 i6=>?_;apply⟨aH.mpr ⟨by lia,i2⟩,aR.mpr ⟨?_,λc hc=>?_,i3⟩,i6⟩
 ·have:=hg.1;simp only[aX]at this ⊢;exact i5▸this
 ·simp only[i4 c hc,aX,aX]
theorem mq {l:List (Tr U)} {i:Nat} {f:Tr U->Tr U} (h:i<l.length):E3 λs k t=>l=s++k::t∧s.length=i∧l.modify i f=s++f k::t:=by
 have hl:l=l.take i++l[i]::l.drop (i+1):=by simp only[getElem_cons_drop,take_append_drop]
 have hs:(l.take i).length=i:=by apply rwL length_take ?_;lia
 apply⟨l.take i,l[i],l.drop (i+1),hl,hs,?_⟩;generalize l.take i=s at hl hs;generalize l[i]=k at hl;generalize l.drop (i+1)=t at hl;subst hl;subst hs;clear h
 induction s with
 |nil=>simp
 |cons u s ih=>simp[ih]
theorem kj {F:Fm U} {l:Tr U} (ho:(fill F l).ok) (hg:(fill F l).geo):E3 λs k t=>F.l++F.rt=s++k::t∧s.length=F.l.length-1∧bV F (l.side F.r+1)=s++ry F.r (l.side F.r+1) k::t∧0<=k.room F.r+(l.side F.r+1)∧k.ok∧Chg F.r (l.side F.r+1) k (ry F.r (l.side F.r+1) k) ∧
  (∀c∈bV F (l.side F.r+1),c.ok)∧(∀c∈bV F (l.side F.r+1),c.geo)∧(∀c∈bV F (l.side F.r+1),c.side (!F.r)=(fill F l).side (!F.r)) ∧
  ((bV F (l.side F.r+1)).map (side F.r)).sum+(bV F (l.side F.r+1)).length=(fill F l).side F.r+1∧(bV F (l.side F.r+1)).flatMap panes=F.l.flatMap panes++F.rt.flatMap panes:=by
 rw[dW]at ho;(have hg:=hg;rewrite [dH]at hg);apply jh ho λo1 o2 o3 o4=>?_;clear ho;apply yq hg λg1 z1z g5 g6 g7=>bH z1z λg2 g3 g4=>?_;clear hg z1z;apply C5 (mq (l:=F.l++F.rt) (i:=F.l.length-1) (f:=ry F.r (l.side F.r+1)) (by simp only[length_append];exact lt_of_le_of_lt (Nat.sub_le_sub_right (le_add_right _ _) 1) (Nat.sub_lt (Nat.le_of_succ_le_succ o1) Nat.one_pos))) λs k t e1 e2 e3=>?_;have all:∀c∈s++k::t,c.ok∧c.geo∧c.side (!F.r)=(fill F l).side (!F.r):=λc hc=>by
  rw[<-e1]at hc;apply(mA hc).elim (λhc=>?_) λhc=>?_
  ·exact⟨o2 c hc,g5 c hc,g2 c hc⟩
  ·exact⟨o4 c hc,g7 c hc,g4 c hc⟩
 have hk:=all k (mem_append_right _ (.head _));have hlp:=cB o3 g6 F.r;have hrm:=ck (d:=F.r) hk.1;have hch:=pf (d:=F.r) (c:=l.side F.r+1) hk.1 (by omega);have sm:(F.l.map (side F.r)).sum+(F.rt.map (side F.r)).sum=(s.map (side F.r)).sum+(k.side F.r+(t.map (side F.r)).sum):=by
  have:=congrArg (λl=>(l.map (side F.r)).sum) e1;simpa using this
 have ln:F.l.length+F.rt.length=s.length+(t.length+1):=by simpa using congrArg List.length e1
 have pn:F.l.flatMap panes++F.rt.flatMap panes=s.flatMap panes++(k.panes++t.flatMap panes):=by simpa using congrArg (λl=>l.flatMap panes) e1
 have eg:bV F (l.side F.r+1)=s++ry F.r (l.side F.r+1) k::t:=e3;apply⟨s,k,t,e1,e2,eg,by omega,hk.1,hch,?_,?_,?_,?_,?_⟩
 ·apply rwL eg ?_;intro c hc;apply(mA hc).elim (λhc=>?_) λhc=>?_
  ·exact(all c (mem_append_left _ hc)).1
  ·rcases mC hc with rfl|hc
   ·exact hch.ok
   ·exact(all c (mem_append_right _ (.tail _ hc))).1
 ·apply rwL eg ?_;intro c hc;apply(mA hc).elim (λhc=>?_) λhc=>?_
  ·exact(all c (mem_append_left _ hc)).2
  ·rcases mC hc with rfl|hc
   ·exact hch.geo hk.2
   ·exact(all c (mem_append_right _ (.tail _ hc))).2
 ·apply rwL eg ?_;intro c hc;apply(mA hc).elim (λhc=>?_) λhc=>?_
  ·exact(all c (mem_append_left _ hc)).3
  ·rcases mC hc with rfl|hc
   ·simp only[hch.so];exact hk.3
   ·exact(all c (mem_append_right _ (.tail _ hc))).3
 ·simp only[eg,g1];simp only[map_append,sum_append,map_cons,sum_cons,length_append,length_cons,hch.sd];lia
 ·simp only[eg,pn];simp only[flatMap_append,flatMap_cons,jL hch.sk]
theorem lH:∀{C:List (Fm U)} {F:Fm U},dQ (C++[F])=dQ C++F.l.flatMap panes∧ct (C++[F])=F.rt.flatMap panes++ct C:=by
 intro C
 induction C with
 |nil=>
  intro F;simp[jp,dZ,iC,dL]
 |cons E C ih=>
  intro F;apply af (ih (F:=F)) λi1 i2=>?_;simp only[cons_append,dZ,dL,i1,i2,append_assoc];exact⟨trivial,trivial⟩
theorem dw {C:List (Fm U)} {F:Fm U} {t:Tr U}:aa (C++[F]) t=aa C (fill F t):=by apply rwL dU ?_;rfl
theorem bi {t:T} {p:Int} (hg:Fine t) (hp:p∈t.panes) (h2:t.panes.length≠1):∃t',bc t p=some t'∧Fine t'∧(∀d,t'.side d=t.side d)∧E2 λpre post=>t.panes=pre++p::post∧t'.panes=pre++post:=by
 cases hf:find p t with
 |none=>exact absurd hp (iO.mp hf)
 |some q=>
  obtain⟨C,l⟩:=q;apply af (dA hf) λet z1z=>?_;obtain⟨a,w,h,x,y,rfl⟩:=z1z;have hgd:=hg.good;cases hC:C.getLast? with
  |none=>
   have:C=[]:=List.getLast?_eq_none_iff.mp hC;subst this;(have h2:=h2;rw[et]at h2);ac_nf
  |some F=>
   have eC:=cK hC;have pan:t.panes=dQ C++p::ct C:=by simp only[et,aE,au];exact append_assoc ..
   have cnt:(dQ C++ct C).length<=20:=by
    have:=hg.sm.len;rw[pan]at this;simp only[length_append,length_cons]at this ⊢;exact le_of_lt (by assumption)
   have hcp:=lH (C:=C.dropLast) (F:=F);rw[<-eC]at hcp;(have hgd:=hgd;rw[et,eC,dw]at hgd);have ho:=(cy hgd.ok).1;have hge:=(eT hgd.geo).1;apply zA (kj ho hge) λs k t2 e1 e2 e3 e4 e5 z1z=>?_;(apply jO z1z λe6 e7 e8 e9 e10 e11=>?_;clear z1z);have eside:∀d,(aa C.dropLast (fill F (.leaf a w h x y p))).side d=t.side d:=λd=>by
    have q:=dw (C:=C.dropLast) (F:=F) (t:=.leaf a w h x y p);simp only[<-eC]at q;simp only[et,q]
   have f0:find p t=some (C.dropLast++[F],.leaf a w h x y p):=hf.trans (congrArg (λz=>some (z,_)) eC);generalize hks:bV F ((Tr.leaf a w h x y p).side F.r+1)=ks at e3 e7 e8 e9 e10 e11;by_cases hl:1<ks.length
   ·have sd:∀d',(Tr.node () F.r F.w F.h F.x F.y ks).side d'=(fill F (.leaf a w h x y p)).side d':=λd'=>by exact Int.neg_inj.mp rfl
    have k1:(Tr.node () F.r F.w F.h F.x F.y ks).ok:=aH.mpr ⟨by assumption,e7⟩;have k2:(Tr.node () F.r F.w F.h F.x F.y ks).geo:=aR.mpr ⟨by simp only[sd];exact Eq.symm (Int.sub_eq_iff_eq_add.mpr e10),λc hc=>by simp only[sd];exact e9 c hc,e8⟩;have hgd':=dz hgd k1 k2 sd;have pp:(aa C.dropLast (Tr.node () F.r F.w F.h F.x F.y ks)).panes=dQ C++ct C:=by
     simp only[aE,az,e11,hcp.1,hcp.2];simp
    exact⟨_,iX f0 hks hl,hgd'.fine (by exact rwL pp cnt),λd=>by rw[ca,cj sd];exact eside d,_,_,pan,by exact rwL cn (rwL pp rfl)⟩
   ·have hkl:ks.length=1:=by simp only[e3]at hl ⊢;simp only[length_append,length_cons]at hl ⊢;lia
    apply a8 (List.length_eq_one_iff.mp hkl) λk' hk'=>?_;simp only[hk']at e7 e8 e9 e10 e11;simp only[map_cons,map_nil,sum_cons,List.sum_nil,length_cons,length_nil,flatMap_cons,List.flatMap_nil,append_nil]at e10 e11;have ok':=e7 k' (.head _);have ge':=e8 k' (.head _);have sd:∀d',k'.side d'=(fill F (.leaf a w h x y p)).side d':=λd'=>by
     by_cases hd:F.r=d'
     ·subst hd;lia
     ·have:d' = !F.r:=by revert hd;obtain⟨⟩:=F.r<;>obtain⟨⟩:=d'<;>simp
      exact rwL this (e9 k' (.head _))
    cases hE:C.dropLast.getLast? with
    |none=>
     have hD:C.dropLast=[]:=List.getLast?_eq_none_iff.mp hE;simp only[hD]at hgd hcp eside;have hgd':=dz (C:=[]) hgd ok' ge' sd;have pp:k'.panes=dQ C++ct C:=by simp only[e11,hcp.1,hcp.2];simp[jp,iC]
     exact⟨_,ku (f0.trans (by rw[hD];rfl)) (hks.trans hk'),Good.fine (t:=k') hgd' (by exact rwL pp cnt),λd=>by simp only[ca,sd];exact eside d,_,_,pan,by exact rwL cn (rwL pp rfl)⟩
    |some E=>
     have eD:=cK hE;have hcp2:=lH (C:=C.dropLast.dropLast) (F:=E);rw[<-eD]at hcp2;have hgd':=dz hgd ok' ge' sd;have hs2:∀d,(aa C.dropLast k').side d=t.side d:=λd=>by rw[cj sd];exact eside d
     rw[eD,dw]at hgd' hs2;have ho2:=(cy hgd'.ok).1;have hg2:=(eT hgd'.geo).1;apply bH (qO (a':=()) ho2 hg2) λm1 m2 m3=>?_;have sd2:∀d',(Tr.node () E.r E.w E.h E.x E.y (aT E.r (E.l++k'::E.rt))).side d'=(fill E k').side d':=λd'=>by exact Int.neg_inj.mp rfl
     have hgd3:=dz hgd' m1 m2 sd2;have pp:(aa C.dropLast.dropLast (Tr.node () E.r E.w E.h E.x E.y (aT E.r (E.l++k'::E.rt)))).panes=dQ C++ct C:=by
      simp only[aE,az,m3,hcp.1,hcp.2,hcp2.1,hcp2.2];simp[e11]
     exact⟨_,kt (f0.trans (congrArg (λz=>some (z++[F],_)) eD)) (hks.trans hk'),hgd3.fine (by exact rwL pp cnt),λd=>by rw[ca,cj sd2];exact hs2 d,_,_,pan,by exact rwL cn (rwL pp rfl)⟩
theorem cM {t:T} {p:Int} (ho:t.ok) (h:p∉t.panes\/t.panes.length=1):bc t p=none:=by
 unfold bc;cases hf:find p t with
 |none=>rfl
 |some q=>
  obtain⟨C,l⟩:=q;apply af (dA hf) λet z1z=>vS z1z λa w h' x y z2z=>?_;clear z1z;subst z2z;have hp:p∈t.panes:=by simp only[et,aE,au];simp
  have h1:t.panes.length=1:=h.resolve_left λz=>z hp;have:=(nL ho).mp h1;have hC:C=[]:=by
   cases C with
   |nil=>rfl
   |cons F C=>have this:=et▸this;simp[bS,fill,isLeaf]at this
  subst hC;rfl
theorem lD {d:Bool} {s:Int} {t:Tr U} (h:Good t) (hs:s<=64):Good (dK d s t)∧(dK d s t).panes=t.panes:=by
 have hr:=ck (d:=d) h.ok;have hc:0<=t.room d+mx (s-t.side d) (-(t.room d)):=by unfold mx;split<;>lia
 have k:=pf (d:=d) (c:=mx (s-t.side d) (-(t.room d))) h.ok hc;have b:∀d',t.side d'<=64:=λd'=>by
  obtain⟨⟩:=d'
  ·exact h.bh
  ·exact h.bw
 have b':∀d',(dK d s t).side d'<=64:=λd'=>by
  by_cases e:d'=d
  ·obtain rfl:=e.symm;have q1:=k.sd;have q2:=b d;unfold dK;apply rwL q1 ?_;unfold mx;split<;>lia
  ·have:d' = !d:=by revert e;(generalize d=d'z;obtain⟨⟩:=d'z)<;>obtain⟨⟩:=d'<;>simp
   subst this;unfold dK;exact rwL k.so (b _)
 exact⟨⟨k.ok,k.geo h.geo,b' true,b' false⟩,jL k.sk⟩
theorem tN {w h:Int} {t:T} (hg:Fine t) (hw:w<=64) (hh:h<=64):Fine (qY w h t)∧(qY w h t).panes=t.panes:=by
 apply af (lD (d:=true) hg.good hw) λg1 p1=>?_;apply af (lD (d:=false) g1 hh) λg2 p2=>?_;exact⟨g2.fine (by apply rwL p2 (rwL p1 ?_);exact hg.sm.len),by unfold qY;exact rwL cn (rwL p2 (rwL p1 rfl))⟩
noncomputable def bF (f:Int->Int) (t:Tr U):Tr U:=fo (λa w h x y p=>.leaf a w h x y (f p)) (λa r w h x y _ cs=>.node a r w h x y cs) [] (λ_ _ c cs=>c::cs) t
noncomputable def nJ (f:Int->Int) (ts:List (Tr U)):List (Tr U):=fos (λa w h x y p=>.leaf a w h x y (f p)) (λa r w h x y _ cs=>.node a r w h x y cs) [] (λ_ _ c cs=>c::cs) ts
theorem Aq {U:Type} {f}:nJ f ([]:List (Tr U))=[]:=rfl
theorem tc {U:Type} {f} {c:Tr U} {cs}:nJ f (c::cs)=bF f c::nJ f cs:=rfl
theorem Bz {U:Type} {f} {a:U} {w h x_1 y p}:bF f (leaf a w h x_1 y p)=leaf a w h x_1 y (f p):=rfl
theorem w7 {U:Type} {f} {a:U} {r w h x_1 y cs}:bF f (node a r w h x_1 y cs)=node a r w h x_1 y (nJ f cs):=rfl
theorem ta {f:Int->Int}:∀{cs:List (Tr U)},nJ f cs=cs.map (bF f):=by
 intro cs
 induction cs with
 |nil=>
  exact rfl
 |cons c cs ih=>
  simp[tc,ih]
theorem ls {f:Int->Int} {a:U} {w h x y p}:bF f (.leaf a w h x y p)=.leaf a w h x y (f p):=rfl
theorem bp {f:Int->Int} {a:U} {r w h x y} {cs:List (Tr U)}:bF f (.node a r w h x y cs)=.node a r w h x y (cs.map (bF f)):=by simp only[w7,ta]
theorem eR {f:Int->Int} {t:Tr U} {d:Bool}:(bF f t).side d=t.side d:=by obtain⟨⟩:=t<;>obtain⟨⟩:=d<;>rfl
theorem td {f:Int->Int} {t:Tr U}:(bF f t).tag=t.tag:=by obtain⟨⟩:=t<;>rfl
theorem jV {f:Int->Int}:∀{t:Tr U},(bF f t).panes=t.panes.map f:=by
 intro t
 induction t using bn with
 |step t ih=>
  cases t with
  |leaf=>rfl
  |node a r w h x y cs=>
   simp only[bp,az,az,map_flatMap,flatMap_map];have:∀l:List (Tr U),(∀c∈l,c∈cs)->l.flatMap (λc=>(bF f c).panes)=l.flatMap λc=>c.panes.map f:=by
    intro l
    induction l with
    |nil=>intro _;rfl
    |cons c l ih2=>intro h;simp only[flatMap_cons];simp only[ih c (h c (.head _)),ih2 λc hc=>h c (.tail _ hc)]
   exact this cs λ_ h=>h
theorem w0 {f:Int->Int}:∀{t:Tr U},t.ok->(bF f t).ok:=by
 intro t
 induction t using bn with
 |step t ih=>
  intro h;cases t with
  |leaf=>exact h
  |node a r w h' x y cs=>
   rewrite [bp,aH,length_map]
   simp only[aH]at h;apply⟨h.1,λc hc=>?_⟩;apply ad (mP hc) λu hu z1z=>?_;subst z1z;exact ih u hu (h.2 u hu)
theorem tf {f:Int->Int}:∀{t:Tr U},t.geo->(bF f t).geo:=by
 intro t
 induction t using bn with
 |step t ih=>
  intro h;cases t with
  |leaf=>exact h
  |node a r w h' x y cs=>
   simp only[bp,aR,length_map,map_map];simp only[aR]at h;have e:∀d,List.map (side d ∘ bF f) cs=List.map (side d) cs:=λd=>map_congr_left λu _=>eR;apply⟨?_,λc hc=>?_,λc hc=>?_⟩
   ·simp only[e,aX];have:=h.1;simp only[aX]at this;exact this
   ·(apply ad (mP hc) λu hu z1z=>?_;subst z1z);simp only[eR,h.2 u hu,aX,aX]
   ·(apply ad (mP hc) λu hu z1z=>?_;subst z1z);exact ih u hu (h.3 u hu)
theorem w9 {f:Int->Int} {M:Int} {t:Tr U}:Bx M (bF f t)↔Bx M t:=by obtain⟨⟩:=t<;>exact Iff.rfl
theorem tg {f:Int->Int} {M:Int}:∀{t:Tr U},box M t->box M (bF f t):=by
 intro t
 induction t using bn with
 |step t ih=>
  intro h;rw[iE]at h ⊢;apply⟨w9.mpr h.1,λc hc=>?_⟩;cases t with
  |leaf=>exact absurd hc not_mem_nil
  |node a r w h' x y cs=>
   rw[bp]at hc;apply ad (mP hc) λu hu z1z=>?_;subst z1z;exact ih u hu (h.2 u hu)
theorem qP {f:Int->Int} {t:Tr U} (h:Fine t):Fine (bF f t):=
 ⟨⟨w0 h.ok,by simp only[jV,length_map];exact h.sm.len⟩,tf h.geo,by simp only[cY,eR];exact h.bw,by simp only[cZ,eR];exact h.bh,tg h.box⟩
theorem te {g:U->O} {f:Int->Int}:∀{t:Tr U},bF f (t.map g)=(bF f t).map g:=by
 intro t
 induction t using bn with
 |step t ih=>
  cases t with
  |leaf=>rfl
  |node a r w h x y cs=>
   simp only[aZ,bp,bp,aZ,map_map,map_map];congr 1;exact map_congr_left λc hc=>ih c hc
noncomputable def jX (f:Int->Int) (F:Fm U):Fm U:=⟨F.a,F.r,F.w,F.h,F.x,F.y,F.l.map (bF f),F.rt.map (bF f)⟩
theorem lr {f:Int->Int}:∀{C:List (Fm U)} {t:Tr U},bF f (aa C t)=aa (C.map (jX f)) (bF f t):=by
 intro C
 induction C with
 |nil=>
  intro t;exact rfl
 |cons F C ih=>
  intro t;simp only[bS,map_cons,fill,bp,map_append,ih,jX]
theorem jW {f f':Int->Int}:∀{t:Tr U},(∀p∈t.panes,f p=f' p)->bF f t=bF f' t:=by
 intro t
 induction t using bn with
 |step t ih=>
  intro h;cases t with
  |leaf a w h' x y p=>simp only[ls];exact congrArg _ (h p (by exact .head _))
  |node a r w h' x y cs=>
   simp only[bp,bp];congr 1;apply map_congr_left λc hc=>ih c hc λp hp=>h p ?_;exact rwL az (mG ⟨c,hc,hp⟩)
noncomputable def asg (ps ns:List Int) (p:Int):Int:=((ps.zip ns).lookup p).getD p
noncomputable def jG (ns:List Int) (t:Tr U):Tr U:=bF (asg t.panes ns) t
theorem wU:∀{ps ns:List Int},ps.Nodup->ps.length=ns.length->ps.map (asg ps ns)=ns:=by
 intro ps
 induction ps with
 |nil=>
  intro v1;cases v1 with
  |nil=>
   intro _ _;exact rfl
  |cons _ _=>
   intro _ h;ac_nf
 |cons p ps ih=>
  intro v1;cases v1 with
  |nil=>
   intro _ h;ac_nf
  |cons n ns=>
   intro nd h;rw[nodup_cons]at nd;simp only[map_cons,List.cons.injEq];apply⟨by simp[asg],?_⟩;apply Eq.trans ?_ (ih (ns:=ns) nd.2 (by simpa using h));apply map_congr_left λq hq=>?_;have:q≠p:=λz=>nd.1 (z▸hq);simp only[asg,zip_cons_cons];simp[lookup_cons,beq_false_of_ne this]
theorem jF {ns:List Int} {t:T} (hg:Fine t) (nd:t.panes.Nodup) (hl:ns.length=t.panes.length):Fine (jG ns t)∧(jG ns t).panes=ns∧∀d,(jG ns t).side d=t.side d:=
 ⟨qP hg,by unfold jG;exact rwL jV (rwL (wU nd hl.symm) rfl),λd=>eR⟩
noncomputable def oq (one other p:Int):Int:=if p=other then one else if p=one then other else p
noncomputable def fK (t:T) (one other:Int):Option T:=if one∈t.panes∧other∈t.panes then some (jG (t.panes.map (oq one other)) t)else none
noncomputable def zw (back:Bool) (l:List Int):List Int:=if back then l.drop 1++l.take 1 else l.drop (l.length-1)++l.take (l.length-1)
noncomputable def gM (back:Bool) (t:T):T:=jG (zw back t.panes) t
end Tr
end
section
section
variable {H:AH} {Q:AV->AH->Prop}
theorem qc {a:Addr} {f:Bool} {xs:List AV} {k:Int} {j:Nat} {u:AV} (e:H a=some (f,.list xs)) (h1 : -(2 ^ 62)<k) (h2:k<2 ^ 62) (hj:seqIndex? k xs.length=some j) (hu:xs[j]?=some u) (q:Q u H):be (.ref a) (.int k) H Q:=
 .inl ⟨f,xs,j,u,e,h1,h2,hj,hu,q⟩
theorem df {a:Addr} {f:Bool} {xs:List AV} {k:Int} {j:Nat} {u:AV} (e:H a=some (f,.list xs)) (hk:k=(j:Int)) (hl:xs.length<=cap) (hu:xs[j]?=some u) (q:Q u H):be (.ref a) (.int k) H Q:=by
 have hlt:=(mE hu).1;subst hk;unfold cap at hl;apply qc e (Rat.intCast_lt_intCast.mp rfl) (by lia) ?_ hu q;unfold seqIndex?;have h1:¬((j:Int)<0):=by exact not_ofNat_neg j
 simp only[h1,if_false];apply rwL (if_pos (by simp;exact hlt)) ?_;simp
theorem oX {a:Addr} {f:Bool} {xs:List AV} {k:Int} {j:Nat} {u:AV} (e:H a=some (f,.list xs)) (hk:k = -((xs.length-j:Nat):Int)) (hj:j<xs.length) (hl:xs.length<=cap) (hu:xs[j]?=some u) (q:Q u H):be (.ref a) (.int k) H Q:=by
 unfold cap at hl;apply qc e (by omega) (by omega) ?_ hu q;unfold seqIndex?;have h1:k<0:=by omega
 simp only[h1,if_true];have h2:k+(xs.length:Int)=(j:Int):=by omega
 apply rwL h2 (rwL (if_pos (by simp;exact hj)) ?_);simp
theorem tE {a:Addr} {f:Bool} {s:List AV} {u:AV} (e:H a=some (f,.list (s++[u]))) (hl:s.length<=100) (q:Q u H):be (.ref a) (.int (-1)) H Q:=
 oX (j:=s.length) e (by simp) (by simp) (by simp;unfold cap;exact lt_of_le_of_lt hl (le_of_ble_eq_true rfl)) (by simp) q
theorem nW {a:Addr} {f:Bool} {s:List AV} {u v:AV} (e:H a=some (f,.list (s++[u,v]))) (hl:s.length<=100) (q:Q u H):be (.ref a) (.int (-2)) H Q:=
 oX (j:=s.length) e (by simp) (by simp) (by simp;unfold cap;lia) (by simp) q
theorem tD {a:Addr} {f:Bool} {s:List AV} {u v w:AV} (e:H a=some (f,.list (s++[u,v,w]))) (hl:s.length<=100) (q:Q u H):be (.ref a) (.int (-3)) H Q:=
 oX (j:=s.length) e (by simp) (by simp) (by simp;unfold cap;lia) (by simp) q
theorem tF {a:Addr} {f:Bool} {xs:List AV} {u:AV} (e:H a=some (f,.list xs)) (hl:xs.length<=100) (hu:xs[0]?=some u) (q:Q u H):be (.ref a) (.int 0) H Q:=
 df (j:=0) e rfl (by unfold cap;exact le_trans hl (by decide)) hu q
theorem aF {a:Addr} {f:Bool} {xs:List AV} (e:H a=some (f,.list xs)) (hl:xs.length<=cap) (q:Q (.int xs.length) H):fC .len [.ref a] H Q:=.inl ⟨f,xs,e,hl,q⟩
end
abbrev FL:=Fm (Addr × Addr)
noncomputable def j9 (C:List FL):List Addr:=List.rec [] (λF _ ih=>F.a.1::F.a.2::(F.l.flatMap ads++F.rt.flatMap ads)++ih) C
theorem wJ:j9 []=[]:=rfl
theorem mY {F C}: j9 (F::C) =
 Prod.fst (Fm.a F)::Prod.snd (Fm.a F)::(List.flatMap ads (Fm.l F)++List.flatMap ads (Fm.rt F))++j9 C:=rfl
theorem al {F:FL} {t:L}:ads (Tr.fill F t)=F.a.1::F.a.2::(F.l.flatMap ads++(ads t++F.rt.flatMap ads)):=by
 rw[bj];simp[Tr.fill,Tr.tag,Tr.cs]
theorem kz:∀{C:List FL} {t:L},(ads (Tr.aa C t)).Perm (j9 C++ads t):=by
 intro C
 induction C with
 |nil=>
  intro t;simp[Tr.gf,wJ]
 |cons F C ih=>
  intro t;simp only[Tr.bS,al,mY,cons_append];apply .cons _ (.cons _ ?_);rw[append_assoc];simp only[append_assoc];apply .append_left _ ?_;exact((ih (t:=t)).append_right _).trans List.perm_append_comm
theorem jI {C:List FL} {t u:L} (h:u.tag.1=t.tag.1):(Tr.aa C u).tag.1=(Tr.aa C t).tag.1:=by
 cases C with
 |nil=>exact h
 |cons F C=>rfl
theorem cg {f:Bool} {H:AH} {F:FL} {t:L}:LR f H (Tr.fill F t)↔Nd f H (Tr.fill F t)∧(∀c∈F.l,LR f H c)∧LR f H t∧∀c∈F.rt,LR f H c:=by
 rw[bz];simp only[Tr.fill,Tr.cs,mem_append,mem_cons];constructor
 ·rintro⟨h1,h2⟩;exact⟨h1,λc hc=>h2 c (.inl hc),h2 t (.inr (.inl rfl)),λc hc=>h2 c (.inr (.inr hc))⟩
 ·rintro⟨h1,h2,h3,h4⟩;apply⟨h1,λc hc=>?_⟩;rcases hc with hc|rfl|hc
  ·exact h2 c hc
  ·exact h3
  ·exact h4 c hc
theorem LR.unplug {f:Bool} {H:AH}:∀{C:List FL} {t:L},LR f H (Tr.aa C t)->LR f H t:=by
 intro C
 induction C with
 |nil=>
  intro t h;exact h
 |cons F C ih=>
  intro t h;exact ih (cg.mp h).3
theorem Nd.EX {f:Bool} {H:AH} {F:FL} {t u:L} (h:Nd f H (Tr.fill F t)) (e:u.tag.1=t.tag.1):Nd f H (Tr.fill F u):=
 ⟨h.1,by
  have:=h.2;simp only[Tr.fill,Tr.cs,map_append,map_cons]at this ⊢;exact rwL e this⟩
theorem fN {f:Bool} {X:List Addr} {H H':AH} {l u:L} (e:u.tag.1=l.tag.1) (k:Ex X H H') (hu:LR f H' u):∀{C:List FL},LR f H (Tr.aa C l)->(∀a∈j9 C,a∉X)->LR f H' (Tr.aa C u):=by
 intro C
 induction C with
 |nil=>
  intro _ _;exact hu
 |cons F C ih=>
  intro h hx;apply jh (cg.mp h) λh1 h2 h3 h4=>?_;simp only[mY,cons_append,mem_cons,mem_append]at hx;apply cg.mpr ⟨(Nd.EX h1 (jI e)).ex k (hx _ (.inl rfl)) (hx _ (.inr (.inl rfl))),λc hc=>(h2 c hc).ex k λa ha=>hx a (.inr (.inr (.inl (.inl (mG ⟨c,hc,ha⟩))))),
   ih h3 λa ha=>hx a (.inr (.inr (.inr ha))),λc hc=>(h4 c hc).ex k λa ha=>hx a (.inr (.inr (.inl (.inr (mG ⟨c,hc,ha⟩)))))⟩
theorem gc {C:List FL} {l:L} (h:(ads (Tr.aa C l)).Nodup):(j9 C).Nodup∧(ads l).Nodup∧∀a∈j9 C,a∉ads l:=by
 have:=nodup_append.mp (kz.nodup_iff.mp h);exact⟨this.1,this.2.1,λa ha hb=>this.2.2 a ha a hb rfl⟩
theorem fe {C:List FL} {l u:L} (h:(ads (Tr.aa C l)).Nodup) (hu:(ads u).Nodup) (hd:∀a∈ads u,a∉j9 C):(ads (Tr.aa C u)).Nodup:=
 kz.nodup_iff.mpr (nodup_append.mpr ⟨(gc h).1,hu,λa ha b hb z=>hd b hb (z▸ha)⟩)
theorem aj {C:List FL} {l:L} {a:Addr}:a∈ads (Tr.aa C l)↔a∈j9 C\/a∈ads l:=by rw[kz.mem_iff,mem_append]
theorem gm {F:FL} {t:L} (h:(ads (Tr.fill F t)).Nodup):∀u∈F.l,u.tag.1≠t.tag.1:=λu hu z=>by
 rw[al,nodup_cons,nodup_cons]at h;have:=(nodup_append.mp h.2.2).2.2;exact this u.tag.1 (mG ⟨u,hu,aO u⟩) t.tag.1 (mem_append_left _ (aO t)) z
section
variable {W:Wd} {m:Nat} {H:AH} {Q:AV->AH->Prop}
theorem LR.own {f:Bool} {t:L} (h:LR f H t):∃p,H t.tag.1=Option.some p∧p.2≠.opq:=by
 apply af h.nd λz1z _=>?_;obtain⟨dx,e⟩:=z1z;exact⟨_,e,λz=>by ac_nf⟩
theorem xw (G:GD W) {r:Addr} {f:Bool} {x v:AV} (hm:1<=m) (e:H r=some (f,.list [x])) (q:Q v H):a7 W 134 [.ref r,v] m H Q:=by
 apply bZ G rfl hm rfl λn hn=>?_;ext;apply aF e (by simp[cap]) ⟨λ_=>q,λz=>by ac_nf⟩
theorem xv (G:GD W) {r:Addr} {f:Bool} {s:List AV} {F:FL} {u:L} {x v:AV} (hm:2<=m) (e:H r=some (f,.list (s++[.ref F.a.1,rf u]))) (hs:s.length<=50) (hx:(s++[.ref F.a.1,rf u])[0]?=some x) (hN:Nd false H (Tr.fill F u)) (hl:F.l.length+F.rt.length<=50)
  (ha:∀c∈F.l++u::F.rt,∃p,H c.tag.1=some p∧p.2≠.opq) (hn:∀c∈F.l,c.tag.1≠u.tag.1) (hr:r≠F.a.2) (q:Q x (H.set F.a.2 (.list (F.l.map rf++v::F.rt.map rf)))):a7 W 134 [.ref r,v] m H Q:=by
 apply bZ G rfl hm rfl λn hn'=>?_;ext;obtain⟨⟨dx,e1⟩,e2⟩:=hN;have e1':H F.a.1=_:=e1;have e2':H F.a.2=some (false,.list ((F.l++u::F.rt).map rf)):=e2;apply aF e (by simp;unfold cap;lia) ⟨λz=>?_,λ_=>?_⟩<;>ext
 ·simp at z;lia
 apply nW e (le_trans hs (by decide)) ?_;apply tB e1' ?_<;>ext;apply tE (s:=s++[.ref F.a.1]) (by simpa using e) (by simp;exact le_trans hs (by decide)) ?_;apply ze G (hn') e2' ha hn ?_;apply .inl ⟨_,e2',by exact natCast_nonneg F.l.length,by simp;exact Int.lt_add_succ (↑F.l.length) F.rt.length,by simp;unfold cap;exact lt_of_le_of_lt hl (le_of_ble_eq_true rfl),?_⟩<;>ext;have e3:((F.l++u::F.rt).map rf).set ((F.l.length:Int)).toNat v=F.l.map rf++v::F.rt.map rf:=by simp
 apply rwL e3 ?_;apply tF ((AH.EQ _ _ hr).trans e) (by simp;exact le_trans hs (by decide)) hx q
theorem D7 (G:GD W) {l:Addr} {f f' r:Bool} {cs:List L} (hm:1<=m) (e:H l=some (f,.list (cs.map rf))) (hc:∀c∈cs,Nd f' H c) (hl:(Tr.aT r cs).length<=20) (hk:cs.length<=20) (hp:∀s t,cs=s++t->(Tr.aT r s).length<=20)
  (q:∀a H',H a=none->Sb H H'->H' a=some (false,.list ((Tr.aT r cs).map rf))->Q (.ref a) H'):a7 W 149 [.ref l,.str (kd r)] m H Q:=by
 apply bZ G rfl hm rfl λn hn'=>?_;ext;apply⟨by decide,λa ha=>?_⟩<;>ext;apply cC (g:=rf) (cs:=cs) (λpre Z H'=>Z.lookup 24=some (.ref a)∧Z.lookup 0=some (.str (kd r))∧Sb H H'∧H' a=some (false,.list ((Tr.aT r pre).map rf))) ⟨rfl,rfl,.new ha,AH.EP _ _ _⟩ (λpre Z H' hJ=>⟨f,hJ.3.list e⟩) ?_ ?_
 ·rintro pre u suf Z H' hcs ⟨h1,h2,h3,h4⟩;have hu:u∈cs:=by exact rwL hcs (mem_append_right _ (.head _))
  apply af (hc u hu) λz1z e2=>?_;obtain⟨dx,e1⟩:=z1z;have hmelt:Tr.aT r (pre++[u])=Tr.aT r pre++(if u.kind=kd r then u.cs else [u]):=by simp[Tr.aT]
  have hlen:=hp (pre++[u]) suf (by simp[hcs]);simp only[hmelt,length_append]at hlen;apply cI (eZ.put (.cons h1 (.cons h2 .nil))) ?_;dsimp only[rf];ext;apply⟨uj h4,?_⟩;apply AF (h3.inst e1) ?_;apply⟨λhk=>?_,λhk=>?_⟩
  ·apply tB (h3.inst e1) ?_;have hk:=of_decide_eq_true hk;rw[if_pos hk]at hmelt hlen;have e2':=h3.list e2;apply⟨λz=>?_,f',_,_,h4,e2',?_,?_⟩
   ·have:=e2;simp only[<-z,ha]at this;exact nS this
   ·simp only[length_map];unfold cap;exact le_trans hlen (by decide)
   ·apply λZ1 E=>⟨E 24 _ rfl,E 0 _ rfl,?_,?_⟩
    ·exact λb f o nn eb _=>(AH.EQ _ _ (ak ha eb)).trans (h3 b f o nn eb (by assumption))
    ·simp only[AH.EP,hmelt,map_append];rfl
  ·have hk:=of_decide_eq_false hk;rw[if_neg hk]at hmelt hlen;apply⟨by decide,λb hb=>⟨λz=>?_,false,_,_,(AH.EQ _ _ (ak hb h4)).trans h4,AH.EP _ _ _,?_,?_⟩⟩
   ·rw[<-z,h4]at hb;exact sN hb
   ·simp only[length_map,length_cons,length_nil];unfold cap;exact lt_of_lt_of_le hlen (by decide)
   ·apply λZ1 E=>⟨E 24 _ rfl,E 0 _ rfl,?_,?_⟩
    ·exact λb' f o nn eb _=>(AH.EQ _ _ (ak ha eb)).trans ((Sb.new hb) b' f o nn (h3 b' f o nn eb (by assumption)) (by assumption))
    ·simp only[AH.EP,hmelt,map_append];rfl
 ·rintro Z H' ⟨h1,h2,h3,h4⟩;exact iU h1 (q a H' ha h3 h4)
end
section
variable {H:AH} {P:Bool->Prop}
theorem zj {a b:Addr} {f g:Bool} {xs ys:List Int} (ea:H a=some (f,.list (xs.map .int))) (eb:H b=some (g,.list (ys.map .int))) (q:P (decide (xs=ys))):kE H (.ref a) (.ref b) P:=⟨f,g,xs,ys,ea,eb,q⟩
end
end
section
namespace Tr
variable {U O:Type}
theorem lW {F:Fm U} {t:Tr U} (ho:(fill F t).ok) (hg:(fill F t).geo) (d:Bool):t.side d<=(fill F t).side d:=by
 rw[dW]at ho;rw[dH]at hg;apply jh ho λo1 o2 o3 o4=>?_;clear ho;apply yq hg λg1 z1z g5 g6 g7=>bH z1z λg2 g3 g4=>?_;clear hg z1z;by_cases hd:d=F.r
 ·subst hd;have h1:=dm (d:=F.r) (cs:=F.l) λc hc=>cB (o2 c hc) (g5 c hc) _;have h2:=dm (d:=F.r) (cs:=F.rt) λc hc=>cB (o4 c hc) (g7 c hc) _;lia
 ·have:d = !F.r:=by revert hd;obtain⟨⟩:=F.r<;>obtain⟨⟩:=d<;>simp
  apply rwL this (rwL g3 ?_);exact Int.le_refl _
theorem lV {d:Bool}:∀{C:List (Fm U)} {t:Tr U},(aa C t).ok->(aa C t).geo->t.side d<=(aa C t).side d:=by
 intro C
 induction C with
 |nil=>
  intro _ _ _;exact Int.le_refl _
 |cons F C ih=>
  intro t ho hg;have h1:=lW ho hg d;have h2:=ih (t:=t) (dW.mp ho).3 (dH.mp hg).4;exact Int.le_trans h2 h1
theorem kh {g:U->O} {b:U} {fresh:Int} {d:Bool} {size:Option Int} {before:Bool} {l:Tr U}:(ae b fresh d size before l).map (map g)=ae (g b) fresh d size before (l.map g):=by
 unfold ae;obtain⟨⟩:=before<;>simp[ij,jU,eQ,ii,ik]
end Tr
noncomputable def cR:Option Int->AV
 |none=>.none
 |some i=>.int i
theorem Sb.exNw {H H' H'':AH} {X:List Addr} (s:Sb H H') (k:Ex X H' H'') (n:Nw H X):Sb H H'':=λa f o no' e _=>k a f o no' (s a f o no' e (by assumption)) λz=>n a z f o no' e
theorem fq {t:L} {p:Int}:(er t).find p=(t.find p).map λq=>(q.1.map (Fm.map λ_=>()),er q.2):=Tr.tP
theorem fk {C:List FL} {t:L}:er (Tr.aa C t)=Tr.aa (C.map (Fm.map λ_=>())) (er t):=Tr.rZ
theorem jn {t:L} {d:Bool}:(er t).side d=t.side d:=Tr.eQ
theorem ab {t:L}:(er t).panes=t.panes:=Tr.gj
theorem iP {t:L} {x y:Int}:Tr.cH x y (er t)=er (Tr.cH x y t):=Tr.vp
theorem Nw.sub {H:AH} {as bs:List Addr} (h:Nw H bs) (k:∀a∈as,a∈bs):Nw H as:=λa ha=>h a (k a ha)
theorem Nw.of {H:AH} {a:Addr} (h:H a=none):Nw H [a]:=.of_none (by simp[h])
theorem fb {U:Type} (C:List U):C=[]\/E2 λD F=>C=D++[F]:=by
 rcases List.eq_nil_or_concat C with h|⟨D,F,h⟩
 ·exact .inl h
 ·exact .inr ⟨D,F,by simpa using h⟩
section
variable {W:Wd} {m:Nat} {H:AH} {Q:AV->AH->Prop}
theorem oe (G:GD W) {t:L} {H0:AH} (hm:t.dep+1<=m) (ht:LR false H t) (hn:(ads t).Nodup) (hs:Sb H0 H) (hw:Nw H0 (ads t)) (q:∀H',Sb H0 H'->LR true H' (Tr.cH 0 0 t)->Q (.ref t.tag.1) H') :
  a7 W 127 [.ref t.tag.1,.int 0,.int 0] m H λv H'=>∃as:List Addr,Q v (fz as H'):=
 D8 G hm ht hn λH' k l=>⟨ads t,q _ (dY (hs.exNw k hw) hw) (LR.fz (λa ha=>by rwa [wX]at ha) l)⟩
theorem qm {W:Wd} {n:Nat} {a b:List CS} {QS:am->AH->Prop} {R:AV->AH->Prop}:∀{Z:am} {H:AH},cG W n (a++b) Z H QS R=cG W n a Z H (λZ H=>cG W n b Z H QS R) R:=by
 induction a with
 |nil=>intro Z H;rfl
 |cons s a ih=>intro Z H;simp only[cons_append,n8,n8];congr 1;funext Z H;exact ih
theorem qy {a:Addr × Addr} {s w h x y p:Int} {d:Bool}:E2 λw' h'=>Tr.aG d s (.leaf a w h x y p:L)=.leaf a w' h' x y p:=by obtain⟨⟩:=d<;>exact⟨_,_,rfl⟩
theorem qo {H:AH} {a:Addr × Addr} {s w h x y p:Int} {d:Bool} (n:Nd false H (Tr.aG d s (.leaf a w h x y p))):LR false H (Tr.aG d s (.leaf a w h x y p)):=
 bz.mpr ⟨n,by exact rwL Tr.hZ (λz hz=>nomatch hz)⟩
theorem p7 (G:GD W) {n:Nat} {Z:am} {H0:AH} {d:Bool} {l tr:L} {s mm:Int} {QS:am->AH->Prop} (hn:tr.dep+2<=n) (h36:Z.lookup 36=some (rf l)) (h27:Z.lookup 27=some (.bool d)) (h28:Z.lookup 28=some (.int s)) (h38:Z.lookup 38=some (.int mm)) (h42:Z.lookup 42=some (.ref tr.tag.1))
  (nl:Nd false H l) (after:∀H',Ex [l.tag.1] H H'->Nd false H' (Tr.aG d (s-1-mm) l)->LR false H' tr) (nd:(ads tr).Nodup) (hs:Sb H0 H) (hw:Nw H0 (ads tr)) (hl:l.tag.1∈ads tr)
  (q:∀H',Sb H0 H'->LR true H' (Tr.cH 0 0 tr)->Q (.ref tr.tag.1) H'):cG W n (gF.drop 12) Z H QS λv H=>∃as:List Addr,Q v (fz as H):=by
 unfold gF;simp only[drop_succ_cons,drop_zero];apply cI (.cons h36 (.cons h27 (.cons h28 (.cons h38 (.cons h42 .nil))))) ?_;ext;apply wO G (ay hn rfl) nl λH' k n'=>?_<;>ext;exact oe G (le_of_lt (by assumption)) (after H' k n') nd (hs.exNw k (hw.sub λa ha=>by exact rwL (mS ha) hl)) hw q
theorem iW {C:List FL} {l u:L} {k:Nat} (hu:u.dep<=l.dep+k):(Tr.aa C u).dep<=(Tr.aa C l).dep+k:=by
 induction C with
 |nil=>exact hu
 |cons F C ih=>
  simp only[Tr.bS,Tr.fill,Tr.fv];have:∀(s t:List L) (a b:L),a.dep<=b.dep+k->Tr.fu (s++a::t)<=Tr.fu (s++b::t)+k:=by
   intro s t a b hab
   induction s with
   |nil=>exact Dz hab
   |cons c s ih=>exact Dy ih
  have:=this F.l F.rt _ _ ih;exact le_trans (Nat.succ_le_succ this) (le_of_eq (Nat.succ_add _ _).symm)
theorem o6 {U:Type} {s t:List (Tr U)}:Tr.fu (s++t)=max (Tr.fu s) (Tr.fu t):=by
 induction s with
 |nil=>rfl
 |cons c s ih=>show max _ (Tr.fu (s++t))=max (max _ (Tr.fu s)) _;simp only[ih,Nat.max_assoc]
theorem ki {b a:Addr × Addr} {fresh:Int} {d:Bool} {size:Option Int} {before:Bool} {w h x y p:Int}:Tr.fu (Tr.ae b fresh d size before (.leaf a w h x y p))=0:=by
 unfold Tr.ae;obtain⟨⟩:=before<;>obtain⟨⟩:=d<;>rfl
theorem jP {a b:Addr} {s m m' t:List Addr} (h:(a::b::(s++(m++t))).Nodup) (hm:m'.Nodup) (k:∀x∈m',x∈m\/x∉a::b::(s++(m++t))):(a::b::(s++(m'++t))).Nodup:=by
 simp only[nodup_cons,mem_cons,mem_append,not_or,nodup_append]at h k ⊢;apply af h λz1z z2z=>af z1z λh1 z3z=>af z3z λh2 z4z=>af z4z λh3 h4=>af z2z λz5z z6z=>af z5z λh5 z7z=>af z7z λh6 h7=>af z6z λh8 z8z=>af z8z λz9z h12=>af z9z λh9 z10z=>af z10z λh10 h11=>?_;clear h z1z z3z z4z z2z z5z z7z z6z z8z z9z z10z;apply⟨⟨h1,h2,λz=>?_,h4⟩,⟨h5,λz=>?_,h7⟩,h8,⟨hm,h10,λx hx y hy z=>?_⟩,λx hx y hy z=>?_⟩
 ·rcases k a z with q|q
  ·exact h3 q
  ·exact q.1 rfl
 ·rcases k b z with q|q
  ·exact h6 q
  ·exact q.2.1 rfl
 ·subst z;rcases k x hx with q|q
  ·exact h11 x q x hy rfl
  ·exact q.2.2.2.2 hy
 ·subst z;rcases hy with hy|hy
  ·rcases k x hy with q|q
   ·exact h12 x hx x (.inl q) rfl
   ·exact q.2.2.1 hx
  ·exact h12 x hx x (.inr hy) rfl
theorem pM {D:List FL} {u:L} {c:Addr} {rest:List AV} (h:u.tag.1=c):((D.map λF=>AV.ref F.a.1)++.ref c::rest)[0]?=some (.ref (Tr.aa D u).tag.1):=by
 cases D with
 |nil=>simp[Tr.gf,h]
 |cons E D=>rfl
theorem uI {H:AH} {l:L} {a:Addr × Addr} {s w h x y p:Int} {d:Bool} (el:l=.leaf a w h x y p) (n:Nd false H (Tr.aG d s l)):LR false H (Tr.aG d s l):=by
 subst el;exact qo n
theorem oW {l:L} {a:Addr × Addr} {w h x y p fresh:Int} {d before:Bool} {size:Option Int} {ao lb:Addr} (el:l=.leaf a w h x y p):(Tr.ae (ao,lb) fresh d size before l).flatMap ads=if before then [ao,lb,l.tag.1,l.tag.2]else [l.tag.1,l.tag.2,ao,lb]:=by
 subst el;unfold Tr.ae;have:∀{a:Addr × Addr} {s w h x y p:Int},ads (Tr.aG d s (.leaf a w h x y p:L))=[a.1,a.2]:=by intros;obtain⟨⟩:=d<;>rfl
 obtain⟨⟩:=before<;>simp[this,Tr.tag]
theorem nV {b a:Addr × Addr} {fresh:Int} {d:Bool} {size:Option Int} {before:Bool} {l:L} {w h x y p:Int} (el:l=.leaf a w h x y p):Tr.fu (Tr.ae b fresh d size before l)=0:=by
 subst el;exact ki
theorem wH {l:L} {a b c:Addr × Addr} {w h x y p fresh w' h':Int} {d before:Bool} {size:Option Int} (el:l=.leaf a w h x y p):(Tr.node b d w' h' 0 0 (Tr.ae c fresh d size before l):L).dep<=l.dep+1:=by
 subst el;simp only[Tr.yS,Tr.fv,ki];exact le_refl _
theorem yu (G:GD W) {n:Nat} {Z:am} {H0:AH} {C:List FL} {l:L} {a:Addr × Addr} {w h x y p fresh:Int} {d before:Bool} {size:Option Int} {r ao lb rb:Addr} {QS:am->AH->Prop} (hn:35<=n) (el:l=.leaf a w h x y p)
  (h31:Z.lookup 31=some (.ref r)) (h36:Z.lookup 36=some (rf l)) (h27:Z.lookup 27=some (.bool d)) (h28:Z.lookup 28=some (.int (l.side d))) (h38:Z.lookup 38=some (.int (Tr.aY (l.side d) size))) (h40:Z.lookup 40=some (.ref rb))
  (h0:Z.lookup 0=some (.str (kd d))) (h42:Z.lookup 42=some (.ref (Tr.aa C l).tag.1)) (er:H r=some (true,.list ((C.map λF=>AV.ref F.a.1)++[rf l]))) (hC:C.length<=20) (hsm:(Tr.aa C l).Sm)
  (l1:LR false H (Tr.aa C l)) (nd1:(ao::lb::rb::ads (Tr.aa C l)).Nodup) (lo:LR false H (Tr.aG d (Tr.aY (l.side d) size) (.leaf (ao,lb) l.w l.h 0 0 fresh)))
  (eb:H rb=some (false,.list ((Tr.ae (ao,lb) fresh d size before l).map rf))) (hs:Sb H0 H) (hw:Nw H0 (ao::lb::rb::ads (Tr.aa C l)))
  (qa:∀D F,C=D++[F]->F.r=d->∀H',Sb H0 H'->LR true H' (Tr.cH 0 0 (Tr.aa D (.node F.a F.r F.w F.h F.x F.y (F.l++Tr.ae (ao,lb) fresh d size before l++F.rt))))->Q (.ref (Tr.aa D (.node F.a F.r F.w F.h F.x F.y (F.l++Tr.ae (ao,lb) fresh d size before l++F.rt))).tag.1) H')
  (qb:(∀D F,C=D++[F]->F.r≠d)->∀an H',Sb H0 H'->LR true H' (Tr.cH 0 0 (Tr.aa C (.node (an,rb) d l.w l.h 0 0 (Tr.ae (ao,lb) fresh d size before l))))->Q (.ref (Tr.aa C (.node (an,rb) d l.w l.h 0 0 (Tr.ae (ao,lb) fresh d size before l))).tag.1) H') :
  cG W n (gF.drop 11) Z H QS λv H=>∃as:List Addr,Q v (fz as H):=by
 unfold gF;simp only[drop_succ_cons,drop_zero];apply cI (.cons h31 (.cons h36 (.cons h40 (.cons h0 (.cons h27 (.cons h28 (.cons h38 (.cons h42 .nil)))))))) ?_;ext;have nl:Nd false H l:=l1.unplug.nd;have hdepw:=hsm.dep;apply af (nodup_cons.mp nd1) λn1 n2=>?_;apply af (nodup_cons.mp n2) λn2 n3=>?_;apply af (nodup_cons.mp n3) λn3 n4=>?_;have hno:=lo.nd;have hmem:l.tag.1∈ads (Tr.aa C l):=aj.mpr (.inr (aO l));have hal:∀H',LR false H' (Tr.aG d (Tr.aY (l.side d) size) (.leaf (ao,lb) l.w l.h 0 0 fresh))->Nd false H' (Tr.aG d (l.side d-1-Tr.aY (l.side d) size) l)->∀c∈Tr.ae (ao,lb) fresh d size before l,LR false H' c:=by
  intro H' lo' nd';apply Tr.cL (P:=λc=>LR false H' c) lo' ?_;exact uI el nd'
 have lo_ads:∀b∈ads (Tr.aG d (Tr.aY (l.side d) size) (.leaf (ao,lb) l.w l.h 0 0 fresh):L),b=ao\/b=lb:=λb hb=>by
  apply vU (qy (a:=(ao,lb)) (s:=Tr.aY (l.side d) size) (w:=l.w) (h:=l.h) (x:=0) (y:=0) (p:=fresh) (d:=d)) λw' h' e=>?_;simp only[e]at hb;simpa[uC,uB]using hb
 have lo_ex:∀(X:List Addr) H',Ex X H H'->(∀b∈X,b∈ads (Tr.aa C l))->LR false H' (Tr.aG d (Tr.aY (l.side d) size) (.leaf (ao,lb) l.w l.h 0 0 fresh)):=λX H' k hX=>lo.ex k λb hb hz=>by
  have hz:=hX b hz;rcases lo_ads b hb with e0|e0
  ·exact n1 (.tail _ (.tail _ (e0▸hz)))
  ·exact n2 (.tail _ (e0▸hz))
 have hal_ads:=oW (ao:=ao) (lb:=lb) (fresh:=fresh) (d:=d) (size:=size) (before:=before) el;have hal_mem:∀b∈(Tr.ae (ao,lb) fresh d size before l).flatMap ads,b=ao\/b=lb\/b∈ads l:=λb hb=>by
  rw[hal_ads]at hb;have t1:=aO l;have t2:=gS l;obtain⟨⟩:=before<;>simp at hb<;>apply hb.elim (λe0=>?_) λzz=>zz.elim (λe0=>?_) λzz=>zz.elim (λe0=>?_) λe0=>?_<;>simp[t1,t2,e0]
 have hal_nd:((Tr.ae (ao,lb) fresh d size before l).flatMap ads).Nodup:=by
  apply rwL hal_ads ?_;have t1:=hmem;have t2:l.tag.2∈ads (Tr.aa C l):=aj.mpr (.inr (gS l));have nll:=(gc n4).2;rw[bj]at nll;have a1:l.tag.1≠l.tag.2:=λz=>(nodup_cons.mp nll).1 (by simp only[z];exact .head _);have a2:∀b∈ads (Tr.aa C l),b≠ao:=λb hb z=>n1 (by simp only[<-z];exact .tail _ (.tail _ hb));have a3:∀b∈ads (Tr.aa C l),b≠lb:=λb hb z=>n2 (by simp only[<-z];exact .tail _ hb);have a4:ao≠lb:=λz=>n1 (by simp only[z];exact .head _);have b1:=a2 _ t1;have b2:=a2 _ t2;have b3:=a3 _ t1;have b4:=a3 _ t2;(generalize before=before'z;obtain⟨⟩:=before'z)<;>simp[a1,a4,b1,b2,b3,b4,b1.symm,b2.symm,b3.symm,b4.symm]
 have hrf:∀b∈ads (Tr.aa C l),b≠rb:=λb hb z=>n3 (z▸hb);have ew:l.w=w:=by apply rwL el ?_;rfl
 have eh:l.h=h:=by apply rwL el ?_;rfl
 have newN:∀(n':Nat) (Q':AV->AH->Prop),2<=n'->(∀an H',H an=none->Sb H H'->(∃dx,H' an=some (false,.inst 45 dx (cw (kd d) l.w l.h 0 0 rb .none)))->Q' (.ref an) H')->
   aQ W (rf l) 1 n' H λv H=>aQ W (rf l) 2 n' H λv_1 H=>iT W 45 [.str (kd d),v,v_1,.int 0,.int 0,.ref rb,.none] n' H Q':=by
  intro n' Q' hn' q';apply af nl λz1z _=>a8 z1z λdx e=>?_;clear nl z1z;simp only[rf];apply yO e (yP e ?_);exact jj G hn' q'
 have lsk:∀s,ads (Tr.aG d s l)=ads l:=λs=>cu Tr.lT;have top_nd:∀an,H an=none->(ads (.node (an,rb) d l.w l.h 0 0 (Tr.ae (ao,lb) fresh d size before l):L)).Nodup∧(∀b∈ads (.node (an,rb) d l.w l.h 0 0 (Tr.ae (ao,lb) fresh d size before l):L),b=an\/b=rb\/b=ao\/b=lb\/b∈ads l):=by
  intro an han;have oan:∀b∈ads l,b≠an:=λb hb z=>by
   obtain⟨o,e,_⟩:=l1.unplug.some b hb;simp only[z,han]at e;exact nS e
  have e1:ao≠an:=λz=>by
   apply af hno λz1z _=>a8 z1z λdx e=>?_;clear hno z1z;rw[Tr.aK]at e;have han:=z.symm▸han;have e':H ao=_:=e;simp only[han]at e';exact nS e'
  have e2:lb≠an:=λz=>by
   apply af hno λ_ e=>?_;clear hno;simp only[Tr.aK]at e;have han:=z.symm▸han;have e':H lb=_:=e;simp only[han]at e';exact nS e'
  have e3:rb≠an:=ak han eb;have m1:∀b∈(Tr.ae (ao,lb) fresh d size before l).flatMap ads,b≠an∧b≠rb:=λb hb=>by
   rcases hal_mem b hb with e0|e0|hb
   ·exact⟨λz=>e1 (e0.symm.trans z),λz=>n1 (by simp only[<-e0,z];exact .tail _ (.head _))⟩
   ·exact⟨λz=>e2 (e0.symm.trans z),λz=>n2 (by simp only[<-e0,z];exact .head _)⟩
   ·exact⟨oan b hb,hrf b (aj.mpr (.inr hb))⟩
  rw[bj];simp only[Tr.tag,Tr.cs,nodup_cons,mem_cons,not_or];apply⟨⟨⟨λz=>e3 z.symm,λz=>(m1 _ z).1 rfl⟩,λz=>(m1 _ z).2 rfl,hal_nd⟩,λb hb=>?_⟩;apply hb.elim (λhb=>?_) λzz=>zz.elim (λhb=>?_) λhb=>?_
  ·exact .inl hb
  ·exact .inr (.inl hb)
  ·exact .inr (.inr (hal_mem b hb))
 have hnodeN:∀{an:Addr} {H':AH},(∃dx,H' an=some (false,.inst 45 dx (cw (kd d) l.w l.h 0 0 rb .none)))->H' rb=some (false,.list ((Tr.ae (ao,lb) fresh d size before l).map rf))->Nd false H' (.node (an,rb) d l.w l.h 0 0 (Tr.ae (ao,lb) fresh d size before l)):=λe1 e2=>⟨e1,e2⟩;have hdN:∀an,(Tr.node (an,rb) d l.w l.h 0 0 (Tr.ae (ao,lb) fresh d size before l):L).dep<=l.dep+1:=λan=>wH el;have lrb:l.tag.1≠rb:=λz=>n3 (z▸hmem);rcases fb C with hC0|⟨D,F,hC0⟩
 ·subst hC0;apply aF er (by simp;unfold cap;exact succ_pos _) ⟨λ_=>⟨(λz=>by ac_nf),λ_=>?_⟩,λz=>by ac_nf⟩<;>ext;apply aF er (by simp;unfold cap;exact succ_pos _) ⟨λz=>by ac_nf,λ_=>?_⟩<;>ext;apply newN n _ (ay hn rfl) λan H' han k ea=>?_;apply xw G (ay hn rfl) (k.list er) ?_;apply af (top_nd an han) λt1 t2=>?_;apply p7 G (d:=d) (tr:=.node (an,rb) d l.w l.h 0 0 (Tr.ae (ao,lb) fresh d size before l)) (s:=l.side d) (mm:=Tr.aY (l.side d) size) (by have:=hdN an;have:l.dep=0:=(by apply rwL el ?_;rfl);lia) rfl rfl rfl rfl rfl
   (nl.ex (k.ex (X:=[])) not_mem_nil not_mem_nil) (λH2 k2 n2'=>?_) t1 (hs.trans k) ?_ ?_ λH3 s3 l3=>qb (λD F h=>by simp at h) an H3 s3 l3
  ·apply bz.mpr ⟨(hnodeN ea (k.list eb)).ex k2 ?_ ?_,hal H2 (lo_ex [l.tag.1] H2 (k.ex.trans k2) λb hb=>by simp only[mS hb];exact hmem) n2'⟩
   ·exact λz=>by
     obtain⟨o,e,_⟩:=l1.unplug.some _ (aO l);simp only[<-mS z]at e;have e':H an=_:=e;rw[han]at e';exact nS e'
   ·exact λz=>lrb (mS z).symm
  ·intro b hb;rcases t2 b hb with e0|e0|e0|e0|hb
   ·exact rwL e0 ((Nw.sb hs (.of han)) _ (.head _))
   ·exact rwL e0 (hw _ (.tail _ (.tail _ (.head _))))
   ·exact rwL e0 (hw _ (.head _))
   ·exact rwL e0 (hw _ (.tail _ (.head _)))
   ·exact hw b (.tail _ (.tail _ (.tail _ hb)))
  ·rw[bj];simp only[Tr.cs,hal_ads];(generalize before=before'z;obtain⟨⟩:=before'z)<;>simp
 ·have hCl:C.length=D.length+1:=by exact rwL hC0 (length_append ..)
  have er':H r=some (true,.list ((D.map λF=>AV.ref F.a.1)++[.ref F.a.1,rf l])):=by apply rwL er (rwL hC0 ?_);simp
  have hD:D.length<=20:=by lia
  have hplug:∀t:L,Tr.aa C t=Tr.aa D (Tr.fill F t):=λt=>by exact rwL hC0 Tr.dw
  have l1':=l1;simp only[hplug]at l1' n1 n2 n3 n4 hmem;have lF:=cg.mp l1'.unplug;apply af lF.1 λz1z eF2=>?_;(apply a8 z1z λdxF eF=>?_;clear z1z);have eF':H F.a.1=some (false,.inst 45 dxF (cw (kd F.r) F.w F.h F.x F.y F.a.2 .none)):=eF;have eF2':H F.a.2=some (false,.list ((F.l++l::F.rt).map rf)):=eF2;have hfk:F.l.length+F.rt.length+1<=20:=by
   have hsmF:(Tr.fill F l).Sm:=by
    simp only[hplug]at hsm;apply⟨(Tr.cy hsm.ok).1,?_⟩;have:=hsm.len;rw[Tr.aE]at this;simp only[length_append]at this;exact C9 this
   have:=hsmF.kids;simp[Tr.fill,Tr.cs]at this;exact this
  apply bH (gc n4) λp1 p2 p3=>?_;apply aF er (by simp;unfold cap;exact lt_of_le_of_lt hC (le_of_ble_eq_true rfl)) ⟨λz=>by simp at z;lia,λ_=>?_⟩;apply nW er' (by simp;exact le_trans hD (by decide)) ?_;simp only[gk eF',jr];apply⟨λhk=>?_,λhk=>?_⟩<;>ext
  ·have hk:=of_decide_eq_true hk;have hFd:F.r=d:=by revert hk;obtain⟨⟩:=F.r<;>(generalize d=d'z;obtain⟨⟩:=d'z)<;>simp[kd]<;>decide
   apply nW er' (by simp;exact le_trans hD (by decide)) ?_;apply tB eF' ?_;apply ze G (ay hn rfl) eF2' (λc hc=>?_) (gm p2) ?_<;>ext
   ·apply(mA hc).elim (λhc=>?_) λhc=>?_
    ·exact(lF.2 c hc).own
    ·rcases mc hc with rfl|hc
     ·exact lF.3.own
     ·exact(lF.4 c hc).own
   apply nW er' (by simp;exact le_trans hD (by decide)) ?_;apply tB eF' ?_;simp only[aU];have hFb:F.a.2≠rb:=λz=>n3 (z▸aj.mpr (.inr (by exact rwL al (.tail _ (.head _)))));apply⟨_,_,false,_,_,F.l.length,F.l.length+1,rfl,rfl,hFb,rfl,rfl,eF2',eb,by exact le_add_right F.l.length 1,by simp,?_,?_⟩
   ·simp only[length_map,Tr.dG,length_append,length_cons];unfold cap;exact le_trans (add_le_add_right hfk 2) (le_of_ble_eq_true rfl)
   have ecut:((F.l++l::F.rt).map rf).take F.l.length++(Tr.ae (ao,lb) fresh d size before l).map rf++((F.l++l::F.rt).map rf).drop (F.l.length+1)=(F.l++Tr.ae (ao,lb) fresh d size before l++F.rt).map rf:=by
    have t1:((F.l++l::F.rt).map rf).take F.l.length=F.l.map rf:=by simp
    have t2:((F.l++l::F.rt).map rf).drop (F.l.length+1)=F.rt.map rf:=by
     have:F.l++l::F.rt=(F.l++[l])++F.rt:=by simp
     apply rwL this (rwL map_append ?_);exact List.drop_left' (by simp)
    simp only[t1,t2];simp
   apply rwL ecut ?_;generalize hN:(Tr.node F.a F.r F.w F.h F.x F.y (F.l++Tr.ae (ao,lb) fresh d size before l++F.rt):L)=N;have eN:N.tag.1=(Tr.fill F l).tag.1:=by apply rwR hN ?_;rfl
   have aN:ads N=F.a.1::F.a.2::(F.l.flatMap ads++((Tr.ae (ao,lb) fresh d size before l).flatMap ads++F.rt.flatMap ads)):=by simp only[<-hN,bj];simp[Tr.tag,Tr.cs]
   have mN:∀b∈ads N,b=ao\/b=lb\/b∈ads (Tr.fill F l):=λb hb=>by
    rw[aN]at hb;apply rwL al ?_;simp only[mem_cons,mem_append]at hb ⊢;rcases hb with hb|hb|hb|hb|hb
    ·simp[hb]
    ·simp[hb]
    ·simp[hb]
    ·apply(hal_mem b hb).elim (λhb=>?_) λzz=>zz.elim (λhb=>?_) λhb=>?_<;>simp[hb]
    ·simp[hb]
   have aon:∀b,b=ao\/b=lb->b∉ads (Tr.aa D (Tr.fill F l)):=λb hb hz=>by
    rcases hb with e0|e0
    ·exact n1 (.tail _ (.tail _ (e0▸hz)))
    ·exact n2 (.tail _ (e0▸hz))
   have lmem:∀b∈ads l,b∈ads (Tr.fill F l):=λb hb=>by apply rwL al ?_;simp[hb]
   have p2':=p2;rw[al]at p2';have nN:(ads N).Nodup:=by
    apply rwL aN ?_;apply jP p2' hal_nd λb hb=>?_;apply(hal_mem b hb).elim (λhb=>?_) λzz=>zz.elim (λhb=>?_) λhb=>?_
    ·exact .inr λz=>aon b (.inl hb) (aj.mpr (.inr (by exact rwL al z)))
    ·exact .inr λz=>aon b (.inr hb) (aj.mpr (.inr (by exact rwL al z)))
    ·exact .inl hb
   have memt:∀b∈ads (Tr.aa D N),b=ao\/b=lb\/b∈ads (Tr.aa D (Tr.fill F l)):=λb hb=>by
    apply(aj.mp hb).elim (λhb=>?_) λhb=>?_
    ·exact .inr (.inr (aj.mpr (.inl hb)))
    ·apply(mN b hb).elim (λhb=>?_) λzz=>zz.elim (λhb=>?_) λhb=>?_
     ·exact .inl hb
     ·exact .inr (.inl hb)
     ·exact .inr (.inr (aj.mpr (.inr hb)))
   have lF2:∀b∈ads l,b≠F.a.2∧b≠F.a.1:=λb hb=>by
    simp only[nodup_cons,nodup_cons]at p2';exact⟨λz=>p2'.2.1 (by simp only[<-z];simp[hb]),λz=>p2'.1 (by simp only[<-z];simp[hb])⟩
   have F2m:F.a.2∈ads (Tr.aa D (Tr.fill F l)):=aj.mpr (.inr (by exact rwL al (.tail _ (.head _))));have hw':Nw H0 (ads (Tr.aa D N)):=hw.sub λb hb=>by
    apply(memt b hb).elim (λe0=>?_) λzz=>zz.elim (λe0=>?_) λhb=>?_
    ·simp[e0]
    ·simp[e0]
    ·rw[hplug];exact .tail _ (.tail _ (.tail _ hb))
   apply p7 G (d:=d) (tr:=Tr.aa D N) (s:=l.side d) (mm:=Tr.aY (l.side d) size) ?_ rfl rfl rfl rfl ?_
    (nl.ex Ex.put (λz=>(lF2 _ (aO l)).1 (mS z)) λz=>(lF2 _ (gS l)).1 (mS z)) (λH2 k2 n2'=>?_) (fe n4 nN λb hb hz=>?_) (hs.exNw Ex.put (hw.sub λb hb=>?_)) hw' ?_ λH3 s3 l3=>by
     have q:=qa D F hC0 hFd H3 s3;have q:=hN▸q;exact q l3
   ·have hdN2:N.dep<=(Tr.fill F l).dep+0:=by
     apply rwR hN ?_;simp only[Tr.fill,Tr.fv,o6,nV el,Tr.ft];exact Nat.succ_le_succ Es
    have:=iW (C:=D) hdN2;simp only[hplug]at hdepw;exact lu (lt_of_le_of_lt this hdepw) hn rfl
   ·simp only[jI eN,<-hplug];first|done|rfl
   ·have kk:Ex [F.a.2,l.tag.1] H H2:=(Ex.put.mono λb hb=>by simp only[mS hb];exact .head _).trans (k2.mono λb hb=>by simp only[mS hb];exact .tail _ (.head _));have e1:=k2.inst ((AH.EQ _ _ (λz=>by simp only[z]at eF';simp only[eF']at eF2';lia)).trans eF') (λz=>(lF2 _ (aO l)).2 (mS z).symm);have e2:=k2.list (AH.EP _ F.a.2 _) (λz=>(lF2 _ (aO l)).1 (mS z).symm);apply fN eN kk ?_ l1' λb hb hz=>?_
    ·apply rwR hN ?_;apply bz.mpr ⟨⟨⟨dxF,e1⟩,e2⟩,λc hc=>?_⟩;have dis:∀c:L,(∀b∈ads c,b∉ads l)->(∀b∈ads c,b≠F.a.2)->LR false H c->LR false H2 c:=λc h1 h2 h3=>h3.ex kk λb hb hz=>by
      simp only[mem_cons,not_mem_nil,or_false]at hz;rcases hz with hz|hz
      ·exact h2 b hb hz
      ·exact h1 b hb (by simp only[hz];exact aO l)
     simp only[nodup_cons,nodup_cons]at p2';apply af (p2') λ_ z1z=>af z1z λq2 q3=>?_;clear z1z;have q4:=nodup_append.mp q3;have q5:=nodup_append.mp q4.2.1;simp only[Tr.cs,mem_append]at hc;rcases hc with(hc|hc)|hc
     ·apply dis c (λb hb hz=>q4.2.2 b (mG ⟨c,hc,hb⟩) b (mem_append_left _ hz) rfl) (λb hb hz=>q2 (by simp only[<-hz];exact mem_append_left _ (mG ⟨c,hc,hb⟩))) (lF.2 c hc)
     ·apply hal H2 (lo_ex _ H2 kk λb hb=>?_) n2' c hc;simp only[mem_cons,not_mem_nil,or_false]at hb;rw[hplug];apply hb.elim (λe0=>?_) λe0=>?_
      ·exact e0▸F2m
      ·exact e0▸hmem
     ·apply dis c (λb hb hz=>q5.2.2 b hz b (mG ⟨c,hc,hb⟩) rfl) (λb hb hz=>q2 (by simp only[<-hz];exact mem_append_right _ (mem_append_right _ (mG ⟨c,hc,hb⟩)))) (lF.4 c hc)
    ·simp only[mem_cons,not_mem_nil,or_false]at hz;rcases hz with e0|e0
     ·exact p3 b hb (by simp only[e0,al];exact .tail _ (.head _))
     ·exact p3 b hb (e0▸lmem _ (aO l))
   ·rcases mN b hb with hb|hb|hb
    ·exact aon b (.inl hb) (aj.mpr (.inl hz))
    ·exact aon b (.inr hb) (aj.mpr (.inl hz))
    ·exact p3 b hz hb
   ·simp only[mS hb,hplug];exact .tail _ (.tail _ (.tail _ F2m))
   ·apply aj.mpr (.inr ?_);apply rwL aN (rwL hal_ads ?_);(generalize before=before'z;obtain⟨⟩:=before'z)<;>simp
  ·have hk:=of_decide_eq_false hk;have hFd:F.r≠d:=λz=>hk (congrArg _ z);apply aF er' (by simp;unfold cap;lia) ⟨λz=>by simp at z;lia,λ_=>?_⟩<;>ext;apply newN n _ (ay hn rfl) λan H' han k ea=>?_;apply af (top_nd an han) λt1 t2=>?_;generalize hM:(Tr.node (an,rb) d l.w l.h 0 0 (Tr.ae (ao,lb) fresh d size before l):L)=M at t1 t2;have eM:M.tag=(an,rb):=by apply rwR hM ?_;rfl
   have hrF:r≠F.a.2:=λz=>by simp only[z,eF2']at er;simp at er
   apply xv G (F:=F) (u:=l) (x:=.ref (Tr.aa D (Tr.fill F M)).tag.1) (ay hn rfl) (k.list er') (by simp;exact le_trans hD (by decide)) (pM rfl) (lF.1.ex (k.ex (X:=[])) not_mem_nil not_mem_nil) (yy hfk rfl) (λc hc=>?_) (gm p2) hrF ?_
   ·have:LR false H c:=by
     apply(mA hc).elim (λhc=>?_) λhc=>?_
     ·exact lF.2 c hc
     ·rcases mc hc with rfl|hc
      ·exact lF.3
      ·exact lF.4 c hc
    exact(this.sb k).own
   have nan:∀b∈ads (Tr.aa D (Tr.fill F l)),b≠an:=λb hb z=>by
    obtain⟨o,e,_⟩:=l1'.some b hb;simp only[z,han]at e;exact nS e
   have aon:∀b,b=ao\/b=lb\/b=rb\/b=an->b∉ads (Tr.aa D (Tr.fill F l)):=λb hb hz=>by
    rcases hb with e0|e0|e0|e0
    ·exact n1 (.tail _ (.tail _ (e0▸hz)))
    ·exact n2 (.tail _ (e0▸hz))
    ·exact n3 (e0▸hz)
    ·exact nan _ hz e0
   have lmem:∀b∈ads l,b∈ads (Tr.fill F l):=λb hb=>by apply rwL al ?_;simp[hb]
   have p2':=p2;rw[al]at p2';have mP:∀b∈ads M,(b=ao\/b=lb\/b=rb\/b=an)\/b∈ads l:=λb hb=>by
    rcases t2 b hb with q|q|q|q|q<;>simp[q]
   have nN:(ads (Tr.fill F M)).Nodup:=by
    apply rwL al ?_;apply jP p2' t1 λb hb=>?_;apply(mP b hb).elim (λhb=>?_) λhb=>?_
    ·exact .inr λz=>aon b hb (aj.mpr (.inr (by exact rwL al z)))
    ·exact .inl hb
   have mN:∀b∈ads (Tr.fill F M),(b=ao\/b=lb\/b=rb\/b=an)\/b∈ads (Tr.fill F l):=λb hb=>by
    rw[al]at hb;simp only[mem_cons,mem_append]at hb;rcases hb with hb|hb|hb|hb|hb
    ·exact .inr (by apply rwL al ?_;simp[hb])
    ·exact .inr (by apply rwL al ?_;simp[hb])
    ·exact .inr (by apply rwL al ?_;simp[hb])
    ·apply(mP b hb).elim (λhb=>?_) λhb=>?_
     ·exact .inl hb
     ·exact .inr (lmem b hb)
    ·exact .inr (by apply rwL al ?_;simp[hb])
   have memt:∀b∈ads (Tr.aa D (Tr.fill F M)),(b=ao\/b=lb\/b=rb\/b=an)\/b∈ads (Tr.aa D (Tr.fill F l)):=λb hb=>by
    apply(aj.mp hb).elim (λhb=>?_) λhb=>?_
    ·exact .inr (aj.mpr (.inl hb))
    ·apply(mN b hb).elim (λhb=>?_) λhb=>?_
     ·exact .inl hb
     ·exact .inr (aj.mpr (.inr hb))
   have lF2:∀b∈ads l,b≠F.a.2∧b≠F.a.1:=λb hb=>by
    simp only[nodup_cons,nodup_cons]at p2';exact⟨λz=>p2'.2.1 (by simp only[<-z];simp[hb]),λz=>p2'.1 (by simp only[<-z];simp[hb])⟩
   have F2m:F.a.2∈ads (Tr.aa D (Tr.fill F l)):=aj.mpr (.inr (by exact rwL al (.tail _ (.head _))));have hw':Nw H0 (ads (Tr.aa D (Tr.fill F M))):=λb hb=>by
    rcases memt b hb with(e0|e0|e0|e0)|hb
    ·exact rwL e0 (hw _ (.head _))
    ·exact rwL e0 (hw _ (.tail _ (.head _)))
    ·exact rwL e0 (hw _ (.tail _ (.tail _ (.head _))))
    ·exact rwL e0 ((Nw.sb hs (.of han)) _ (.head _))
    ·exact hw b (by rw[hplug];exact .tail _ (.tail _ (.tail _ hb)))
   have hset:Ex [F.a.2] H (H'.set F.a.2 (.list (F.l.map rf++.ref an::F.rt.map rf))):=k.ex.trans Ex.put;apply p7 G (d:=d) (tr:=Tr.aa D (Tr.fill F M)) (s:=l.side d) (mm:=Tr.aY (l.side d) size) ?_ rfl rfl rfl rfl rfl
    (nl.ex hset (λz=>(lF2 _ (aO l)).1 (mS z)) λz=>(lF2 _ (gS l)).1 (mS z)) (λH2 k2 n2'=>?_) (fe n4 nN λb hb hz=>?_) (hs.exNw hset (hw.sub λb hb=>?_)) hw' ?_ λH3 s3 l3=>by
     have:=qb (λD' F' h=>by
      have:=List.append_inj_right' (hC0.symm.trans h) rfl;simp at this;exact rwR this hFd) an H3 s3
     simp only[hplug,hM]at this;exact this l3
   ·have hdN2:(Tr.fill F M).dep<=(Tr.fill F l).dep+1:=by
     have:=hdN an;rw[hM]at this;simp only[Tr.fill,Tr.fv,o6,Tr.ft];exact Nat.succ_le_succ (Dy (Dz this))
    have:=iW (C:=D) hdN2;simp only[hplug]at hdepw;exact Ev (le_trans this hdepw) hn rfl
   ·have kk:Ex [F.a.2,l.tag.1] H H2:=(hset.mono λb hb=>by simp only[mS hb];exact .head _).trans (k2.mono λb hb=>by simp only[mS hb];exact .tail _ (.head _));have e1:=kk.inst eF' (λz=>by
     simp only[mem_cons,not_mem_nil,or_false]at z;rcases z with z|z
     ·simp only[z]at eF';simp only[eF']at eF2';lia
     ·exact(lF2 _ (aO l)).2 z.symm)
    have e2:=k2.list (AH.EP _ F.a.2 _) (λz=>(lF2 _ (aO l)).1 (mS z).symm);have nb:∀b,b=rb\/b=an->b∉[F.a.2,l.tag.1]:=λb hb hz=>by
     simp only[mem_cons,not_mem_nil,or_false]at hz;have:b∈ads (Tr.aa D (Tr.fill F l)):=by
      apply hz.elim (λe0=>?_) λe0=>?_
      ·exact e0▸F2m
      ·exact e0▸hmem
     exact aon b (by apply hb.elim (λhb=>?_) λhb=>?_<;>simp[hb]) this
    apply fN (u:=Tr.fill F M) (l:=Tr.fill F l) rfl kk ?_ l1' λb hb hz=>?_
    ·have dis:∀c:L,(∀b∈ads c,b∉ads l)->(∀b∈ads c,b≠F.a.2)->LR false H c->LR false H2 c:=λc h1 h2 h3=>h3.ex kk λb hb hz=>by
      simp only[mem_cons,not_mem_nil,or_false]at hz;rcases hz with hz|hz
      ·exact h2 b hb hz
      ·exact h1 b hb (by simp only[hz];exact aO l)
     simp only[nodup_cons,nodup_cons]at p2';apply af (p2') λ_ z1z=>af z1z λq2 q3=>?_;clear z1z;have q4:=nodup_append.mp q3;have q5:=nodup_append.mp q4.2.1;apply cg.mpr ⟨⟨⟨dxF,e1⟩,?_⟩,λc hc=>dis c (λb hb hz=>q4.2.2 b (mG ⟨c,hc,hb⟩) b (mem_append_left _ hz) rfl) (λb hb hz=>q2 (by simp only[<-hz];exact mem_append_left _ (mG ⟨c,hc,hb⟩))) (lF.2 c hc),?_,λc hc=>dis c (λb hb hz=>q5.2.2 b hz b (mG ⟨c,hc,hb⟩) rfl) (λb hb hz=>q2 (by simp only[<-hz];exact mem_append_right _ (mem_append_right _ (mG ⟨c,hc,hb⟩)))) (lF.4 c hc)⟩
     ·show H2 F.a.2=some (false,.list ((F.l++M::F.rt).map rf));simp only[e2];simp[rf,eM]
     ·apply rwR hM ?_;apply a8 ea λdxa ea=>?_;have hset2:Ex [F.a.2,l.tag.1] H' H2:=(Ex.put.mono λb hb=>by simp only[mS hb];exact .head _).trans (k2.mono λb hb=>by simp only[mS hb];exact .tail _ (.head _));apply bz.mpr ⟨hnodeN ⟨dxa,hset2.inst ea (nb an (.inr rfl))⟩ (hset2.list (k.list eb) (nb rb (.inl rfl))),λc hc=>hal H2 (lo_ex _ H2 kk λb hb=>?_) n2' c hc⟩;simp only[mem_cons,not_mem_nil,or_false]at hb;rw[hplug];apply hb.elim (λe0=>?_) λe0=>?_
      ·exact e0▸F2m
      ·exact e0▸hmem
    ·simp only[mem_cons,not_mem_nil,or_false]at hz;rcases hz with e0|e0
     ·exact p3 b hb (by simp only[e0,al];exact .tail _ (.head _))
     ·exact p3 b hb (e0▸lmem _ (aO l))
   ·rcases mN b hb with hb|hb
    ·exact aon b hb (aj.mpr (.inl hz))
    ·exact p3 b hz hb
   ·simp only[mS hb,hplug];exact .tail _ (.tail _ (.tail _ F2m))
   ·apply aj.mpr (.inr ?_);rw[al,<-hM,bj];simp only[Tr.cs,hal_ads];(generalize before=before'z;obtain⟨⟩:=before'z)<;>simp
end
end
section
section
variable {W:Wd} {m:Nat} {H:AH} {Q:AV->AH->Prop}
theorem qZ {C:List FL} {l:L} {t:T} (hf:t.Fine) (e:er (Tr.aa C l)=t) (d:Bool):l.side d<=64∧1<=l.side d:=by
 have hok:=hf.ok;have hgeo:=hf.geo;have hw:=hf.bw;have hh:=hf.bh;simp only[<-e,fk]at hok hgeo hw hh;have:=Tr.lV (d:=d) hok hgeo;have h2:=Tr.cB (Tr.cy hok).1 (Tr.eT hgeo).1 d;simp only[jn]at this h2;obtain⟨⟩:=d
 ·simp only[Tr.cZ]at hh;lia
 ·simp only[Tr.cY]at hw;exact⟨Int.le_trans this hw,h2⟩
theorem rN {t:T} {C:List FL} {l:L} {a:Addr × Addr} {w h x y p fresh:Int} {d before:Bool} {size:Option Int} (et:t=er (Tr.aa C l)) (hf:Tr.find p (Tr.aa C l)=some (C,l)) (hin:fresh∉t.panes) (h3:¬l.side d<3) (hC:C.length<=20) :
  (∀D F,C=D++[F]->F.r=d->∀b,Tr.bl t p fresh d size before=some (er (Tr.cH 0 0 (Tr.aa D (.node F.a F.r F.w F.h F.x F.y (F.l++Tr.ae b fresh d size before l++F.rt)))))) ∧
  ((∀D F,C=D++[F]->F.r≠d)->∀b an,Tr.bl t p fresh d size before=some (er (Tr.cH 0 0 (Tr.aa C (.node an d l.w l.h 0 0 (Tr.ae b fresh d size before l)))))):=by
 have e1:t.find p=some (C.map (Fm.map λ_=>()),er l):=by simp only[et,fq,hf];rfl
 have hside:(er l).side d=l.side d:=jn;have hw:(er l).w=l.w:=Tr.ii;have hh:(er l).h=l.h:=Tr.ik;apply⟨λD F hC hr b=>?_,λhr b an=>?_⟩
 ·unfold Tr.bl;apply rwL e1 ?_;subst hC;dsimp only;apply rwL (if_neg hin) (rwL hside (rwL (if_neg h3) (rwL map_append (rwL map_cons (rwL map_nil (rwL getLast?_concat (rwL dropLast_concat ?_)))))));dsimp only;have:(Fm.map (λ_=>()) F).r=d:=hr;apply rwL (if_pos this) ?_;congr 1;simp only[<-iP,fk,iA,map_append,map_append];have hh:(Tr.ae b fresh d size before l).map er=Tr.ae () fresh d size before (er l):=Tr.kh;simp only[hh];subst hr;rfl
 ·unfold Tr.bl;apply rwL e1 ?_;dsimp only;apply rwL (if_neg hin) (rwL hside (rwL (if_neg h3) ?_));have hhv:(Tr.ae b fresh d size before l).map er=Tr.ae () fresh d size before (er l):=Tr.kh;apply rwR iP (rwL fk (rwL iA (rwL hhv (rwL hw (rwL hh ?_)))));rcases fb C with hC0|⟨D,F,hC0⟩
  ·subst hC0;rfl
  ·subst hC0;apply rwL map_append (rwL map_cons (rwL map_nil (rwL getLast?_concat ?_)));dsimp only;have:¬(Fm.map (λ_=>()) F).r=d:=hr D F rfl;exact rwL (if_neg this) (rwL (if_neg (by simp at hC ⊢;exact le_trans hC (by decide))) rfl)
theorem xD (G:GD W) {n:Nat} {Z:am} {H0:AH} {C:List FL} {l:L} {a:Addr × Addr} {w h x y p fresh:Int} {d before:Bool} {size:Option Int} {r:Addr} {QS:am->AH->Prop} (hn:39<=n) (el:l=.leaf a w h x y p)
  (h31:Z.lookup 31=some (.ref r)) (h36:Z.lookup 36=some (rf l)) (h27:Z.lookup 27=some (.bool d)) (h28:Z.lookup 28=some (.int (l.side d))) (h38:Z.lookup 38=some (.int (Tr.aY (l.side d) size))) (h35:Z.lookup 35=some (.bool before))
  (h32:Z.lookup 32=some (.int fresh)) (er:H r=some (true,.list ((C.map λF=>AV.ref F.a.1)++[rf l]))) (hC:C.length<=20) (hsm:(Tr.aa C l).Sm)
  (l1:LR false H (Tr.aa C l)) (nd1:(ads (Tr.aa C l)).Nodup) (hs:Sb H0 H) (hw:Nw H0 (ads (Tr.aa C l)))
  (qa:∀D F,C=D++[F]->F.r=d->∀b H',Sb H0 H'->LR true H' (Tr.cH 0 0 (Tr.aa D (.node F.a F.r F.w F.h F.x F.y (F.l++Tr.ae b fresh d size before l++F.rt))))->Q (.ref (Tr.aa D (.node F.a F.r F.w F.h F.x F.y (F.l++Tr.ae b fresh d size before l++F.rt))).tag.1) H')
  (qb:(∀D F,C=D++[F]->F.r≠d)->∀b an H',Sb H0 H'->LR true H' (Tr.cH 0 0 (Tr.aa C (.node an d l.w l.h 0 0 (Tr.ae b fresh d size before l))))->Q (.ref (Tr.aa C (.node an d l.w l.h 0 0 (Tr.ae b fresh d size before l))).tag.1) H') :
  cG W n (gF.drop 7) Z H QS λv H=>∃as:List Addr,Q v (fz as H):=by
 have hd:gF.drop 7=(gF.drop 7).take 4++gF.drop 11:=rfl;apply rwL hd (rwL qm ?_);generalize hT:gF.drop 11=T3;unfold gF;simp only[drop_succ_cons,drop_zero,take_succ_cons,take_zero];apply cI (.cons h31 (.cons h36 (.cons h27 (.cons h28 (.cons h38 (.cons h35 (.cons h32 .nil))))))) ?_;dsimp only[rf];ext;have nl:Nd false H l:=l1.unplug.nd;apply af (id nl) λz1z _=>?_;(apply a8 z1z λdx e=>?_;clear z1z);apply yO e (yP e ?_);apply⟨zero_le _,λlb hlb=>jj G (ay hn rfl) λao H4 hao k4 eao=>?_⟩<;>ext;have elb:H4 lb=some (false,.list []):=k4.list (AH.EP _ _ _);have K4:Sb H H4:=(Sb.new hlb).trans k4;have haoH:H ao=none:=by
  by_cases z:ao=lb
  ·exact rwL z hlb
  ·rwa [AH.EQ _ _ z]at hao
 have aolb:ao≠lb:=λz=>by simp only[z,AH.EP]at hao;exact sN hao
 have no4:Nd false H4 (.leaf (ao,lb) l.w l.h 0 0 fresh):=⟨eao,elb⟩;apply wO G (ay hn rfl) no4 λH5 k5 n5=>?_<;>ext;have K5:Ex [ao] H H5:=K4.ex.trans k5;have lo5:LR false H5 (Tr.aG d (Tr.aY (l.side d) size) (.leaf (ao,lb) l.w l.h 0 0 fresh)):=qo n5;have nao:∀b∈ads (Tr.aa C l),b≠ao:=λb hb z=>by
  obtain⟨o,e,_⟩:=l1.some b hb;simp only[z,haoH]at e;exact nS e
 have nlb:∀b∈ads (Tr.aa C l),b≠lb:=λb hb z=>by
  obtain⟨o,e,_⟩:=l1.some b hb;simp only[z,hlb]at e;exact nS e
 have l5:LR false H5 (Tr.aa C l):=l1.ex K5 λb hb hz=>nao b hb (mS hz);have er5:=K5.list er (λz=>by simp only[mS z,haoH]at er;exact nS er);have sb5:Sb H0 H5:=hs.exNw K5 (Nw.sb hs (.of haoH));have fin:∀rb,H5 rb=none->∀(Z':am),Z'.lookup 31=some (.ref r)->Z'.lookup 36=some (rf l)->Z'.lookup 27=some (.bool d)->Z'.lookup 28=some (.int (l.side d))->Z'.lookup 38=some (.int (Tr.aY (l.side d) size))->Z'.lookup 40=some (.ref rb)->Z'.lookup 0=some (.str (kd d))->
   Z'.lookup 42=some (.ref (Tr.aa C l).tag.1)->cG W n T3 Z' (H5.set rb (.list ((Tr.ae (ao,lb) fresh d size before l).map rf))) QS λv H=>∃as:List Addr,Q v (fz as H):=by
  intro rb hrb Z' g31 g36 g27 g28 g38 g40 g0 g42;subst hT;have k6:Sb H5 (H5.set rb (.list ((Tr.ae (ao,lb) fresh d size before l).map rf))):=.new hrb;have nrb:∀b∈ads (Tr.aa C l),b≠rb:=λb hb z=>by
   obtain⟨o,e,_⟩:=l5.some b hb;simp only[z,hrb]at e;exact nS e
  obtain⟨_,e5a⟩:∃p,H5 ao=some p:=by
   apply af n5 λz1z _=>a8 z1z λdx e=>?_;clear n5 z1z;rw[Tr.aK]at e;exact⟨_,e⟩
  obtain⟨_,e5b⟩:∃p,H5 lb=some p:=by
   apply af n5 λ_ e=>?_;clear n5;simp only[Tr.aK]at e;exact⟨_,e⟩
  apply yu G (ao:=ao) (lb:=lb) (rb:=rb) (ay hn rfl) el g31 g36 g27 g28 g38 g40 g0 g42 (k6.list er5) hC hsm (l5.sb k6) ?_ (lo5.sb k6) (AH.EP _ _ _) (sb5.trans k6) ?_ (λD F h1 h2 H'=>qa D F h1 h2 (ao,lb) H') λh1 an H'=>qb h1 (ao,lb) (an,rb) H'
  ·simp only[nodup_cons,mem_cons,not_or];exact⟨⟨aolb,ak hrb e5a,λz=>nao _ z rfl⟩,⟨ak hrb e5b,λz=>nlb _ z rfl⟩,λz=>nrb _ z rfl,nd1⟩
  ·have h1:Nw H0 [ao]:=Nw.sb hs (.of haoH);have h2:Nw H0 [lb]:=Nw.sb hs (.of hlb);have h3:Nw H0 [rb]:=Nw.sb sb5 (.of hrb);exact h1.append (h2.append (h3.append hw))
 have pth:((C.map λF=>AV.ref F.a.1)++[rf l])[0]?=some (.ref (Tr.aa C l).tag.1):=pM rfl;have hh:∀b:Bool,before=b->(if b then [AV.ref ao,.ref l.tag.1]else [.ref l.tag.1,.ref ao])=(Tr.ae (ao,lb) fresh d size before l).map rf:=λb hb=>by
  subst hb;unfold Tr.ae;(generalize before=before'z;obtain⟨⟩:=before'z)<;>simp only[if_true,false_eq_true,if_false,map_cons,map_nil,rf,Tr.aK]<;>rfl
 have h2cap:2<=cap:=by decide
 apply⟨λhb=>?_,λhb=>?_⟩
 ·apply⟨h2cap,λrb hrb=>?_⟩<;>ext;apply B0 G (ay hn rfl) ?_;apply tF ((AH.EQ _ _ (ak hrb er5)).trans er5) (by simp;exact le_trans hC (by decide)) pth ?_;apply⟨h2cap,?_⟩;have:=hh true hb;rw[if_pos rfl]at this;simp only[this];exact λZ1 E=>fin rb hrb Z1 (E 31 _ rfl) (E 36 _ rfl) (E 27 _ rfl) (E 28 _ rfl) (E 38 _ rfl) (E 40 _ rfl) (E 0 _ rfl) (E 42 _ rfl)
 ·apply⟨h2cap,λrb hrb=>?_⟩<;>ext;apply B0 G (ay hn rfl) ?_;apply tF ((AH.EQ _ _ (ak hrb er5)).trans er5) (by simp;exact le_trans hC (by decide)) pth ?_;apply⟨h2cap,?_⟩;have:=hh false hb;rw[if_neg (by simp)]at this;simp only[this];exact λZ1 E=>fin rb hrb Z1 (E 31 _ rfl) (E 36 _ rfl) (E 27 _ rfl) (E 28 _ rfl) (E 38 _ rfl) (E 40 _ rfl) (E 0 _ rfl) (E 42 _ rfl)
theorem pj (G:GD W) {t:L} {f:Bool} {p fresh:Int} {d before:Bool} {size:Option Int} (hm:40<=m) (ht:LR f H t) (hf:(er t).Fine) (q0:Tr.bl (er t) p fresh d size before=none->∀H',Sb H H'->Q .none H')
  (q1:∀t',Tr.bl (er t) p fresh d size before=some (er t')->∀H',Sb H H'->LR true H' t'->Q (.ref t'.tag.1) H'):a7 W 142 [.ref t.tag.1,.int p,.int fresh,.bool d,cR size,.bool before] m H Q:=by
 have hsm:t.Sm:=aL.mp hf.sm;have hdep:=hsm.dep;apply a7.fz (bZ G rfl (show 39+1<=m from hm) rfl λn hn=>?_);have hd:gF=gF.take 7++gF.drop 7:=rfl;apply rwL hd (rwL qm ?_);generalize hT:gF.drop 7=T3;delta gF zG;simp only[take_succ_cons,take_zero]
 walk_at "wp"
 apply BL G (lu hdep hn rfl) ht hsm λt1 H1 s1 l1 e1 w1 nd1=>?_;have hsm1:t1.Sm:=pF e1 hsm;apply Ea G (by have:=hsm1.dep;exact le_trans this (rW hn)) l1 hsm1 (λhfn H2 s2=>?_) λC l hfs r H2 s2 er2=>?_
 ·apply j6 rfl trivial ⟨λ_=>⟨[],q0 ?_ _ (dY (s1.trans s2) .nil)⟩,λz=>by ac_nf⟩;unfold Tr.bl;apply rwR e1 (rwL fq (rwL hfn ?_));rfl
 apply iN rfl trivial ?_;apply kx G (lu hdep hn rfl) (ht.sb (s1.trans s2)) hsm λr3 H3 s3 e3=>?_;apply⟨fresh,r3,true,t.panes,rfl,rfl,e3,λhin=>⟨[],q0 ?_ _ (dY ((s1.trans s2).trans s3) .nil)⟩,λhin=>?_⟩
 ·unfold Tr.bl;apply rwR e1 (rwL fq (rwL hfs ?_));have:fresh∈(er t1).panes:=by apply rwL e1 (rwL ab ?_);exact of_decide_eq_true hin
  simp only[map_some];exact if_pos this
 have hin:fresh∉t.panes:=of_decide_eq_false hin;apply af (Tr.dA hfs) λet z1z=>?_;(apply vS z1z λa w h x y el=>?_;clear z1z);have hfs':=hfs;simp only[et]at hfs' e1 l1 w1 nd1 hsm1;have S3:Sb H1 H3:=s2.trans s3;have l3:LR false H3 (Tr.aa C l):=l1.sb S3;have r3':H3 r=some (true,.list ((C.map λF=>AV.ref F.a.1)++[rf l])):=s3.list er2;have hClen:C.length<=20:=by have:=Tr.ko hfs';have:=hsm1.dep;lia
 have nl:Nd false H3 l:=l3.unplug.nd;apply af (qZ (C:=C) (l:=l) hf e1 d) λhs1 hs2=>?_;apply tE r3' (by simp;exact le_trans hClen (by decide)) (zD G (ay hn rfl) nl ?_);have hN:Tr.bl (er t) p fresh d size before=none\/¬l.side d<3:=by
  by_cases h3:l.side d<3
  ·apply .inl ?_;unfold Tr.bl;apply rwR e1 (rwL fq (rwL hfs' ?_));simp only[map_some];have hin1:fresh∉(er (Tr.aa C l)).panes:=by apply rwL e1 (rwL ab ?_);exact hin
   exact rwL (if_neg hin1) (rwL jn (rwL (if_pos h3) rfl))
  ·exact .inr h3
 have eL:Tr.bl (er t) p fresh d size before=Tr.bl (er (Tr.aa C l)) p fresh d size before:=by exact rwL e1 rfl
 apply⟨by decide,by decide,?_⟩;dsimp only;apply rwL aU (rwL nQ (rwL nQ ?_));apply⟨λh3=>⟨[],q0 ?_ _ (dY (s1.trans S3) .nil)⟩,λh3=>?_⟩
 ·have h3:=of_decide_eq_true h3;exact hN.resolve_right λz=>z h3
 have h3:¬l.side d<3:=of_decide_eq_false h3;apply af (rN (before:=before) (size:=size) (t:=er t) (a:=a) (w:=w) (h:=h) (x:=x) (y:=y) e1.symm hfs' (by exact rwL ab hin) h3 hClen) λsA sB=>?_;have fin:∀(v:AV) (Z:am),Z.lookup 31=some (.ref r)->Z.lookup 36=some (rf l)->Z.lookup 27=some (.bool d)->Z.lookup 28=some (.int (l.side d))->Z.lookup 38=some (.int (Tr.aY (l.side d) size))->Z.lookup 35=some (.bool before)->Z.lookup 32=some (.int fresh)->
   cG W n T3 Z H3 (λ_ H=>∃as:List Addr,Q .none (fz as H)) λv H'=>∃as:List Addr,Q v (fz as H'):=by
  intro v Z g31 g36 g27 g28 g38 g35 g32;subst hT;exact xD G hn el g31 g36 g27 g28 g38 g35 g32 r3' hClen hsm1 l3 nd1 (s1.trans S3) w1 (λD F h1 h2 b H' s l=>by
   have:=q1 _ (sA D F h1 h2 b) H' s l;rw[Tr.cN]at this;exact this) λh1 b an H' s l=>by
   have:=q1 _ (sB h1 b an) H' s l;rw[Tr.cN]at this;exact this
 cases size with
 |none=>
  apply j6 rfl trivial ?_;simp only[aU];apply⟨by decide,by omega,by decide,?_⟩;dsimp only;simp only[eG,eG,eG,xy,xx];apply fin .none _ ?_ ?_ ?_ ?_ ?_ ?_ ?_<;>rfl
 |some sz=>
  apply iN rfl trivial ?_;simp only[eG,eG,show cR (some sz)=.int sz from rfl,xy,xx];apply fin .none _ ?_ ?_ ?_ ?_ ?_ ?_ ?_<;>rfl
end
end
section
namespace Tr
variable {U O:Type}
theorem vY {g:U->O}:∀{t:Tr U},(t.map g).geo↔t.geo:=by
 intro t
 induction t using bn with
 |step t ih=>
  cases t with
  |leaf=>rfl
  |node a r w h x y cs=>
   simp only[aZ,aR,aR,length_map,map_map];have e:∀d,List.map (side d ∘ map g) cs=List.map (side d) cs:=λd=>map_congr_left λu _=>eQ;simp only[e,aX,aX,aX,aX];simp only[mem_map,forall_exists_index,and_imp,forall_apply_eq_imp_iff₂,eQ];exact⟨λk=>⟨k.1,k.2,λc hc=>(ih c hc).mp (k.3 c hc)⟩,λk=>⟨k.1,k.2,λc hc=>(ih c hc).mpr (k.3 c hc)⟩⟩
theorem nI {f:Tr U->Tr U} {f':Tr O->Tr O} {g:Tr U->Tr O} (h:∀t,g (f t)=f' (g t)):∀{l:List (Tr U)} {i:Nat},(l.modify i f).map g=(l.map g).modify i f':=by
 intro l
 induction l with
 |nil=>
  intro i;simp
 |cons t l ih=>
  intro v1;cases v1 with
  |zero=>
   simp[h]
  |succ i=>
   simp[ih (i:=i)]
theorem qT {g:U->O} {F:Fm U} {c:Int}:(bV F c).map (map g)=bV (F.map g) c:=by
 unfold bV;apply rwL (nI (f':=ry F.r c) λt=>ql.symm) ?_;simp[Fm.map]
theorem sZ {g:U->O} {r:Bool} {cs:List (Tr U)}:(aT r cs).map (map g)=aT r (cs.map (map g)):=by
 unfold aT;simp only[map_flatMap,flatMap_map];congr 1;funext c;apply rwL t7 ?_;split
 ·exact t8.symm
 ·rfl
end Tr
theorem ua {t:T} {D:List FL} {F:FL} {l:L} {p:Int} (et:t=er (Tr.aa (D++[F]) l)) (hf:Tr.find p (Tr.aa (D++[F]) l)=some (D++[F],l)) :
  (1<(Tr.bV F (l.side F.r+1)).length->∀b,Tr.bc t p=some (er (Tr.cH 0 0 (Tr.aa D (.node b F.r F.w F.h F.x F.y (Tr.bV F (l.side F.r+1))))))) ∧
  (∀k,Tr.bV F (l.side F.r+1)=[k]->(D=[]->Tr.bc t p=some (er (Tr.cH 0 0 k))) ∧
   ∀E' E,D=E'++[E]->∀b,Tr.bc t p=some (er (Tr.cH 0 0 (Tr.aa E' (.node b E.r E.w E.h E.x E.y (Tr.aT E.r (E.l++k::E.rt))))))):=by
 have e1:t.find p=some ((D++[F]).map (Fm.map λ_=>()),er l):=by simp only[et,fq,hf];rfl
 have eg:Tr.bV (Fm.map (λ_=>()) F) ((er l).side (Fm.map (λ_=>()) F).r+1)=(Tr.bV F (l.side F.r+1)).map er:=by
  have:(er l).side (Fm.map (λ_=>()) F).r=l.side F.r:=jn;exact rwL this Tr.qT.symm
 have e2:t.find p=some (D.map (Fm.map λ_=>())++[Fm.map (λ_=>()) F],er l):=e1.trans (by apply rwL map_append ?_;rfl);apply⟨λh b=>(Tr.iX e2 eg (by rwa [length_map])).trans ?_,λk hk=>⟨λhD=>?_,λE' E hD b=>?_⟩⟩
 ·exact rwR iP (rwL fk (rwL iA rfl))
 ·subst hD;exact(Tr.ku e2 (eg.trans (congrArg _ hk))).trans (rwR iP rfl)
 ·subst hD;apply(Tr.kt (e2.trans (by apply rwL map_append ?_;rfl)) (eg.trans (congrArg _ hk))).trans ?_;apply rwR iP (rwL fk (rwL iA ?_));have:(Tr.aT E.r (E.l++k::E.rt)).map er=Tr.aT E.r ((E.l++k::E.rt).map er):=Tr.sZ;simp only[this,map_append,map_cons];rfl
section
variable {H:AH} {Q:AV->AH->Prop} {a b:Int}
theorem n7:fC .max [.int a,.int b] H Q=Q (.int (Tr.mx a b)) H:=rfl
theorem zh:fC .int [.int a] H Q=Q (.int a) H:=rfl
end
theorem tq (r:Bool):decide (kd r=ofString "row")=r:=by obtain⟨⟩:=r<;>decide
section
variable {W:Wd} {m:Nat} {H:AH} {Q:AV->AH->Prop}
theorem C8 {n:Nat} (h:1<=n):(max 0 (min (-1+(n:Int)) (n:Int))).toNat=n-1:=by
 apply rwL (Int.min_eq_left (by lia)) (rwL (max_eq_right (by lia)) ?_);exact(congrArg Int.toNat (Int.add_comm (-1) n)).trans (Int.toNat_sub n 1)
theorem C7 {n k:Nat} (h:k<=n):(max 0 (min (k:Int) (n:Int))).toNat=k:=by
 apply rwL (Int.min_eq_left (Int.ofNat_le.mpr h)) (rwL (max_eq_right (natCast_nonneg k)) ?_);exact toNat_natCast k
theorem Eo {n k:Nat} (h:n<=k):(max 0 (min (k:Int) (n:Int))).toNat=n:=by
 apply rwL (Int.min_eq_right (Int.ofNat_le.mpr h)) (rwL (max_eq_right (natCast_nonneg n)) ?_);exact toNat_natCast n
theorem tX {xs:List AV} {u:AV}:cut (xs++[u]) none (some (-1))=xs:=by
 delta cut clipAt;simp
 have:(max 0 (min (-1+((xs.length:Int)+1)) ((xs.length:Int)+1))).toNat=xs.length:=C8 (n:=xs.length+1) (succ_pos _);exact rwL this List.take_left
theorem xa {f:Bool} {H:AH} {F:FL} {l:L} (h:LR f H (Tr.fill F l)):∀c∈F.l++F.rt,LR f H c:=λc hc=>by
 apply(mA hc).elim (λhc=>?_) λhc=>?_
 ·exact(cg.mp h).2 c hc
 ·exact(cg.mp h).4 c hc
theorem LR.owns {f:Bool} {H:AH} {F:FL} {l:L} (h:LR f H (Tr.fill F l)):∀c∈F.l++l::F.rt,∃p,H c.tag.1=Option.some p∧p.2≠.opq:=λc hc=>by
 apply(mA hc).elim (λhc=>?_) λhc=>?_
 ·exact((cg.mp h).2 c hc).own
 ·rcases mC hc with rfl|hc
  ·exact(cg.mp h).3.own
  ·exact((cg.mp h).4 c hc).own
theorem ig {r:Bool}:∀{cs:List L},((Tr.aT r cs).flatMap ads).Sublist (cs.flatMap ads):=by
 intro cs
 induction cs with
 |nil=>
  exact List.Sublist.refl (List.flatMap ads (Tr.aT r []))
 |cons c cs ih=>
  have e:Tr.aT r (c::cs)=(if c.kind=kd r then c.cs else [c])++Tr.aT r cs:=by rfl
  simp only[e,flatMap_append,flatMap_cons];apply List.Sublist.append ?_ ih;split
  ·simp only[bj];exact(List.sublist_cons_self _ _).trans (List.sublist_cons_self _ _)
  ·simp
theorem vW {f:Bool} {H:AH} {r:Bool} {cs:List L} (h:∀c∈cs,LR f H c):∀c∈Tr.aT r cs,LR f H c:=λc hc=>by
 apply ad (mF hc) λu hu hc=>?_;split at hc
 ·exact(h u hu).kid hc
 ·simp only[mS hc];exact h u hu
theorem nG {r:Bool} {cs:List L} (ho:∀c∈cs,c.ok) (hp:(cs.flatMap Tr.panes).length<=20):(Tr.aT r cs).length<=20:=by
 have h1:∀c∈Tr.aT r cs,c.ok:=λc hc=>by
  apply ad (mF hc) λu hu hc=>?_;split at hc
  ·exact Tr.sQ hc (ho u hu)
  ·exact rwL (mS hc) (ho u hu)
 have h2:(Tr.aT r cs).flatMap Tr.panes=cs.flatMap Tr.panes:=by
  clear ho hp h1
  induction cs with
  |nil=>rfl
  |cons c cs ih=>
   have e:Tr.aT r (c::cs)=(if c.kind=kd r then c.cs else [c])++Tr.aT r cs:=by rfl
   simp only[e,flatMap_append,flatMap_cons,ih];congr 1;split
   ·rename_i hk;obtain⟨a,w,h,x,y,ccs,rfl⟩:=Tr.lz hk;exact Tr.az.symm
   ·exact append_nil _
 have:=Tr.nO h1;simp only[h2]at this;exact le_trans this hp
theorem wN (G:GD W) {t:L} {f:Bool} {p:Int} (hm:40<=m) (ht:LR f H t) (hf:(er t).Fine) (q0:Tr.bc (er t) p=none->∀H',Sb H H'->Q .none H')
  (q1:∀t',Tr.bc (er t) p=some (er t')->∀H',Sb H H'->LR true H' t'->Q (.ref t'.tag.1) H'):a7 W 156 [.ref t.tag.1,.int p] m H Q:=by
 have hsm:t.Sm:=aL.mp hf.sm;have hdep:=hsm.dep;apply a7.fz (bZ G rfl (show 39+1<=m from hm) rfl λn hn=>?_);ext;apply BL G (lu hdep hn rfl) ht hsm λt1 H1 s1 l1 e1 w1 nd1=>?_;have hsm1:t1.Sm:=pF e1 hsm;apply Ea G (by have:=hsm1.dep;exact le_trans this (rW hn)) l1 hsm1 (λhfn H2 s2=>?_) λC l hfs r H2 s2 er2=>?_<;>ext
 ·apply j6 rfl trivial ⟨λ_=>⟨[],q0 ?_ _ (dY (s1.trans s2) .nil)⟩,λz=>by ac_nf⟩;unfold Tr.bc;apply rwR e1 (rwL fq (rwL hfn ?_));rfl
 have S2:Sb H H2:=s1.trans s2;apply af (Tr.dA hfs) λet z1z=>?_;(apply vS z1z λa w h x y el=>?_;clear z1z);have hfs':=hfs;simp only[et]at hfs' e1 l1 w1 nd1 hsm1;have hClen:C.length<=20:=le_of_lt (lt_of_le_of_lt (Tr.ko hfs') hsm1.dep);apply iN rfl trivial ?_;apply aF er2 (by simp;unfold cap;exact lt_of_le_of_lt hClen (le_of_ble_eq_true rfl)) ?_;simp only[bu];rcases fb C with hC0|⟨D,F,hC0⟩
 ·subst hC0;apply⟨λ_=>⟨[],q0 ?_ _ (dY S2 .nil)⟩,λz=>by ac_nf⟩;unfold Tr.bc;apply rwR e1 (rwL fq (rwL hfs' ?_));rfl
 subst hC0;apply⟨λz=>by simp at z;lia,λ_=>?_⟩<;>ext;apply af (ua (t:=er t) e1.symm hfs') λqA qB=>?_;have hplug:∀t:L,Tr.aa (D++[F]) t=Tr.aa D (Tr.fill F t):=λt=>Tr.dw;have hD:D.length<=19:=by simp at hClen;exact hClen
 have e1s:er (Tr.aa D (Tr.fill F l))=er t:=by simp only[<-e1,hplug]
 have l2:LR false H2 (Tr.aa D (Tr.fill F l)):=by rw[<-hplug];exact l1.sb s2
 have nd2:(ads (Tr.aa D (Tr.fill F l))).Nodup:=by rw[<-hplug];exact nd1
 have w2:Nw H (ads (Tr.aa D (Tr.fill F l))):=by rw[<-hplug];exact w1
 have er':H2 r=some (true,.list ((D.map λF=>AV.ref F.a.1)++[.ref F.a.1,rf l])):=by simp only[er2];simp
 have hfine:=hf.good;simp only[<-e1s,fk]at hfine;have okF:(Tr.fill F l).ok:=by
  have:=(Tr.cy hfine.ok).1;exact Tr.mr.mp this
 have hgeoF:(er (Tr.fill F l)).geo:=(Tr.eT hfine.geo).1;have lF:=l2.unplug;apply bH (gc nd2) λp1 p2 p3=>?_;have p2':=p2;rw[al]at p2';apply jh (cg.mp lF) λz1z lFl lFx lFr=>?_;apply af z1z λz1z eF2=>a8 z1z λdxF eF=>?_;have eF':H2 F.a.1=some (false,.inst 45 dxF (cw (kd F.r) F.w F.h F.x F.y F.a.2 .none)):=eF;have eF2':H2 F.a.2=some (false,.list ((F.l++l::F.rt).map rf)):=eF2;have hsmF:(Tr.fill F l).Sm:=by
  apply⟨okF,?_⟩;have:=hsm1.len;simp only[hplug,Tr.aE]at this;simp only[length_append]at this;exact C9 this
 have hfk:F.l.length+F.rt.length+1<=20:=by
  have:=hsmF.kids;simp[Tr.fill,Tr.cs]at this;exact this
 apply tE er2 (by simp;exact le_trans hD (by decide)) (nW er' (by simp;exact le_trans hD (by decide)) ⟨by decide,?_⟩)<;>ext;rw[gk eF',jr,tq];ext;apply rwL (gl eF') ?_;apply ze G (ay hn rfl) eF2' lF.owns (gm p2) ?_<;>ext;apply tB eF' ?_;have hpop:((F.l++l::F.rt).map rf).eraseIdx F.l.length=(F.l++F.rt).map rf:=by
  apply rwL map_append (rwL map_cons ?_);have:F.l.length=(F.l.map rf).length:=by simp
  simp only[this,List.eraseIdx_append_of_length_le (le_refl _)];simp
 apply⟨⟨_,_,_,rfl,eF2'⟩,_,rf l,eF2',by exact natCast_nonneg F.l.length,Int.lt_of_le_of_lt (Int.ofNat_le.mpr (Cb (yy (c:=19) hfk rfl))) (by decide),by simp;unfold cap;exact le_trans hfk (by decide),by simp,?_⟩<;>ext;simp only[show((F.l.length:Int)).toNat=F.l.length from by exact toNat_natCast F.l.length,hpop];have geF:(Tr.fill F l).geo:=Tr.vY.mp hgeoF;apply zA (Tr.kj okF geF) λs k t2 g1 g2 g3 g4 g5 z1z=>?_;(apply jO z1z λg6 g7 g8 g9 g10 g11=>?_;clear z1z);have hlside:=Tr.cB (Tr.dW.mp okF).3 (Tr.dH.mp geF).4 F.r;have hF12:F.a.1≠F.a.2:=λz=>by simp only[z]at eF';simp only[eF']at eF2';lia
 have hF2m:F.a.2∈ads (Tr.fill F l):=by exact rwL al (.tail _ (.head _))
 have hres:∀u:L,Tr.bc (er t) p=some (er (Tr.cH 0 0 u))->u.dep<20:=λu hu=>by
  have hp:p∈(er t).panes:=by simp only[<-e1s,ab,Tr.aE,Tr.dD,el,Tr.au];simp
  have h1:(er t).panes.length≠1:=λz=>by
   have:=(Tr.nL hf.ok).mp z;simp only[<-e1s,fk]at this;obtain⟨⟩:=D<;>ac_nf
  obtain⟨t',c1,c2,_⟩:=Tr.bi hf hp h1;simp only[hu]at c1;obtain rfl:=sI c1;have:=c2.sm.dep;rwa [show(er (Tr.cH 0 0 u)).dep=u.dep from by unfold er;exact rwL Tr.pX (rwL (Tr.tU Tr.fO) rfl)]at this
 generalize hH5:H2.set F.a.2 (.list ((F.l++F.rt).map rf))=H5;have x5:Ex [F.a.2] H2 H5:=hH5▸Ex.put;have e5:H5 F.a.2=some (false,.list ((F.l++F.rt).map rf)):=by exact rwR hH5 (AH.EP _ _ _)
 have e51:=x5.inst eF' (λz=>hF12 (mS z));have kmem:k∈F.l++F.rt:=by exact rwL g1 (mem_append_right _ (.head _))
 have kads:∀c∈F.l++F.rt,∀b∈ads c,b∈ads (Tr.fill F l)∧b≠F.a.1∧b≠F.a.2∧b∉ads l:=λc hc b hb=>by
  simp only[nodup_cons,nodup_cons]at p2';have q4:=nodup_append.mp p2'.2.2;have q5:=nodup_append.mp q4.2.1;apply(mA hc).elim (λhc=>?_) λhc=>?_
  ·have hm:b∈F.l.flatMap ads:=mG ⟨c,hc,hb⟩;exact⟨by apply rwL al ?_;simp only[mem_cons,mem_append];exact .inr (.inr (.inl hm)),λz=>p2'.1 (by simp only[<-z];exact .tail _ (mem_append_left _ hm)),λz=>p2'.2.1 (by simp only[<-z];exact mem_append_left _ hm),λz=>q4.2.2 b hm b (mem_append_left _ z) rfl⟩
  ·have hm:b∈F.rt.flatMap ads:=mG ⟨c,hc,hb⟩;exact⟨by apply rwL al ?_;simp only[mem_cons,mem_append];exact .inr (.inr (.inr (.inr hm))),λz=>p2'.1 (by simp only[<-z];exact .tail _ (mem_append_right _ (mem_append_right _ hm))),λz=>p2'.2.1 (by simp only[<-z];exact mem_append_right _ (mem_append_right _ hm)),λz=>q5.2.2 b z b hm rfl⟩
 have kids_nd:((F.l++F.rt).flatMap ads).Nodup:=by
  simp only[nodup_cons,nodup_cons]at p2';have q4:=nodup_append.mp p2'.2.2;have q5:=nodup_append.mp q4.2.1;simp only[flatMap_append];exact nodup_append.mpr ⟨q4.1,q5.2.1,λa ha b hb=>q4.2.2 a ha b (mem_append_right _ hb)⟩
 have l5:∀c∈F.l++F.rt,LR false H5 c:=λc hc=>(xa lF c hc).ex x5 λb hb hz=>(kads c hc b hb).3 (mS hz)
 try dsimp only
 apply tB e51 ?_;simp only[eG,n7];have hidx:(if 0<(F.l.length:Int)-1 then(F.l.length:Int)-1 else 0)=((F.l.length-1:Nat):Int):=Ep;simp only[show Tr.mx 0 ((F.l.length:Int)-1)=((F.l.length-1:Nat):Int)from hidx];apply df (j:=F.l.length-1) e5 rfl (by simp;unfold cap;exact yy hfk rfl) (u:=rf k) (by apply rwR g2 (rwL g1 ?_);simp) ?_;have nl5:Nd false H5 l:=lFx.nd.ex x5 (λz=>?_) λz=>?_
 rotate_left
 ·have:=mS z;simp only[nodup_cons,nodup_cons]at p2';exact p2'.2.1 (by simp only[<-this];simp[aO])
 ·have:=mS z;simp only[nodup_cons,nodup_cons]at p2';exact p2'.2.1 (by simp only[<-this];simp[gS])
 apply zD G (ay hn rfl) nl5 ?_;simp only[aU];have hkfill:k∈(Tr.fill F l).cs:=by
  simp only[Tr.fill,Tr.cs,mem_append,mem_cons];apply(mA kmem).elim (λhc=>?_) λhc=>?_
  ·exact .inl hc
  ·exact .inr (.inr hc)
 have ksm:k.Sm:=hsmF.kid hkfill;have knd:(ads k).Nodup:=by
  have q:=kids_nd;simp only[g1,flatMap_append,flatMap_cons]at q;exact(nodup_append.mp (nodup_append.mp q).2.1).1
 apply Be G (k:=k.dep) (le_refl _) (by have:=ksm.dep;exact lu this hn rfl) (l5 k kmem) knd ksm g4 λH6 x6 l6=>?_<;>ext;generalize hk':Tr.gD k.dep F.r (l.side F.r+1) k=k' at l6;have hk'':Tr.ry F.r (l.side F.r+1) k=k':=hk';simp only[hk'']at g3 g6;have eads:ads k'=ads k:=cu g6.sk;have etag:k'.tag=k.tag:=Tr.oy g6.sk;generalize hks:Tr.bV F (l.side F.r+1)=ks at g3 g7 g8 g9 g10 g11 qA qB;have rks:ks.map rf=(F.l++F.rt).map rf:=by apply rwL g1 (rwL g3 ?_);simp[rf,etag]
 have aks:ks.flatMap ads=(F.l++F.rt).flatMap ads:=by apply rwL g1 (rwL g3 ?_);simp[eads]
 have e6:H6 F.a.2=some (false,.list (ks.map rf)):=by exact rwL rks (x6.list e5 (λz=>(kads k kmem _ z).3 rfl))
 have e61:=x6.inst e51 (λz=>(kads k kmem _ z).2 rfl);have l6k:∀c∈ks,LR false H6 c:=λc hc=>by
  have q:=kids_nd;simp only[g1,flatMap_append,flatMap_cons]at q;simp only[g3]at hc;apply(mA hc).elim (λhc=>?_) λhc=>?_
  ·exact(l5 c (by exact rwL g1 (mem_append_left (k::t2) hc))).ex x6 λb hb hz=>(nodup_append.mp q).2.2 b (mG ⟨c,hc,hb⟩) b (mem_append_left _ hz) rfl
  ·rcases mc hc with rfl|hc
   ·exact l6
   ·exact(l5 c (by apply rwL g1 ?_;simp[hc])).ex x6 λb hb hz=>(nodup_append.mp (nodup_append.mp q).2.1).2.2 b hz b (mG ⟨c,hc,hb⟩) rfl
 have X6:Ex (F.a.2::ads k) H2 H6:=(x5.mono λb hb=>by simp only[mS hb];exact .head _).trans (x6.mono λb hb=>.tail _ hb);have mX:∀b∈F.a.2::ads k,b∈ads (Tr.fill F l):=λb hb=>by
  rcases mC hb with rfl|hb
  ·exact hF2m
  ·exact(kads k kmem b hb).1
 have er6:=X6.list er' (λz=>by
  obtain⟨o,e,_⟩:=lF.some r (mX r z);simp only[er']at e;simp at e)
 have S6:Sb H H6:=S2.exNw X6 (w2.sub λb hb=>aj.mpr (.inr (mX b hb)));apply tB e61 ?_;have lks:ks.length<=19:=by
  have:=congrArg List.length rks;simp only[length_map,length_append]at this;exact le_trans (le_of_eq this) (yy hfk rfl)
 apply aF e6 (by rw[length_map];unfold cap;exact le_trans lks (by decide)) ?_;apply⟨λhl=>?_,λhl=>?_⟩<;>ext
 ·
  have hl:1<ks.length:=by have:=of_decide_eq_true hl;simp at this;exact Int.ofNat_lt.mp this
  apply tF er6 (by simp;exact le_trans hD (by decide)) (pM (u:=.node F.a F.r F.w F.h F.x F.y ks) rfl) ?_;have aN:ads (.node F.a F.r F.w F.h F.x F.y ks:L)=F.a.1::F.a.2::ks.flatMap ads:=by simp only[bj];rfl
  have mN:∀b∈ads (.node F.a F.r F.w F.h F.x F.y ks:L),b∈ads (Tr.fill F l):=λb hb=>by
   simp only[aN,aks]at hb;rcases mC hb with rfl|hb
   ·exact rwL al (.head _)
   ·rcases mC hb with rfl|hb
    ·exact hF2m
    ·apply ad (mF hb) λc hc hb=>?_;exact(kads c hc b hb).1
  have nN:(ads (.node F.a F.r F.w F.h F.x F.y ks:L)).Nodup:=by
   simp only[aN,aks,nodup_cons,nodup_cons];apply⟨λz=>?_,λz=>?_,kids_nd⟩
   ·apply(mC z).elim (λz=>?_) λz=>?_
    ·exact hF12 z
    ·apply ad (mF z) λc hc hb=>?_;exact(kads c hc _ hb).2 rfl
   ·apply ad (mF z) λc hc hb=>?_;exact(kads c hc _ hb).3 rfl
  have LN:LR false H6 (.node F.a F.r F.w F.h F.x F.y ks):=bz.mpr ⟨⟨⟨dxF,e61⟩,e6⟩,l6k⟩;have ltr:LR false H6 (Tr.aa D (.node F.a F.r F.w F.h F.x F.y ks)):=fN (l:=Tr.fill F l) (u:=.node F.a F.r F.w F.h F.x F.y ks) rfl X6 LN l2 λb hb hz=>p3 b hb (mX b hz);have hmem:∀b∈ads (Tr.aa D (.node F.a F.r F.w F.h F.x F.y ks)),b∈ads (Tr.aa D (Tr.fill F l)):=λb hb=>by
   apply(aj.mp hb).elim (λhb=>?_) λhb=>?_
   ·exact aj.mpr (.inl hb)
   ·exact aj.mpr (.inr (mN b hb))
  apply oe G ?_ ltr (fe nd2 nN λb hb hz=>p3 b hz (mN b hb)) S6 (w2.sub hmem) λH7 s7 l7=>?_
  ·have:=hres _ (qA hl F.a);exact le_trans this (rW hn)
  ·have:=q1 _ (qA hl F.a) H7 s7 l7;rw[Tr.cN]at this;exact this
 ·
  have hl1:ks.length=1:=by
   have h1:=of_decide_eq_false hl;rw[length_map]at h1;have h2:=congrArg List.length g3;simp only[length_append,length_cons]at h2;exact le_antisymm (Int.ofNat_le.mp (Int.not_lt.mp h1)) (le_trans (Nat.le_add_left 1 _) (le_of_eq h2.symm))
  have hs0:s=[]:=by
   rw[g3]at hl1;simp only[length_append,length_cons]at hl1;exact eq_nil_of_length_eq_zero (Nat.add_eq_zero_iff.mp (Nat.succ.inj hl1)).1
  have ht0:t2=[]:=by
   have hl1:=g3▸hl1;simp only[length_append,length_cons]at hl1;exact eq_nil_of_length_eq_zero (Nat.add_eq_zero_iff.mp (Nat.succ.inj hl1)).2
  subst hs0 ht0;have hk1:ks=[k']:=by apply rwL g3 ?_;rfl
  simp only[hk1]at e6 g7 g11;apply af (qB k' hk1) λqB1 qB2=>?_;have ecut:cut ((D.map λF=>AV.ref F.a.1)++[.ref F.a.1,rf l]) none (some (-1))=(D.map λF=>AV.ref F.a.1)++[.ref F.a.1]:=by
   have:(D.map λF=>AV.ref F.a.1)++[.ref F.a.1,rf l]=((D.map λF=>AV.ref F.a.1)++[.ref F.a.1])++[rf l]:=by simp
   exact rwL this tX
  apply⟨r,true,_,none,some (-1),rfl,er6,by simp;unfold cap;exact le_trans (add_le_add_right hD 2) (le_of_ble_eq_true rfl),rfl,by decide,λr7 hr7=>?_⟩;simp only[ecut];have s7:Sb H6 (H6.set r7 (.list ((D.map λF=>AV.ref F.a.1)++[.ref F.a.1]))):=.new hr7;have e7:(H6.set r7 (.list ((D.map λF=>AV.ref F.a.1)++[.ref F.a.1]))) r7=some (false,.list ((D.map λF=>AV.ref F.a.1)++[.ref F.a.1])):=AH.EP _ _ _;generalize H6.set r7 (.list ((D.map λF=>AV.ref F.a.1)++[.ref F.a.1]))=H7 at s7 e7;apply tB (s7.inst e61) ?_;apply tF (s7.list e6) (by simp) rfl ?_;have lk7:LR false H7 k':=l6.sb s7;have knd':(ads k').Nodup:=by exact rwL eads knd
  have km:∀b∈ads k',b∈ads (Tr.fill F l):=λb hb=>(kads k kmem b (by rwa [eads]at hb)).1;have kw:Nw H (ads k'):=w2.sub λb hb=>aj.mpr (.inr (km b hb));rcases fb D with hD0|⟨E',E,hD0⟩
  ·subst hD0;apply xw G (ay hn rfl) e7 ?_<;>ext;apply aF (s7.list er6) (by simp[cap]) ?_;apply⟨λz=>by ac_nf,λ_=>?_⟩<;>ext;have:=hres _ (qB1 rfl);apply oe G (t:=k') (le_trans this (rW hn)) lk7 knd' (S6.trans s7) kw λH8 s8 l8=>?_;have:=q1 _ (qB1 rfl) H8 s8 l8;rw[Tr.cN]at this;exact this
  ·subst hD0;have hE':E'.length<=19:=by simp at hD;exact Nat.le_succ_of_le hD
   have hpl:∀t:L,Tr.aa (E'++[E]) t=Tr.aa E' (Tr.fill E t):=λt=>Tr.dw;simp only[hpl]at l2 nd2 w2;have lE:=l2.unplug;apply bH (gc nd2) λr1 r2 r3=>?_;have r2':=r2;rw[al]at r2';apply jh (cg.mp lE) λz1z lEl lEx lEr=>?_;apply af z1z λz1z eE2=>a8 z1z λdxE eE=>?_;have eE':H2 E.a.1=some (false,.inst 45 dxE (cw (kd E.r) E.w E.h E.x E.y E.a.2 .none)):=eE;have eE2':H2 E.a.2=some (false,.list ((E.l++Tr.fill F l::E.rt).map rf)):=eE2;simp only[nodup_cons,nodup_cons]at r2';apply af (r2') λu1 z1z=>af z1z λu2 u3=>?_;clear z1z;have u4:=nodup_append.mp u3;have u5:=nodup_append.mp u4.2.1;have hE12:E.a.1≠E.a.2:=λz=>u1 (by simp only[z];exact .head _);have fE:∀b∈ads (Tr.fill F l),b≠E.a.1∧b≠E.a.2:=λb hb=>⟨λz=>u1 (by simp only[<-z];exact .tail _ (mem_append_right _ (mem_append_left _ hb))),λz=>u2 (by simp only[<-z];exact mem_append_right _ (mem_append_left _ hb))⟩;have X7:Ex (F.a.2::ads k) H2 H7:=X6.trans s7.ex;have eE7:=X7.inst eE' (λz=>(fE _ (mX _ z)).1 rfl);have eE27:=X7.list eE2' (λz=>(fE _ (mX _ z)).2 rfl);have okk:∀c∈E.l++Tr.fill F l::E.rt,∃p,H7 c.tag.1=some p∧p.2≠.opq:=λc hc=>by
    apply ad (lE.owns c hc) λp e1 e2=>?_;by_cases hz:c.tag.1∈F.a.2::ads k
    ·(apply af ((show Nd false H2 c from by
      apply(mA hc).elim (λhc=>?_) λhc=>?_
      ·exact(lEl c hc).nd
      ·rcases mC hc with rfl|hc
       ·exact lEx.nd
       ·exact(lEr c hc).nd)) λz1z _=>?_;obtain⟨dx,e⟩:=z1z)
     apply(mA hc).elim (λhc=>?_) λhc=>?_
     ·exact absurd (mX _ hz) λz=>u4.2.2 c.tag.1 (mG ⟨c,hc,aO c⟩) c.tag.1 (mem_append_left _ z) rfl
     ·rcases mC hc with rfl|hc
      ·exact⟨_,s7.inst e61,λz=>by ac_nf⟩
      ·exact absurd (mX _ hz) λz=>u5.2.2 c.tag.1 z c.tag.1 (mG ⟨c,hc,aO c⟩) rfl
    ·(apply af ((show Nd false H2 c from by
      apply(mA hc).elim (λhc=>?_) λhc=>?_
      ·exact(lEl c hc).nd
      ·rcases mC hc with rfl|hc
       ·exact lEx.nd
       ·exact(lEr c hc).nd)) λz1z _=>?_;obtain⟨dx,e⟩:=z1z)
     exact⟨_,X7.inst e hz,λz=>by ac_nf⟩
   have hEk:E.l.length+E.rt.length+1<=20:=by
    have okE:=(Tr.cy hfine.ok).1;have hsmE:(Tr.fill E (Tr.fill F l)).Sm:=by
     have q:=hsm1;simp only[hplug,hpl]at q;apply⟨(Tr.cy q.ok).1,?_⟩;have:=q.len;rw[Tr.aE]at this;simp only[length_append]at this;exact C9 this
    have:=hsmE.kids;simp[Tr.fill,Tr.cs]at this;exact this
   have e7':H7 r7=some (false,.list ((E'.map λF=>AV.ref F.a.1)++[.ref E.a.1,rf (Tr.fill F l)])):=by simp only[e7];simp;rfl
   have hr7E:r7≠E.a.2:=λz=>by
    have e:=X6.list eE2' (λz=>(fE _ (mX _ z)).2 rfl);simp only[<-z,hr7]at e;exact nS e
   apply xv G (F:=E) (u:=Tr.fill F l) (x:=.ref (Tr.aa E' (Tr.fill E (Tr.fill F l))).tag.1) (ay hn rfl) e7' (by simp;exact le_trans hE' (by decide)) (pM rfl) ⟨⟨dxE,eE7⟩,eE27⟩ (yy hEk rfl) okk (gm r2) hr7E ?_<;>ext;have x8:Ex [E.a.2] H7 (H7.set E.a.2 (.list (E.l.map rf++rf k'::E.rt.map rf))):=Ex.put;have e8:(H7.set E.a.2 (.list (E.l.map rf++rf k'::E.rt.map rf))) E.a.2=some (false,.list ((E.l++k'::E.rt).map rf)):=by simp only[AH.EP];simp
   show fC .len [.ref r] (H7.set E.a.2 (.list (E.l.map rf++rf k'::E.rt.map rf))) _;generalize H7.set E.a.2 (.list (E.l.map rf++rf k'::E.rt.map rf))=H8 at x8 e8;have X8:Ex (E.a.2::F.a.2::ads k) H2 H8:=(X7.mono λb hb=>.tail _ hb).trans (x8.mono λb hb=>by simp only[mS hb];exact .head _);have erL:(List.map (λF=>AV.ref F.a.1) (E'++[E]))++[.ref F.a.1,rf l]=(E'.map λF=>AV.ref F.a.1)++[.ref E.a.1,.ref F.a.1,rf l]:=by simp
   simp only[erL]at er6;have er8:=x8.list (s7.list er6) (λz=>by simp only[mS z]at er6;simp only[X6.list eE2' (λz=>(fE _ (mX _ z)).2 rfl)]at er6;lia);have eE8:=x8.inst eE7 (λz=>hE12 (mS z));have lK8:∀c∈E.l++k'::E.rt,LR false H8 c:=λc hc=>by
    apply(mA hc).elim (λhc=>?_) λhc=>?_
    ·apply(lEl c hc).ex X8 λb hb hz=>?_;rcases mC hz with rfl|hz
     ·exact u2 (mem_append_left _ (mG ⟨c,hc,hb⟩))
     ·exact u4.2.2 b (mG ⟨c,hc,hb⟩) b (mem_append_left _ (mX b hz)) rfl
    ·rcases mc hc with rfl|hc
     ·exact lk7.ex x8 λb hb hz=>(fE b (km b hb)).2 (mS hz)
     ·apply(lEr c hc).ex X8 λb hb hz=>?_;rcases mC hz with rfl|hz
      ·exact u2 (mem_append_right _ (mem_append_right _ (mG ⟨c,hc,hb⟩)))
      ·exact u5.2.2 b (mX b hz) b (mG ⟨c,hc,hb⟩) rfl
   have okc:∀c∈E.l++k'::E.rt,c.ok:=λc hc=>by
    have q:=hsm1;simp only[hplug,hpl]at q;have q2:=Tr.dW.mp (Tr.cy q.ok).1;apply(mA hc).elim (λhc=>?_) λhc=>?_
    ·exact q2.2 c hc
    ·rcases mc hc with rfl|hc
     ·exact g7 _ (.head _)
     ·exact q2.4 c hc
   have pnc:((E.l++k'::E.rt).flatMap Tr.panes).length<=20:=by
    have q:=hsm1.len;simp only[hplug,hpl,Tr.aE,Tr.dD,Tr.dD]at q;simp only[flatMap_cons,List.flatMap_nil,append_nil]at g11;simp only[flatMap_append,flatMap_cons,g11,length_append]at q ⊢;lia
   apply aF er8 (by simp;unfold cap;exact le_trans (add_le_add_right hE' 3) (le_of_ble_eq_true rfl)) ?_;apply⟨λ_=>?_,λz=>by simp at z;lia⟩<;>ext;apply tD er8 (by simp;exact le_trans hE' (by decide)) ?_;apply tB eE8 ?_;apply tD er8 (by simp;exact le_trans hE' (by decide)) ?_;apply AF eE8 ?_;apply D7 G (cs:=E.l++k'::E.rt) (ay hn rfl) e8 (λc hc=>(lK8 c hc).nd) (nG okc pnc) (by simp;exact hEk) (λs t h=>nG (λc hc=>okc c (by exact rwL h (mem_append_left t hc))) (by simp only[h,flatMap_append,length_append]at pnc;exact Cb pnc)) λa9 H9 ha9 s9 e9=>?_;apply tD (s9.list er8) (by simp;exact le_trans hE' (by decide)) ?_;apply rwL (pl (s9.inst eE8)) ?_<;>ext;have a9E:a9≠E.a.1:=λz=>by simp only[z,eE8]at ha9;exact sN ha9
   have x10:Ex [E.a.1] H9 (H9.set E.a.1 (.inst 45 dxE (cw (kd E.r) E.w E.h E.x E.y a9 .none))):=Ex.put;have e10:(H9.set E.a.1 (.inst 45 dxE (cw (kd E.r) E.w E.h E.x E.y a9 .none))) E.a.1=some (false,.inst 45 dxE (cw (kd E.r) E.w E.h E.x E.y a9 .none)):=AH.EP _ _ _;generalize H9.set E.a.1 (.inst 45 dxE (cw (kd E.r) E.w E.h E.x E.y a9 .none))=H10 at x10 e10;generalize hN:(.node (E.a.1,a9) E.r E.w E.h E.x E.y (Tr.aT E.r (E.l++k'::E.rt)):L)=N;have eN:N.tag.1=(Tr.fill E (Tr.fill F l)).tag.1:=by apply rwR hN ?_;rfl
   have X10:Ex (E.a.1::E.a.2::F.a.2::ads k) H2 H10:=((X8.trans s9.ex).mono λb hb=>.tail _ hb).trans (x10.mono λb hb=>by simp only[mS hb];exact .head _);have aN:ads N=E.a.1::a9::(Tr.aT E.r (E.l++k'::E.rt)).flatMap ads:=by simp only[<-hN,bj];rfl
   have mk:∀b∈(E.l++k'::E.rt).flatMap ads,b∈ads (Tr.fill E (Tr.fill F l))∧b≠E.a.1∧∃o,H8 b=some (false,o):=λb hb=>by
    apply ad (mF hb) λc hc hbc=>?_;apply a8 ((lK8 c hc).some b hbc) λo z1z=>?_;obtain⟨eo,_⟩:=z1z;apply rwL al ?_;simp only[mem_cons,mem_append];apply(mA hc).elim (λhc=>?_) λhc=>?_
    ·have hm:b∈E.l.flatMap ads:=mG ⟨c,hc,hbc⟩;exact⟨.inr (.inr (.inl hm)),λz=>u1 (by simp only[<-z];exact .tail _ (mem_append_left _ hm)),o,eo⟩
    ·rcases mc hc with rfl|hc
     ·exact⟨.inr (.inr (.inr (.inl (km b hbc)))),(fE b (km b hbc)).1,o,eo⟩
     ·have hm:b∈E.rt.flatMap ads:=mG ⟨c,hc,hbc⟩;exact⟨.inr (.inr (.inr (.inr hm))),λz=>u1 (by simp only[<-z];exact .tail _ (mem_append_right _ (mem_append_right _ hm))),o,eo⟩
   have ndk:((E.l++k'::E.rt).flatMap ads).Nodup:=by
    simp only[flatMap_append,flatMap_cons];exact nodup_append.mpr ⟨u4.1,nodup_append.mpr ⟨knd',u5.2.1,λa ha b hb=>u5.2.2 a (km a ha) b hb⟩,λa ha b hb=>u4.2.2 a ha b (by
     apply(mA hb).elim (λhb=>?_) λhb=>?_
     ·exact mem_append_left _ (km b hb)
     ·exact mem_append_right _ hb)⟩
   have mN:∀b∈ads N,b=a9\/b∈ads (Tr.fill E (Tr.fill F l)):=λb hb=>by
    rw[aN]at hb;rcases mC hb with rfl|hb
    ·exact .inr (aO (Tr.fill E (Tr.fill F l)))
    ·rcases mc hb with rfl|hb
     ·exact .inl rfl
     ·exact .inr (mk b (ig.subset hb)).1
   have nN:(ads N).Nodup:=by
    simp only[aN,nodup_cons,nodup_cons];apply⟨λz=>?_,λz=>?_,ig.nodup ndk⟩
    ·apply(mC z).elim (λz=>?_) λz=>?_
     ·exact a9E z.symm
     ·exact(mk _ (ig.subset z)).2 rfl
    ·apply bH (mk _ (ig.subset z)) λ_ _ z1z=>a8 z1z λo eo=>?_;rw[ha9]at eo;exact nS eo
   have a9n:a9∉ads (Tr.aa E' (Tr.fill E (Tr.fill F l))):=λz=>by
    apply de (l2.some a9 z) λo e no' _=>?_;by_cases hz:a9∈E.a.2::F.a.2::ads k
    ·apply(mC hz).elim (λhz=>?_) λhz=>?_
     ·simp only[hz,e8]at ha9;exact sN ha9
     ·apply(mC hz).elim (λhz=>?_) λhz=>?_
      ·have:=x8.list (s7.list e6) (λz=>(fE _ hF2m).2 (mS z));simp only[<-hz,ha9]at this;exact nS this
      ·obtain⟨o,eo,_⟩:=(lK8 k' (mem_append_right _ (.head _))).some a9 (by exact rwL eads hz);simp only[ha9]at eo;exact nS eo
    ·have:=X8 a9 _ _ no' e hz;rw[ha9]at this;exact nS this
   have S8:Sb H H8:=S2.exNw X8 (w2.sub λb hb=>aj.mpr (.inr (by
    apply rwL al ?_;simp only[mem_cons,mem_append];rcases mC hb with rfl|hb
    ·exact .inr (.inl rfl)
    ·exact .inr (.inr (.inr (.inl (mX b hb)))))))
   have S9:Sb H H9:=S8.trans s9;have S10:Sb H H10:=S9.exNw x10 (w2.sub λb hb=>aj.mpr (.inr (by simp only[mS hb];exact aO (Tr.fill E (Tr.fill F l)))));have hw:Nw H (ads (Tr.aa E' N)):=λb hb=>by
    apply(aj.mp hb).elim (λhb=>?_) λhb=>?_
    ·exact w2 b (aj.mpr (.inl hb))
    ·rcases(mN b hb).imp_left Eq.symm with rfl|hb
     ·exact(Nw.sb S8 (.of ha9)) a9 (.head _)
     ·exact w2 b (aj.mpr (.inr hb))
   have cE:∀b∈j9 E',b∉ads (Tr.fill E (Tr.fill F l)):=r3;have lN:LR false H10 N:=by
    apply rwR hN ?_;apply bz.mpr ⟨⟨⟨dxE,e10⟩,x10.list e9 (λz=>a9E (mS z))⟩,vW λc hc=>((lK8 c hc).sb s9).ex x10 λb hb hz=>?_⟩;exact(mk b (mG ⟨c,hc,hb⟩)).2 (mS hz)
   have hq:=qB2 E' E rfl (E.a.1,a9);rw[hN]at hq;have hdp:=hres _ hq;have ltr:LR false H10 (Tr.aa E' N):=fN eN X10 lN l2 λb hb hz=>cE b hb (by
    apply rwL al ?_;simp only[mem_cons,mem_append];rcases mC hz with rfl|hz
    ·exact .inl rfl
    ·rcases mC hz with rfl|hz
     ·exact .inr (.inl rfl)
     ·exact .inr (.inr (.inr (.inl (mX b hz)))))
   apply rwR (jI (C:=E') eN) ?_;apply oe G (t:=Tr.aa E' N) (le_trans hdp (rW hn)) ltr (fe nd2 nN λb hb hz=>?_) S10 hw λH11 s11 l11=>?_
   ·rcases(mN b hb).imp_left Eq.symm with rfl|hb
    ·exact a9n (aj.mpr (.inl hz))
    ·exact cE b hz hb
   ·have:=q1 _ hq H11 s11 l11;rw[Tr.cN]at this;exact this
end
end
section
namespace Tr
variable {U O:Type}
theorem w6:∀{t:Tr U},bF (λp=>p) t=t:=by
 intro t
 induction t using bn with
 |step t ih=>
  cases t with
  |leaf=>rfl
  |node a r w h x y cs=>
   apply rwL bp ?_;congr 1;have:∀l:List (Tr U),(∀c∈l,c∈cs)->l.map (bF λp=>p)=l:=by
    intro l
    induction l with
    |nil=>intro _;rfl
    |cons c l ih2=>intro h;simp only[map_cons,ih c (h c (.head _)),ih2 λc hc=>h c (.tail _ hc)]
   exact this cs λ_ h=>h
theorem oM {f f':Int->Int}:∀{C:List (Fm U)},(∀p,p∈dQ C\/p∈ct C->f p=f' p)->C.map (jX f)=C.map (jX f'):=by
 intro C
 induction C with
 |nil=>
  intro _;exact rfl
 |cons F C ih=>
  intro h;simp only[map_cons];simp only[ih λp hp=>h p (by
   apply hp.elim (λhp=>?_) λhp=>?_
   ·exact .inl (by simp[dZ,hp])
   ·exact .inr (by simp[dL,hp]))]
  congr 1;unfold jX;congr 1
  ·exact map_congr_left λc hc=>jW λp hp=>h p (.inl (by simp only[dZ,mem_append];exact .inl (mG ⟨c,hc,hp⟩)))
  ·exact map_congr_left λc hc=>jW λp hp=>h p (.inr (by simp only[dL,mem_append];exact .inr (mG ⟨c,hc,hp⟩)))
theorem qR {u:Tr U}:∀{t:Tr U} {i:Nat},t.leaves[i]?=some u->∃C,t=aa C u∧(dQ C).length=i∧E5 λa w h x y=>∃ p, u=.leaf a w h x y p:=by
 intro t
 induction t using bn with
 |step t ih=>
  intro i hi;cases t with
  |leaf a w h x y p=>
   simp only[lv]at hi;cases i with
   |zero=>simp at hi;subst hi;exact⟨[],rfl,rfl,a,w,h,x,y,p,rfl⟩
   |succ i=>exact nS hi
  |node a r w h x y cs=>
   simp only[cr,bN]at hi;have:∀(s t:List (Tr U)) (i:Nat),cs=s++t->(t.flatMap leaves)[i]?=some u->∃C,Tr.node a r w h x y cs=aa C u∧(dQ C).length=(s.flatMap leaves).length+i∧E5 λa w h x y=>∃ p, u=.leaf a w h x y p:=by
    intro s t
    induction t generalizing s with
    |nil=>intro i _ h;exact nS h
    |cons c t ih2=>
     intro i hc hi;rw[flatMap_cons]at hi;by_cases hlt:i<c.leaves.length
     ·rw[getElem?_append_left hlt]at hi;apply de (ih c (by exact rwL hc (mem_append_right _ (.head _))) hi) λC e1 e2 e3=>?_;apply⟨⟨a,r,w,h,x,y,s,t⟩::C,by simp only[bS,fill,<-e1,hc],?_,e3⟩;simp only[dZ,length_append,e2,List.length_flatMap];congr 3;funext d;exact dy
     ·rw[List.getElem?_append_right (le_of_not_lt hlt)]at hi;apply de (ih2 (s++[c]) (i-c.leaves.length) (by simp[hc]) hi) λC e1 e2 e3=>?_;exact⟨C,e1,by simp only[e2];simp;lia,e3⟩
   apply de (this [] cs i rfl hi) λC e1 e2 e3=>?_;exact⟨C,e1,by simpa using e2,e3⟩
end Tr
theorem oi {f:Int->Int}:∀{t:L},ads (Tr.bF f t)=ads t:=by
 intro t
 induction t using Tr.bn with
 |step t ih=>
  cases t with
  |leaf=>rfl
  |node a r w h x y cs=>
   simp only[Tr.bp,bj,bj];simp only[Tr.tag,Tr.cs];congr 2;have:∀l:List L,(∀c∈l,c∈cs)->(l.map (Tr.bF f)).flatMap ads=l.flatMap ads:=by
    intro l
    induction l with
    |nil=>intro _;rfl
    |cons c l ih2=>intro h;simp only[map_cons,flatMap_cons,flatMap_cons,ih c (h c (.head _)),ih2 λc hc=>h c (.tail _ hc)]
   exact this cs λ_ h=>h
theorem rp {f:Int->Int}:∀{C:List FL},j9 (C.map (Tr.jX f))=j9 C:=by
 intro C
 induction C with
 |nil=>
  exact rfl
 |cons F C ih=>
  have:∀l:List L,(l.map (Tr.bF f)).flatMap ads=l.flatMap ads:=λl=>by
   simp only[flatMap_map];congr 1;funext t;exact oi
  simp only[map_cons,mY,ih,Tr.jX,this]
section
variable {W:Wd} {n m:Nat} {H:AH} {Q:AV->AH->Prop} {Z:am} {QS:am->AH->Prop} {R:AV->AH->Prop}
def o0 (W:Wd) (n:Nat) (xs:List Nat) (b:List CS) (QS:am->AH->Prop) (R:AV->AH->Prop) (vs:List AV):am->AH->Prop:=List.rec QS
 (λv _ ih Z H=>E2 λus Z'=>v=.tup us∧putAll Z xs us=some Z'∧cG W n b Z' H ih R) vs
theorem nZ {xs:List Nat} {b:List CS}:o0 W n xs b QS R [] Z H=QS Z H:=rfl
theorem gz {xs:List Nat} {b:List CS} {v:AV} {vs:List AV}:o0 W n xs b QS R (v::vs) Z H=E2 λus Z'=>v=.tup us∧putAll Z xs us=some Z'∧cG W n b Z' H (o0 W n xs b QS R vs) R:=rfl
theorem qd {xs:List Nat} {b:List CS} {vs:List AV} (h:o0 W n xs b QS R vs Z H):qp W n xs b Z (.seq (.tup vs)) H QS R:=by
 apply⟨trivial,λi Z H=>i<=vs.length∧o0 W n xs b QS R (vs.drop i) Z H,vs.length,⟨zero_le _,by exact h⟩,λi Z H hI=>?_⟩;apply af hI λhi hJ=>?_;clear hI;apply⟨hi,vs[i]?,rfl,?_⟩;cases hu:vs[i]? with
 |none=>
  have:i=vs.length:=le_antisymm hi (by simpa using hu);simp only[this,List.drop_length]at hJ;exact hJ
 |some u=>
  have hlt:i<vs.length:=(mE hu).1;have hd:vs.drop i=u::vs.drop (i+1):=by
   have:=mE hu;simp only[<-this.2,getElem_cons_drop]
  simp only[hd]at hJ;apply cq hJ λus Z' e1 e2 hw=>?_;clear hJ;apply⟨us,Z',e1,e2,?_⟩;have e3:(λZ H=>i+1<=vs.length∧o0 W n xs b QS R (vs.drop (i+1)) Z H)=o0 W n xs b QS R (vs.drop (i+1)):=by
   funext Z H;exact propext ⟨λh=>h.2,λh=>⟨hlt,h⟩⟩
  show cG W n b Z' H (λZ H=>i+1<=vs.length∧o0 W n xs b QS R (vs.drop (i+1)) Z H) R;exact rwL e3 hw
theorem wy {x z:Nat} {b:List CS} {l1 l2 r:Addr} {us:List L} {ns:List Int} (hN:us.length=ns.length) (J:Nat->am->AH->Prop) (h0:J 0 Z H)
  (hl:∀i Z H,J i Z H->i<=ns.length∧H r=some (false,.opq)∧(∃f,H l1=some (f,.list (us.map rf)))∧∃f,H l2=some (f,.list (ns.map .int)))
  (step:∀i u k Z H,us[i]?=some u->ns[i]?=some k->J i Z H->cG W n b (put (put Z x (rf u)) z (.int k)) H (J (i+1)) R) (fin:∀Z H,J ns.length Z H->QS Z (H.del r)) :
  qp W n [x,z] b Z (.zip (.ref l1) (.ref l2) r) H QS R:=by
 apply⟨trivial,J,ns.length,h0,λi Z H hJ=>?_⟩;apply jh (hl _ _ _ hJ) λhi h1 z1z z2z=>?_;(apply a8 z1z λf h2=>?_;clear z1z);(apply a8 z2z λg h3=>?_;clear z2z);apply⟨hi,?_⟩;have e:bU H (.zip (.ref l1) (.ref l2) r) i=some ((us.map rf)[i]?.bind λx=>(ns.map AV.int)[i]?.map λy=>.tup [x,y]):=by
  show cond (sr (H r)) ((iB H (.ref l1)).bind λxs=>(iB H (.ref l2)).map λys=>xs[i]?.bind λx=>ys[i]?.map λy=>AV.tup [x,y]) none=_;have e2:iB H (.ref l1)=some (us.map rf):=gA h2;have e3:iB H (.ref l2)=some (ns.map AV.int):=gA h3;exact rwL h1 (rwL e2 (rwL e3 rfl))
 cases hk:ns[i]? with
 |none=>
  have:i=ns.length:=le_antisymm hi (by simpa using hk);apply⟨none,by apply rwL e ?_;simp[hk],?_⟩;exact fin Z H (this▸hJ)
 |some k=>
  have hlt:i<ns.length:=(mE hk).1;apply a8 ((show ∃u,us[i]?=some u from⟨us[i],getElem?_eq_getElem (le_trans hlt (le_of_eq hN.symm))⟩)) λu hu=>?_;apply⟨some (.tup [rf u,.int k]),by simp only[e];simp[hk,hu],[rf u,.int k],_,rfl,rfl,step i u k Z H hu hk hJ⟩
theorem Bd (G:GD W) {t:L} {f:Bool} {w h:Int} (hm:40<=m) (ht:LR f H t) (hf:(er t).Fine) (q:∀t' H',er t'=Tr.qY w h (er t)->Sb H H'->LR true H' t'->Q (.ref t'.tag.1) H'):a7 W 163 [.ref t.tag.1,.int w,.int h] m H Q:=by
 have hsm:t.Sm:=aL.mp hf.sm;have hdep:=hsm.dep;apply a7.fz (bZ G rfl (show 39+1<=m from hm) rfl λn hn=>?_)
 walk_at "wp"
 apply BL G (lu hdep hn rfl) ht hsm λt1 H1 s1 l1 e1 w1 nd1=>⟨by decide,by decide,by decide,qd ?_⟩;have one:∀(d:Bool) (s:Int) (t:L) (H1:AH) (Q':AV->AH->Prop),t.Sm->LR false H1 t->(ads t).Nodup->(∀H2,Ex (ads t) H1 H2->LR false H2 (Tr.dK d s t)->∀v,Q' v H2)->
   a7 W 94 [.ref t.tag.1,.bool d] n H1 λy H=>eH .sub (.int s) y H λv H=>a7 W 113 [.ref t.tag.1,.bool d] n H λx H=>bg x λi=>fC .max [v,.int (-i)] H λv H=>a7 W 120 [.ref t.tag.1,.bool d,v] n H λ_ H=>Q' v H:=by
  intro d s t H1 Q' hs hl hnd q';have hd:=hs.dep;apply zD G (ay hn rfl) hl.nd ?_;simp only[eG];apply Bf G (lu hd hn rfl) hl hs λH2 s2=>?_;simp only[nQ,n7];have hr:=Tr.ck (d:=d) hs.ok;apply Be G (k:=t.dep) (le_refl _) (lu hd hn rfl) (hl.sb s2) hnd hs (by unfold Tr.mx;split<;>lia) λH3 x3 l3=>q' H3 (s2.ex.trans x3) l3 _
 have hsm1:t1.Sm:=pF e1 hsm;have fitsk:∀(d:Bool) (s:Int) (t:L),t.Sm->(Tr.dK d s t).sk=t.sk∧(Tr.dK d s t).ok:=λd s t hs=>by
  have hr:=Tr.ck (d:=d) hs.ok;have:=Tr.pf (d:=d) (c:=Tr.mx (s-t.side d) (-(t.room d))) hs.ok (by unfold Tr.mx;split<;>lia);exact⟨this.sk,this.ok⟩
 apply gz.mpr ⟨_,_,rfl,rfl,?_⟩
 walk_at "wp"
 apply one true w t1 H1 _ hsm1 l1 nd1 λH2 x2 l2 v2=>gz.mpr ⟨_,_,rfl,rfl,?_⟩;apply af (fitsk true w t1 hsm1) λk1 k2=>?_;have hsm2:=Tr.rO k1 k2 hsm1;have et2:(Tr.dK true w t1).tag.1=t1.tag.1:=by exact congrArg _ (Tr.oy k1)
 have ea2:=cu k1
 walk_at "wp"
 apply rwR et2 ?_;apply one false h (Tr.dK true w t1) H2 _ hsm2 l2 (by exact rwL ea2 nd1) λH3 x3 l3 v3=>?_;apply af (fitsk false h (Tr.dK true w t1) hsm2) λk3 k4=>?_;have hsm3:=Tr.rO k3 k4 hsm2;have ea3:=cu k3;simp only[ea2]at x3 ea3;dsimp only[nZ]
 walk_at "wp"
 apply rwR (show(Tr.dK false h (Tr.dK true w t1)).tag.1=(Tr.dK true w t1).tag.1 from by exact congrArg _ (Tr.oy k3)) ?_;apply oe G (by have:=hsm3.dep;exact le_trans this (rW hn)) l3 (by exact rwL ea3 nd1) (s1.exNw (x2.trans x3) w1) (by exact rwL ea3 w1) λH4 s4 l4=>?_;have:=q (Tr.cH 0 0 (Tr.dK false h (Tr.dK true w t1))) H4 (by
  apply rwR iP ?_;unfold Tr.qY;apply rwR e1 ?_;have h1:∀d s (t:L),er (Tr.dK d s t)=Tr.dK d s (er t):=λd s t=>Tr.tO.symm;simp only[h1]) s4 l4
 rw[Tr.cN]at this;exact this
end
end
section
theorem AH.EU (H:AH) {a b:Addr} (h:b≠a):H.del a b=H b:=if_neg h
theorem Ex.del {H:AH} {r:Addr}:Ex [r] H (H.del r):=λa f o n e z=>by
 exact rwL (AH.EU _ λq=>z (by simp only[q];exact .head _)) e
namespace Tr
theorem uu {ps ns:List Int} (nd:ps.Nodup) {i:Nat} {p k:Int} (hp:ps[i]?=some p) (hk:ns[i]?=some k) (q:Int):asg ps (ns.take (i+1)) q=if q=p then k else asg ps (ns.take i) q:=by
 induction ps generalizing ns i with
 |nil=>exact nS hp
 |cons p0 ps ih=>
  cases ns with
  |nil=>exact nS hk
  |cons k0 ns=>
   (have nd:=nd;rw[nodup_cons]at nd);cases i with
   |zero=>
    simp only[List.getElem?_cons_zero,Option.some.injEq]at hp hk;subst hp hk;simp only[take_succ_cons,take_zero,asg,zip_cons_cons,List.zip_nil_right,lookup_cons,lookup_nil];by_cases h:q=p0
    ·simp[h]
    ·simp[h,beq_false_of_ne h]
   |succ i=>
    simp only[List.getElem?_cons_succ]at hp hk;have hpm:p∈ps:=mem_of_getElem? hp;have hne:p0≠p:=λz=>nd.1 (z▸hpm);have:=ih nd.2 hp hk;simp only[take_succ_cons,asg,zip_cons_cons,lookup_cons]at this ⊢;by_cases h:q=p0
    ·subst h;simp[hne]
    ·exact rwL (beq_false_of_ne h) this
theorem wT {ps:List Int} {q:Int}:asg ps [] q=q:=by simp[asg]
end Tr
theorem vk {t:L} {ns:List Int}:er (Tr.bF (Tr.asg t.panes ns) t)=Tr.jG ns (er t):=by
 unfold Tr.jG;exact rwL ab Tr.te.symm
section
variable {W:Wd} {n m:Nat} {H:AH} {Q:AV->AH->Prop}
theorem wM (G:GD W) {t:L} {f g:Bool} {l:Addr} {ns:List Int} (hm:30<=m) (ht:LR f H t) (hs:t.Sm) (nd:t.panes.Nodup) (el:H l=some (g,.list (ns.map .int))) (hl:ns.length=t.panes.length)
  (q:∀t' H',er t'=Tr.jG ns (er t)->Sb H H'->LR true H' t'->Q (.ref t'.tag.1) H'):a7 W 170 [.ref t.tag.1,.ref l] m H Q:=by
 have hdep:=hs.dep;apply a7.fz (bZ G rfl (show 29+1<=m from hm) rfl λn hn=>?_)
 walk_at "wp"
 apply BL G (lu hdep hn rfl) ht hs λt1 H1 s1 l1 e1 w1 nd1=>?_;have hs1:t1.Sm:=pF e1 hs;have ep:=sn e1;apply z9 G (by have:=hs1.dep;exact le_trans this (rW hn)) l1 hs1 λr2 H2 s2 e2 r hr=>?_;have hlv:t1.leaves.length=ns.length:=by apply rwR Tr.dy (rwL ep ?_);exact hl.symm
 have sbr:Sb H2 (H2.set r .opq):=.new hr;have l2:LR false H2 t1:=l1.sb s2;have ne_r:∀{a:Addr} {p:Bool × AO},H2 a=some p->a≠r:=λe=>ak hr e;have rads:r∉ads t1:=λz=>by
  obtain⟨o,e,_⟩:=l2.some r z;simp only[hr]at e;exact nS e
 apply wy (l1:=r2) (l2:=l) (us:=t1.leaves) (ns:=ns) hlv (λi Z H'=>i<=ns.length∧Z.lookup 24=some (.ref t1.tag.1)∧LR false H' (Tr.bF (Tr.asg t1.panes (ns.take i)) t1)∧Ex (ads t1) (H2.set r .opq) H'∧H' r=some (false,.opq)) ?_ ?_ ?_ ?_
 ·apply⟨zero_le _,rfl,?_,.refl,AH.EP _ _ _⟩;have:Tr.bF (Tr.asg t1.panes (ns.take 0)) t1=t1:=by
   have h:Tr.asg t1.panes (ns.take 0)=λp=>p:=by funext q;exact Tr.wT
   exact rwL h (rwL Tr.w6 rfl)
  simp only[this];exact l2.sb sbr
 ·rintro i Z H' ⟨h1,h2,h3,h4,h5⟩;apply⟨h1,h5,⟨true,h4.list (sbr.list e2) λz=>?_⟩,⟨g,h4.list (sbr.list (s2.list (s1.list el))) λz=>?_⟩⟩
  ·obtain⟨o,e,_⟩:=l2.some r2 z;simp only[e2]at e;simp at e
  ·exact w1 l z g _ aw el
 ·rintro i u k Z H' hu hk ⟨h1,h2,h3,h4,h5⟩;apply de (Tr.qR hu) λC et hC z1z=>?_;(apply vS z1z λa w h x y z1z=>?_;obtain⟨p,rfl⟩:=z1z);have hp:t1.panes[i]?=some p:=by
   rw[Tr.panes,getElem?_map,hu];rfl
  have ndp:t1.panes.Nodup:=by exact rwL ep nd
  have e3:=Tr.uu ndp hp hk;have hlt:i<ns.length:=(mE hk).1
  walk_at "wp"
  generalize hσ:Tr.asg t1.panes (ns.take i)=σ at h3 e3;generalize hσ':Tr.asg t1.panes (ns.take (i+1))=σ' at e3;have hmp:Tr.bF σ t1=Tr.aa (C.map (Tr.jX σ)) (.leaf a w h x y (σ p)):=by simp only[et,Tr.lr];rfl
  simp only[hmp]at h3;apply af h3.unplug.nd λz1z e5=>?_;(apply a8 z1z λdx e4=>?_;clear z1z);have e4':H' a.1=some (false,.inst 45 dx (cw sPane w h x y a.2 (.int (σ p)))):=e4;show cx (.ref a.1) 6 (.int k) H' _;apply rwL (pp e4') ?_;have hmem:a.1∈ads t1:=by exact rwL et (aj.mpr (.inr (aO (.leaf a w h x y p))))
  have ndc:=nd1;rw[et]at ndc;apply bH (gc ndc) λd1 d2 d3=>?_;have hal:a.2≠a.1:=λz=>by simp[uC,z]at d2
  have hCc:C.map (Tr.jX σ)=C.map (Tr.jX σ'):=Tr.oM λq hq=>by
   rw[e3,if_neg];rintro rfl;simp only[et,Tr.aE,Tr.au]at ndp;rcases hq with hq|hq
   ·exact(nodup_append.mp (nodup_append.mp ndp).1).2.2 q hq q (.head _) rfl
   ·exact(nodup_append.mp ndp).2.2 q (mem_append_right _ (.head _)) q hq rfl
  apply⟨hlt,h2,?_,h4.trans (Ex.put.mono λb hb=>by simp only[mS hb];exact hmem),?_⟩
  ·have hmp':Tr.bF σ' t1=Tr.aa (C.map (Tr.jX σ)) (.leaf a w h x y k):=by
    apply rwL hCc ?_;have:σ' p=k:=by rw[e3,if_pos rfl]
    simp only[et,Tr.lr,Tr.ls,this]
   simp only[hmp'];apply fN (l:=.leaf a w h x y (σ p)) (u:=.leaf a w h x y k) rfl Ex.put ?_ h3 λb hb hz=>?_
   ·apply bz.mpr ⟨⟨⟨dx,AH.EP _ _ _⟩,(AH.EQ _ _ hal).trans e5⟩,by exact λz hz=>nomatch hz⟩
   ·simp only[rp]at hb;simp only[mS hz]at hb;exact d3 _ hb (aO (.leaf a w h x y p))
  ·exact rwL (AH.EQ _ _ (λz=>rads (by simp only[z];exact hmem))) h5
 ·rintro Z H' ⟨h1,h2,h3,h4,h5⟩;have h3:=take_length▸h3;generalize hM:Tr.bF (Tr.asg t1.panes ns) t1=M at h3;have hMa:ads M=ads t1:=by exact rwR hM (rwL oi rfl)
  have hMt:M.tag=t1.tag:=by exact rwR hM (rwL Tr.td rfl)
  have l3:LR false (H'.del r) M:=h3.ex Ex.del λb hb hz=>by
   simp only[mS hz,hMa]at hb;exact rads hb
  have S2:Sb H H2:=s1.trans s2;have S3:Sb H (H'.del r):=by
   have k0:Sb H (H2.set r .opq):=S2.trans sbr;have k1:Sb H H':=k0.exNw h4 w1;exact k1.exNw Ex.del (Nw.sb S2 (.of hr))
  apply iU h2 ⟨ads t1,?_⟩;have:=q M (fz (ads t1) (H'.del r)) (by apply rwR hM (rwL vk ?_);unfold Tr.jG;exact e1▸rfl) (dY S3 w1) (LR.fz (λb hb=>by rwa [hMa]at hb) l3);rwa [hMt]at this
theorem notIn_list {H:AH} {a:Int} {l:Addr} {f:Bool} {xs:List Int} {P:AV->AH->Prop} (e:H l=some (f,.list (xs.map .int))) (q:P (.bool (!decide (a∈xs))) H):E4 λ(a':Int) (l':Addr) (f:Bool) (xs:List Int)=>AV.int a=.int a'∧AV.ref l=.ref l'∧H l'=some (f,.list (xs.map .int))∧P (.bool (!decide (a'∈xs))) H:=
 ⟨a,l,f,xs,rfl,rfl,e,q⟩
theorem Bc (G:GD W) {t:L} {f:Bool} {one other:Int} (hm:40<=m) (ht:LR f H t) (hf:(er t).Fine) (nd:t.panes.Nodup) (q0:Tr.fK (er t) one other=none->∀H',Sb H H'->Q .none H')
  (q1:∀t' H',Tr.fK (er t) one other=some (er t')->Sb H H'->LR true H' t'->Q (.ref t'.tag.1) H'):a7 W 175 [.ref t.tag.1,.int one,.int other] m H Q:=by
 have hsm:t.Sm:=aL.mp hf.sm;have hdep:=hsm.dep;apply bZ G rfl (show 39+1<=m from hm) rfl λn hn=>?_;ext;apply kx G (lu hdep hn rfl) ht hsm λr1 H1 s1 e1=>?_<;>ext;have none':¬(one∈t.panes∧other∈t.panes)->Tr.fK (er t) one other=none:=λh=>by
  unfold Tr.fK;exact rwL ab (rwL (if_neg h) rfl)
 apply⟨one,r1,true,t.panes,rfl,rfl,e1,λh1=>⟨λ_=>q0 (none' λz=>?_) _ s1,λz=>by ac_nf⟩,λh1=>⟨other,r1,true,t.panes,rfl,rfl,e1,λh2=>q0 (none' λz=>?_) _ s1,λh2=>?_⟩⟩<;>ext
 ·simp[z.1]at h1
 ·simp[z.2]at h2
 have h1:one∈t.panes:=by simpa using h1
 have h2:other∈t.panes:=by simpa using h2
 apply⟨[(one,.int other),(other,.int one)],rfl,by simp,λr2 hr2=>?_⟩<;>ext;have s2:Sb H1 (H1.set r2 (.dI (([(one,AV.int other),(other,.int one)]:List (Int × AV)).foldl (λes p=>ch es p.1 p.2) []))):=.new hr2;generalize hH2:H1.set r2 (.dI (([(one,AV.int other),(other,.int one)]:List (Int × AV)).foldl (λes p=>ch es p.1 p.2) []))=H2 at s2;have e2:H2 r2=some (false,.dI (([(one,AV.int other),(other,.int one)]:List (Int × AV)).foldl (λes p=>ch es p.1 p.2) [])):=by exact rwR hH2 (AH.EP _ _ _)
 have lk:∀p:Int,((([(one,AV.int other),(other,.int one)]:List (Int × AV)).foldl (λes p=>ch es p.1 p.2) []).lookup p).getD (.int p)=.int (Tr.oq one other p):=λp=>by
  unfold Tr.oq;simp only[List.foldl,pJ,jg];by_cases h:one=other
  ·subst h;simp only[if_true,lookup_cons,lookup_nil];by_cases hp:p=one
   ·simp[hp]
   ·simp[hp,beq_false_of_ne hp]
  ·apply rwL (if_neg h) ?_;simp only[lookup_cons,lookup_nil];by_cases hp:p=other
   ·obtain rfl:=hp.symm;apply rwL (beq_false_of_ne λz=>h z.symm) ?_;simp
   ·by_cases hp2:p=one
    ·obtain rfl:=hp2.symm;simp[hp]
    ·simp[hp,hp2,beq_false_of_ne hp,beq_false_of_ne hp2]
 apply cQ (g:=AV.int) (cs:=t.panes) (bD hsm.len) (λpre out H'=>H'=H2∧out=pre.map λp=>.int (Tr.oq one other p)) ⟨rfl,rfl⟩ ?_ ?_ ?_
 ·rintro pre out H' ⟨rfl,rfl⟩;exact⟨⟨true,s2.list e1⟩,by simp⟩
 ·rintro pre u suf out H' hcs ⟨rfl,rfl⟩;ext;apply⟨⟨_,_,_,rfl,e2⟩,_,e2,?_⟩;exact⟨rfl,by rw[lk];simp⟩
 ·rintro out H' ⟨rfl,rfl⟩ r3 hr3;have s3:Sb H' (H'.set r3 (.list (t.panes.map λp=>.int (Tr.oq one other p)))):=.new hr3;have S3:Sb H (H'.set r3 (.list (t.panes.map λp=>.int (Tr.oq one other p)))):=(s1.trans s2).trans s3;apply wM G (ns:=t.panes.map (Tr.oq one other)) (g:=false) (ay hn rfl) (ht.sb S3) hsm nd (by simp only[AH.EP];simp) (length_map ..) λt' H4 h4 s4 l4=>?_;apply q1 t' H4 ?_ (S3.trans s4) l4;unfold Tr.fK;exact rwL ab (rwL (if_pos ⟨h1,h2⟩) (rwL h4 rfl))
theorem yX {U:Type} {f:U->AV} {xs:List U} (h:xs≠[]):cut (xs.map f) (some 1) none=(xs.drop 1).map f:=by
 delta cut clipAt;have hl:1<=xs.length:=by cases xs with|nil=>exact absurd rfl h|cons=>simp
 simp
 have:(max 0 (min 1 (xs.length:Int))).toNat=1:=C7 hl;apply rwL this ?_;apply rwR List.map_drop (rwL (take_of_length_le (by simp)) ?_);simp
theorem yV {U:Type} {f:U->AV} {xs:List U} (h:xs≠[]):cut (xs.map f) none (some 1)=(xs.take 1).map f:=by
 delta cut clipAt;have hl:1<=xs.length:=by cases xs with|nil=>exact absurd rfl h|cons=>simp
 simp
 have:(max 0 (min 1 (xs.length:Int))).toNat=1:=C7 hl;exact this.symm▸rfl
theorem yW {U:Type} {f:U->AV} {xs:List U} (h:xs≠[]):cut (xs.map f) (some (-1)) none=(xs.drop (xs.length-1)).map f:=by
 delta cut clipAt;have hl:1<=xs.length:=by cases xs with|nil=>exact absurd rfl h|cons=>simp
 simp
 have:=C8 hl;apply rwL this ?_;exact rwR List.map_drop (rwL (take_of_length_le (by simp)) rfl)
theorem yU {U:Type} {f:U->AV} {xs:List U} (h:xs≠[]):cut (xs.map f) none (some (-1))=(xs.take (xs.length-1)).map f:=by
 delta cut clipAt;have hl:1<=xs.length:=by cases xs with|nil=>exact absurd rfl h|cons=>simp
 simp
 have:=C8 hl;exact rwL this (Nat.min_eq_left (Nat.sub_le _ _))
theorem Bb (G:GD W) {t:L} {f back:Bool} (hm:40<=m) (ht:LR f H t) (hf:(er t).Fine) (nd:t.panes.Nodup) (q:∀t' H',er t'=Tr.gM back (er t)->Sb H H'->LR true H' t'->Q (.ref t'.tag.1) H'):a7 W 183 [.ref t.tag.1,.bool back] m H Q:=by
 have hsm:t.Sm:=aL.mp hf.sm;have hdep:=hsm.dep;have hne:t.panes≠[]:=λz=>by have:=Tr.fg hsm.ok;rw[z]at this;simp at this
 have hlen:=hsm.len;apply bZ G rfl (show 39+1<=m from hm) rfl λn hn=>?_;ext;apply kx G (lu hdep hn rfl) ht hsm λr1 H1 s1 e1=>?_<;>ext;have key:∀(xs ys:List Int) (ra rb:Addr) (H2:AH),Sb H1 H2->H2 ra=some (false,.list (xs.map .int))->H2 rb=some (false,.list (ys.map .int))->xs++ys=Tr.zw back t.panes->xs.length+ys.length=t.panes.length->
   eH .add (.ref ra) (.ref rb) H2 λv H=>a7 W 170 [.ref t.tag.1,v] n H Q:=by
  intro xs ys ra rb H2 s2 ea eb hxy hl;apply⟨false,false,_,_,ea,eb,by simp only[length_map];unfold cap;lia,λr hr=>?_⟩;have s3:Sb H2 (H2.set r (.list (xs.map .int++ys.map .int))):=.new hr;have S3:Sb H (H2.set r (.list (xs.map .int++ys.map .int))):=(s1.trans s2).trans s3;apply wM G (ns:=Tr.zw back t.panes) (g:=false) (ay hn rfl) (ht.sb S3) hsm nd (by simp only[AH.EP,<-hxy];simp) (by apply rwR hxy (rwL length_append ?_);exact hl) λt' H4 h4 s4 l4=>?_;apply q t' H4 ?_ (S3.trans s4) l4;unfold Tr.gM;exact rwL ab h4
 have hcap:(t.panes.map AV.int).length<=cap:=by simp only[length_map];unfold cap;exact le_trans hlen (by decide)
 have two:∀(c1 c2:List AV) (ra rb:Addr),H1 ra=none->(H1.set ra (.list c1)) rb=none->Sb H1 ((H1.set ra (.list c1)).set rb (.list c2))∧((H1.set ra (.list c1)).set rb (.list c2)) ra=some (false,.list c1)∧((H1.set ra (.list c1)).set rb (.list c2)) rb=some (false,.list c2):=λc1 c2 ra rb ha hb=>
  ⟨(Sb.new ha).trans (Sb.new hb),(AH.EQ _ _ (ak hb (AH.EP _ _ _))).trans (AH.EP _ _ _),AH.EP _ _ _⟩
 cases back with
 |true=>
  apply⟨λ_=>⟨r1,true,_,some 1,none,rfl,e1,hcap,by decide,rfl,λra ha=>⟨r1,true,_,none,some 1,rfl,(AH.EQ _ _ (ak ha e1)).trans e1,hcap,rfl,by decide,λrb hb=>?_⟩⟩,λz=>by ac_nf⟩;simp only[yX hne]at hb ⊢;simp only[yV hne];apply bH (two _ ((t.panes.take 1).map AV.int) ra rb ha hb) λk1 k2 k3=>?_;exact key _ _ ra rb _ k1 k2 k3 rfl (by apply rwL length_take (rwL List.length_drop ?_);exact Eu)
 |false=>
  apply⟨(λz=>by ac_nf),λ_=>⟨r1,true,_,some (-1),none,rfl,e1,hcap,by decide,rfl,λra ha=>⟨r1,true,_,none,some (-1),rfl,(AH.EQ _ _ (ak ha e1)).trans e1,hcap,rfl,by decide,λrb hb=>?_⟩⟩⟩;simp only[yW hne]at hb ⊢;simp only[yU hne];apply bH (two _ ((t.panes.take (t.panes.length-1)).map AV.int) ra rb ha hb) λk1 k2 k3=>?_;exact key _ _ ra rb _ k1 k2 k3 rfl (by simp only[List.length_drop,length_take];exact Et)
end
end
section
noncomputable def Dj (x:Int):UInt8:=x.toNat.toUInt8
theorem t6 {xs ys:List Int} (e:xs.map AV.int=ys.map AV.int):xs=ys:=(List.map_inj_right λ_ _ h=>AV.int.inj h).mp e
noncomputable def o5 (k:Nat) (r:Int):List Int:=Nat.rec (motive:=λ_=>Int->List Int) (λ_=>[]) (λ_ ih r=>if 0<r then(48+r.fmod 10)::ih (r.fdiv 10)else []) k r
theorem qf {z0}: o5 0 z0=[]:=rfl
theorem jo {z0 k}: o5 (Nat.succ k) z0=if 0<z0 then(48+Int.fmod z0 10)::o5 k (Int.fdiv z0 10)else []:=rfl
noncomputable def mO (n:Int):List Int:=(48+n.fmod 10)::o5 10 (n.fdiv 10)
noncomputable def bT (n:Int):Array UInt8:=((mO n).reverse.map Dj).toArray
theorem tT:∀{k r},(o5 k r).length<=k:=by
 intro k
 induction k with
 |zero=>
  intro _;exact le_refl _
 |succ k ih=>
  intro r;rw[jo];split
  ·have:=ih (r:=r.fdiv 10);simp only[length_cons];exact add_le_add_right this 1
  ·simp
theorem tM (r:Int):0<=r.fmod 10∧r.fmod 10<10:=⟨fmod_nonneg_of_pos _ (by lia),fmod_lt_of_pos _ (by lia)⟩
theorem tS:∀{k r x},x∈o5 k r->0<=x∧x<256:=by
 intro k
 induction k with
 |zero=>
  intro _ _ h;simp[qf]at h
 |succ k ih=>
  intro r x h;rw[jo]at h;split at h
  ·rcases mC h with rfl|h
   ·have:=tM r;omega
   ·exact ih h
  ·simp at h
theorem o8 {n:Int}:(mO n).length<=11:=by have:=tT (k:=10) (r:=n.fdiv 10);simp only[mO,length_cons];exact Nat.succ_le_succ this
theorem bE {n:Int}:(bT n).size<=11:=by have:=o8 (n:=n);simp[bT];omega
theorem tV {n x:Int} (h:x∈mO n):0<=x∧x<256:=by
 rcases mC h with rfl|h
 ·have:=tM n;omega
 ·exact tS h
noncomputable def bW:Array UInt8:=#[44]
noncomputable def cU (w h x y:Int):Array UInt8:=bq bW [bT w++#[120]++bT h,bT x,bT y]
noncomputable def octB (t:T):Array UInt8:=Tr.fo (λ_ w h x y p=>cU w h x y++bW++bT p) (λ_ r w h x y _ l=>if r then cU w h x y++#[123]++bq bW l++#[125]else cU w h x y++#[91]++bq bW l++#[93]) [] (λ_ _ a l=>a::l) t
noncomputable def ie (ts:List T):List (Array UInt8):=Tr.fos (λ_ w h x y p=>cU w h x y++bW++bT p) (λ_ r w h x y _ l=>if r then cU w h x y++#[123]++bq bW l++#[125]else cU w h x y++#[91]++bq bW l++#[93]) [] (λ_ _ a l=>a::l) ts
theorem Ag:ie []=[]:=rfl
theorem nA {c cs}: ie (c::cs)=octB c::ie cs:=rfl
theorem vR {a w h x_1 y p}: octB (Tr.leaf a w h x_1 y p)=cU w h x_1 y++bW++bT p:=rfl
theorem pR {a r w h x_1 y cs}: octB (Tr.node a r w h x_1 y cs) =
 if r=true then cU w h x_1 y++#[123]++bq bW (ie cs)++#[125]
 else cU w h x_1 y++#[91]++bq bW (ie cs)++#[93]:=rfl
theorem sT:∀{cs:List T},ie cs=cs.map octB:=by
 intro cs
 induction cs with
 |nil=>
  exact rfl
 |cons c cs ih=>
  simp[nA,ih]
theorem lA {s:Array UInt8} {l:List (Array UInt8)}:(bq s l).size<=(l.map Array.size).sum+l.length * s.size:=by
 induction l with
 |nil=>exact zero_le _
 |cons x l ih=>cases l with
  |nil=>exact le_add_right (bq s [x]).size ([x].length * s.size)
  |cons y r=>
   simp only[kf,size_append,map_cons,sum_cons,length_cons]at ih ⊢;simp only[Nat.add_mul (r.length+1) 1];lia
theorem gV {w h x y:Int}:(cU w h x y).size<=50:=by
 have h1:=lA (s:=bW) (l:=[bT w++#[120]++bT h,bT x,bT y]);have h2:=bE (n:=w);have h3:=bE (n:=h);have h4:=bE (n:=x);have h5:=bE (n:=y);simp only[map_cons,map_nil,sum_cons,List.sum_nil,size_append,length_cons,length_nil]at h1;have h6:bW.size=1:=rfl;have h7:(#[120]:Array UInt8).size=1:=rfl;unfold cU;simp only[h6,h7]at h1;lia
theorem ld:∀{t:T},t.ok->(octB t).size+100<=200 * t.panes.length:=by
 intro t
 induction t using Tr.bn with
 |step t ih=>
  intro ho;cases t with
  |leaf a w h x y p=>
   have h1:=gV (w:=w) (h:=h) (x:=x) (y:=y);have h2:=bE (n:=p);have h6:bW.size=1:=rfl;simp only[vR,size_append,Tr.au,length_cons,length_nil,h6];lia
  |node a r w h x y cs=>
   rw[Tr.aH]at ho;have h1:=gV (w:=w) (h:=h) (x:=x) (y:=y);have h2:=lA (s:=bW) (l:=ie cs);have h6:bW.size=1:=rfl;have h3:∀l:List T,(∀c∈l,c∈cs)->((ie l).map Array.size).sum+100 * l.length<=200 * (l.flatMap Tr.panes).length∧(ie l).length=l.length:=by
    intro l
    induction l with
    |nil=>intro _;decide
    |cons c l ih2=>
     intro h;have a1:=ih c (h c (.head _)) (ho.2 c (h c (.head _)));apply af (ih2 λc hc=>h c (.tail _ hc)) λa2 a3=>?_;simp only[nA,map_cons,sum_cons,length_cons,flatMap_cons,length_append];lia
   apply af (h3 cs λ_ h=>h) λh4 h5=>?_;simp only[h6,h5]at h2;have k1:(#[123]:Array UInt8).size=1:=rfl;have k2:(#[125]:Array UInt8).size=1:=rfl;have k3:(#[91]:Array UInt8).size=1:=rfl;have k4:(#[93]:Array UInt8).size=1:=rfl;simp only[Tr.az];simp only[pR];split<;>simp only[size_append,k1,k2,k3,k4]<;>lia
noncomputable def kI (l:List Int):Int:=l.foldl (λa o=>(a.fdiv 2+a % 2 * 2 ^ 15+o) % 65536) 0
noncomputable def oV (n s:Int):Int:=((nU[((n.fdiv (2 ^ s.toNat)) % 16).toNat]?).getD 0).toNat
noncomputable def yM (n:Int):Array UInt8:=(([12,8,4,0].map (oV n)).map Dj).toArray
noncomputable def vQ (t:T):Array UInt8:=yM (kI (iF (octB t)))++bW++octB t
section
variable {W:Wd} {n m:Nat} {H:AH} {Q:AV->AH->Prop}
theorem Ba (G:GD W) {v:Int} (hm:1<=m) (h0:0<=v) (h1:v<1000) (q:∀H',Sb H H'->Q (.bytes (bT v)) H'):a7 W 28 [.int v] m H Q:=by
 apply bZ G rfl hm rfl λn hn=>?_
 walk_at "wp"
 apply⟨λ_=>?_,λz=>absurd h0 (of_decide_eq_false z)⟩;simp only[gY,aU,jq];apply⟨by decide,by decide,λa ha=>⟨by decide,by lia,by decide,?_⟩⟩;have hv:v.fdiv 10<2 ^ 10∧0<=v.fdiv 10:=by
  apply rwL (Int.fdiv_eq_ediv_of_nonneg _ (by lia)) ?_;lia
 apply⟨λμ Z H'=>E3 λ(r:Int) (pre:List Int) (k:Nat)=>μ=r.toNat∧Z.lookup 7=some (.int v)∧Z.lookup 23=some (.int r)∧Z.lookup 24=some (.ref a)∧H' a=some (false,.list (pre.map .int))∧pre++o5 k r=mO v∧0<=r∧r<2 ^ k∧k<=10∧Sb H H',
  _,⟨v.fdiv 10,[48+v.fmod 10],10,rfl,rfl,rfl,rfl,AH.EP _ _ _,rfl,hv.2,hv.1,le_refl _,.new ha⟩,?_⟩
 rintro μ Z H' ⟨r,pre,k,rfl,g1,g2,g3,g4,g5,g6,g7,g8,g9⟩
 walk_at "wp"
 simp only[g1,g2,g3,cz,nQ,gY,aU,jq];have hlen:pre.length<=11:=by
  have:=congrArg List.length g5;have:=o8 (n:=v);simp only[length_append]at *;lia
 apply⟨λhz=>?_,λhz=>?_⟩
 ·have hr:¬0<r:=of_decide_eq_false hz;have e5:pre=mO v:=by
   apply rwR g5 ?_;have:o5 k r=[]:=by obtain⟨⟩:=k<;>simp[qf,jo,hr]
   apply rwL this ?_;simp
  subst e5;apply⟨λz=>absurd (of_decide_eq_true z) (not_lt_of_ge h0),λ_=>?_⟩;apply⟨a,false,_,rfl,g4,by simp only[length_map];unfold cap;exact le_trans hlen (by decide),λb hb=>?_⟩;have e:(H'.set b (.list ((mO v).map AV.int).reverse)) b=some (false,.list ((mO v).reverse.map AV.int)):=by simp only[AH.EP,map_reverse]
  exact⟨false,(mO v).reverse,e,λx hx=>tV (List.mem_reverse.mp hx),by apply rwL List.length_reverse ?_;unfold cap;lia,q _ (g9.trans (Sb.new hb))⟩
 ·have hr:0<r:=of_decide_eq_true hz;have hk:∃k',k=k'+1:=by
   cases k with
   |zero=>simp at g7;lia
   |succ k=>exact⟨k,rfl⟩
  apply a8 hk λk' z1z=>?_;clear hk;subst z1z;apply⟨⟨a,false,_,rfl,g4⟩,by decide,pre.map .int,g4,by simp only[length_map];unfold cap;exact le_trans hlen (by decide),?_⟩;have hd:=Int.fdiv_eq_ediv_of_nonneg r (b:=10) (by lia);have p1:(2:Int) ^ (k'+1)=2 * 2 ^ k':=by rw[Int.pow_succ];lia
  have p2:(2:Int) ^ k'<=2 ^ 10:=by
   have:=Nat.pow_le_pow_right (n:=2) (succ_pos _) (show k'<=10 by exact le_of_lt (by assumption))
   exact_mod_cast this
  apply⟨by decide,by lia,by decide,_,?_,r.fdiv 10,pre++[48+r.fmod 10],k',rfl,trivial,rfl,trivial,by simp only[AH.EP];simp,?_,by lia,by lia,by exact le_of_lt (by assumption),λb f o nn eb _=>(AH.EQ _ _ (ak ha eb)).trans (g9 b f o nn eb (by assumption))⟩
  ·lia
  ·simp only[<-g5];simp[jo,hr]
theorem D6 (G:GD W) {b:Array UInt8} (hm:1<=m) (q:Q (.int (kI (iF b))) H):a7 W 190 [.bytes b] m H Q:=by
 apply bZ G rfl hm rfl λn hn=>?_
 walk_at "wp"
 apply tJ (xs:=(iF b).map .int) trivial (λpre Z H'=>H'=H∧∃is:List Int,pre=is.map .int∧Z.lookup 24=some (.int (kI is))∧0<=kI is∧kI is<65536) ⟨rfl,[],rfl,rfl,by decide,by decide⟩ (λpre Z H' _=>rfl) ?_ ?_
 ·rintro pre u suf Z H' hcs ⟨rfl,is,rfl,g1,g2,g3⟩;apply nC (lq hcs) λs c t e1 e2 e3 e4=>?_;subst e3
  walk_at "wp"
  simp only[g1,cz];have es:kI (is++[c])=((kI is).fdiv 2+kI is % 2 * 2 ^ 15+c) % 65536:=by simp[kI]
  apply⟨by decide,by decide,?_⟩;dsimp only;simp only[n6,bitAnd_m1];apply⟨by decide,by decide,by lia,?_⟩;dsimp only;rw[aU,aU,n6,bitAnd_m16];apply⟨rfl,is++[c],by simp,?_,by apply rwL es ?_;lia,by apply rwL es ?_;lia⟩;simp only[es];rfl
 ·rintro Z H' ⟨rfl,is,e,g1,g2,g3⟩;obtain rfl:=t6 e;exact iU g1 q
theorem wm (k:Int) (h0:0<=k) (h1:k<16):∃c,nU[k.toNat]?=some c:=by
 have:k.toNat<nU.size:=by show k.toNat<16;lia
 exact⟨_,Array.getElem?_eq_getElem this⟩
theorem D5 (G:GD W) {v:Int} (hm:1<=m) (q:∀H',Sb H H'->Q (.bytes (yM v)) H'):a7 W 195 [.int v] m H Q:=by
 apply bZ G rfl hm rfl λn hn=>?_;ext;apply⟨by decide,tY (xs:=[.int 12,.int 8,.int 4,.int 0]) (F:=λu=>match u with|.int s=>.int (oV v s)|u=>u) trivial (by decide) rfl (λu hu Q' hq=>?_) λr hr=>?_⟩<;>ext
 ·simp only[mem_cons,not_mem_nil,or_false]at hu;have key:∀s:Int,0<=s->s<64->Q' (.int (oV v s)) H->eH .shr (.int v) (.int s) H λx H=>eH .band x (.int 15) H λy H=>be (.bytes #[48,49,50,51,52,53,54,55,56,57,97,98,99,100,101,102]) y H Q':=by
   intro s h0 h1 hq;apply⟨h0,h1,?_⟩;dsimp only;rw[n6,bitAnd_m4];obtain⟨c,hc⟩:=wm ((v.fdiv (2 ^ s.toNat)) % 16) (by omega) (by omega);apply⟨by omega,by decide,c,hc,?_⟩;unfold oV at hq;have hq:=hc▸hq;exact hq
  rcases hu with rfl|rfl|rfl|rfl<;>ext<;>exact key _ (by decide) (by decide) hq
 ·have e:(H.set r (.list ([AV.int 12,.int 8,.int 4,.int 0].map λu=>match u with|.int s=>.int (oV v s)|u=>u))) r=some (false,.list (([12,8,4,0].map (oV v)).map .int)):=by rw[AH.EP];rfl
  apply⟨false,_,e,λx hx=>?_,by simp;decide,q _ (Sb.new hr)⟩;obtain⟨s,_,rfl⟩:=mP hx;unfold oV;have:=UInt8.toNat_lt ((nU[((v.fdiv (2 ^ s.toNat)) % 16).toNat]?).getD 0);omega
theorem lB {H:AH} {b:Addr} {f:Bool} {l:List (Array UInt8)} (e:H b=some (f,.list (l.map .bytes))) (hs:(bq bW l).size<=cap) (hl:l.length<=cap) (q:Q (.bytes (bq bW l)) H):gL .join (.bytes #[44]) [.ref b] H Q:=
 ⟨f,l,e,hs,by decide,hl,q⟩
theorem D4 (G:GD W):∀{t:L} {f:Bool} {m:Nat} {H:AH} {Q:AV->AH->Prop},t.dep+2<=m->LR f H t->t.Sm->t.box 64->(∀p∈t.panes,0<=p∧p<1000)->(∀H',Sb H H'->Q (.bytes (octB (er t))) H')->a7 W 200 [.ref t.tag.1] m H Q:=by
 intro t
 induction t using Tr.bn with
 |step t ih=>
  intro f m H Q hm ht hs hb hp q;obtain⟨⟨dx,e⟩,el⟩:=ht.nd;obtain⟨bx,bk⟩:=Tr.iE.mp hb;obtain⟨b1,b2,b3,b4,b5,b6,b7,b8⟩:=bx;apply bZ G rfl hm rfl λn hn=>?_
  walk_at "wp"
  apply rwL (gw e) ?_;apply Ba G (by omega) (by lia) (by lia) λH1 s1=>?_;apply rwL eV ?_;have z1:=bE (n:=t.w);have z2:=bE (n:=t.h);have z3:=bE (n:=t.x);have z4:=bE (n:=t.y);apply⟨by simp;unfold cap;lia,?_⟩;apply rwL (gh (s1.inst e)) ?_;apply Ba G (by omega) (by lia) (by lia) λH2 s2=>?_;apply rwL eV ?_;apply⟨by simp;unfold cap;lia,⟨_,rfl⟩,?_⟩;have S2:=s1.trans s2;apply rwL (gx (S2.inst e (by simp))) ?_;apply Ba G (by omega) (by omega) (by lia) λH3 s3=>?_;have S3:Sb H H3:=S2.trans s3;apply rwL (gy (S3.inst e)) ?_;apply Ba G (by omega) (by omega) (by lia) λH4 s4=>⟨by decide,λr5 hr5=>?_⟩;have S4:Sb H H4:=S3.trans s4;have s5:Sb H4 (H4.set r5 (.list [.bytes (bT t.w++#[120]++bT t.h),.bytes (bT t.x),.bytes (bT t.y)])):=.new hr5;have hh:=gV (w:=t.w) (h:=t.h) (x:=t.x) (y:=t.y);apply lB (l:=[bT t.w++#[120]++bT t.h,bT t.x,bT t.y]) (AH.EP _ _ _) (by unfold cU at hh;unfold cap;lia) (by simp[cap]) ?_;have eh:bq bW [bT t.w++#[120]++bT t.h,bT t.x,bT t.y]=cU t.w t.h t.x t.y:=rfl;apply rwL eh ?_;have S5:Sb H (H4.set r5 (.list [.bytes (bT t.w++#[120]++bT t.h),.bytes (bT t.x),.bytes (bT t.y)])):=S4.trans s5;generalize H4.set r5 (.list [.bytes (bT t.w++#[120]++bT t.h),.bytes (bT t.x),.bytes (bT t.y)])=H5 at S5;apply rwL (gk (S5.inst e)) (rwL jr ?_);cases t with
  |leaf a w h x y p=>
   apply⟨λ_=>?_,λhk=>absurd rfl (of_decide_eq_false hk)⟩;apply rwL eV ?_;apply⟨by simp;unfold cap;lia,?_⟩;apply rwL (gp (S5.inst e)) ?_;have hpp:=hp p (by simp[Tr.au]);have z5:=bE (n:=p);apply Ba G (by lia) hpp.1 hpp.2 λH6 s6=>?_;apply rwL eV ?_;exact⟨by apply rwL size_append ?_;have:(#[44]:Array UInt8).size=1:=rfl;unfold cap;lia,q _ (S5.trans s6)⟩
  |node a k w h x y cs=>
   apply⟨λhk=>absurd (of_decide_eq_true hk) (ka k),λ_=>⟨⟨_,rfl⟩,?_⟩⟩;apply rwL (gl (S5.inst e)) ?_;apply cQ (g:=rf) (cs:=cs) (bD hs.kids) (λpre out H'=>out=pre.map (λc=>.bytes (octB (er c)))∧Sb H H') ⟨rfl,S5⟩ ?_ ?_ ?_
   ·rintro pre out H' ⟨rfl,h1⟩;exact⟨⟨f,h1.list el⟩,by simp⟩
   ·rintro pre u suf out H' hcs ⟨rfl,h1⟩;have hu:u∈(Tr.node a k w h x y cs).cs:=by apply rwL hcs ?_;simp[Tr.cs]
    walk_at "wp"
    exact ih u hu (by have:=Tr.cF hu;lia) ((ht.kid hu).sb h1) (hs.kid hu) (bk u hu) (λp' hp'=>hp p' (by exact rwL Tr.az (mG ⟨u,hu,hp'⟩))) λH'' k1=>⟨by simp,h1.trans k1⟩
   ·rintro out H' ⟨rfl,h1⟩ r hr;have k1:Sb H' (H'.set r (.list (cs.map λc=>.bytes (octB (er c))))):=.new hr;have S6:Sb H (H'.set r (.list (cs.map λc=>.bytes (octB (er c))))):=h1.trans k1;have ho:(er (.node a k w h x y cs)).ok:=Tr.mr.mpr hs.ok;have hsz:=ld ho;rw[ab]at hsz;have hpl:=hs.len;have he:octB (er (.node a k w h x y cs))=if k then cU w h x y++#[123]++bq bW ((cs.map er).map octB)++#[125]else cU w h x y++#[91]++bq bW ((cs.map er).map octB)++#[93]:=by
     rw[iA,pR,sT]
    have hj:(bq bW ((cs.map er).map octB)).size<=4000:=by
     have hsz:=he▸hsz;split at hsz<;>simp only[size_append]at hsz<;>lia
    apply lB (f:=false) (l:=(cs.map er).map octB) (by rw[AH.EP];simp[Function.comp_def]) (by unfold cap;lia) (by simp only[length_map];exact bD hs.kids) ?_;apply rwL (gk (S6.inst e)) (rwL jr ?_);have hkr:decide ((Tr.node a k w h x y cs).kind=ofString "row")=k:=tq k;apply rwL hkr ?_;simp only[eV];have hw':cU (Tr.node a k w h x y cs).w (Tr.node a k w h x y cs).h (Tr.node a k w h x y cs).x (Tr.node a k w h x y cs).y=cU w h x y:=rfl;rw[hw']at hh ⊢;have y1:(#[123]:Array UInt8).size=1:=rfl;have y2:(#[125]:Array UInt8).size=1:=rfl;have y3:(#[91]:Array UInt8).size=1:=rfl;have y4:(#[93]:Array UInt8).size=1:=rfl;have qq:=q _ S6;rw[he]at qq;apply⟨λhk=>?_,λhk=>?_⟩
    ·rw[if_pos hk]at qq;exact⟨by apply rwL y1 ?_;unfold cap;omega,by apply rwL size_append (rwL y1 ?_);unfold cap;omega,by simp only[size_append,y1,y2];unfold cap;omega,qq⟩
    ·rw[if_neg (by simp[hk])]at qq;exact⟨by apply rwL y3 ?_;unfold cap;omega,by apply rwL size_append (rwL y3 ?_);unfold cap;omega,by simp only[size_append,y3,y4];unfold cap;omega,qq⟩
theorem D3 (G:GD W) {t:L} {f:Bool} (hm:40<=m) (ht:LR f H t) (hf:(er t).Fine) (hb:t.box 64) (hp:∀p∈t.panes,0<=p∧p<1000) (q:∀H',Sb H H'->Q (.bytes (vQ (er t))) H'):a7 W 207 [.ref t.tag.1] m H Q:=by
 have hsm:t.Sm:=aL.mp hf.sm;have hdep:=hsm.dep;apply bZ G rfl (show 39+1<=m from hm) rfl λn hn=>?_;ext;apply D4 G (by lia) ht hsm hb hp λH1 s1=>?_<;>ext;apply D6 G (by omega) ?_;apply D5 G (by omega) λH2 s2=>?_;have hsz:=ld hf.ok;have hl:=hf.sm.len;have y1:(#[44]:Array UInt8).size=1:=rfl;have y2:(yM (kI (iF (octB (er t))))).size=4:=rfl;simp only[eV];exact⟨by apply rwL y2 (rwL y1 ?_);unfold cap;lia,by apply rwL size_append (rwL y2 (rwL y1 ?_));unfold cap;lia,q _ (s1.trans s2)⟩
end
end
section
set_option genInjectivity false in
structure Win where
 tr:T
 act:Int
 last:Option Int
 zoom:Bool
noncomputable def si (n r c:Int):List (Nat × AV):=[(7,.int n),(8,.none),(9,.int r),(10,.int c),(11,.int 0),(12,.bytes #[]),(13,.bool false),(14,.none)]
noncomputable def dP (num:Int) (nm:Array UInt8) (lp act:Addr) (last:AV) (lay:Addr) (z:Bool):List (Nat × AV):=
 [(7,.int num),(15,.bytes nm),(16,.ref lp),(17,.ref act),(18,last),(19,.ref lay),(20,.bool z),(21,.bool false),(22,.bool false),(14,.none)]
noncomputable def b0 (pa:Int->Addr):Option Int->AV
 |none=>.none
 |some p=>.ref (pa p)
def PN (H:AH) (pa:Int->Addr) (n:Int) (sz:Int × Int):Prop:=∃dx,H (pa n)=some (false,.inst 239 dx (si n sz.1 sz.2))
def RO (f:Bool) (H:AH) (pa:Int->Addr) (r:Addr) (num:Int) (v:Win) (t:L) (ps:List Int):Prop:=
 (E3 λdx nm lp=>H r=some (false,.inst 420 dx (dP num nm lp (pa v.act) (b0 pa v.last) t.tag.1 v.zoom))∧H lp=some (f,.list (ps.map λn=>.ref (pa n))))∧LR true H t∧er t=v.tr
def RW (H:AH) (pa:Int->Addr) (r:Addr) (num:Int) (v:Win):Prop:=∃t,RO true H pa r num v t v.tr.panes
noncomputable def oQ (t:T) (n:Int):Int × Int:=match t.leaves.find? λu=>u.pane==n with
 |some u=>(u.h,u.w)
 |none=>(0,0)
noncomputable def gC (v:Win) (n:Int):Int × Int:=if v.zoom&&n==v.act then(v.tr.h,v.tr.w)else oQ v.tr n
structure FW (H:AH) (pa:Int->Addr) (r:Addr) (num:Int) (v:Win):Prop where
 rw:RW H pa r num v
 sz:∀n∈v.tr.panes,PN H pa n (gC v n)
structure WOK (v:Win):Prop where
 fine:v.tr.Fine
 nd:v.tr.panes.Nodup
 act:v.act∈v.tr.panes
 last:∀l,v.last=some l->l∈v.tr.panes
 rng:∀p∈v.tr.panes,0<=p∧p<1000
theorem PN.inj {H:AH} {pa:Int->Addr} {n k:Int} {s s':Int × Int} (h:PN H pa n s) (h':PN H pa k s') (e:pa n=pa k):n=k:=by
 apply a8 h λdx h=>?_;apply a8 (h') λdx' h'=>?_;simp only[e,h']at h;simp[si]at h;exact h.2.1.symm
def Mu (H:AH) (X:List Addr):Prop:=∀a∈X,∃o,H a=some (false,o)
theorem Mu.nil {H:AH}:Mu H []:=λ_ h=>by simp at h
theorem Mu.cons {H:AH} {a:Addr} {o:AO} {X:List Addr} (e:H a=some (false,o)) (h:Mu H X):Mu H (a::X):=λb hb=>by
 rcases mC hb with rfl|hb
 ·exact⟨o,e⟩
 ·exact h b hb
theorem Mu.append {H:AH} {X Y:List Addr} (h:Mu H X) (k:Mu H Y):Mu H (X++Y):=λa ha=>by
 apply(mA ha).elim (λq=>?_) λq=>?_
 ·exact h a q
 ·exact k a q
theorem Mu.out {H:AH} {X:List Addr} (h:Mu H X) {a:Addr} {o:AO} (e:H a=some (true,o)):a∉X:=λz=>by
 apply a8 (h a z) λo' e'=>?_;rw[e]at e';simp at e'
theorem LR.mu {H H':AH} {X:List Addr} {t:L} (h:LR true H t) (k:Ex X H H') (m:Mu H X):LR true H' t:=h.ex k λa ha hz=>by
 obtain⟨o,e,_⟩:=h.some a ha;exact m.out e hz
theorem Ex.fz {H H':AH} {X:List Addr} (k:Ex X H H') (m:Mu H X) {a:Addr} {o:AO} (n:no o) (e:H a=some (true,o)):H' a=some (true,o):=k a _ _ n e (m.out e)
theorem PN.ex {H H':AH} {X:List Addr} {pa:Int->Addr} {n:Int} {s:Int × Int} (h:PN H pa n s) (k:Ex X H H') (q:pa n∉X):PN H' pa n s:=let ⟨dx,e⟩:=h;⟨dx,k.inst e q⟩
theorem PN.sb {H H':AH} {pa:Int->Addr} {n:Int} {s:Int × Int} (h:PN H pa n s) (k:Sb H H'):PN H' pa n s:=h.ex k not_mem_nil
theorem PN.own {H:AH} {pa:Int->Addr} {n:Int} {s:Int × Int} (h:PN H pa n s):∃p,H (pa n)=some p∧p.2≠.opq:=let ⟨dx,e⟩:=h;⟨_,e,λz=>by ac_nf⟩
theorem PN.mu {H:AH} {pa:Int->Addr} {ns:List Int} (h:∀n∈ns,∃s,PN H pa n s):Mu H (ns.map pa):=λa ha=>by
 apply ad (mP ha) λn hn z1z=>?_;subst z1z;apply a8 (h n hn) λs z1z=>a8 z1z λdx e=>?_;exact⟨_,e⟩
theorem iL {H:AH} {pa:Int->Addr} {ns:List Int} {n:Int} {s:Int × Int} (h:PN H pa n s) (hs:∀n∈ns,∃s,PN H pa n s) (hn:n∉ns):pa n∉ns.map pa:=λz=>by
 apply ad (mP z) λk hk e=>?_;apply a8 (hs k hk) λs' h'=>?_;exact hn (h.inj h' e.symm▸hk)
theorem RO.ex {f:Bool} {H H':AH} {X:List Addr} {pa:Int->Addr} {r:Addr} {num:Int} {v:Win} {t:L} {ps:List Int} (h:RO f H pa r num v t ps) (k:Ex X H H') (m:Mu H X) (hr:r∉X) (hf:f=true\/∀a∈X,∀vs,H a≠some (f,.list vs)):RO f H' pa r num v t ps:=by
 apply bH h λz1z h2 h3=>gQ z1z λdx nm lp e1 e2=>?_;clear h z1z;apply⟨⟨dx,nm,lp,k.inst e1 hr,k.list e2 λz=>?_⟩,h2.mu k m,h3⟩;rcases hf with rfl|hf
 ·exact m.out e2 z
 ·exact hf lp z _ e2
theorem RW.ex {H H':AH} {X:List Addr} {pa:Int->Addr} {r:Addr} {num:Int} {v:Win} (h:RW H pa r num v) (k:Ex X H H') (m:Mu H X) (hr:r∉X):RW H' pa r num v:=
 let ⟨t,h⟩:=h;⟨t,h.ex k m hr (.inl rfl)⟩
theorem RW.sb {H H':AH} {pa:Int->Addr} {r:Addr} {num:Int} {v:Win} (h:RW H pa r num v) (k:Sb H H'):RW H' pa r num v:=h.ex k .nil not_mem_nil
theorem dT {f:Bool} {H:AH} {pa:Int->Addr} {r:Addr} {num:Int} {v:Win} {t:L} {ps ns:List Int} (h:RO f H pa r num v t ps) (hs:∀n∈ns,∃s,PN H pa n s):r∉ns.map pa:=λz=>by
 apply ad (mP z) λk hk e=>?_;apply a8 (hs k hk) λs z1z=>a8 z1z λdx e'=>?_;obtain⟨⟨dx',nm,lp,e1,_⟩,_⟩:=h;simp only[e,e1]at e';simp at e'
theorem FW.ex {H H':AH} {X:List Addr} {pa:Int->Addr} {r:Addr} {num:Int} {v:Win} (h:FW H pa r num v) (k:Ex X H H') (m:Mu H X) (hr:r∉X) (hp:∀n∈v.tr.panes,pa n∉X):FW H' pa r num v:=
 ⟨h.rw.ex k m hr,λn hn=>(h.sz n hn).ex k (hp n hn)⟩
theorem FW.sb {H H':AH} {pa:Int->Addr} {r:Addr} {num:Int} {v:Win} (h:FW H pa r num v) (k:Sb H H'):FW H' pa r num v:=h.ex k .nil not_mem_nil (by simp)
section
variable {W:Wd} {n m:Nat} {H:AH} {Q:AV->AH->Prop} {QS:AH->Prop}
section
variable {a:Addr} {b:Bool} {dx:Addr} {k r c:Int} (e:H a=some (b,.inst 239 dx (si k r c)))
include e
theorem xo:aQ W (.ref a) 7 n H Q=Q (.int k) H:=bP e (by decide) rfl (by decide)
theorem iq (q:Q (.int k) H):aQ W (.ref a) 7 n H Q:=(xo e).mpr q
theorem Ez:aQ W (.ref a) 8 n H Q=Q .none H:=bP e (by decide) rfl (by decide)
theorem Ci (q:Q .none H):aQ W (.ref a) 8 n H Q:=(Ez e).mpr q
theorem DG:aQ W (.ref a) 9 n H Q=Q (.int r) H:=bP e (by decide) rfl (by decide)
theorem Cj (q:Q (.int r) H):aQ W (.ref a) 9 n H Q:=(DG e).mpr q
theorem DH:aQ W (.ref a) 10 n H Q=Q (.int c) H:=bP e (by decide) rfl (by decide)
theorem Ck (q:Q (.int c) H):aQ W (.ref a) 10 n H Q:=(DH e).mpr q
end
section
variable {a:Addr} {b:Bool} {dx lp act lay:Addr} {num:Int} {nm:Array UInt8} {last:AV} {z:Bool} (e:H a=some (b,.inst 420 dx (dP num nm lp act last lay z)))
include e
theorem Ey:aQ W (.ref a) 7 n H Q=Q (.int num) H:=bP e (by decide) rfl (by decide)
theorem zC:aQ W (.ref a) 16 n H Q=Q (.ref lp) H:=bP e (by decide) rfl (by decide)
theorem yN (q:Q (.ref lp) H):aQ W (.ref a) 16 n H Q:=(zC e).mpr q
theorem AD:aQ W (.ref a) 17 n H Q=Q (.ref act) H:=bP e (by decide) rfl (by decide)
theorem wn (q:Q (.ref act) H):aQ W (.ref a) 17 n H Q:=(AD e).mpr q
theorem BG:aQ W (.ref a) 18 n H Q=Q last H:=bP e (by decide) rfl (by decide)
theorem ty (q:Q last H):aQ W (.ref a) 18 n H Q:=(BG e).mpr q
theorem BE:aQ W (.ref a) 19 n H Q=Q (.ref lay) H:=bP e (by decide) rfl (by decide)
theorem gW (q:Q (.ref lay) H):aQ W (.ref a) 19 n H Q:=(BE e).mpr q
theorem AC:aQ W (.ref a) 20 n H Q=Q (.bool z) H:=bP e (by decide) rfl (by decide)
theorem Ch (q:Q (.bool z) H):aQ W (.ref a) 20 n H Q:=(AC e).mpr q
end
section
variable {a dx lp act lay x:Addr} {num:Int} {nm:Array UInt8} {last u:AV} {z z':Bool} (e:H a=some (false,.inst 420 dx (dP num nm lp act last lay z)))
include e
theorem Eh:cx (.ref a) 16 (.ref x) H QS=QS (H.set a (.inst 420 dx (dP num nm x act last lay z))):=bX e (by decide) (by simp[dP])
theorem BR:cx (.ref a) 17 (.ref x) H QS=QS (H.set a (.inst 420 dx (dP num nm lp x last lay z))):=bX e (by decide) (by simp[dP])
theorem Br:cx (.ref a) 18 u H QS=QS (H.set a (.inst 420 dx (dP num nm lp act u lay z))):=bX e (by decide) (by simp[dP])
theorem Dm:cx (.ref a) 19 (.ref x) H QS=QS (H.set a (.inst 420 dx (dP num nm lp act last x z))):=bX e (by decide) (by simp[dP])
theorem BQ:cx (.ref a) 20 (.bool z') H QS=QS (H.set a (.inst 420 dx (dP num nm lp act last lay z'))):=bX e (by decide) (by simp[dP])
end
theorem zd (G:GD W) {l:Addr} {f:Bool} {pa:Int->Addr} {ns:List Int} {k:Int} (hm:1<=m) (el:H l=some (f,.list (ns.map λn=>.ref (pa n)))) (hp:∀n∈ns,∃s,PN H pa n s) (q:Q (if k∈ns then .ref (pa k)else .none) H):a7 W 250 [.ref l,.int k] m H Q:=by
 apply bZ G rfl hm rfl λn hn=>?_;ext;apply cC (g:=λn=>.ref (pa n)) (cs:=ns) (λpre Z H'=>H'=H∧Z.lookup 7=some (.int k)∧k∉pre) ⟨rfl,rfl,by exact not_mem_nil⟩ (λpre Z H' hJ=>⟨f,by exact rwL hJ.1 el⟩) ?_ ?_
 ·rintro pre u suf Z H' hcs ⟨rfl,h2,h3⟩;apply a8 (hp u (by exact rwL hcs (mem_append_right _ (.head _)))) λs z1z=>?_;(apply a8 z1z λdx e=>?_;clear z1z)
  walk_at "wp"
  simp only[h2,cz];apply rwL (xo e) (rwL bu ?_);apply⟨λhk=>?_,λhk=>⟨rfl,trivial,?_⟩⟩
  ·have hk:u=k:=by simpa using hk
   subst hk;rwa [if_pos (by exact rwL hcs (mem_append_right _ (.head _)))]at q
  ·have hk:u≠k:=by simpa using hk
   rewrite [mem_append,mem_singleton,not_or]
   exact⟨h3,λz=>hk z.symm⟩
 ·rintro Z H' ⟨rfl,h2,h3⟩;rwa [if_neg h3]at q
theorem kR (G:GD W) {f:Bool} {pa:Int->Addr} {r:Addr} {num p:Int} {v:Win} {t:L} {ps:List Int} (hm:2<=m) (hR:RO f H pa r num v t ps) (hps:∀n∈ps,∃s,PN H pa n s) (hp:∃s,PN H pa p s) (q:Q (.bool (decide (p∈ps))) H):a7 W 301 [.ref r,.ref (pa p)] m H Q:=by
 obtain⟨⟨dx,nm,lp,e1,e2⟩,_⟩:=hR;apply a8 hp λs z1z=>a8 z1z λdxp ep=>?_;clear hp z1z;apply bZ G rfl hm rfl λn hn=>?_;ext;apply yN e1 (iq ep ?_);apply zd G hn e2 hps ?_;by_cases h:p∈ps
 ·apply rwL (if_pos h) ?_;apply⟨true,by exact congrArg some (decide_eq_true rfl),⟨⟨_,ep,λz=>by ac_nf⟩,_,ep⟩,?_⟩;simpa[h]using q
 ·apply rwL (if_neg h) ?_;exact⟨false,rfl,trivial,by simpa[h]using q⟩
theorem D1 (G:GD W) {pa:Int->Addr} {p a b:Int} (hm:1<=m) (hp:∃s,PN H pa p s) (q:∀v H',Ex [pa p] H H'->PN H' pa p (a,b)->Q v H'):a7 W 229 [.ref (pa p),.int a,.int b] m H Q:=by
 apply a8 hp λs z1z=>a8 z1z λdx e=>?_;clear hp z1z;apply bZ G rfl hm rfl λn hn=>?_;ext;apply⟨by decide,?_⟩;apply Cj e (Ck e ?_);apply⟨by decide,?_⟩;apply⟨λh=>?_,λh=>?_⟩<;>ext
 ·have h:a=s.1∧b=s.2:=by simpa using h
  exact q _ H .refl ⟨dx,by simp only[e,h.1,h.2]⟩
 ·apply⟨by decide,?_⟩;apply rwL (bX e (by decide) (by simp[si])) ?_;have e2:(H.set (pa p) (.inst 239 dx (put (si p s.1 s.2) 9 (.int a)))) (pa p)=some (false,.inst 239 dx (si p a s.2)):=AH.EP _ _ _;rw[bX e2 (by decide) (by simp[si]),AH.set_set]<;>ext;have e3:(H.set (pa p) (.inst 239 dx (put (si p a s.2) 10 (.int b)))) (pa p)=some (false,.inst 239 dx (si p a b)):=AH.EP _ _ _;apply Ci e3 ?_;apply yr rfl trivial ?_<;>ext;exact q _ _ Ex.put ⟨dx,e3⟩
theorem rg {U:Type}:∀{us:List (Tr U)} {u:Tr U},(us.map Tr.pane).Nodup->u∈us->us.find? (λc=>c.pane==u.pane)=some u:=by
 intro us
 induction us with
 |nil=>
  intro _ _ h;simp at h
 |cons c us ih=>
  intro u nd h;(have nd:=nd;rw[map_cons,nodup_cons]at nd);rcases mc h with rfl|h
  ·simp
  ·have hne:c.pane≠u.pane:=λz=>nd.1 (z▸mR ⟨u,h,rfl⟩);apply rwL (List.find?_cons_of_neg (by simpa using hne)) ?_;exact ih nd.2 h
theorem lw {t u:L} (nd:t.panes.Nodup) (hu:u∈t.leaves):oQ (er t) u.pane=(u.h,u.w):=by
 unfold oQ;have hl:(er t).leaves=t.leaves.map er:=Tr.jT;have hp:∀c:L,(er c).pane=c.pane:=λc=>Tr.nH;have nd':((er t).leaves.map Tr.pane).Nodup:=by
  have:(er t).panes.Nodup:=by exact rwL ab nd
  exact this
 have:=rg nd' (u:=er u) (by exact rwL hl (mR ⟨u,hu,rfl⟩));rw[hp]at this;apply rwL this ?_;exact Prod.ext Tr.ik Tr.ii
theorem ug (G:GD W) {f:Bool} {pa:Int->Addr} {r:Addr} {num:Int} {v:Win} {t:L} (hm:30<=m) (hR:RO f H pa r num v t v.tr.panes) (hps:∀n∈v.tr.panes,∃s,PN H pa n s) (ha:∃s,PN H pa v.act s) (hsm:v.tr.Sm) (nd:v.tr.panes.Nodup)
  (q:∀H',Ex (v.tr.panes.map pa) H H'->(∀n∈v.tr.panes,PN H' pa n (gC v n))->Q .none H'):a7 W 287 [.ref r] m H Q:=by
 apply bH (id hR) λz1z hL he=>?_;(apply gQ z1z λdx nm lp e1 e2=>?_;clear z1z);have hst:t.Sm:=aL.mp (he▸hsm);have ept:t.panes=v.tr.panes:=by exact rwR he (rwL ab rfl)
 have ndt:t.panes.Nodup:=by exact rwL ept nd
 apply bZ G rfl (show 29+1<=m from hm) rfl λn hn=>?_;ext;apply gW e1 ?_;apply z9 G (by have:=hst.dep;exact le_trans this (rW hn)) hL hst λrl H1 s1 el=>?_;have P1:∀n∈v.tr.panes,∃s,PN H1 pa n s:=λn hn=>let ⟨s,h⟩:=hps n hn;⟨s,h.sb s1⟩;have M1:Mu H1 (v.tr.panes.map pa):=PN.mu P1;have R1:RO f H1 pa r num v t v.tr.panes:=hR.ex s1 .nil not_mem_nil (.inr λa ha=>by simp at ha);have nli:∀a∈v.tr.panes.map pa,∀vs,H1 a≠some (f,.list vs):=λa ha vs z=>by
  apply ad (mP ha) λk hk z1z=>?_;subst z1z;apply a8 (P1 k hk) λs z1z=>a8 z1z λdx e=>?_;simp only[z]at e;simp at e
 have hszv:∀u∈t.leaves,gC v u.pane=if v.zoom&&u.pane==v.act then(t.h,t.w)else(u.h,u.w):=λu hu=>by
  unfold gC;apply rwR he (rwL (lw ndt hu) ?_);have h1:(er t).h=t.h:=Tr.ik;have h2:(er t).w=t.w:=Tr.ii;exact rwL h1 (rwL h2 rfl)
 have hpm:∀u∈t.leaves,u.pane∈v.tr.panes:=λu hu=>by exact rwR ept (mR ⟨u,hu,rfl⟩)
 apply cC (g:=rf) (cs:=t.leaves) (λpre Z H'=>Z.lookup 71=some (.ref r)∧Ex (v.tr.panes.map pa) H1 H'∧(∀n∈v.tr.panes,∃s,PN H' pa n s)∧(∃s,PN H' pa v.act s)∧∀u∈pre,PN H' pa u.pane (gC v u.pane))
  ⟨rfl,.refl,P1,let ⟨s,h⟩:=ha;⟨s,h.sb s1⟩,by simp⟩ (λpre Z H' hJ=>⟨true,hJ.2.fz M1 aw el⟩) ?_ ?_
 ·rintro pre u suf Z H' hcs ⟨h1,h2,h3,h4,h5⟩;have hu:u∈t.leaves:=by exact rwL hcs (mem_append_right _ (.head _))
  have R2:=R1.ex h2 M1 (dT R1 P1) (.inr nli);apply bH (id R2) λz1z hL2 _=>?_;(apply gQ z1z λdx2 nm2 lp2 e3 e4=>?_;clear z1z);apply vS (hL2.leaf hu) λa w h x y z1z=>?_;obtain⟨p,rfl,hLu⟩:=z1z;apply af hLu.nd λz1z _=>?_;(apply a8 z1z λdxu eu=>?_;clear z1z);apply af hL2.nd λz1z _=>?_;(apply a8 z1z λdxt et=>?_;clear z1z);have hpv:p∈v.tr.panes:=hpm _ hu;apply a8 (h3 p hpv) λsp hpp=>?_;apply a8 h4 λsa hpa=>?_;clear h4;apply cI (eZ.put (.cons h1 .nil)) ?_;dsimp only[rf];ext;apply yN e3 (DI eu ?_);apply zd G (ay hn rfl) e4 h3 ?_<;>ext;rw[if_pos hpv,AC e3];have hand:∀(s1 s2:Int) (Q':AV->AH->Prop),gC v p=(s1,s2)->(∀v' H,Ex (v.tr.panes.map pa) H1 H->(∀n∈v.tr.panes,∃s,PN H pa n s)->(∃s,PN H pa v.act s)->(∀u∈pre++[Tr.leaf a w h x y p],PN H pa u.pane (gC v u.pane))->Q' v' H)->a7 W 229 [.ref (pa p),.int s1,.int s2] n H' Q':=by
   intro a1 a2 Q' hs hq;apply D1 G (ay hn rfl) ⟨sp,hpp⟩ λ_ H2 k2 p2=>?_;have keep:∀k,k≠p->∀s,PN H' pa k s->PN H2 pa k s:=λk hk s hks=>hks.ex k2 λz=>hk (hks.inj hpp (mS z));apply hq _ _ (h2.trans (k2.mono λb hb=>by simp only[mS hb];exact mR ⟨p,hpv,rfl⟩)) (λk hk=>?_) ?_ λu' hu'=>?_
   ·by_cases hkp:k=p
    ·obtain rfl:=hkp.symm;exact⟨_,p2⟩
    ·apply a8 (h3 k hk) λs hs=>?_;exact⟨s,keep k hkp s hs⟩
   ·by_cases hkp:v.act=p
    ·exact rwL hkp ⟨_,p2⟩
    ·exact⟨sa,keep _ hkp sa hpa⟩
   ·apply(mA hu').elim (λhu'=>?_) λhu'=>?_
    ·by_cases hkp:u'.pane=p
     ·apply rwL hkp (rwL hs ?_);exact p2
     ·exact keep _ hkp _ (h5 u' hu')
    ·apply rwL (mS hu') ?_;show PN H2 pa p (gC v p);simp only[hs];exact p2
  apply a8 (id hpp) λdxp ep=>?_;apply a8 (id hpa) λdxa ea=>?_;have hsz:=hszv _ hu;have hpane:(Tr.leaf a w h x y p:L).pane=p:=rfl;have hsz:=hpane▸hsz;have small:(v.zoom&&p==v.act)=false->∀Q':AV->AH->Prop,(∀v' H,Ex (v.tr.panes.map pa) H1 H->(∀n∈v.tr.panes,∃s,PN H pa n s)->(∃s,PN H pa v.act s)->(∀u∈pre++[Tr.leaf a w h x y p],PN H pa u.pane (gC v u.pane))->Q' v' H)->E5 λa1 f C dx fs=>∃ g, AV.ref (pa p)=.ref a1∧H' a1=some (f,.inst C dx fs)∧jQ.lookup (C,82)=some g∧fs.lookup 82=none∧aQ W (.ref (Tr.leaf a w h x y p).tag.1) 2 n H' λv1 H=>aQ W (.ref (Tr.leaf a w h x y p).tag.1) 1 n H λv2 H=>a7 W g [.ref (pa p),v1,v2] n H Q':=λhc Q' hq=>by
   apply fF (g:=229) ep rfl rfl ?_;apply yP eu (yO eu ?_);apply hand _ _ _ ?_ hq;apply rwL hsz (rwL hc ?_);rfl
  apply⟨λhz=>⟨(λz=>by ac_nf),λ_=>?_⟩,λhz=>?_⟩<;>ext
  ·exact small (by apply rwL hz ?_;rfl) _ λ_ H a b c d Z1 E=>⟨E 71 _ rfl,a,b,c,d⟩
  apply wn e3 ?_;apply⟨_,rfl,⟨⟨_,ep,λz=>by ac_nf⟩,_,ea⟩,λhd=>?_,λhd=>?_⟩<;>ext
  ·have hd:=of_decide_eq_true hd;have hpact:p=v.act:=PN.inj hpp hpa hd;apply fF (g:=229) ep rfl rfl ?_;apply gW e3 (yP et (gW e3 (yO et ?_)));apply hand _ _ _ ?_ λ_ H a b c d Z1 E=>⟨E 71 _ rfl,a,b,c,d⟩;apply rwL hsz (rwL hz (rwL hpact ?_));simp
  ·have hd:=of_decide_eq_false hd;have hpact:p≠v.act:=λz=>hd (congrArg _ z);exact small (by simp[hpact]) _ λ_ H a b c d Z1 E=>⟨E 71 _ rfl,a,b,c,d⟩
 ·rintro Z H' ⟨h1,h2,h3,h4,h5⟩;apply q H' (s1.ex.trans h2) λn hn=>?_;rw[<-ept]at hn;apply ad (mP hn) λu hu z1z=>?_;subst z1z;exact h5 u hu
end
end
section
theorem tI {X as:List Addr} {H H':AH} (k:Ex X H H') (h:Nw H as):Ex X H (fz as H'):=λa f o n e hx=>gX n (k a f o n e hx) λz=>h a z f o n e
theorem Nw.ex {X as:List Addr} {H H':AH} (k:Ex X H H') (hx:∀a∈as,a∉X) (h:Nw H' as):Nw H as:=λa ha f o n e=>h a ha f o n (k a f o n e (hx a ha))
theorem xq {as:List Addr} {H:AH}:Le H (fz as H):=λa o e=>nY e
theorem PN.fz {as:List Addr} {H:AH} {pa:Int->Addr} {n:Int} {s:Int × Int} (h:PN H pa n s) (q:pa n∉as):PN (Mine.Internal.fz as H) pa n s:=let ⟨dx,e⟩:=h;⟨dx,gX gi e q⟩
def OB (H:AH) (pa:Int->Addr) (r:Addr) (num:Int) (lp:Addr) (a:Int) (l:Option Int) (lay:Addr) (z:Bool):Prop:=E2 λdx nm=>H r=some (false,.inst 420 dx (dP num nm lp (pa a) (b0 pa l) lay z))
section
variable {W:Wd} {n m:Nat} {H:AH} {Q:AV->AH->Prop} {QS:AH->Prop}
theorem nM (G:GD W) {pa:Int->Addr} {r lp lay:Addr} {num a:Int} {l:Option Int} {z:Bool} {ps ms:List Int} {t:L} {mv:AV} {QS:am->AH->Prop} (hn:35<=n) (hO:OB H pa r num lp a l lay z) (hlp:H lp=some (true,.list (ps.map λn=>.ref (pa n))))
  (hmv:∀Q':AV->AH->Prop,(∀rr,H rr=none->Q' (.ref rr) (H.set rr (.list (ms.map λn=>.ref (pa n)))))->fC .list [mv] H Q')
  (hL:LR true H t) (hsm:t.Sm) (nd:t.panes.Nodup) (hk:∀n∈t.panes,n∈ps++ms) (hp:∀n∈ps++ms,∃s,PN H pa n s) (ha:∃s,PN H pa a s) (hl:ps.length+ms.length<=100)
  (q:∀H',Ex (r::t.panes.map pa) H H'->FW H' pa r num ⟨er t,a,l,false⟩->Q .none H') (hQS:∀Z H',(∃as:List Addr,Q .none (fz as H'))->QS Z H') :
  cG W n wS (uN.zip [.ref r,.ref t.tag.1,mv]) H QS λv H=>∃as:List Addr,Q v (fz as H):=by
 apply vU hO λdx nm e=>?_;clear hO;delta wS uN
 walk_at "wp"
 apply rwL (zC e) ?_;apply hmv _ λrr hrr=>?_;have s1:Sb H (H.set rr (.list (ms.map λn=>.ref (pa n)))):=.new hrr;generalize hH1:H.set rr (.list (ms.map λn=>.ref (pa n)))=H1 at s1;have e1:H1 rr=some (false,.list (ms.map λn=>.ref (pa n))):=by exact rwR hH1 (AH.EP _ _ _)
 apply⟨true,false,_,_,s1.list hlp,e1,by simp only[length_map];unfold cap;exact le_trans hl (by decide),λrk hrk=>?_⟩;have s2:Sb H1 (H1.set rk (.list (ps.map (λn=>.ref (pa n))++ms.map λn=>.ref (pa n)))):=.new hrk;generalize hH2:H1.set rk (.list (ps.map (λn=>.ref (pa n))++ms.map λn=>.ref (pa n)))=H2 at s2;have e2:H2 rk=some (false,.list ((ps++ms).map λn=>.ref (pa n))):=by simp only[<-hH2,AH.EP,map_append]
 have S2:Sb H H2:=s1.trans s2;dsimp only;apply rwL (Dm (S2.inst e)) ?_;have x3:Ex [r] H2 (H2.set r (.inst 420 dx (dP num nm lp (pa a) (b0 pa l) t.tag.1 z))):=Ex.put;generalize hH3:H2.set r (.inst 420 dx (dP num nm lp (pa a) (b0 pa l) t.tag.1 z))=H3 at x3;have e3:H3 r=some (false,.inst 420 dx (dP num nm lp (pa a) (b0 pa l) t.tag.1 z)):=by simp only[<-hH3];exact AH.EP _ _ _
 have M3:Mu H [r]:=.cons e .nil;have X3:Ex [r] H H3:=S2.ex.trans x3;have pr:∀n s,PN H pa n s->pa n≠r:=λn s h z=>by
  apply a8 h λd h=>?_;simp only[z,e]at h;simp at h
 have P3:∀n∈ps++ms,∃s,PN H3 pa n s:=λn hn=>let ⟨s,h⟩:=hp n hn;⟨s,h.ex X3 λz=>pr n s h (mS z)⟩;have A3:∃s,PN H3 pa a s:=let ⟨s,h⟩:=ha;⟨s,h.ex X3 λz=>pr a s h (mS z)⟩;have L3:LR true H3 t:=hL.mu X3 M3;have k3:=x3.list e2 (λz=>by simp only[mS z,S2.inst e]at e2;simp at e2);apply kx G (by have:=hsm.dep;exact lu this hn rfl) L3 hsm λrn H4 s4 e4=>?_;have X4:Ex [r] H H4:=X3.trans s4.ex;have P4:∀n∈ps++ms,∃s,PN H4 pa n s:=λn hn=>let ⟨s,h⟩:=P3 n hn;⟨s,h.sb s4⟩;have A4:∃s,PN H4 pa a s:=let ⟨s,h⟩:=A3;⟨s,h.sb s4⟩;apply cQ (g:=AV.int) (cs:=t.panes) (bD hsm.len) (λpre out H'=>H'=H4∧out=pre.map λn=>.ref (pa n)) ⟨rfl,rfl⟩ ?_ ?_ ?_
 ·rintro pre out H' ⟨rfl,rfl⟩;exact⟨⟨true,e4⟩,by simp⟩
 ·rintro pre u suf out H' hcs ⟨rfl,rfl⟩;have hu:u∈t.panes:=by exact rwL hcs (mem_append_right _ (.head _))
  walk_at "wp"
  apply zd G (ay hn rfl) (s4.list k3) P4 ?_;apply rwL (if_pos (hk u hu)) ?_;exact⟨rfl,by simp⟩
 ·rintro out H' ⟨rfl,rfl⟩ rl hrl;have s5:Sb H' (H'.set rl (.list (t.panes.map λn=>.ref (pa n)))):=.new hrl;generalize hH5:H'.set rl (.list (t.panes.map λn=>.ref (pa n)))=H5 at s5;have e5:H5 rl=some (false,.list (t.panes.map λn=>.ref (pa n))):=by exact rwR hH5 (AH.EP _ _ _)
  apply rwL (Eh (s5.inst (s4.inst e3))) ?_;have hrlr:rl≠r:=λz=>by simp only[z,s4.inst e3]at hrl;exact sN hrl
  have e6:=AH.EP H5 r (.inst 420 dx (dP num nm rl (pa a) (b0 pa l) t.tag.1 z));rw[BQ e6,AH.set_set];have x7:Ex [r] H5 (H5.set r (.inst 420 dx (dP num nm rl (pa a) (b0 pa l) t.tag.1 false))):=Ex.put;generalize hH7:H5.set r (.inst 420 dx (dP num nm rl (pa a) (b0 pa l) t.tag.1 false))=H7 at x7;have e7:H7 r=some (false,.inst 420 dx (dP num nm rl (pa a) (b0 pa l) t.tag.1 false)):=by simp only[<-hH7];exact AH.EP _ _ _
  have X7:Ex [r] H H7:=(X4.trans s5.ex).trans x7;have R7:RO false H7 pa r num ⟨er t,a,l,false⟩ t (er t).panes:=⟨⟨dx,nm,rl,e7,by exact rwL ab (x7.list e5 (λz=>hrlr (mS z)))⟩,hL.mu X7 M3,rfl⟩;have P7:∀n∈ps++ms,∃s,PN H7 pa n s:=λn hn=>let ⟨s,h⟩:=hp n hn;⟨s,h.ex X7 λz=>pr n s h (mS z)⟩;have A7:∃s,PN H7 pa a s:=let ⟨s,h⟩:=ha;⟨s,h.ex X7 λz=>pr a s h (mS z)⟩;have P7':∀n∈(er t).panes,∃s,PN H7 pa n s:=λn hn=>P7 n (hk n (by rwa [ab]at hn));apply fF (g:=287) e7 rfl rfl ?_;apply ug G (ay hn rfl) R7 P7' A7 (aL.mpr hsm) (by exact rwL ab nd) λH8 x8 h8=>hQS _ _ ⟨[rl],q _ ?_ ?_⟩
  ·have x8:=ab▸x8;have hN:Nw H [rl]:=Nw.ex X4 (λb hb hz=>hrlr (rwR (mS hb) (rwL (mS hz) rfl))) (.of hrl);exact tI ((X7.mono λb hb=>by simp only[mS hb];exact .head _).trans (x8.mono λb hb=>.tail _ hb)) hN
  ·have rout:r∉(er t).panes.map pa:=dT R7 P7';have rlout:rl∉(er t).panes.map pa:=λz=>by
    apply ad (mP z) λk hk ek=>?_;apply a8 (P7' k hk) λs z1z=>a8 z1z λd e'=>?_;simp only[ek,x7.list e5 (λz=>hrlr (mS z))]at e';simp at e'
   apply⟨⟨t,⟨⟨dx,nm,rl,gX gi (x8.inst e7 rout) (λz=>hrlr (mS z).symm),?_⟩,((hL.mu X7 M3).mu x8 (PN.mu P7')).le xq,rfl⟩⟩,λn hn=>(h8 n hn).fz λz=>?_⟩
   ·have:=ir (as:=[rl]) aw (x8.list (x7.list e5 (λz=>hrlr (mS z))) rlout) (.head _);simp only[this,ab]
   ·exact rlout (by simp only[<-mS z];exact mR ⟨n,hn,rfl⟩)
theorem tj {H:AH} {a:Addr} {f:Bool} {xs:List AV} (e:H a=some (f,.list xs)) (hl:xs.length<=cap) (Q:AV->AH->Prop) (q:∀r,H r=none->Q (.ref r) (H.set r (.list xs))):fC .list [.ref a] H Q:=⟨f,xs,e,hl,q⟩
theorem wL (G:GD W) {pa:Int->Addr} {r lp lay lm:Addr} {fm:Bool} {num a:Int} {l:Option Int} {z:Bool} {ps ms:List Int} {t:L} (hm:36<=m) (hO:OB H pa r num lp a l lay z) (hlp:H lp=some (true,.list (ps.map λn=>.ref (pa n))))
  (hlm:H lm=some (fm,.list (ms.map λn=>.ref (pa n)))) (hL:LR true H t) (hsm:t.Sm) (nd:t.panes.Nodup) (hk:∀n∈t.panes,n∈ps++ms) (hp:∀n∈ps++ms,∃s,PN H pa n s) (ha:∃s,PN H pa a s) (hl:ps.length+ms.length<=100)
  (q:∀H',Ex (r::t.panes.map pa) H H'->FW H' pa r num ⟨er t,a,l,false⟩->Q .none H'):a7 W 294 [.ref r,.ref t.tag.1,.ref lm] m H Q:=by
 apply a7.fz (bZ G rfl (show 35+1<=m from hm) rfl λn hn=>?_);exact nM G hn hO hlp (λQ' q'=>tj hlm (by simp only[length_map];unfold cap;lia) Q' q') hL hsm nd hk hp ha hl q λ_ _ h=>h
theorem Au (P:Params):(KK P).lookup 288=some {cls:=.type "tuple",data:=.seq #[]}:=by kernel_rfl
theorem qu (G:GD W) {h:Heap} (S:W.St H h):bK H h [.tup []] [.ref 288]:=by
 have e:h.get? 288=some {cls:=.type "tuple",data:=.seq #[]}:=G.at S _ _ (Au _);simp only[oj,c8,bv];apply⟨_,[],rfl,⟨288,#[],0,rfl,e,?_,rfl⟩,rfl⟩;cases hH:H 288 with
 |none=>rfl
 |some p=>
  obtain⟨f,o⟩:=p;have:=S.objs _ _ _ hH;cases o with
  |list vs=>(apply bb this λus n e' _=>?_;clear this);exact absurd (congrArg (λo=>o.map Obj.cls) (e.symm.trans e')) (not_eq_of_beq_eq_false rfl)
  |inst C dx fs=>have:=this.1;rw[e]at this;lia
  |dS es=>(apply ad this λkvs z1z q=>a8 z1z λo z2z=>a8 z2z λds z3z=>ad z3z λep e' r=>?_;clear this z1z z2z z3z);simp only[e]at e';obtain rfl:=sI e';exact(aW r.1.1.symm).elim
  |dI es=>(apply a8 this λkvs z1z=>?_;clear this;obtain⟨⟨o,ds,ep,e',r⟩,q⟩:=z1z);simp only[e]at e';obtain rfl:=sI e';exact(aW r.1.1.symm).elim
  |own b=>
   apply sU this λf C fs eb=>?_;clear this;apply bH (S.objs _ _ _ eb) λ_ _ z1z=>?_;(apply bb z1z λes n e' _=>?_;clear z1z);exact absurd (congrArg (λo=>o.map Obj.cls) (e.symm.trans e')) (not_eq_of_beq_eq_false rfl)
  |opq=>(apply vU this λx y e'=>?_;clear this);simp only[e]at e';lia
theorem uf (G:GD W) {pa:Int->Addr} {r lp lay:Addr} {num a:Int} {l:Option Int} {z:Bool} {ps:List Int} {t:L} (hm:36<=m) (hO:OB H pa r num lp a l lay z) (hlp:H lp=some (true,.list (ps.map λn=>.ref (pa n))))
  (hL:LR true H t) (hsm:t.Sm) (nd:t.panes.Nodup) (hk:∀n∈t.panes,n∈ps) (hp:∀n∈ps,∃s,PN H pa n s) (ha:∃s,PN H pa a s) (hl:ps.length<=100)
  (q:∀H',Ex (r::t.panes.map pa) H H'->FW H' pa r num ⟨er t,a,l,false⟩->Q .none H'):a7 W 294 [.ref r,.ref t.tag.1] m H Q:=by
 apply a7.fz (tL G rfl (show 35+1<=m from hm) (ws:=[.tup []]) (λh S=>qu G S) rfl λn hn=>?_);exact nM G (ms:=[]) hn hO hlp (λQ' q'=>⟨by decide,λrr hrr=>q' rr hrr⟩) hL hsm nd (by simpa using hk) (by simpa using hp) ha (by simpa using hl) q λ_ _ h=>h
end
end
section
noncomputable def cv (p:Int) (v:Win):Win:=if p∈v.tr.panes∧p≠v.act then⟨v.tr,p,some v.act,false⟩else v
theorem dq {p:Int} {v:Win}:(cv p v).tr=v.tr:=by unfold cv;split<;>rfl
theorem fc {p:Int} {v:Win} (h:WOK v):WOK (cv p v):=by
 unfold cv;split
 ·rename_i hp;exact⟨h.fine,h.nd,hp.1,λl e=>by obtain rfl:=sI e;exact h.act,h.rng⟩
 ·exact h
theorem FW.pn {H:AH} {pa:Int->Addr} {r:Addr} {num:Int} {v:Win} (h:FW H pa r num v):∀n∈v.tr.panes,∃s,PN H pa n s:=λn hn=>⟨_,h.sz n hn⟩
theorem FW.out {H:AH} {pa:Int->Addr} {r:Addr} {num:Int} {v:Win} (h:FW H pa r num v) {ns:List Int} (hs:∀n∈ns,∃s,PN H pa n s):r∉ns.map pa:=let ⟨t,R⟩:=h.rw;dT R hs
theorem FW.mu {H:AH} {pa:Int->Addr} {r:Addr} {num:Int} {v:Win} (h:FW H pa r num v):Mu H (r::v.tr.panes.map pa):=by
 apply a8 h.rw λt z1z=>?_;obtain⟨⟨dx,nm,lp,e1,e2⟩,_⟩:=z1z;exact .cons e1 (PN.mu h.pn)
section
variable {W:Wd} {n m:Nat} {H:AH} {Q:AV->AH->Prop} {QS:AH->Prop}
theorem pg (G:GD W) {pa:Int->Addr} {r:Addr} {num p:Int} {v:Win} (hm:32<=m) (hF:FW H pa r num v) (hv:WOK v) (hp:∃s,PN H pa p s)
  (q:∀H',Ex (r::v.tr.panes.map pa) H H'->FW H' pa r num (cv p v)->Q (.bool (decide (p∈v.tr.panes))) H'):a7 W 308 [.ref r,.ref (pa p)] m H Q:=by
 apply a8 hF.rw λt R=>?_;apply bH (id R) λz1z hL he=>?_;(apply gQ z1z λdx nm lp e1 e2=>?_;clear z1z);apply a8 (id hp) λs z1z=>?_;(apply a8 z1z λdxp ep=>?_;clear z1z);apply a8 (hF.sz v.act hv.act) λdxa ea=>?_;apply bZ G rfl (show 31+1<=m from hm) rfl λn hn=>?_
 walk_at "wp"
 apply fF (g:=301) e1 rfl rfl (kR G (ay hn rfl) R hF.pn hp ⟨λh=>?_,λh=>?_⟩)
 ·have h:p∉v.tr.panes:=by simpa using h
  have:=q H .refl (by unfold cv;exact rwL (if_neg λz=>h z.1) hF);simpa[h]using this
 have h:p∈v.tr.panes:=by simpa using h
 have qq:∀H',Ex (r::v.tr.panes.map pa) H H'->FW H' pa r num (cv p v)->Q (.bool true) H':=λH' k f=>by simpa[h]using q H' k f
 apply rwL (AD e1) ?_;apply⟨_,rfl,⟨⟨_,ep,λz=>by ac_nf⟩,_,ea⟩,λhd=>?_,λhd=>?_⟩
 ·have hne:p≠v.act:=λz=>by have hd:=z▸hd;simp at hd
  have eW:cv p v=⟨v.tr,p,some v.act,false⟩:=if_pos ⟨h,hne⟩;have qq:=eW▸qq;rw[AD e1,Br e1,BR (AH.EP _ _ _),AH.set_set];have x2:Ex [r] H (H.set r (.inst 420 dx (dP num nm lp (pa p) (.ref (pa v.act)) t.tag.1 v.zoom))):=Ex.put;have e3:(H.set r (.inst 420 dx (dP num nm lp (pa p) (.ref (pa v.act)) t.tag.1 v.zoom))) r=some (false,.inst 420 dx (dP num nm lp (pa p) (.ref (pa v.act)) t.tag.1 v.zoom)):=AH.EP _ _ _;generalize H.set r (.inst 420 dx (dP num nm lp (pa p) (.ref (pa v.act)) t.tag.1 v.zoom))=H2 at x2 e3;have M1:Mu H [r]:=.cons e1 .nil;have rout:=hF.out hF.pn;have P2:∀n∈v.tr.panes,PN H2 pa n (gC v n):=λn hn=>(hF.sz n hn).ex x2 λz=>rout (by simp only[<-mS z];exact mR ⟨n,hn,rfl⟩);apply rwL (AC e3) ?_;apply⟨λhz=>?_,λhz=>?_⟩
  ·apply rwL (BQ e3) ?_;have x3:Ex [r] H2 (H2.set r (.inst 420 dx (dP num nm lp (pa p) (.ref (pa v.act)) t.tag.1 false))):=Ex.put;have e4:(H2.set r (.inst 420 dx (dP num nm lp (pa p) (.ref (pa v.act)) t.tag.1 false))) r=some (false,.inst 420 dx (dP num nm lp (pa p) (.ref (pa v.act)) t.tag.1 false)):=AH.EP _ _ _;generalize H2.set r (.inst 420 dx (dP num nm lp (pa p) (.ref (pa v.act)) t.tag.1 false))=H3 at x3 e4;have X3:Ex [r] H H3:=x2.trans x3;have R3:RO true H3 pa r num ⟨v.tr,p,some v.act,false⟩ t v.tr.panes:=⟨⟨dx,nm,lp,e4,X3.fz M1 aw e2⟩,hL.mu X3 M1,he⟩;have P3:∀n∈v.tr.panes,∃s,PN H3 pa n s:=λn hn=>⟨_,(hF.sz n hn).ex X3 λz=>rout (by simp only[<-mS z];exact mR ⟨n,hn,rfl⟩)⟩;apply fF (g:=287) e4 rfl rfl (ug G (le_of_lt (by assumption)) R3 P3 (P3 p h) hv.fine.sm hv.nd λH5 x5 h5=>qq H5 ?_ ⟨⟨t,R3.ex x5 (PN.mu P3) (dT R3 P3) (.inl rfl)⟩,h5⟩);exact(X3.mono λb hb=>by simp only[mS hb];exact .head _).trans (x5.mono λb hb=>.tail _ hb)
  ·simp only[hz]at e3;apply qq H2 (x2.mono λb hb=>by simp only[mS hb];exact .head _) ⟨⟨t,⟨dx,nm,lp,e3,x2.fz M1 aw e2⟩,hL.mu x2 M1,he⟩,λn hn=>?_⟩;have:=P2 n hn;obtain⟨a,b,c,d⟩:=v;dsimp only at hz;subst hz;exact this
 ·have heq:p=v.act:=by
   have:pa p=pa v.act:=by simpa using hd
   exact PN.inj ⟨dxp,ep⟩ ⟨dxa,ea⟩ this
  exact qq H .refl (by unfold cv;exact rwL (if_neg λz=>z.2 heq) hF)
noncomputable def kK (v:Win):Win:=match v.last with
 |none=>v
 |some l=>cv l v
theorem D0 (G:GD W) {pa:Int->Addr} {r:Addr} {num:Int} {v:Win} (hm:33<=m) (hF:FW H pa r num v) (hv:WOK v) (q:∀H',Ex (r::v.tr.panes.map pa) H H'->FW H' pa r num (kK v)->Q (.bool v.last.isSome) H'):a7 W 315 [.ref r] m H Q:=by
 apply a8 hF.rw λt R=>?_;apply bH (id R) λz1z hL he=>?_;(apply gQ z1z λdx nm lp e1 e2=>?_;clear z1z);apply bZ G rfl (show 32+1<=m from hm) rfl λn hn=>?_;ext;apply rwL (BG e1) ?_;unfold kK at q;cases hl:v.last with
 |none=>
  (have q:=q;have e1:=e1;rw[hl]at q e1);exact⟨true,rfl,trivial,λ_=>q H .refl hF,λz=>by ac_nf⟩
 |some l=>
  rw[hl]at q e1;apply⟨false,rfl,trivial,(λz=>by ac_nf),λ_=>(fF (g:=308) e1 rfl rfl ?_)⟩;apply rwL (BG e1) ?_;have hlm:=hv.last l hl;exact pg G hn hF hv (hF.pn l hlm) λH' k f=>by simpa[hlm]using q H' k f
noncomputable def lj (v:Win) (aY:Int):Int:=(v.tr.panes[(((v.tr.panes.idxOf v.act:Nat)+aY).fmod v.tr.panes.length).toNat]?).getD 0
theorem lh {v:Win} (hv:WOK v) (aY:Int):∃j:Nat,((v.tr.panes.idxOf v.act:Nat)+aY).fmod v.tr.panes.length=j∧v.tr.panes[j]?=some (lj v aY):=by
 have hl:0<v.tr.panes.length:=length_pos_of_mem hv.act;have h1:=fmod_nonneg_of_pos ((v.tr.panes.idxOf v.act:Nat)+aY) (b:=(v.tr.panes.length:Int)) (Int.natCast_pos.mpr hl);have h2:=fmod_lt_of_pos ((v.tr.panes.idxOf v.act:Nat)+aY) (b:=(v.tr.panes.length:Int)) (Int.natCast_pos.mpr hl);apply⟨_,(Int.toNat_of_nonneg h1).symm,?_⟩;unfold lj;have:(((v.tr.panes.idxOf v.act:Nat)+aY).fmod v.tr.panes.length).toNat<v.tr.panes.length:=by exact(λ{n} {z} h=>(Int.toNat_lt h).mpr) h1 h2
 apply rwL (getElem?_eq_getElem this) ?_;rfl
theorem CZ (G:GD W) {pa:Int->Addr} {r:Addr} {num aY:Int} {v:Win} (hm:33<=m) (hF:FW H pa r num v) (hv:WOK v) (q:∀H',Ex (r::v.tr.panes.map pa) H H'->FW H' pa r num (cv (lj v aY) v)->Q (.bool true) H'):a7 W 330 [.ref r,.int aY] m H Q:=by
 apply a8 hF.rw λt R=>?_;apply bH (id R) λz1z hL he=>?_;(apply gQ z1z λdx nm lp e1 e2=>?_;clear z1z);have hsm:t.Sm:=aL.mp (he▸hv.fine.sm);have ept:t.panes=v.tr.panes:=by exact rwR he (rwL ab rfl)
 apply bZ G rfl (show 32+1<=m from hm) rfl λn hn=>?_
 walk_at "wp"
 apply rwL (BE e1) ?_;apply kx G (by have:=hsm.dep;exact lu this hn rfl) hL hsm λr1 H1 s1 e3=>⟨⟨_,_,_,rfl,e3⟩,?_⟩;apply rwL (AD (s1.inst e1)) ?_;apply a8 ((hF.sz v.act hv.act).sb s1) λdxa ea=>?_;apply rwL (xo ea) ?_;have hlen:=hv.fine.sm.len;apply⟨true,t.panes,e3,by apply rwL ept ?_;exact hv.act,by apply rwL ept ?_;unfold cap;exact le_trans hlen (by decide),r,_,_,_,_,308,rfl,s1.inst e1,rfl,rfl,?_⟩;simp only[aU,zC (s1.inst e1)];apply aF (s1.list e2) (by simp only[length_map];unfold cap;exact le_trans hlen (by decide)) ?_;simp only[gY,length_map,ept];apply ad (lh hv aY) λj h1 h2=>?_;have hl:0<v.tr.panes.length:=length_pos_of_mem hv.act;apply⟨by exact Int.natCast_ne_zero_iff_pos.mpr hl,df (j:=j) (u:=.ref (pa (lj v aY))) (s1.list e2) h1 (by simp only[length_map];unfold cap;exact le_trans hlen (by decide)) (by apply rwL getElem?_map (rwL h2 ?_);rfl) ?_⟩;have hmem:=mem_of_getElem? h2;have F1:=hF.sb s1;exact pg G hn F1 hv (F1.pn _ hmem) λH' k f=>by simpa[hmem]using q H' (s1.ex.trans k) f
noncomputable def c9 (v:Win):Win:=⟨v.tr,v.act,v.last,!v.zoom&&decide (1<v.tr.panes.length)⟩
theorem CY (G:GD W) {pa:Int->Addr} {r:Addr} {num:Int} {v:Win} (hm:33<=m) (hF:FW H pa r num v) (hv:WOK v) (q:∀H',Ex (r::v.tr.panes.map pa) H H'->FW H' pa r num (c9 v)->Q (.bool (c9 v).zoom) H'):a7 W 337 [.ref r] m H Q:=by
 apply a8 hF.rw λt R=>?_;apply bH (id R) λz1z hL he=>?_;(apply gQ z1z λdx nm lp e1 e2=>?_;clear z1z);apply bZ G rfl (show 32+1<=m from hm) rfl λn hn=>?_;ext;apply rwL (AC e1) (rwL (zC e1) ?_);have hlen:=hv.fine.sm.len;have fin:∀z,z=(c9 v).zoom->cx (.ref r) 20 (.bool z) H λH=>E5 λa f C dx fs=>∃ g, AV.ref r=.ref a∧H a=some (f,.inst C dx fs)∧jQ.lookup (C,83)=some g∧fs.lookup 83=none∧a7 W g [.ref r] n H λ_ H=>aQ W (.ref r) 20 n H Q:=by
  rintro z rfl;apply rwL (BQ e1) ?_;have x2:Ex [r] H (H.set r (.inst 420 dx (dP num nm lp (pa v.act) (b0 pa v.last) t.tag.1 (c9 v).zoom))):=Ex.put;have e3:(H.set r (.inst 420 dx (dP num nm lp (pa v.act) (b0 pa v.last) t.tag.1 (c9 v).zoom))) r=some (false,.inst 420 dx (dP num nm lp (pa v.act) (b0 pa v.last) t.tag.1 (c9 v).zoom)):=AH.EP _ _ _;generalize H.set r (.inst 420 dx (dP num nm lp (pa v.act) (b0 pa v.last) t.tag.1 (c9 v).zoom))=H2 at x2 e3;have M1:Mu H [r]:=.cons e1 .nil;have rout:=hF.out hF.pn;have R3:RO true H2 pa r num (c9 v) t v.tr.panes:=⟨⟨dx,nm,lp,e3,x2.fz M1 aw e2⟩,hL.mu x2 M1,he⟩;have P3:∀n∈v.tr.panes,∃s,PN H2 pa n s:=λn hn=>⟨_,(hF.sz n hn).ex x2 λz=>rout (by simp only[<-mS z];exact mR ⟨n,hn,rfl⟩)⟩;apply fF (g:=287) e3 rfl rfl (ug G (ay hn rfl) R3 P3 (P3 v.act hv.act) hv.fine.sm hv.nd λH5 x5 h5=>?_);apply rwL (AC (x5.inst e3 (dT R3 P3))) ?_;exact q H5 ((x2.mono λb hb=>by simp only[mS hb];exact .head _).trans (x5.mono λb hb=>.tail _ hb)) ⟨⟨t,R3.ex x5 (PN.mu P3) (dT R3 P3) (.inl rfl)⟩,h5⟩
 apply⟨λhz=>fin _ (by unfold c9;simp at hz;simp[hz]),λhz=>aF e2 (by simp only[length_map];unfold cap;exact le_trans hlen (by decide)) (fin _ ?_)⟩;unfold c9;simp at hz;simp[hz];lia
end
end
section
noncomputable def ci (v:Win) (t':T):Win:=⟨t',v.act,v.last,false⟩
noncomputable def xL (v:Win) (p fresh:Int) (d:Bool) (size:Option Int) (before active:Bool):Option Win:=(Tr.bl v.tr p fresh d size before).map λt'=>if active then cv fresh (ci v t')else ci v t'
noncomputable def bC (v:Win) (p:Int) (t':T):Win:=
 let l1:=if v.last=some p then none else v.last
 if v.act=p then⟨t',(match l1 with|none=>(t'.panes[v.tr.panes.idxOf p-1]?).getD 0|some l=>l),none,false⟩else⟨t',v.act,l1,false⟩
noncomputable def ce (v:Win) (p:Int):Option Win:=if p∈v.tr.panes then(Tr.bc v.tr p).map (bC v p)else none
noncomputable def vi (v:Win) (w h:Int):Win:=⟨Tr.qY w h v.tr,v.act,v.last,v.zoom⟩
noncomputable def ot (v:Win) (one other:Int):Option Win:=(Tr.fK v.tr one other).map (ci v)
noncomputable def xj (v:Win) (back:Bool):Win:=cv (((Tr.gM back v.tr).panes[v.tr.panes.idxOf v.act]?).getD 0) (ci v (Tr.gM back v.tr))
theorem FW.re {H:AH} {pa:Int->Addr} {r:Addr} {num a:Int} {l:Option Int} {t':T} (hF:FW H pa r num ⟨t',a,l,false⟩):E4 λdx nm lp lay=>H r=some (false,.inst 420 dx (dP num nm lp (pa a) (b0 pa l) lay false))∧H lp=some (true,.list (t'.panes.map λn=>.ref (pa n))) ∧
  ∀a' l' H',Ex [r] H H'->H' r=some (false,.inst 420 dx (dP num nm lp (pa a') (b0 pa l') lay false))->FW H' pa r num ⟨t',a',l',false⟩:=by
 apply a8 hF.rw λt z1z=>?_;apply bH z1z λz1z hL he=>gQ z1z λdx nm lp e1 e2=>?_;have M1:Mu H [r]:=.cons e1 .nil;have rout:=hF.out hF.pn;exact⟨dx,nm,lp,t.tag.1,e1,e2,λa' l' H' k e'=>⟨⟨t,⟨dx,nm,lp,e',k.fz M1 aw e2⟩,hL.mu k M1,he⟩,λn hn=>(hF.sz n hn).ex k λz=>rout (by exact rwR (mS z) (mR ⟨n,hn,rfl⟩))⟩⟩
section
variable {W:Wd} {n m:Nat} {H:AH} {Q:AV->AH->Prop} {QS:AH->Prop}
theorem CX (G:GD W) {pa:Int->Addr} {r:Addr} {num p fresh:Int} {d before active:Bool} {size:Option Int} {v:Win} (hm:45<=m) (hF:FW H pa r num v) (hv:WOK v) (hl:v.tr.panes.length+1<=20) (hp:∃s,PN H pa p s) (hfr:∃s,PN H pa fresh s) (hfg:0<=fresh∧fresh<1000)
  (q0:xL v p fresh d size before active=none->∀H',Sb H H'->Q (.bool false) H')
  (q1:∀v',xL v p fresh d size before active=some v'->∀H',Ex (r::v'.tr.panes.map pa) H H'->FW H' pa r num v'->WOK v'->Q (.bool true) H'):a7 W 345 [.ref r,.ref (pa p),.ref (pa fresh),.bool d,cR size,.bool before,.bool active] m H Q:=by
 apply a8 hF.rw λt R=>?_;apply bH (id R) λz1z hL he=>?_;(apply gQ z1z λdx nm lp e1 e2=>?_;clear z1z);apply a8 (id hp) λs z1z=>?_;(apply a8 z1z λdxp ep=>?_;clear z1z);apply a8 (id hfr) λs' z1z=>?_;(apply a8 z1z λdxf ef=>?_;clear z1z);apply bZ G rfl (show 44+1<=m from hm) rfl λn hn=>?_;ext;apply gW e1 (iq ep (iq ef ?_));apply pj G (ay hn rfl) hL (he▸hv.fine) (λhs H1 s1=>?_) λt' hs H1 s1 l1=>?_<;>ext
 ·have hs:=he▸hs;exact j6 rfl trivial (q0 (by unfold xL;simp only[hs];rfl) H1 s1)
 have hs:=he▸hs;apply jh (Tr.jA hv.fine hs hl) λk1 k2 k3 z1z=>?_;(apply bb z1z λpre post k4 k5=>?_;clear z1z);have hmem:∀x,x∈(er t').panes↔x∈v.tr.panes\/x=fresh:=λx=>by
  apply rwL k4 (rwL k5 ?_);(generalize before=before'z;obtain⟨⟩:=before'z)<;>simp<;>grind
 have hnd:(er t').panes.Nodup:=by
  have a1:=hv.nd;have a2:=k3;simp only[k4]at a1 a2;apply rwL k5 ?_;simp only[mem_append,mem_cons,not_or]at a2;(have a1:=a1;rw[nodup_append,nodup_cons]at a1);apply af a1 λb1 z1z=>af z1z λz2z b4=>af z2z λb2 b3=>?_;clear a1 z1z z2z;have c1:∀x∈pre,x≠p:=λx hx=>b4 x hx p (.head _);have c2:∀x∈pre,∀y∈post,x≠y:=λx hx y hy=>b4 x hx y (.tail _ hy);have c3:∀x∈pre,x≠fresh:=λx hx z=>a2.1 (z▸hx);(generalize before=before'z;obtain⟨⟩:=before'z)
  ·simp only[false_eq_true,if_false,append_assoc,cons_append,nil_append]
   rewrite [nodup_append,nodup_cons,nodup_cons]
   apply⟨b1,⟨λz=>?_,a2.2.2,b3⟩,λx hx y hy=>?_⟩
   ·rcases mC z with z|z
    ·exact a2.2.1 z.symm
    ·exact b2 z
   ·rcases mc hy with rfl|hy
    ·exact c1 x hx
    ·rcases mc hy with rfl|hy
     ·exact c3 x hx
     ·exact c2 x hx y hy
  ·simp only[if_true,append_assoc,cons_append,nil_append];simp only[nodup_append,nodup_cons,nodup_cons];apply⟨b1,⟨λz=>?_,b2,b3⟩,λx hx y hy=>?_⟩
   ·rcases mC z with z|z
    ·exact a2.2.1 z
    ·exact a2.2.2 z
   ·rcases mc hy with rfl|hy
    ·exact c3 x hx
    ·rcases mc hy with rfl|hy
     ·exact c1 x hx
     ·exact c2 x hx y hy
 have hW:WOK (ci v (er t')):=⟨k1,hnd,(hmem _).mpr (.inl hv.act),λl e=>(hmem l).mpr (.inl (hv.last l e)),λx hx=>by
  rcases((hmem x).mp hx).imp_right Eq.symm with h|rfl
  ·exact hv.rng x h
  ·exact hfg⟩
 have F1:=hF.sb s1;have et':t'.panes=(er t').panes:=ab.symm;apply iN rfl trivial (fF (g:=294) (s1.inst e1) rfl rfl ⟨xt rfl,λlm hlm=>?_⟩);have s2:Sb H1 (H1.set lm (.list [.ref (pa fresh)])):=.new hlm;have em:(H1.set lm (.list [.ref (pa fresh)])) lm=some (false,.list ([fresh].map λn=>.ref (pa n))):=AH.EP _ _ _;generalize H1.set lm (.list [.ref (pa fresh)])=H2 at s2 em;have S2:Sb H H2:=s1.trans s2;apply wL G (ps:=v.tr.panes) (ms:=[fresh]) (ay hn rfl) ⟨dx,nm,S2.inst e1⟩ (S2.list e2) em (l1.sb s2) (aL.mp k1.sm) (by exact rwL et' hnd) (λx hx=>?_) (λx hx=>?_) ?_ (by simp;exact yy hl rfl) λH3 x3 f3=>?_<;>ext
 ·rw[et']at hx;rcases((hmem x).mp hx).imp_right Eq.symm with h|rfl
  ·exact mem_append_left _ h
  ·exact mem_append_right _ (.head _)
 ·apply(mA hx).elim (λhx=>?_) λhx=>?_
  ·exact⟨_,((hF.sz x hx).sb S2)⟩
  ·exact rwL (mS hx) ⟨s',⟨dxf,S2.inst ef⟩⟩
 ·exact⟨_,(hF.sz v.act hv.act).sb S2⟩
 have x3:=et'▸x3;have X3:Ex (r::(er t').panes.map pa) H H3:=S2.ex.trans x3;apply⟨λha=>?_,λha=>?_⟩<;>ext
 ·have hfm:fresh∈(er t').panes:=(hmem _).mpr (.inr rfl);apply a8 f3.rw λt3 z1z=>?_;obtain⟨⟨dx3,nm3,lp3,e3,_⟩,_⟩:=z1z;apply fF (g:=308) e3 rfl rfl (pg G (v:=ci v (er t')) (ay hn rfl) f3 hW (f3.pn _ hfm) λH4 x4 f4=>?_)<;>ext;apply q1 (cv fresh (ci v (er t'))) (by unfold xL;simp only[hs];simp[ha]) H4 ?_ f4 (fc hW);apply rwL dq ?_;exact X3.trans x4
 ·exact q1 (ci v (er t')) (by unfold xL;simp only[hs];simp[ha]) H3 X3 f3 hW
theorem cP {v:Win} {p:Int} {t':T} (hv:WOK v) (hp:p∈v.tr.panes) (hs:Tr.bc v.tr p=some t'):WOK (bC v p t')∧(∀x,x∈t'.panes↔x∈v.tr.panes∧x≠p)∧t'.Fine∧t'.panes.Nodup∧(bC v p t').tr=t'∧t'.panes=v.tr.panes.filter (λx=>x != p)∧(∀d,t'.side d=v.tr.side d):=by
 have h1:v.tr.panes.length≠1:=λz=>by have hs:=(Tr.cM hv.fine.ok (.inr z))▸hs;exact nS hs
 apply pS (Tr.bi hv.fine hp h1) λt2 e1 e2 e3 z1z=>?_;(apply bb z1z λpre post k4 k5=>?_;clear z1z);simp only[hs]at e1;obtain rfl:=sI e1;have nd:=hv.nd;rw[k4]at nd;have nd2:=nd;simp only[nodup_append,nodup_cons]at nd;apply af nd λb1 z1z=>af z1z λz2z b4=>af z2z λb2 b3=>?_;clear nd z1z z2z;have hmem:∀x,x∈t'.panes↔x∈v.tr.panes∧x≠p:=λx=>by
  apply rwL k5 (rwL k4 ?_);simp only[mem_append,mem_cons];constructor
  ·rintro(h|h)
   ·exact⟨.inl h,b4 x h p (.head _)⟩
   ·exact⟨.inr (.inr h),λz=>b2 (z▸h)⟩
  ·rintro⟨h|rfl|h,hne⟩
   ·exact .inl h
   ·exact absurd rfl hne
   ·exact .inr h
 have hnd:t'.panes.Nodup:=by
  simp only[k5,nodup_append];exact⟨b1,b3,λx hx y hy=>b4 x hx y (.tail _ hy)⟩
 have hidx:v.tr.panes.idxOf p=pre.length:=by
  apply rwL k4 (rwL List.idxOf_append (rwL (if_neg λz=>b4 p z p (.head _) rfl) ?_));simp
 have hfil:t'.panes=v.tr.panes.filter (λx=>x != p):=by
  simp only[k4,k5,List.filter_append,List.filter_cons];simp only[bne_self_eq_false,false_eq_true,if_false];exact rwL (List.filter_eq_self.mpr λx hx=>by simpa using b4 x hx p (.head _)) (rwL (List.filter_eq_self.mpr λx hx=>by rewrite [bne_iff_ne];exact λz=>b2 (z▸hx)) rfl)
 have hlen:pre.length-1<t'.panes.length:=by
  simp only[k5,length_append];have:v.tr.panes.length=pre.length+(post.length+1):=by exact rwL k4 (length_append ..)
  exact lt_of_le_of_lt (Nat.sub_le_sub_right (le_add_right _ _) 1) (Nat.sub_lt (Nat.pos_of_ne_zero λz=>h1 (this.trans (congrArg (·+1) z))) Nat.one_pos)
 apply⟨?_,hmem,e2,hnd,by unfold bC;dsimp only;split<;>rfl,hfil,e3⟩;unfold bC;dsimp only;have hl1:∀l,(if v.last=some p then none else v.last)=some l->l∈t'.panes:=λl hl=>by
  split at hl
  ·exact nS hl
  ·rename_i hne;exact(hmem l).mpr ⟨hv.last l hl,λz=>hne (z▸hl)⟩
 split
 ·apply⟨e2,hnd,?_,(λl h=>by exact nS h),λx hx=>hv.rng x ((hmem x).mp hx).1⟩;generalize (if v.last=some p then none else v.last)=l1 at hl1;cases l1 with
  |none=>
   dsimp only;apply rwL hidx (rwL (getElem?_eq_getElem hlen) ?_);exact getElem_mem _
  |some l=>exact hl1 l rfl
 ·rename_i hne;exact⟨e2,hnd,(hmem _).mpr ⟨hv.act,hne⟩,hl1,λx hx=>hv.rng x ((hmem x).mp hx).1⟩
theorem zc (G:GD W) {pa:Int->Addr} {r:Addr} {num p:Int} {v:Win} (hm:45<=m) (hF:FW H pa r num v) (hv:WOK v) (hp:∃s,PN H pa p s) (q0:ce v p=none->∀H',Sb H H'->Q (.bool false) H')
  (q1:∀v',ce v p=some v'->p∈v.tr.panes->∀H',Ex (r::v'.tr.panes.map pa) H H'->FW H' pa r num v'->WOK v'->Q (.bool true) H'):a7 W 352 [.ref r,.ref (pa p)] m H Q:=by
 apply a8 hF.rw λt R=>?_;apply bH (id R) λz1z hL he=>?_;(apply gQ z1z λdx nm lp e1 e2=>?_;clear z1z);apply a8 (id hp) λs z1z=>?_;(apply a8 z1z λdxp ep=>?_;clear z1z);have hsm:t.Sm:=aL.mp (he▸hv.fine.sm);have ept:t.panes=v.tr.panes:=by exact rwR he (rwL ab rfl)
 have hlen:=hv.fine.sm.len;apply bZ G rfl (show 44+1<=m from hm) rfl λn hn=>?_;ext;apply fF (g:=301) e1 rfl rfl (kR G (ay hn rfl) R hF.pn hp ⟨λh=>?_,λh=>?_⟩)<;>ext
 rotate_left
 ·have h:p∉v.tr.panes:=by simpa using h
  exact j6 rfl trivial (q0 (if_neg h) H .refl)
 have h:p∈v.tr.panes:=by simpa using h
 apply gW e1 (iq ep ?_);apply wN G (ay hn rfl) hL (he▸hv.fine) (λhs H1 s1=>?_) λt' hs H1 s1 l1=>?_<;>ext
 ·have hs:=he▸hs;exact j6 rfl trivial (q0 (by unfold ce;apply rwL (if_pos h) (rwL hs ?_);rfl) H1 s1)
 have hs:=he▸hs;apply jO (cP hv h hs) λhW hmem k1 hnd etr z1z=>?_;(apply af z1z λhfil _=>?_;clear z1z);have hq:=λH'=>q1 (bC v p (er t')) (by unfold ce;apply rwL (if_pos h) (rwL hs ?_);rfl) h H';rw[etr]at hq;have F1:=hF.sb s1;have et':t'.panes=(er t').panes:=ab.symm;apply iN rfl trivial ?_<;>ext;apply gW (s1.inst e1) ?_;apply kx G (by have:=hsm.dep;exact lu this hn rfl) (hL.sb s1) hsm λr2 H2 s2 e3=>⟨⟨_,_,_,rfl,e3⟩,?_⟩;have S2:Sb H H2:=s1.trans s2;apply iq (S2.inst ep) ?_;apply⟨true,t.panes,e3,by apply rwL ept ?_;exact h,by apply rwL ept ?_;unfold cap;exact le_trans hlen (by decide),r,_,_,_,_,294,rfl,S2.inst e1,rfl,rfl,?_⟩;apply uf G (ps:=v.tr.panes) (ay hn rfl) ⟨dx,nm,S2.inst e1⟩ (S2.list e2) (l1.sb s2) (aL.mp k1.sm) (by exact rwL et' hnd) (λx hx=>((hmem x).mp (by rwa [et']at hx)).1) (λx hx=>⟨_,(hF.sz x hx).sb S2⟩) ⟨_,(hF.sz v.act hv.act).sb S2⟩ (le_trans hlen (by decide)) λH3 x3 f3=>?_<;>ext;have x3:=et'▸x3;have X3:Ex (r::(er t').panes.map pa) H H3:=S2.ex.trans x3;apply Du f3.re λdx3 nm3 lp3 lay3 g1 g2 g3=>?_;have pno:pa p∉r::(er t').panes.map pa:=λz=>by
  apply(mC z).elim (λz=>?_) λz=>?_
  ·simp only[z,e1]at ep;simp at ep
  ·apply ad (mP z) λk hk ek=>?_;apply af ((hmem k).mp hk) λhk1 hk2=>?_;exact hk2 ((hF.sz k hk1).inj ⟨dxp,ep⟩ ek)
 have ep3:=X3.inst ep pno;have own:∀k∈v.tr.panes,∃o,H3 (pa k)=some o∧o.2≠.opq:=λk hk=>by
  by_cases hkp:k=p
  ·obtain rfl:=hkp.symm;exact⟨_,ep3,λz=>by ac_nf⟩
  ·apply a8 (f3.sz k ((hmem k).mpr ⟨hk,hkp⟩)) λd e=>?_;exact⟨_,e,λz=>by ac_nf⟩
 have inj:∀k∈v.tr.panes,pa k=pa p->k=p:=λk hk e=>(hF.sz k hk).inj ⟨dxp,ep⟩ e;apply ty g1 ?_;have stepLast:∀(P:AH->Prop),(∀H4,Ex [r] H3 H4->H4 r=some (false,.inst 420 dx3 (dP num nm3 lp3 (pa v.act) (b0 pa (if v.last=some p then none else v.last)) lay3 false))->P H4)->
   ∃b,lM (b0 pa v.last) (.ref (pa p))=some b∧fh H3 (b0 pa v.last) (.ref (pa p))∧((b=true->cx (.ref r) 18 .none H3 P)∧(b=false->P H3)):=by
  intro P hP;cases hl:v.last with
  |none=>
   apply iN rfl trivial (hP H3 .refl ?_);have e:(if v.last=some p then none else v.last)=none:=by apply rwL hl ?_;rfl
   apply rwL e ?_;have g1:=hl▸g1;exact g1
  |some l=>
   have hlm:=hv.last l hl;apply⟨decide (pa l=pa p),rfl,⟨own l hlm,(own p h).imp λ_ z=>z.1⟩,λhd=>?_,λhd=>hP H3 .refl ?_⟩
   ·have:l=p:=inj l hlm (of_decide_eq_true hd);obtain rfl:=this.symm;have g1:=hl▸g1;apply rwL (Br g1) ?_;apply hP _ Ex.put ?_;simp only[AH.EP];simp[b0,hl]
   ·have:l≠p:=λz=>by have hd:=z▸hd;simp at hd
    have g1:=hl▸g1;have:¬(some l=some p):=λz=>this (by simpa using z);apply rwL hl (rwL (if_neg this) ?_);exact g1
 walk_at "wp"
 apply stepLast _ λH4 x4 e4=>?_;generalize hl1:(if v.last=some p then none else v.last)=l1 at e4;have hl1m:∀l,l1=some l->l∈(er t').panes:=λl hl=>by
  subst hl;split at hl1
  ·exact nS hl1
  ·rename_i hne;exact(hmem l).mpr ⟨hv.last l hl1,λz=>hne (z▸hl1)⟩
 have F4:FW H4 pa r num ⟨er t',v.act,l1,false⟩:=g3 v.act l1 H4 x4 e4;have M3:Mu H3 [r]:=.cons g1 .nil;have g24:=x4.fz M3 aw g2;have own4:∀k∈v.tr.panes,∃o,H4 (pa k)=some o∧o.2≠.opq:=λk hk=>by
  by_cases hkp:k=p
  ·obtain rfl:=hkp.symm;exact⟨_,x4.inst ep3 (λz=>pno (by simp only[mS z];exact .head _)),λz=>by ac_nf⟩
  ·apply a8 (F4.sz k ((hmem k).mpr ⟨hk,hkp⟩)) λd e=>?_;exact⟨_,e,λz=>by ac_nf⟩
 have X4:Ex (r::(er t').panes.map pa) H H4:=X3.trans (x4.mono λb hb=>by simp only[mS hb];exact .head _);apply wn e4 ?_;apply⟨decide (pa v.act=pa p),rfl,⟨own4 _ hv.act,(own4 p h).imp λ_ z=>z.1⟩,λhd=>?_,λhd=>?_⟩
 ·have hact:v.act=p:=inj _ hv.act (of_decide_eq_true hd);have fin:∀a,bC v p (er t')=⟨er t',a,none,false⟩->cx (.ref r) 17 (.ref (pa a)) H4 λH=>cx (.ref r) 18 .none H λH=>Q (.bool true) H:=by
   intro a ha;rw[BR e4,Br (AH.EP _ _ _),AH.set_set];have x5:Ex [r] H4 (H4.set r (.inst 420 dx3 (dP num nm3 lp3 (pa a) .none lay3 false))):=Ex.put;apply hq _ (X4.trans (x5.mono λb hb=>by simp only[mS hb];exact .head _)) ?_ hW;simp only[ha];exact g3 a none _ (x4.trans x5) (AH.EP _ _ _)
  apply ty e4 ?_;cases hl1c:l1 with
  |none=>
   subst hl1c;apply j6 rfl trivial ?_;simp only[zC e4,eG,n7];have hidx:Tr.mx 0 (((t.panes.idxOf p:Nat):Int)-1)=((v.tr.panes.idxOf p-1:Nat):Int):=by apply rwL ept ?_;unfold Tr.mx;split<;>omega
   have hj:∃a,(er t').panes[v.tr.panes.idxOf p-1]?=some a:=by
    have:v.tr.panes.idxOf p<v.tr.panes.length:=List.idxOf_lt_length_iff.mpr h;have hlt:(er t').panes.length+1=v.tr.panes.length\/v.tr.panes.idxOf p-1<(er t').panes.length:=by
     right;have hc:=hW.act;unfold bC at hc;dsimp only at hc;rw[if_pos hact,hl1]at hc;dsimp only at hc;cases hx:(er t').panes[v.tr.panes.idxOf p-1]? with
     |some a=>exact(mE hx).1
     |none=>
      exfalso;have hge:=List.getElem?_eq_none_iff.mp hx;have:v.tr.panes.length<=(er t').panes.length+1:=by
       apply bb ((show E2 λpre post=>v.tr.panes=pre++p::post∧(er t').panes=pre++post from by
        have h1:v.tr.panes.length≠1:=λz=>by simp only[Tr.cM hv.fine.ok (.inr z)]at hs;exact nS hs
        apply pS (Tr.bi hv.fine h h1) λt2 e1 _ _ z1z=>?_;(apply bb z1z λpre post k4 k5=>?_;clear z1z);simp only[hs]at e1;cases e1;exact⟨pre,post,k4,k5⟩)) λpre post k4 k5=>?_
       apply rwL k5 (rwL k4 ?_);simp;exact Nat.lt_succ_self _
      have h1:v.tr.panes.length≠1:=λz=>by simp only[Tr.cM hv.fine.ok (.inr z)]at hs;exact nS hs
      lia
    apply hlt.elim (λhlt=>?_) λhlt=>?_
    ·have h1:v.tr.panes.length≠1:=λz=>by simp only[Tr.cM hv.fine.ok (.inr z)]at hs;exact nS hs
     exact⟨_,getElem?_eq_getElem (by lia)⟩
    ·exact⟨_,getElem?_eq_getElem hlt⟩
   apply a8 hj λa ha=>?_;clear hj;apply df (j:=v.tr.panes.idxOf p-1) (u:=.ref (pa a)) g24 hidx (by have:=k1.sm.len;simp only[length_map];unfold cap;exact le_trans this (by decide)) (by apply rwL getElem?_map (rwL ha ?_);rfl) (fin a ?_);unfold bC;dsimp only;apply rwL (if_pos hact) (rwL hl1 ?_);simp only[ha,getD_some]
  |some l=>
   subst hl1c;apply iN rfl trivial ?_;apply ty e4 ?_;apply fin l ?_;unfold bC;dsimp only;exact rwL (if_pos hact) (rwL hl1 rfl)
 ·have hact:v.act≠p:=λz=>by have hd:=z▸hd;simp at hd
  apply hq H4 X4 ?_ hW;unfold bC;dsimp only;apply rwL (if_neg hact) (rwL hl1 ?_);exact F4
end
end
section
theorem xh {v:Win} {w h:Int} (hv:WOK v) (hw:w<=64) (hh:h<=64):WOK (vi v w h)∧(vi v w h).tr.panes=v.tr.panes:=by
 apply af (Tr.tN (w:=w) (h:=h) hv.fine hw hh) λk1 k2=>?_;have e:(vi v w h).tr.panes=v.tr.panes:=k2;exact⟨⟨k1,by apply rwL e ?_;exact hv.nd,by apply rwL e ?_;exact hv.act,λl hl=>by apply rwL e ?_;exact hv.last l hl,λp hp=>hv.rng p (by rw[e]at hp;exact hp)⟩,e⟩
theorem oR {v:Win} {t':T} (hv:WOK v) (hf:t'.Fine) (hp:t'.panes.Perm v.tr.panes):WOK (ci v t'):=
 ⟨hf,hp.nodup_iff.mpr hv.nd,hp.mem_iff.mpr hv.act,λl hl=>hp.mem_iff.mpr (hv.last l hl),λp hq=>hv.rng p (hp.mem_iff.mp hq)⟩
theorem rG {one other:Int} {l:List Int} (nd:l.Nodup) (h1:one∈l) (h2:other∈l):(l.map (Tr.oq one other)).Perm l:=by
 have inv:∀p,Tr.oq one other (Tr.oq one other p)=p:=λp=>by unfold Tr.oq;grind
 have mem:∀p∈l,Tr.oq one other p∈l:=λp hp=>by unfold Tr.oq;grind
 have nd':(l.map (Tr.oq one other)).Nodup:=by
  apply List.Pairwise.map _ (λa b hab z=>hab ?_) nd;have:=congrArg (Tr.oq one other) z;rwa [inv,inv]at this
 apply(List.perm_ext_iff_of_nodup nd' nd).mpr λp=>⟨λh=>?_,λh=>?_⟩
 ·(apply ad (mP h) λq hq z1z=>?_;subst z1z);exact mem q hq
 ·exact mR ⟨_,mem p h,inv p⟩
theorem nk {back:Bool} {l:List Int}:(Tr.zw back l).Perm l:=by
 unfold Tr.zw;split
 ·exact List.perm_append_comm.trans (by rw[take_append_drop])
 ·exact List.perm_append_comm.trans (by rw[take_append_drop])
theorem iI {v:Win} {one other:Int} {t':T} (hv:WOK v) (h:Tr.fK v.tr one other=some t'):t'.Fine∧t'.panes.Perm v.tr.panes:=by
 unfold Tr.fK at h;split at h
 ·rename_i hm;obtain rfl:=sI h;apply bH (Tr.jF (ns:=v.tr.panes.map (Tr.oq one other)) hv.fine hv.nd (by exact length_map ..)) λk1 k2 _=>?_;exact⟨k1,by exact rwL k2 (rG hv.nd hm.1 hm.2)⟩
 ·exact nS h
theorem jD {v:Win} {back:Bool} (hv:WOK v):(Tr.gM back v.tr).Fine∧(Tr.gM back v.tr).panes.Perm v.tr.panes:=by
 apply bH (Tr.jF (ns:=Tr.zw back v.tr.panes) hv.fine hv.nd nk.length_eq) λk1 k2 _=>?_;exact⟨k1,by unfold Tr.gM;exact rwL k2 nk⟩
section
variable {W:Wd} {n m:Nat} {H:AH} {Q:AV->AH->Prop} {QS:AH->Prop}
theorem CW (G:GD W) {pa:Int->Addr} {r:Addr} {num w h:Int} {v:Win} (hm:45<=m) (hF:FW H pa r num v) (hv:WOK v) (hw:w<=64) (hh:h<=64) (q:∀H',Ex (r::v.tr.panes.map pa) H H'->FW H' pa r num (vi v w h)->Q .none H'):a7 W 359 [.ref r,.int w,.int h] m H Q:=by
 apply a8 hF.rw λt R=>?_;apply bH (id R) λz1z hL he=>?_;(apply gQ z1z λdx nm lp e1 e2=>?_;clear z1z);apply af (xh hv hw hh) λhv' ep'=>?_;apply bZ G rfl (show 44+1<=m from hm) rfl λn hn=>?_;ext;apply gW e1 ?_;apply Bd G (ay hn rfl) hL (he▸hv.fine) λt' H1 ht s1 l1=>?_;simp only[he]at ht;apply rwL (Dm (s1.inst e1)) ?_<;>ext;have x2:Ex [r] H1 (H1.set r (.inst 420 dx (dP num nm lp (pa v.act) (b0 pa v.last) t'.tag.1 v.zoom))):=Ex.put;have e3:(H1.set r (.inst 420 dx (dP num nm lp (pa v.act) (b0 pa v.last) t'.tag.1 v.zoom))) r=some (false,.inst 420 dx (dP num nm lp (pa v.act) (b0 pa v.last) t'.tag.1 v.zoom)):=AH.EP _ _ _;generalize H1.set r (.inst 420 dx (dP num nm lp (pa v.act) (b0 pa v.last) t'.tag.1 v.zoom))=H2 at x2 e3;have M1:Mu H1 [r]:=.cons (s1.inst e1) .nil;have X2:Ex [r] H H2:=s1.ex.trans x2;have M0:Mu H [r]:=.cons e1 .nil;have rout:=hF.out hF.pn;have R3:RO true H2 pa r num (vi v w h) t' (vi v w h).tr.panes:=⟨⟨dx,nm,lp,e3,by exact rwL ep' (X2.fz M0 aw e2)⟩,l1.mu x2 M1,ht⟩;have P3:∀n∈(vi v w h).tr.panes,∃s,PN H2 pa n s:=λn hn=>by
  rw[ep']at hn;exact⟨_,(hF.sz n hn).ex X2 λz=>rout (by simp only[<-mS z];exact mR ⟨n,hn,rfl⟩)⟩
 apply fF (g:=287) e3 rfl rfl (ug G (ay hn rfl) R3 P3 (P3 v.act (by exact rwL ep' hv.act)) hv'.fine.sm hv'.nd λH5 x5 h5=>?_);apply q H5 ?_ ⟨⟨t',R3.ex x5 (PN.mu P3) (dT R3 P3) (.inl rfl)⟩,h5⟩;simp only[ep']at x5;exact(X2.mono λb hb=>by simp only[mS hb];exact .head _).trans (x5.mono λb hb=>.tail _ hb)
theorem B9 (G:GD W) {pa:Int->Addr} {r:Addr} {num one other:Int} {v:Win} (hm:45<=m) (hF:FW H pa r num v) (hv:WOK v) (h1:∃s,PN H pa one s) (h2:∃s,PN H pa other s) (q0:ot v one other=none->∀H',Sb H H'->Q (.bool false) H')
  (q1:∀v',ot v one other=some v'->∀H',Ex (r::v.tr.panes.map pa) H H'->FW H' pa r num v'->WOK v'->Q (.bool true) H'):a7 W 380 [.ref r,.ref (pa one),.ref (pa other)] m H Q:=by
 apply a8 hF.rw λt R=>?_;apply bH (id R) λz1z hL he=>?_;(apply gQ z1z λdx nm lp e1 e2=>?_;clear z1z);apply a8 (id h1) λs z1z=>?_;(apply a8 z1z λdxp ep=>?_;clear z1z);apply a8 (id h2) λs' z1z=>?_;(apply a8 z1z λdxo eo=>?_;clear z1z);have ept:t.panes=v.tr.panes:=by exact rwR he (rwL ab rfl)
 have hlen:=hv.fine.sm.len;apply bZ G rfl (show 44+1<=m from hm) rfl λn hn=>?_;ext;apply gW e1 (iq ep (iq eo ?_));apply Bc G (ay hn rfl) hL (he▸hv.fine) (by exact rwL ept hv.nd) (λhs H1 s1=>?_) λt' H1 hs s1 l1=>?_<;>ext
 ·have hs:=he▸hs;apply yr rfl trivial ⟨true,rfl,trivial,?_⟩;exact q0 (by unfold ot;apply rwL hs ?_;rfl) H1 s1
 have hs:=he▸hs;apply af (iI hv hs) λk1 k2=>?_;have et':t'.panes=(er t').panes:=ab.symm;have hW:=oR hv k1 k2;apply Ah rfl trivial (fF (g:=294) (s1.inst e1) rfl rfl ?_);apply uf G (ps:=v.tr.panes) (ay hn rfl) ⟨dx,nm,s1.inst e1⟩ (s1.list e2) l1 (aL.mp k1.sm) (by exact rwL et' hW.nd) (λx hx=>k2.mem_iff.mp (by rwa [et']at hx)) (λx hx=>⟨_,(hF.sz x hx).sb s1⟩) ⟨_,(hF.sz v.act hv.act).sb s1⟩ (le_trans hlen (by decide)) λH3 x3 f3=>⟨false,rfl,trivial,?_⟩;have x3:=et'▸x3;exact q1 (ci v (er t')) (by unfold ot;apply rwL hs ?_;rfl) H3 ((s1.ex.trans x3).mono λb hb=>by
  rcases mc hb with rfl|hb
  ·exact .head _
  ·(apply ad (mP hb) λk hk z1z=>?_;subst z1z);exact .tail _ (mR ⟨k,k2.mem_iff.mp hk,rfl⟩)) f3 hW
theorem A0 {v:Win} {back:Bool} (hv:WOK v):WOK (xj v back)∧(xj v back).tr=Tr.gM back v.tr:=by
 apply af (jD (back:=back) hv) λk1 k2=>?_;exact⟨fc (oR hv k1 k2),dq⟩
theorem CV (G:GD W) {pa:Int->Addr} {r:Addr} {num:Int} {back:Bool} {v:Win} (hm:45<=m) (hF:FW H pa r num v) (hv:WOK v) (q:∀H',Ex (r::v.tr.panes.map pa) H H'->FW H' pa r num (xj v back)->Q .none H'):a7 W 388 [.ref r,.bool back] m H Q:=by
 apply a8 hF.rw λt R=>?_;apply bH (id R) λz1z hL he=>?_;(apply gQ z1z λdx nm lp e1 e2=>?_;clear z1z);have hsm:t.Sm:=aL.mp (he▸hv.fine.sm);have ept:t.panes=v.tr.panes:=by exact rwR he (rwL ab rfl)
 have hlen:=hv.fine.sm.len;apply bZ G rfl (show 44+1<=m from hm) rfl λn hn=>?_
 walk_at "wp"
 apply rwL (BE e1) ?_;apply kx G (by have:=hsm.dep;exact lu this hn rfl) hL hsm λr1 H1 s1 e3=>⟨⟨_,_,_,rfl,e3⟩,?_⟩;apply rwL (AD (s1.inst e1)) ?_;apply a8 ((hF.sz v.act hv.act).sb s1) λdxa ea=>?_;apply rwL (xo ea) ?_;apply⟨true,t.panes,e3,by apply rwL ept ?_;exact hv.act,by apply rwL ept ?_;unfold cap;exact le_trans hlen (by decide),r,_,_,_,_,294,rfl,s1.inst e1,rfl,rfl,?_⟩;apply rwL (BE (s1.inst e1)) ?_;apply Bb G (back:=back) (ay hn rfl) (hL.sb s1) (he▸hv.fine) (by exact rwL ept hv.nd) λt' H2 hs s2 l2=>?_;simp only[he]at hs;apply af (jD (back:=back) hv) λk1 k2=>?_;simp only[<-hs]at k1 k2;have et':t'.panes=(er t').panes:=ab.symm;have hW:=oR hv k1 k2;have S2:Sb H H2:=s1.trans s2;apply uf G (ps:=v.tr.panes) (ay hn rfl) ⟨dx,nm,S2.inst e1⟩ (S2.list e2) l2 (aL.mp k1.sm) (by exact rwL et' hW.nd) (λx hx=>k2.mem_iff.mp (by rwa [et']at hx)) (λx hx=>⟨_,(hF.sz x hx).sb S2⟩) ⟨_,(hF.sz v.act hv.act).sb S2⟩ (le_trans hlen (by decide)) λH3 x3 f3=>?_;have x3:=et'▸x3;apply a8 f3.rw λt3 z1z=>?_;obtain⟨⟨dx3,nm3,lp3,g1,g2⟩,_⟩:=z1z;apply fF (g:=308) g1 rfl rfl ?_;apply rwL (zC g1) (rwL ept ?_);have hi:v.tr.panes.idxOf v.act<(er t').panes.length:=by simp only[k2.length_eq];exact List.idxOf_lt_length_iff.mpr hv.act
 have hget:=getElem?_eq_getElem hi;have hmem:=getElem_mem hi;generalize (er t').panes[v.tr.panes.idxOf v.act]'hi=a at hget hmem;have hkl:=k1.sm.len;apply df (j:=v.tr.panes.idxOf v.act) (u:=.ref (pa a)) g2 rfl (by simp only[length_map];unfold cap;exact le_trans hkl (by decide)) (by apply rwL getElem?_map (rwL hget ?_);rfl) ?_;apply pg G (v:=ci v (er t')) (ay hn rfl) f3 hW (f3.pn a hmem) λH4 x4 f4=>?_;have hro:xj v back=cv a (ci v (er t')):=by
  unfold xj;apply rwR hs (rwL hget ?_);rfl
 apply q H4 ?_ (hro▸f4);apply((S2.ex.trans x3).trans x4).mono λb hb=>?_;rcases mc hb with rfl|hb
 ·exact .head _
 ·(apply ad (mP hb) λk hk z1z=>?_;subst z1z);exact .tail _ (mR ⟨k,k2.mem_iff.mp hk,rfl⟩)
theorem mo (G:GD W) {k:Int} (hm:2<=m) (q:∀a H',H a=none->Sb H H'->(∃dx,H' a=some (false,.inst 239 dx (si k 0 0)))->Q (.ref a) H'):iT W 239 [.int k] m H Q:=by
 apply ad (jH hm) λn z1z hn=>?_;subst z1z;apply⟨222,n,rfl,rfl,λa dx ha hd hne=>?_⟩;apply tL G rfl hn (ws:=[.none]) (λh _=>⟨_,_,rfl,rfl,rfl⟩) rfl λn _=>?_
 walk_at "wp"
 have e0:((H.set dx (.own a)).set a (.inst 239 dx [])) a=some (false,.inst 239 dx []):=AH.EP _ _ _;have st:∀{H:AH} {fs:List (Nat × AV)} {f:Nat} {u:AV} {QS:AH->Prop},H a=some (false,.inst 239 dx fs)->bJ 239 f=true->fs.length<=100->QS (H.set a (.inst 239 dx (put fs f u)))->cx (.ref a) f u H QS:=λe hf hl q=>by
  exact rwL (bX e hf hl) q
 apply st e0 (by decide) (by simp) (st (AH.EP _ _ _) (by decide) (by simp[aS]) (st (AH.EP _ _ _) (by decide) (by simp[aS,bB]) (st (AH.EP _ _ _) (by decide) (by simp[aS,bB]) (st (AH.EP _ _ _) (by decide) (by simp[aS,bB]) (st (AH.EP _ _ _) (by decide) (by simp[aS,bB]) (st (AH.EP _ _ _) (by decide) (by simp[aS,bB]) (st (AH.EP _ _ _) (by decide) (by simp[aS,bB]) ?_)))))));simp only[AH.set_set];apply⟨trivial,q a _ ha (λb f o n e _=>?_) ⟨dx,AH.EP _ _ _⟩⟩;apply rwL (AH.EQ _ _ (ak ha e)) (rwL (AH.EQ _ _ (ak hd e)) ?_);exact e
end
end
section
noncomputable def cT (p w h:Int):Win:=⟨.leaf () w h 0 0 p,p,none,false⟩
theorem su {p w h:Int} (hp:0<=p∧p<1000) (hw:1<=w∧w<=64) (hh:1<=h∧h<=64):WOK (cT p w h):=by
 apply⟨⟨⟨⟨hw.1,hh.1⟩,by simp[cT,Tr.au]⟩,by trivial,hw.2,hh.2,λs hs=>?_⟩,by simp[cT,Tr.au],by exact .head _,(λl e=>by exact nS e),λq hq=>?_⟩
 ·simp only[cT,Tr.pE,mem_singleton]at hs;subst hs;exact⟨hw.1,hw.2,hh.1,hh.2,by simp[Tr.x],by simp[Tr.x],by simp[Tr.y],by simp[Tr.y]⟩
 ·simp only[cT,Tr.au,mem_singleton]at hq;subst hq;exact hp
section
variable {W:Wd} {n m:Nat} {H:AH} {Q:AV->AH->Prop} {QS:AH->Prop}
theorem sV (G:GD W) {pa:Int->Addr} {num p w h:Int} {nm:Array UInt8} (hm:38<=m) (hp:∃s,PN H pa p s) (hw:1<=w∧w<=64) (hh:1<=h∧h<=64)
  (q:∀a H',H a=none->Ex [pa p] H H'->FW H' pa a num (cT p w h)->Q (.ref a) H'):iT W 420 [.int num,.bytes nm,.ref (pa p),.int w,.int h] m H Q:=by
 apply ad (jH (show 37+1<=m from hm)) λn z1z hn=>?_;subst z1z;apply⟨264,n,rfl,rfl,λa dx ha hd hne=>?_⟩;apply a7.fz (bZ G rfl (show 36+1<=n from hn) rfl λn hn=>?_);apply a8 hp λs z1z=>a8 z1z λdxp ep=>?_;clear hp z1z;have s0:Sb H ((H.set dx (.own a)).set a (.inst 420 dx [])):=λb f o n e _=>by
  apply rwL (AH.EQ _ _ (ak ha e)) (rwL (AH.EQ _ _ (ak hd e)) ?_);exact e
 have e0:((H.set dx (.own a)).set a (.inst 420 dx [])) a=some (false,.inst 420 dx []):=AH.EP _ _ _;generalize (H.set dx (.own a)).set a (.inst 420 dx [])=H0 at s0 e0;have apa:pa p≠a:=λz=>by simp only[z,ha]at ep;exact nS ep
 walk_at "wp"
 have st:∀{H:AH} {fs:List (Nat × AV)} {f:Nat} {u:AV} {QS:AH->Prop},H a=some (false,.inst 420 dx fs)->bJ 420 f=true->fs.length<=100->(∀H',Ex [a] H H'->H' a=some (false,.inst 420 dx (put fs f u))->QS H')->cx (.ref a) f u H QS:=λe hf hl q=>by
  exact rwL (bX e hf hl) (q _ Ex.put (AH.EP _ _ _))
 apply st e0 (by decide) (by simp) λH1 x1 e1=>st e1 (by decide) (by simp[aS]) λH2 x2 e2=>⟨by decide,λrl hrl=>?_⟩;have s3:Sb H2 (H2.set rl (.list [.ref (pa p)])):=.new hrl;have el3:(H2.set rl (.list [.ref (pa p)])) rl=some (false,.list ([p].map λn=>.ref (pa n))):=AH.EP _ _ _;generalize H2.set rl (.list [.ref (pa p)])=H3 at s3 el3;have rla:rl≠a:=λz=>by simp only[z,e2]at hrl;exact sN hrl
 apply st (s3.inst e2) (by decide) (by simp[aS,bB]) λH4 x4 e4=>st e4 (by decide) (by simp[aS,bB]) λH5 x5 e5=>st e5 (by decide) (by simp[aS,bB]) λH6 x6 e6=>?_;have X2:Ex [a] H H2:=s0.ex.trans (x1.trans x2);have X6:Ex [a] H H6:=X2.trans (s3.ex.trans (x4.trans (x5.trans x6)));apply rwL (xo (X6.inst ep (λz=>apa (mS z)))) ?_;apply Ec G (rW hn) λla ll H7 hla hll s7 l7=>?_;apply st (s7.inst e6) (by decide) (by simp[aS,bB]) λH8 x8 e8=>st e8 (by decide) (by simp[aS,bB]) λH9 x9 e9=>st e9 (by decide) (by simp[aS,bB]) λH10 x10 e10=>st e10 (by decide) (by simp[aS,bB]) λH11 x11 e11=>st e11 (by decide) (by simp[aS,bB]) λH12 x12 e12=>?_;have Y:Ex [a] H7 H12:=x8.trans (x9.trans (x10.trans (x11.trans x12)));have X12:Ex [a] H H12:=X6.trans (s7.ex.trans Y);have e12':H12 a=some (false,.inst 420 dx (dP num nm rl (pa p) (b0 pa none) la false)):=e12;have M7:Mu H7 [a]:=.cons (s7.inst e6) .nil;have hl12:H12 rl=some (false,.list ([p].map λn=>.ref (pa n))):=by
  have k:Ex [a] H3 H12:=(x4.trans (x5.trans x6)).trans (s7.ex.trans Y);exact k.list el3 (λz=>rla (mS z))
 have R:RO false H12 pa a num (cT p w h) (.leaf (la,ll) w h 0 0 p) (cT p w h).tr.panes:=⟨⟨dx,nm,rl,e12',hl12⟩,l7.mu Y M7,rfl⟩;have P:∀n∈(cT p w h).tr.panes,∃s,PN H12 pa n s:=λn hn=>by
  simp only[cT,Tr.au,mem_singleton]at hn;obtain rfl:=hn.symm;exact⟨s,dxp,X12.inst ep (λz=>apa (mS z))⟩
 apply fF (g:=287) e12' rfl rfl ?_;apply ug G (rW hn) R P (P p (.head _)) ⟨⟨hw.1,hh.1⟩,by simp[cT,Tr.au]⟩ (by simp[cT,Tr.au]) λH13 x13 h13=>⟨[rl],trivial,q a _ ha ?_ ?_⟩
 ·have hN:Nw H [rl]:=Nw.ex X2 (λb hb hz=>rla (rwR (mS hb) (rwL (mS hz) rfl))) (.of hrl);have k:Ex [a,pa p] H H13:=(X12.mono λb hb=>by simp only[mS hb];exact .head _).trans (x13.mono λb hb=>by exact List.mem_cons_of_mem a hb);have k':Ex [pa p] H H13:=λb f o no e hb=>k b f o no e λz=>by
   simp only[mem_cons,not_mem_nil,or_false]at z;rcases z with z|z
   ·simp only[z,ha]at e;exact nS e
   ·exact hb (by simp[z])
  exact tI k' hN
 ·have rout:a∉(cT p w h).tr.panes.map pa:=dT R P;have rlout:rl∉(cT p w h).tr.panes.map pa:=λz=>by
   apply ad (mP z) λk hk ek=>?_;apply a8 (P k hk) λs z1z=>a8 z1z λd e'=>?_;simp only[ek,hl12]at e';lia
  apply⟨⟨.leaf (la,ll) w h 0 0 p,⟨⟨dx,nm,rl,gX gi (x13.inst e12' rout) (λz=>rla (mS z).symm),?_⟩,((l7.mu Y M7).mu x13 (PN.mu P)).le xq,rfl⟩⟩,λn hn=>(h13 n hn).fz λz=>?_⟩
  ·exact ir (as:=[rl]) aw (x13.list hl12 rlout) (.head _)
  ·exact rlout (by simp only[<-mS z];exact mR ⟨n,hn,rfl⟩)
theorem y0 (G:GD W) {pa:Int->Addr} {r:Addr} {num:Int} {v:Win} (hm:2<=m) (hR:RW H pa r num v) (q:Q (.int v.tr.w) H):aQ W (.ref r) 1 m H Q:=by
 apply ad (jH hm) λn z1z hn=>?_;subst z1z;apply a8 hR λt z1z=>bH z1z λz2z hL he=>gQ z2z λdx nm lp e1 e2=>?_;clear hR z1z z2z;apply af hL.nd λz1z _=>?_;(apply a8 z1z λdxt et=>?_;clear z1z);apply⟨r,_,_,_,_,rfl,e1,.inr ⟨271,n,rfl,rfl,bZ G rfl hn rfl λn hn=>?_⟩⟩;ext;apply gW e1 (yO et ?_);have q:=he.symm▸q;have:(er t).w=t.w:=Tr.ii;rwa [this]at q
theorem y5 (G:GD W) {pa:Int->Addr} {r:Addr} {num:Int} {v:Win} (hm:2<=m) (hR:RW H pa r num v) (q:Q (.int v.tr.h) H):aQ W (.ref r) 2 m H Q:=by
 apply ad (jH hm) λn z1z hn=>?_;subst z1z;apply a8 hR λt z1z=>bH z1z λz2z hL he=>gQ z2z λdx nm lp e1 e2=>?_;clear hR z1z z2z;apply af hL.nd λz1z _=>?_;(apply a8 z1z λdxt et=>?_;clear z1z);apply⟨r,_,_,_,_,rfl,e1,.inr ⟨279,n,rfl,rfl,bZ G rfl hn rfl λn hn=>?_⟩⟩;ext;apply gW e1 (yP et ?_);have q:=he.symm▸q;have:(er t).h=t.h:=Tr.ik;rwa [this]at q
theorem jl {t:T} (h:t.Fine):(1<=t.w∧t.w<=64)∧1<=t.h∧t.h<=64:=
 ⟨⟨by simp only[Tr.cY];exact Tr.cB h.ok h.geo true,h.bw⟩,by simp only[Tr.cZ];exact Tr.cB h.ok h.geo false,h.bh⟩
theorem CU (G:GD W) {pa:Int->Addr} {r:Addr} {num num2 p:Int} {nm:Array UInt8} {v:Win} (hm:50<=m) (hF:FW H pa r num v) (hv:WOK v) (hp:∃s,PN H pa p s) (q0:ce v p=none->∀H',Sb H H'->Q .none H')
  (q1:∀v',ce v p=some v'->∀a H',Ex (r::v.tr.panes.map pa) H H'->(∀f o,no o->H a≠some (f,o))->FW H' pa r num v'->WOK v'->FW H' pa a num2 (cT p v.tr.w v.tr.h)->Q (.ref a) H'):a7 W 431 [.ref r,.ref (pa p),.int num2,.bytes nm] m H Q:=by
 apply bZ G rfl (show 49+1<=m from hm) rfl λn hn=>?_;ext;apply a8 hF.rw λt R=>?_;apply bH (id R) λz1z hL he=>?_;(apply gQ z1z λdx nm' lp e1 e2=>?_;clear z1z);apply bH (jl hv.fine) λfw fh0 fh1=>?_;apply y0 G (ay hn rfl) hF.rw (y5 G (ay hn rfl) hF.rw ⟨by decide,r,_,_,_,_,352,rfl,e1,rfl,rfl,?_⟩);apply zc G (ay hn rfl) hF hv hp (λhd H1 s1=>⟨λ_=>q0 hd H1 s1,λz=>by ac_nf⟩) λv' hd hpm H1 x1 f1 w1=>⟨(λz=>by ac_nf),λ_=>?_⟩<;>ext;have hd':=hd;unfold ce at hd';rw[if_pos hpm]at hd';cases hc:Tr.bc v.tr p with
 |none=>simp only[hc]at hd';exact nS hd'
 |some t'=>
  simp only[hc]at hd';obtain rfl:=sI hd';apply jO (cP hv hpm hc) λ_ hmem k1 hnd etr z1z=>?_;(apply af z1z λhfil _=>?_;clear z1z);have x1:=etr▸x1;apply a8 (id hp) λs z1z=>?_;(apply a8 z1z λdxp ep=>?_;clear z1z);have pno:pa p∉r::t'.panes.map pa:=λz=>by
   apply(mC z).elim (λz=>?_) λz=>?_
   ·simp only[z,e1]at ep;simp at ep
   ·apply ad (mP z) λk hk ek=>?_;apply af ((hmem k).mp hk) λhk1 hk2=>?_;exact hk2 ((hF.sz k hk1).inj ⟨dxp,ep⟩ ek)
  have sub:∀b∈r::t'.panes.map pa,b∈r::v.tr.panes.map pa:=λb hb=>by
   rcases mc hb with rfl|hb
   ·exact .head _
   ·(apply ad (mP hb) λk hk z1z=>?_;subst z1z);exact .tail _ (mR ⟨k,((hmem k).mp hk).1,rfl⟩)
  apply sV G (ay hn rfl) ⟨s,dxp,x1.inst ep pno⟩ fw ⟨fh0,fh1⟩ λa H2 ha x2 f2=>?_;have m2:Mu H1 [pa p]:=.cons (x1.inst ep pno) .nil;have f1':FW H2 pa r num (bC v p t'):=f1.ex x2 m2 (λz=>by
   simp only[<-mS z]at pno;exact pno (.head _)) λk hk z=>by
    simp only[etr]at hk;have:pa k=pa p:=mS z;exact pno (by simp only[<-this];exact .tail _ (mR ⟨k,hk,rfl⟩))
  apply q1 _ hd a H2 ((x1.mono sub).trans (x2.mono λb hb=>by simp only[mS hb];exact .tail _ (mR ⟨p,hpm,rfl⟩))) (λf o no e=>?_) f1' w1 f2;by_cases hx:a∈r::t'.panes.map pa
  ·rcases mc hx with rfl|hx
   ·obtain⟨_,⟨_,_,_,g,_⟩,_⟩:=f1.rw;simp only[ha]at g;exact nS g
   ·(apply ad (mP hx) λk hk z1z=>?_;subst z1z);apply a8 (f1.sz k (by exact rwL etr hk)) λd g=>?_;simp only[ha]at g;exact nS g
  ·have:=x1 a f o no e hx;rw[ha]at this;exact nS this
end
end
section
theorem eJ {t t':T} {p fresh:Int} {d before:Bool} {size:Option Int} (hf:t.Fine) (nd:t.panes.Nodup) (hs:Tr.bl t p fresh d size before=some t') (hl:t.panes.length+1<=20) :
  t'.Fine∧t'.panes.Nodup∧(∀x,x∈t'.panes↔x∈t.panes\/x=fresh)∧fresh∉t.panes∧t'.panes.length=t.panes.length+1∧∀d,t'.side d=t.side d:=by
 apply jh (Tr.jA hf hs hl) λk1 k2 k3 z1z=>?_;(apply bb z1z λpre post k4 k5=>?_;clear z1z);have per:t'.panes.Perm (fresh::t.panes):=by
  simp only[k4,k5];(generalize before=before'z;obtain⟨⟩:=before'z)
  ·simp only[false_eq_true,if_false,append_assoc,cons_append,nil_append];have h:(pre++p::fresh::post)=(pre++[p])++fresh::post:=by simp
   apply rwL h ?_;exact List.perm_middle.trans (by simp)
  ·simp only[if_true,append_assoc,cons_append,nil_append];exact List.perm_middle
 apply⟨k1,per.nodup_iff.mpr (nodup_cons.mpr ⟨k3,nd⟩),λx=>by simp only[per.mem_iff,mem_cons,or_comm],k3,by apply rwL per.length_eq ?_;rfl,k2⟩
noncomputable def eS (v:Win) (p b:Int) (d:Bool) (size:Option Int) (before:Bool):Option Win:=
 if p∈v.tr.panes∧(b∈v.tr.panes∧p≠b)then(Tr.bc v.tr p).bind λg=>(Tr.bl g b p d size before).map λt'=>cv p (ci v t')else none
noncomputable def dX (v1 v2:Win) (p b:Int) (d:Bool) (size:Option Int) (before:Bool):Option (Win × Win):=
 if p∈v1.tr.panes∧(b∈v2.tr.panes∧p≠b)then(Tr.bl v2.tr b p d size before).bind λt'=>(ce v1 p).map λv1'=>(v1',cv p (ci v2 t'))else none
theorem ke {v:Win} {p b:Int} {t' g:T} {d before:Bool} {size:Option Int} (hv:WOK v) (hp:p∈v.tr.panes) (hc:Tr.bc v.tr p=some g) (hs:Tr.bl g b p d size before=some t'):WOK (ci v t')∧∀x,x∈t'.panes↔x∈v.tr.panes:=by
 apply jO (cP hv hp hc) λ_ hmem k1 hnd _ _=>?_;have hlen:g.panes.length+1<=20:=by
  have h1:v.tr.panes.length≠1:=λz=>by simp only[Tr.cM hv.fine.ok (.inr z)]at hc;exact nS hc
  apply pS (Tr.bi hv.fine hp h1) λt2 e1 _ _ z1z=>?_;(apply bb z1z λpre post k4 k5=>?_;clear z1z);simp only[hc]at e1;obtain rfl:=sI e1;have:=hv.fine.sm.len;rw[k4]at this;apply rwL k5 ?_;simp only[length_append,length_cons]at *;exact this
 apply jO (eJ k1 hnd hs hlen) λj1 j2 j3 j4 _ _=>?_;have hm:∀x,x∈t'.panes↔x∈v.tr.panes:=λx=>by
  rw[j3,hmem];constructor
  ·rintro(h|rfl)
   ·exact h.1
   ·exact hp
  ·intro h;by_cases hx:x=p
   ·exact .inr hx
   ·exact .inl ⟨h,hx⟩
 exact⟨⟨j1,j2,(hm _).mpr hv.act,λl hl=>(hm l).mpr (hv.last l hl),λx hx=>hv.rng x ((hm x).mp hx)⟩,hm⟩
section
variable {W:Wd} {n m:Nat} {H:AH} {Q:AV->AH->Prop} {QS:AH->Prop}
theorem B7 (G:GD W) {pa:Int->Addr} {r:Addr} {num p b:Int} {d before:Bool} {size:Option Int} {v:Win} (hm:50<=m) (hF:FW H pa r num v) (hv:WOK v) (hp:∃s,PN H pa p s) (hb:∃s,PN H pa b s) (q0:eS v p b d size before=none->∀H',Sb H H'->Q (.bool false) H')
  (q1:∀v',eS v p b d size before=some v'->∀H',Ex (r::v.tr.panes.map pa) H H'->FW H' pa r num v'->WOK v'->Q (.bool true) H'):a7 W 439 [.ref r,.ref (pa p),.ref r,.ref (pa b),.bool d,cR size,.bool before] m H Q:=by
 apply a8 hF.rw λt R=>?_;apply bH (id R) λz1z hL he=>?_;(apply gQ z1z λdx nm lp e1 e2=>?_;clear z1z);apply a8 (id hp) λsp z1z=>?_;(apply a8 z1z λdxp ep=>?_;clear z1z);apply a8 (id hb) λsb z1z=>?_;(apply a8 z1z λdxb eb=>?_;clear z1z);have hlen:=hv.fine.sm.len;apply tL G rfl (show 49+1<=m from hm) (ws:=[.bool true]) (λh _=>⟨_,_,rfl,rfl,rfl⟩) rfl λn hn=>?_;ext;have no:¬(p∈v.tr.panes∧(b∈v.tr.panes∧p≠b))->Q (.bool false) H:=λh=>q0 (if_neg h) H .refl;apply fF (g:=301) e1 rfl rfl (kR G (ay hn rfl) R hF.pn hp ⟨λh=>⟨λ_=>no λz=>?_,λz=>by ac_nf⟩,λh=>(fF (g:=301) e1 rfl rfl (kR G (ay hn rfl) R hF.pn hb ⟨λh2=>⟨λ_=>no λz=>?_,λz=>by ac_nf⟩,λh2=>?_⟩))⟩)
 ·simp[z.1]at h
 ·simp[z.2.1]at h2
 have h:p∈v.tr.panes:=by simpa using h
 have h2:b∈v.tr.panes:=by simpa using h2
 apply⟨decide (pa p=pa b),rfl,⟨⟨_,ep,λz=>by ac_nf⟩,_,eb⟩,λhd=>no λz=>z.2.2 ((hF.sz p h).inj (hF.sz b h2) (of_decide_eq_true hd)),λhd=>?_⟩<;>ext;have hpb:p≠b:=λz=>by have hd:=z▸hd;simp at hd
 have h1:v.tr.panes.length≠1:=λz=>by
  apply a8 (List.length_eq_one_iff.mp z) λx hx=>?_;simp only[hx]at h h2;simp only[mS h,mS h2]at hpb;exact hpb rfl
 apply gW e1 ?_<;>ext;have hdec:decide (r=r)=true:=by exact of_decide_eq_self_eq_true r
 apply⟨decide (r=r),rfl,⟨⟨_,e1,λz=>by ac_nf⟩,_,e1⟩,λ_=>?_,λz=>by rw[hdec]at z;ac_nf⟩<;>ext;apply iq ep ?_;apply a8 (Tr.bi hv.fine h h1) λg z1z=>?_;obtain⟨hc,_⟩:=z1z;apply wN G (ay hn rfl) hL (he▸hv.fine) (λhs H1 s1=>by simp only[he,hc]at hs;exact sN hs) λg' hs H1 s1 l1=>?_<;>ext;simp only[he,hc]at hs;obtain rfl:=sI hs;apply jO (cP hv h hc) λ_ hmem k1 hnd _ _=>?_;apply iq (s1.inst eb) (iq (s1.inst ep) ?_);apply pj G (ay hn rfl) l1 k1 (λhs H2 s2=>?_) λt' hs H2 s2 l2=>?_<;>ext
 ·exact j6 rfl trivial (q0 (by unfold eS;apply rwL (if_pos ⟨h,h2,hpb⟩) (rwL hc ?_);simp[hs]) H2 (s1.trans s2))
 apply af (ke hv h hc hs) λhW hm'=>?_;have et':t'.panes=(er t').panes:=ab.symm;have S2:Sb H H2:=s1.trans s2;apply iN rfl trivial ⟨decide (r=r),rfl,⟨⟨_,S2.inst e1,λz=>by ac_nf⟩,_,S2.inst e1⟩,(λz=>by rw[hdec]at z;ac_nf),λ_=>(fF (g:=294) (S2.inst e1) rfl rfl ⟨xt rfl,λlm hlm=>?_⟩)⟩;have s3:Sb H2 (H2.set lm (.list [.ref (pa p)])):=.new hlm;have em:(H2.set lm (.list [.ref (pa p)])) lm=some (false,.list ([p].map λn=>.ref (pa n))):=AH.EP _ _ _;generalize H2.set lm (.list [.ref (pa p)])=H3 at s3 em;have S3:Sb H H3:=S2.trans s3;apply wL G (ps:=v.tr.panes) (ms:=[p]) (ay hn rfl) ⟨dx,nm,S3.inst e1⟩ (S3.list e2) em (l2.sb s3) (aL.mp hW.fine.sm) (by exact rwL et' hW.nd) (λx hx=>mem_append_left _ ((hm' x).mp (by rwa [et']at hx))) (λx hx=>?_) ⟨_,(hF.sz v.act hv.act).sb S3⟩ (by simp;exact le_trans hlen (by decide)) λH4 x4 f4=>?_<;>ext
 ·apply(mA hx).elim (λhx=>?_) λhx=>?_
  ·exact⟨_,(hF.sz x hx).sb S3⟩
  ·exact rwL (mS hx) ⟨_,(hF.sz p h).sb S3⟩
 have x4:=et'▸x4;have hpm:p∈(er t').panes:=(hm' p).mpr h;apply a8 f4.rw λt4 z1z=>?_;obtain⟨⟨dx4,nm4,lp4,g4,_⟩,_⟩:=z1z;have sub:∀b∈r::(er t').panes.map pa,b∈r::v.tr.panes.map pa:=λb hb=>by
  rcases mc hb with rfl|hb
  ·exact .head _
  ·(apply ad (mP hb) λk hk z1z=>?_;subst z1z);exact .tail _ (mR ⟨k,(hm' k).mp hk,rfl⟩)
 apply⟨λ_=>(fF (g:=308) g4 rfl rfl (pg G (v:=ci v (er t')) (ay hn rfl) f4 hW (f4.pn p hpm) λH5 x5 f5=>?_)),λz=>by ac_nf⟩<;>ext;exact q1 _ (by unfold eS;apply rwL (if_pos ⟨h,h2,hpb⟩) (rwL hc ?_);simp[hs]) H5 ((S3.ex.trans (x4.trans x5)).mono sub) f5 (fc hW)
theorem B8 (G:GD W) {pa:Int->Addr} {r r2:Addr} {num num2 p b:Int} {d before:Bool} {size:Option Int} {v v2:Win} (hm:50<=m) (hF:FW H pa r num v) (hv:WOK v) (hF2:FW H pa r2 num2 v2) (hv2:WOK v2) (hrr:r≠r2) (dis:∀x∈v.tr.panes,x∉v2.tr.panes) (hl1:v.tr.panes.length≠1)
  (hl2:v2.tr.panes.length+1<=20) (hp:∃s,PN H pa p s) (hb:∃s,PN H pa b s) (q0:dX v v2 p b d size before=none->∀H',Sb H H'->Q (.bool false) H')
  (q1:∀w,dX v v2 p b d size before=some w->∀H',Ex (r::r2::(v.tr.panes++v2.tr.panes).map pa) H H'->FW H' pa r num w.1->WOK w.1->FW H' pa r2 num2 w.2->WOK w.2->Q (.bool true) H'):a7 W 439 [.ref r,.ref (pa p),.ref r2,.ref (pa b),.bool d,cR size,.bool before] m H Q:=by
 apply a8 hF.rw λt R=>?_;apply bH (id R) λz1z hL he=>?_;(apply gQ z1z λdx nm lp e1 e2=>?_;clear z1z);apply a8 hF2.rw λu R2=>?_;apply bH (id R2) λz1z hL2 he2=>?_;(apply gQ z1z λdx2 nm2 lp2 g1 g2=>?_;clear z1z);apply a8 (id hp) λsp z1z=>?_;(apply a8 z1z λdxp ep=>?_;clear z1z);apply a8 (id hb) λsb z1z=>?_;(apply a8 z1z λdxb eb=>?_;clear z1z);have hlen:=hv.fine.sm.len;apply tL G rfl (show 49+1<=m from hm) (ws:=[.bool true]) (λh _=>⟨_,_,rfl,rfl,rfl⟩) rfl λn hn=>?_;ext;have no:¬(p∈v.tr.panes∧(b∈v2.tr.panes∧p≠b))->Q (.bool false) H:=λh=>q0 (if_neg h) H .refl;apply fF (g:=301) e1 rfl rfl (kR G (ay hn rfl) R hF.pn hp ⟨λh=>⟨λ_=>no λz=>?_,λz=>by ac_nf⟩,λh=>(fF (g:=301) g1 rfl rfl (kR G (ay hn rfl) R2 hF2.pn hb ⟨λh2=>⟨λ_=>no λz=>?_,λz=>by ac_nf⟩,λh2=>?_⟩))⟩)
 ·simp[z.1]at h
 ·simp[z.2.1]at h2
 have h:p∈v.tr.panes:=by simpa using h
 have h2:b∈v2.tr.panes:=by simpa using h2
 have hpb:p≠b:=λz=>dis p h (z▸h2);apply⟨decide (pa p=pa b),rfl,⟨⟨_,ep,λz=>by ac_nf⟩,_,eb⟩,(λhd=>absurd ((hF.sz p h).inj (hF2.sz b h2) (of_decide_eq_true hd)) hpb),λ_=>?_⟩<;>ext;apply gW g1 ?_<;>ext;have hdec:decide (r=r2)=false:=by simpa using hrr
 apply⟨decide (r=r2),rfl,⟨⟨_,e1,λz=>by ac_nf⟩,_,g1⟩,(λz=>by rw[hdec]at z;ac_nf),λ_=>?_⟩<;>ext;apply iq eb (iq ep ?_);apply pj G (ay hn rfl) hL2 (he2▸hv2.fine) (λhs H2 s2=>?_) λt' hs H2 s2 l2=>?_<;>ext
 ·have hs:=he2▸hs;exact j6 rfl trivial (q0 (by unfold dX;apply rwL (if_pos ⟨h,h2,hpb⟩) ?_;simp[hs]) H2 s2)
 have hs:=he2▸hs;apply jO (eJ hv2.fine hv2.nd hs hl2) λj1 j2 j3 j4 _ _=>?_;have et':t'.panes=(er t').panes:=ab.symm;have hW:WOK (ci v2 (er t')):=⟨j1,j2,(j3 _).mpr (.inl hv2.act),λl e=>(j3 l).mpr (.inl (hv2.last l e)),λx hx=>by
  rcases((j3 x).mp hx).imp_right Eq.symm with h'|rfl
  ·exact hv2.rng x h'
  ·exact hv.rng p h⟩
 have F1:=hF.sb s2;apply a8 (Tr.bi hv.fine h hl1) λg z1z=>?_;obtain⟨hc,_⟩:=z1z;have hdrop:ce v p=some (bC v p g):=by unfold ce;apply rwL (if_pos h) (rwL hc ?_);rfl
 apply jO (cP hv h hc) λhWd hmem k1 hnd etr z1z=>?_;(apply af z1z λhfil _=>?_;clear z1z);apply iN rfl trivial ⟨decide (r=r2),rfl,⟨⟨_,s2.inst e1,λz=>by ac_nf⟩,_,s2.inst g1⟩,λ_=>(fF (g:=352) (s2.inst e1) rfl rfl ?_),λz=>by rw[hdec]at z;ac_nf⟩;apply zc G (ay hn rfl) F1 hv (F1.pn p h) (λhd=>by rw[hdrop]at hd;exact sN hd) λv' hd _ H3 x3 f3 w3=>?_<;>ext;simp only[hdrop]at hd;obtain rfl:=sI hd;have x3:=etr▸x3;have pin:∀k∈v.tr.panes,∀k'∈v2.tr.panes,pa k≠pa k':=λk hk k' hk' z=>dis k hk ((hF.sz k hk).inj (hF2.sz k' hk') z▸hk');have rp2:r2∉v.tr.panes.map pa:=hF2.out hF.pn;have rp1:r∉v2.tr.panes.map pa:=hF.out hF2.pn;have x3s:Ex (r::v.tr.panes.map pa) H2 H3:=x3.mono λb hb=>by
  rcases mc hb with rfl|hb
  ·exact .head _
  ·(apply ad (mP hb) λk hk z1z=>?_;subst z1z);exact .tail _ (mR ⟨k,((hmem k).mp hk).1,rfl⟩)
 have m3:Mu H2 (r::v.tr.panes.map pa):=F1.mu;have nin2:∀k∈v2.tr.panes,pa k∉r::v.tr.panes.map pa:=λk hk z=>by
  apply(mC z).elim (λz=>?_) λz=>?_
  ·exact rp1 (by simp only[<-z];exact mR ⟨k,hk,rfl⟩)
  ·apply ad (mP z) λk' hk' e=>?_;exact pin k' hk' k hk e
 have r2n:r2∉r::v.tr.panes.map pa:=λz=>by
  apply(mC z).elim (λz=>?_) λz=>?_
  ·exact hrr z.symm
  ·exact rp2 z
 have F3:FW H3 pa r2 num2 v2:=(hF2.sb s2).ex x3s m3 r2n nin2;have e3:=x3s.inst (s2.inst g1) r2n;have g3:=x3s.fz m3 aw (s2.list g2);have l3:=l2.mu x3s m3;apply fF (g:=294) e3 rfl rfl ⟨xt rfl,λlm hlm=>?_⟩;have s4:Sb H3 (H3.set lm (.list [.ref (pa p)])):=.new hlm;have em:(H3.set lm (.list [.ref (pa p)])) lm=some (false,.list ([p].map λn=>.ref (pa n))):=AH.EP _ _ _;generalize H3.set lm (.list [.ref (pa p)])=H4 at s4 em;have pp3:∃s,PN H3 pa p s:=⟨_,dxp,x3.inst (s2.inst ep) λz=>by
  apply(mC z).elim (λz=>?_) λz=>?_
  ·simp only[z,e1]at ep;simp at ep
  ·apply ad (mP z) λk hk ek=>?_;apply af ((hmem k).mp hk) λhk1 hk2=>?_;exact hk2 ((hF.sz k hk1).inj ⟨dxp,ep⟩ ek)⟩
 apply wL G (ps:=v2.tr.panes) (ms:=[p]) (ay hn rfl) ⟨dx2,nm2,s4.inst e3⟩ (s4.list g3) em (l3.sb s4) (aL.mp j1.sm) (by exact rwL et' j2) (λx hx=>?_) (λx hx=>?_) ⟨_,(F3.sz v2.act hv2.act).sb s4⟩ (by simp;exact yy hl2 rfl) λH5 x5 f5=>?_<;>ext
 ·rw[et']at hx;rcases((j3 x).mp hx).imp_right Eq.symm with hx|rfl
  ·exact mem_append_left _ hx
  ·exact mem_append_right _ (.head _)
 ·apply(mA hx).elim (λhx=>?_) λhx=>?_
  ·exact⟨_,(F3.sz x hx).sb s4⟩
  ·apply rwL (mS hx) ?_;apply a8 pp3 λs hs=>?_;clear pp3;exact⟨s,hs.sb s4⟩
 have x5:=et'▸x5;have hpm:p∈(er t').panes:=(j3 p).mpr (.inr rfl);apply a8 f5.rw λt5 z1z=>?_;obtain⟨⟨dx5,nm5,lp5,g5,_⟩,_⟩:=z1z;apply⟨λ_=>(fF (g:=308) g5 rfl rfl (pg G (v:=ci v2 (er t')) (ay hn rfl) f5 hW (f5.pn p hpm) λH6 x6 f6=>?_)),λz=>by ac_nf⟩<;>ext;have X56:Ex (r2::(er t').panes.map pa) H4 H6:=x5.trans x6;have f34:=f3.sb s4;have P4:∀k∈(er t').panes,∃s,PN H4 pa k s:=λk hk=>by
  rcases((j3 k).mp hk).imp_right Eq.symm with hk|rfl
  ·exact⟨_,(F3.sz k hk).sb s4⟩
  ·(apply a8 pp3 λs hs=>?_;clear pp3);exact⟨s,hs.sb s4⟩
 have m4:Mu H4 (r2::(er t').panes.map pa):=.cons (s4.inst e3) (PN.mu P4);have f36:FW H6 pa r num (bC v p g):=f34.ex X56 m4 (λz=>by
  apply(mC z).elim (λz=>?_) λz=>?_
  ·exact hrr z
  ·exact f34.out P4 z) λk hk z=>by
  simp only[etr]at hk;apply af ((hmem k).mp hk) λhk1 hk2=>?_;apply(mC z).elim (λz=>?_) λz=>?_
  ·exact rp2 (by simp only[<-z];exact mR ⟨k,hk1,rfl⟩)
  ·apply ad (mP z) λk' hk' ek=>?_;apply a8 (P4 k' hk') λs' hs'=>?_;have:k'=k:=hs'.inj (f34.sz k (by exact rwL etr hk)) ek;obtain rfl:=this.symm;apply((j3 k).mp hk').elim (λhk'=>?_) λhk'=>?_
   ·exact dis k hk1 hk'
   ·exact hk2 hk'
 apply q1 (bC v p g,cv p (ci v2 (er t'))) (by unfold dX;apply rwL (if_pos ⟨h,h2,hpb⟩) ?_;simp[hs,hdrop]) H6 ?_ f36 w3 f6 (fc hW);apply((s2.ex.trans x3s).mono λb hb=>?_).trans (s4.ex.trans (X56.mono λb hb=>?_))
 ·rcases mc hb with rfl|hb
  ·exact .head _
  ·exact rwL map_append (.tail _ (.tail _ (mem_append_left _ hb)))
 ·rcases mc hb with rfl|hb
  ·exact .tail _ (.head _)
  ·(apply ad (mP hb) λk hk z1z=>?_;subst z1z);apply rwL map_append ?_;rcases((j3 k).mp hk).imp_right Eq.symm with hk|rfl
   ·exact .tail _ (.tail _ (mem_append_right _ (mR ⟨k,hk,rfl⟩)))
   ·exact .tail _ (.tail _ (mem_append_left _ (mR ⟨p,h,rfl⟩)))
end
end
section
noncomputable def aV (v:Win) (gone fresh:Int):Win:=
 ⟨Tr.jG (v.tr.panes.map λx=>if x=gone then fresh else x) v.tr,if v.act=gone then fresh else v.act,if v.last=some gone then some fresh else v.last,false⟩
theorem i7 {v:Win} {gone fresh:Int} (hv:WOK v) (hg:gone∈v.tr.panes) (hf:fresh∉v.tr.panes) (hr:0<=fresh∧fresh<1000) :
  WOK (aV v gone fresh)∧(aV v gone fresh).tr.panes=v.tr.panes.map (λx=>if x=gone then fresh else x)∧∀x,x∈(aV v gone fresh).tr.panes↔(x∈v.tr.panes∧x≠gone)\/x=fresh:=by
 apply bH (Tr.jF (ns:=v.tr.panes.map λx=>if x=gone then fresh else x) hv.fine hv.nd (by exact length_map ..)) λk1 k2 _=>?_;have e:(aV v gone fresh).tr.panes=v.tr.panes.map (λx=>if x=gone then fresh else x):=k2;have hm:∀x,x∈(aV v gone fresh).tr.panes↔(x∈v.tr.panes∧x≠gone)\/x=fresh:=λx=>by
  rewrite [e,mem_map]
  constructor
  ·rintro⟨y,hy,rfl⟩;by_cases h:y=gone
   ·exact rwL (if_pos h) (.inr rfl)
   ·exact rwL (if_neg h) (.inl ⟨hy,h⟩)
  ·rintro(⟨h1,h2⟩|rfl)
   ·exact⟨x,h1,if_neg h2⟩
   ·exact⟨gone,hg,if_pos rfl⟩
 have nd:(aV v gone fresh).tr.panes.Nodup:=by
  apply rwL e ?_;apply List.pairwise_map.mpr (hv.nd.imp_of_mem λ{a b} ha hb hab z=>?_);split at z<;>split at z
  ·rename_i h1 h2;exact hab (h1.trans h2.symm)
  ·rename_i h1 h2;simp only[z]at hf;exact hf hb
  ·rename_i h1 h2;simp only[<-z]at hf;exact hf ha
  ·exact hab z
 apply⟨⟨k1,nd,?_,λl hl=>?_,λx hx=>?_⟩,e,hm⟩
 ·rw[hm];by_cases h:v.act=gone
  ·exact .inr (if_pos h)
  ·exact .inl ⟨by show(if v.act=gone then fresh else v.act)∈_;apply rwL (if_neg h) ?_;exact hv.act,by show(if v.act=gone then fresh else v.act)≠_;exact rwL (if_neg h) h⟩
 ·rw[hm];have hl:(if v.last=some gone then some fresh else v.last)=some l:=hl;split at hl
  ·cases hl;exact .inr rfl
  ·rename_i h;exact .inl ⟨hv.last l hl,λz=>h (z▸hl)⟩
 ·rcases((hm x).mp hx).imp_right Eq.symm with h|rfl
  ·exact hv.rng x h.1
  ·exact hr
noncomputable def xb:List CS:=[
  .assign (.name 43) (.comp (.ite (.cmp .eq (.loc 7) (.attr (.loc 75) 7)) (.attr (.loc 32) 7) (.loc 7)) 7 (.call 73 [(.attr (.loc 52) 19)]) (.k (.bool true))),
  .ite (.cmp .is (.attr (.loc 52) 17) (.loc 75)) [
   .assign (.attr (.loc 52) 17) (.loc 32)] [
],
  .ite (.cmp .is (.attr (.loc 52) 18) (.loc 75)) [
   .assign (.attr (.loc 52) 18) (.loc 32)] [
],
  .expr (.meth (.loc 52) 84 [(.call 170 [(.attr (.loc 52) 19),(.loc 43)]),(.list [(.loc 32)])])]
section
variable {W:Wd} {n m:Nat} {H:AH} {Q:AV->AH->Prop} {QS:AH->Prop}
theorem xc (G:GD W) {Z:am} {QS:am->AH->Prop} {RR:AV->AH->Prop} {pa:Int->Addr} {r:Addr} {num gone fresh:Int} {v:Win} (hn:40<=n) (h52:Z.lookup 52=some (.ref r)) (h75:Z.lookup 75=some (.ref (pa gone))) (h32:Z.lookup 32=some (.ref (pa fresh)))
  (hR:RW H pa r num v) (hv:WOK v) (hps:∀n∈v.tr.panes,∃s,PN H pa n s) (hfr:∃s,PN H pa fresh s) (hg:gone∈v.tr.panes) (hf:fresh∉v.tr.panes) (hrg:0<=fresh∧fresh<1000)
  (q:∀Z' H',Ex (r::(aV v gone fresh).tr.panes.map pa) H H'->FW H' pa r num (aV v gone fresh)->QS Z' H'):cG W n xb Z H QS RR:=by
 apply a8 hR λt z1z=>bH z1z λz2z hL he=>gQ z2z λdx nm lp e1 e2=>?_;clear hR z1z z2z;apply bH (i7 hv hg hf hrg) λhW hpan hm'=>?_;have hsm:t.Sm:=aL.mp (he▸hv.fine.sm);have ept:t.panes=v.tr.panes:=by exact rwR he (rwL ab rfl)
 have hlen:=hv.fine.sm.len;apply a8 (hps gone hg) λsg z1z=>a8 z1z λdxg eg=>?_;apply a8 hfr λsf z1z=>a8 z1z λdxf ef=>?_;clear hfr z1z;unfold xb;apply cI (.cons h52 (.cons h75 (.cons h32 .nil))) ?_;ext;apply gW e1 ?_;apply kx G (by have:=hsm.dep;exact lu this hn rfl) hL hsm λr1 H1 s1 el=>?_;apply cQ (g:=AV.int) (cs:=t.panes) (bD hsm.len) (λpre out H'=>H'=H1∧out=pre.map λx=>.int (if x=gone then fresh else x)) ⟨rfl,rfl⟩ ?_ ?_ ?_
 ·rintro pre out H' ⟨rfl,rfl⟩;exact⟨⟨true,el⟩,by simp⟩
 ·rintro pre u suf out H' hcs ⟨rfl,rfl⟩
  walk_at "w1"
  apply rwL (xo (s1.inst eg)) (rwL bu ?_);apply⟨λhc=>?_,λhc=>?_⟩
  ·apply rwL (xo (s1.inst ef)) ?_;have hc:u=gone:=by simpa using hc
   simp[hc]
  ·have hc:u≠gone:=by simpa using hc
   simp[hc]
 ·rintro out H' ⟨rfl,rfl⟩ r2 hr2;have s2:Sb H' (H'.set r2 (.list (t.panes.map λx=>.int (if x=gone then fresh else x)))):=.new hr2;have el2:(H'.set r2 (.list (t.panes.map λx=>.int (if x=gone then fresh else x)))) r2=some (false,.list ((v.tr.panes.map λx=>if x=gone then fresh else x).map .int)):=by simp only[AH.EP,ept];simp
  generalize H'.set r2 (.list (t.panes.map λx=>.int (if x=gone then fresh else x)))=H2 at s2 el2;have S2:Sb H H2:=s1.trans s2;have P2:∀n∈v.tr.panes,∃s,PN H2 pa n s:=λn hn=>let ⟨s,h⟩:=hps n hn;⟨s,h.sb S2⟩;have f2:PN H2 pa fresh sf:=⟨dxf,S2.inst ef⟩;have g2:PN H2 pa gone sg:=⟨dxg,S2.inst eg⟩;have inj:∀k∈v.tr.panes,pa k=pa gone->k=gone:=λk hk e=>let ⟨s,h⟩:=P2 k hk;h.inj g2 e;ext;apply wn (S2.inst e1) ?_;have rno:∀k s,PN H2 pa k s->pa k≠r:=λk s h z=>by
   apply a8 h λd h=>?_;simp only[z,S2.inst e1]at h;simp at h
  have M2:Mu H2 [r]:=.cons (S2.inst e1) .nil;have st1:∀(P:AH->Prop),(∀H3,Ex [r] H2 H3->H3 r=some (false,.inst 420 dx (dP num nm lp (pa (if v.act=gone then fresh else v.act)) (b0 pa v.last) t.tag.1 v.zoom))->P H3)->
    ∃b,lM (.ref (pa v.act)) (.ref (pa gone))=some b∧fh H2 (.ref (pa v.act)) (.ref (pa gone))∧((b=true->cx (.ref r) 17 (.ref (pa fresh)) H2 P)∧(b=false->P H2)):=by
   intro P hP;apply a8 (P2 v.act hv.act) λsa z1z=>?_;(apply a8 z1z λda ea=>?_;clear z1z);apply⟨decide (pa v.act=pa gone),rfl,⟨⟨_,ea,λz=>by ac_nf⟩,_,S2.inst eg⟩,λhd=>?_,λhd=>hP H2 .refl ?_⟩
   ·apply rwL (BR (S2.inst e1)) ?_;apply hP _ Ex.put ?_;rw[AH.EP,if_pos (inj _ hv.act (of_decide_eq_true hd))]
   ·have:v.act≠gone:=λz=>by have hd:=z▸hd;simp at hd
    exact rwL (if_neg this) (S2.inst e1)
  dsimp only[n8]
  walk_at "w1"
  apply st1 _ λH3 x3 e3=>?_;have P3:∀n∈v.tr.panes,∃s,PN H3 pa n s:=λn hn=>let ⟨s,h⟩:=P2 n hn;⟨s,h.ex x3 λz=>rno n s h (mS z)⟩;have g3:PN H3 pa gone sg:=g2.ex x3 λz=>rno _ _ g2 (mS z);apply ty e3 ?_;have st2:∀(P:AH->Prop),(∀H4,Ex [r] H3 H4->H4 r=some (false,.inst 420 dx (dP num nm lp (pa (if v.act=gone then fresh else v.act)) (b0 pa (if v.last=some gone then some fresh else v.last)) t.tag.1 v.zoom))->P H4)->
    ∃b,lM (b0 pa v.last) (.ref (pa gone))=some b∧fh H3 (b0 pa v.last) (.ref (pa gone))∧((b=true->cx (.ref r) 18 (.ref (pa fresh)) H3 P)∧(b=false->P H3)):=by
   intro P hP;cases hl:v.last with
   |none=>
    apply iN rfl trivial (hP H3 .refl ?_);have e:(if v.last=some gone then some fresh else v.last)=none:=by apply rwL hl ?_;rfl
    apply rwL e ?_;have e3:=hl▸e3;exact e3
   |some l=>
    have hlm:=hv.last l hl;apply a8 (P3 l hlm) λsl z1z=>?_;(apply a8 z1z λdl el'=>?_;clear z1z);apply a8 (id g3) λdg eg'=>?_;apply⟨decide (pa l=pa gone),rfl,⟨⟨_,el',λz=>by ac_nf⟩,_,eg'⟩,λhd=>?_,λhd=>hP H3 .refl ?_⟩
    ·have:l=gone:=inj l hlm (of_decide_eq_true hd);obtain rfl:=this.symm;have e:(if v.last=some gone then some fresh else v.last)=some fresh:=by apply rwL hl ?_;simp
     apply rwL (Br e3) ?_;apply hP _ Ex.put ?_;simp only[e,AH.EP];rfl
    ·have hne:l≠gone:=λz=>by have hd:=z▸hd;simp at hd
     have e:(if v.last=some gone then some fresh else v.last)=some l:=by apply rwL hl ?_;simp[hne]
     apply rwL e ?_;have e3:=hl▸e3;exact e3
  dsimp only[n8]
  walk_at "w1"
  apply st2 _ λH4 x4 e4=>?_;have X4:Ex [r] H2 H4:=x3.trans x4;apply fF (g:=294) e4 rfl rfl ?_;apply gW e4 ?_;have el4:=X4.list el2 (λz=>by simp only[mS z,S2.inst e1]at el2;simp at el2);apply wM G (ay hn rfl) ((hL.sb S2).mu X4 M2) hsm (by exact rwL ept hv.nd) el4 (Eq.symm (len_of_map_eq (congrArg (List.map λx=>if x=gone then fresh else x) ept))) λt' H5 ht s5 l5=>⟨by decide,λlm hlm=>?_⟩;simp only[he]at ht;have s6:Sb H5 (H5.set lm (.list [.ref (pa fresh)])):=.new hlm;have em:(H5.set lm (.list [.ref (pa fresh)])) lm=some (false,.list ([fresh].map λn=>.ref (pa n))):=AH.EP _ _ _;generalize H5.set lm (.list [.ref (pa fresh)])=H6 at s6 em;have S6:Sb H4 H6:=s5.trans s6;have tr':er t'=(aV v gone fresh).tr:=ht;have et':t'.panes=(aV v gone fresh).tr.panes:=by exact rwR tr' (rwL ab rfl)
  have P6:∀x∈v.tr.panes++[fresh],∃s,PN H6 pa x s:=λx hx=>by
   apply(mA hx).elim (λhx=>?_) λhx=>?_
   ·apply a8 (P2 x hx) λs h=>?_;exact⟨s,(h.ex X4 λz=>rno x s h (mS z)).sb S6⟩
   ·apply rwL (mS hx) ?_;exact⟨sf,(f2.ex X4 λz=>rno _ _ f2 (mS z)).sb S6⟩
  have hact:(if v.act=gone then fresh else v.act)∈v.tr.panes++[fresh]:=by
   split
   ·exact mem_append_right _ (.head _)
   ·exact mem_append_left _ hv.act
  apply wL G (ps:=v.tr.panes) (ms:=[fresh]) (a:=if v.act=gone then fresh else v.act) (l:=if v.last=some gone then some fresh else v.last) (ay hn rfl) ⟨dx,nm,S6.inst e4⟩ (S6.list (X4.fz M2 aw (S2.list e2))) em (l5.sb s6) (aL.mp (tr'▸hW.fine.sm)) (by exact rwL et' hW.nd) (λx hx=>?_) P6 (P6 _ hact) (by simp;exact le_trans hlen (by decide)) λH7 x7 f7=>?_
  ·rw[et']at hx;rcases((hm' x).mp hx).imp_right Eq.symm with h|rfl
   ·exact mem_append_left _ h.1
   ·exact mem_append_right _ (.head _)
  ·have x7:=et'▸x7;have f7':FW H7 pa r num (aV v gone fresh):=by
    have:(⟨er t',if v.act=gone then fresh else v.act,if v.last=some gone then some fresh else v.last,false⟩:Win)=aV v gone fresh:=by apply rwL tr' ?_;rfl
    rwa [this]at f7
   exact λZ1 _=>q Z1 H7 ((S2.ex.trans ((X4.mono λb hb=>by simp only[mS hb];exact .head _).trans S6.ex)).trans x7) f7'
noncomputable def BH (v v2:Win) (p q:Int):Option (Win × Win):=if p∈v.tr.panes∧q∈v2.tr.panes then some (aV v p q,aV v2 q p)else none
theorem B5 (G:GD W) {pa:Int->Addr} {r:Addr} {num p b:Int} {v:Win} (hm:50<=m) (hF:FW H pa r num v) (hv:WOK v) (hp:∃s,PN H pa p s) (hb:∃s,PN H pa b s) (q0:ot v p b=none->∀H',Sb H H'->Q (.bool false) H')
  (q1:∀v',ot v p b=some v'->∀H',Ex (r::v.tr.panes.map pa) H H'->FW H' pa r num v'->WOK v'->Q (.bool true) H'):a7 W 444 [.ref r,.ref (pa p),.ref r,.ref (pa b)] m H Q:=by
 apply a8 hF.rw λt R=>?_;apply bH (id R) λz1z hL he=>?_;(apply gQ z1z λdx nm lp e1 e2=>?_;clear z1z);apply bZ G rfl (show 49+1<=m from hm) rfl λn hn=>?_;ext;have no:¬(p∈v.tr.panes∧b∈v.tr.panes)->Q (.bool false) H:=λh=>q0 (by delta ot Tr.fK;apply rwL (if_neg h) ?_;rfl) H .refl;apply fF (g:=301) e1 rfl rfl (kR G (ay hn rfl) R hF.pn hp ⟨λh=>⟨λ_=>no λz=>?_,λz=>by ac_nf⟩,λh=>(fF (g:=301) e1 rfl rfl (kR G (ay hn rfl) R hF.pn hb ⟨λh2=>no λz=>?_,λh2=>?_⟩))⟩)<;>ext
 ·simp[z.1]at h
 ·simp[z.2]at h2
 have hdec:decide (r=r)=true:=by exact of_decide_eq_self_eq_true r
 apply⟨decide (r=r),rfl,⟨⟨_,e1,λz=>by ac_nf⟩,_,e1⟩,(λ_=>(fF (g:=380) e1 rfl rfl (B9 G (ay hn rfl) hF hv hp hb q0 q1))),λz=>by rw[hdec]at z;ac_nf⟩
theorem B6 (G:GD W) {pa:Int->Addr} {r r2:Addr} {num num2 p b:Int} {v v2:Win} (hm:50<=m) (hF:FW H pa r num v) (hv:WOK v) (hF2:FW H pa r2 num2 v2) (hv2:WOK v2) (hrr:r≠r2) (dis:∀x∈v.tr.panes,x∉v2.tr.panes)
  (hp:∃s,PN H pa p s) (hb:∃s,PN H pa b s) (q0:BH v v2 p b=none->∀H',Sb H H'->Q (.bool false) H')
  (q1:∀w,BH v v2 p b=some w->p∈v.tr.panes->b∈v2.tr.panes->∀H',Ex (r::r2::(v.tr.panes++v2.tr.panes).map pa) H H'->FW H' pa r num w.1->WOK w.1->FW H' pa r2 num2 w.2->WOK w.2->Q (.bool true) H'):a7 W 444 [.ref r,.ref (pa p),.ref r2,.ref (pa b)] m H Q:=by
 apply a8 hF.rw λt R=>?_;apply bH (id R) λz1z hL he=>?_;(apply gQ z1z λdx nm lp e1 e2=>?_;clear z1z);apply a8 hF2.rw λu R2=>?_;apply bH (id R2) λz1z hL2 he2=>?_;(apply gQ z1z λdx2 nm2 lp2 g1 g2=>?_;clear z1z);apply bZ G rfl (show 49+1<=m from hm) rfl λn hn=>?_;have hx:[CS.assign (.name 43) (.comp (.ite (.cmp .eq (.loc 7) (.attr (.loc 75) 7)) (.attr (.loc 32) 7) (.loc 7)) 7 (.call 73 [(.attr (.loc 52) 19)]) (.k (.bool true))),
  .ite (.cmp .is (.attr (.loc 52) 17) (.loc 75)) [.assign (.attr (.loc 52) 17) (.loc 32)] [],
  .ite (.cmp .is (.attr (.loc 52) 18) (.loc 75)) [.assign (.attr (.loc 52) 18) (.loc 32)] [],
  .expr (.meth (.loc 52) 84 [(.call 170 [(.attr (.loc 52) 19),(.loc 43)]),(.list [(.loc 32)])])]=xb:=rfl
 apply rwL hx ?_<;>ext;ext;have no:¬(p∈v.tr.panes∧b∈v2.tr.panes)->Q (.bool false) H:=λh=>q0 (if_neg h) H .refl;apply fF (g:=301) e1 rfl rfl (kR G (ay hn rfl) R hF.pn hp ⟨λh=>⟨λ_=>no λz=>?_,λz=>by ac_nf⟩,λh=>(fF (g:=301) g1 rfl rfl (kR G (ay hn rfl) R2 hF2.pn hb ⟨λh2=>no λz=>?_,λh2=>?_⟩))⟩)<;>ext
 ·simp[z.1]at h
 ·simp[z.2]at h2
 have h:p∈v.tr.panes:=by simpa using h
 have h2:b∈v2.tr.panes:=by simpa using h2
 have hdec:decide (r=r2)=false:=by simpa using hrr
 apply⟨decide (r=r2),rfl,⟨⟨_,e1,λz=>by ac_nf⟩,_,g1⟩,(λz=>by rw[hdec]at z;ac_nf),λ_=>?_⟩
 walk_at "wp"
 apply⟨xt rfl,xt rfl,xt rfl,qd ?_⟩;apply gz.mpr ⟨_,_,rfl,rfl,?_⟩;have hbv:b∉v.tr.panes:=λz=>dis b z h2;have hpv:p∉v2.tr.panes:=dis p h;apply bH (i7 hv h hbv (hv2.rng b h2)) λhW hpan hm1=>?_;apply bH (i7 hv2 h2 hpv (hv.rng p h)) λhW2 hpan2 hm2=>?_;have rp2:r2∉v.tr.panes.map pa:=hF2.out hF.pn;have rp1:r∉v2.tr.panes.map pa:=hF.out hF2.pn;have all1:∀x∈(aV v p b).tr.panes,∃s,PN H pa x s:=λx hx=>by
  rcases((hm1 x).mp hx).imp_right Eq.symm with hx|rfl
  ·exact hF.pn x hx.1
  ·exact hF2.pn b h2
 apply xc G (r:=r) (num:=num) (gone:=p) (fresh:=b) (v:=v) (ay hn rfl) (by rfl) (by rfl) (by rfl) hF.rw hv hF.pn (hF2.pn b h2) h hbv (hv2.rng b h2) λZ' H1 x1 f1=>gz.mpr ⟨_,_,rfl,rfl,?_⟩;have m1:Mu H (r::(aV v p b).tr.panes.map pa):=.cons e1 (PN.mu all1);have pn1:∀x s,PN H pa x s->∃s,PN H1 pa x s:=λx s hs=>by
  by_cases hx:x∈(aV v p b).tr.panes
  ·exact⟨_,f1.sz x hx⟩
  ·apply⟨s,hs.ex x1 λz=>?_⟩;apply(mC z).elim (λz=>?_) λz=>?_
   ·(apply a8 hs λd e=>?_;clear hs);simp only[z,e1]at e;simp at e
   ·exact iL hs all1 hx z
 have r2n:r2∉r::(aV v p b).tr.panes.map pa:=λz=>by
  apply(mC z).elim (λz=>?_) λz=>?_
  ·exact hrr z.symm
  ·exact hF2.out all1 z
 have R21:RW H1 pa r2 num2 v2:=hF2.rw.ex x1 m1 r2n;have P21:∀x∈v2.tr.panes,∃s,PN H1 pa x s:=λx hx=>let ⟨s,hs⟩:=hF2.pn x hx;pn1 x s hs;have Pp1:∃s,PN H1 pa p s:=let ⟨s,hs⟩:=hF.pn p h;pn1 p s hs;apply xc G (r:=r2) (num:=num2) (gone:=b) (fresh:=p) (v:=v2) (ay hn rfl) (by simp[my]) (by simp[my]) my R21 hv2 P21 Pp1 h2 hpv (hv.rng p h) λZ2 H2 x2 f2=>?_;dsimp only[nZ];have all2:∀x∈(aV v2 b p).tr.panes,∃s,PN H1 pa x s:=λx hx=>by
  rcases((hm2 x).mp hx).imp_right Eq.symm with hx|rfl
  ·exact P21 x hx.1
  ·exact Pp1
 have m2:Mu H1 (r2::(aV v2 b p).tr.panes.map pa):=by
  apply a8 R21 λt2 z1z=>?_;clear R21;obtain⟨⟨d,n2,l2,e,_⟩,_⟩:=z1z;exact .cons e (PN.mu all2)
 have f12:FW H2 pa r num (aV v p b):=f1.ex x2 m2 (λz=>by
  apply(mC z).elim (λz=>?_) λz=>?_
  ·exact hrr z
  ·exact f1.out all2 z) λk hk z=>by
  apply(mC z).elim (λz=>?_) λz=>?_
  ·obtain⟨t2,⟨d,n2,l2,e,_⟩,_⟩:=R21;apply a8 (f1.sz k hk) λd' e'=>?_;simp only[z,e]at e';simp at e'
  ·have hkn:k∉(aV v2 b p).tr.panes:=λz=>by
    apply((hm1 k).mp hk).elim (λa=>?_) λa=>?_<;>apply((hm2 k).mp z).elim (λc=>?_) λc=>?_
    ·exact dis k a.1 c.1
    ·exact a.2 c
    ·exact c.2 a
    ·rw[a]at c;simp only[c]at h2;exact hpv h2
   exact iL (f1.sz k hk) all2 hkn z
 have sub1:∀b'∈r::(aV v p b).tr.panes.map pa,b'∈r::r2::(v.tr.panes++v2.tr.panes).map pa:=λb' hb=>by
  rcases mc hb with rfl|hb
  ·exact .head _
  ·(apply ad (mP hb) λk hk z1z=>?_;subst z1z);apply .tail _ (.tail _ (mR ⟨k,?_,rfl⟩));rcases((hm1 k).mp hk).imp_right Eq.symm with hk|rfl
   ·exact mem_append_left _ hk.1
   ·exact mem_append_right _ h2
 have sub2:∀b'∈r2::(aV v2 b p).tr.panes.map pa,b'∈r::r2::(v.tr.panes++v2.tr.panes).map pa:=λb' hb=>by
  rcases mc hb with rfl|hb
  ·exact .tail _ (.head _)
  ·(apply ad (mP hb) λk hk z1z=>?_;subst z1z);apply .tail _ (.tail _ (mR ⟨k,?_,rfl⟩));rcases((hm2 k).mp hk).imp_right Eq.symm with hk|rfl
   ·exact mem_append_right _ hk.1
   ·exact mem_append_left _ h
 exact q1 (aV v p b,aV v2 b p) (if_pos ⟨h,h2⟩) h h2 H2 ((x1.mono sub1).trans (x2.mono sub2)) f12 hW f2 hW2
end
end
section
noncomputable def zU:Str:=ofString "number"
noncomputable def xf:Str:=ofString "real"
noncomputable def zV:Str:=ofString "layout"
noncomputable def zY:Str:=ofString "active"
noncomputable def xg:Str:=ofString "last"
noncomputable def xe:Str:=ofString "zoom"
noncomputable def bY:Str:=ofString "cells"
noncomputable def ou:Str:=ofString "at"
noncomputable def iJ:Str:=ofString "panes"
noncomputable def kY:Str:=ofString "windows"
noncomputable def eI (num:Int) (r lay:Addr) (act:Int) (last:Option Int) (z:Bool):List (Str × AV):=[(zU,.int num),(xf,.ref r),(zV,.ref lay),(zY,.int act),(xg,cR last),(xe,.bool z)]
def MW (H:AH) (a r:Addr) (num:Int) (v:Win):Prop:=∃t:L,H a=some (false,.dS (eI num r t.tag.1 v.act v.last v.zoom))∧LR true H t∧er t=v.tr
theorem MW.ex {H H':AH} {X:List Addr} {a r:Addr} {num:Int} {v:Win} (h:MW H a r num v) (k:Ex X H H') (m:Mu H X) (ha:a∉X):MW H' a r num v:=let ⟨t,e,l,q⟩:=h;⟨t,k.dS e ha,l.mu k m,q⟩
theorem MW.sb {H H':AH} {a r:Addr} {num:Int} {v:Win} (h:MW H a r num v) (k:Sb H H'):MW H' a r num v:=h.ex k .nil not_mem_nil
section
variable {W:Wd} {n m:Nat} {H:AH} {Q:AV->AH->Prop} {QS:AH->Prop}
theorem di {a:Addr} {f:Bool} {es:List (Str × AV)} {k:Str} {u:AV} (e:H a=some (f,.dS es)) (hl:es.lookup k=some u):be (.ref a) (.str k) H Q=Q u H:=by
 apply propext ⟨λh=>?_,λq=>⟨f,es,u,e,hl,q⟩⟩;apply C5 h λf' es' u' h1 h2 h3=>?_;clear h;simp only[e]at h1;cases h1;rw[hl]at h2;obtain rfl:=sI h2;exact h3
theorem kX {a:Addr} {es:List (Str × AV)} {k:Str} {u:AV} (e:H a=some (false,.dS es)) (hl:es.length<=10):dR (.ref a) (.str k) u H QS=QS (H.set a (.dS (ch es k u))):=by
 apply propext ⟨λh=>?_,λq=>⟨es,e,by unfold cap;exact le_trans hl (by decide),q⟩⟩;apply de h λes' h1 _ h3=>?_;clear h;simp only[e]at h1;cases h1;exact h3
section
variable {a r lay:Addr} {f:Bool} {num act:Int} {last:Option Int} {z:Bool} (e:H a=some (f,.dS (eI num r lay act last z)))
include e
theorem EB:be (.ref a) (.str (ofString "number")) H Q=Q (.int num) H:=di e rfl
theorem DJ:be (.ref a) (.str (ofString "real")) H Q=Q (.ref r) H:=di e rfl
theorem kO (q:Q (.ref r) H):be (.ref a) (.str (ofString "real")) H Q:=(DJ e).mpr q
theorem Cl:be (.ref a) (.str (ofString "layout")) H Q=Q (.ref lay) H:=di e rfl
theorem du (q:Q (.ref lay) H):be (.ref a) (.str (ofString "layout")) H Q:=(Cl e).mpr q
theorem wq:be (.ref a) (.str (ofString "active")) H Q=Q (.int act) H:=di e rfl
theorem tA (q:Q (.int act) H):be (.ref a) (.str (ofString "active")) H Q:=(wq e).mpr q
theorem AE:be (.ref a) (.str (ofString "last")) H Q=Q (cR last) H:=di e rfl
theorem tz (q:Q (cR last) H):be (.ref a) (.str (ofString "last")) H Q:=(AE e).mpr q
theorem EA:be (.ref a) (.str (ofString "zoom")) H Q=Q (.bool z) H:=di e rfl
theorem wo (q:Q (.bool z) H):be (.ref a) (.str (ofString "zoom")) H Q:=(EA e).mpr q
end
section
variable {a r lay lay':Addr} {num act act':Int} {last last':Option Int} {z z':Bool} (e:H a=some (false,.dS (eI num r lay act last z)))
include e
theorem zt:dR (.ref a) (.str (ofString "layout")) (.ref lay') H QS=QS (H.set a (.dS (eI num r lay' act last z))):=kX e (by simp[eI])
theorem Bt:dR (.ref a) (.str (ofString "active")) (.int act') H QS=QS (H.set a (.dS (eI num r lay act' last z))):=kX e (by simp[eI])
theorem Dn:dR (.ref a) (.str (ofString "last")) (cR last') H QS=QS (H.set a (.dS (eI num r lay act last' z))):=kX e (by simp[eI])
theorem xM:dR (.ref a) (.str (ofString "zoom")) (.bool z') H QS=QS (H.set a (.dS (eI num r lay act last z'))):=kX e (by simp[eI])
end
theorem Bs {a r lay:Addr} {num act i:Int} {last:Option Int} {z:Bool} (e:H a=some (false,.dS (eI num r lay act last z))):dR (.ref a) (.str (ofString "last")) (.int i) H QS=QS (H.set a (.dS (eI num r lay act (some i) z))):=Dn e (last':=some i)
theorem BV {a r lay:Addr} {num act:Int} {last:Option Int} {z:Bool} (e:H a=some (false,.dS (eI num r lay act last z))):dR (.ref a) (.str (ofString "last")) .none H QS=QS (H.set a (.dS (eI num r lay act none z))):=Dn e (last':=none)
theorem wK (G:GD W) {a r:Addr} {num p:Int} {v:Win} (hm:30<=m) (hM:MW H a r num v) (hs:v.tr.Sm) (q:∀H',Ex [a] H H'->MW H' a r num (cv p v)->Q (.bool (decide (p∈v.tr.panes))) H'):a7 W 477 [.ref a,.int p] m H Q:=by
 apply de (id hM) λt e hL he=>?_;have hst:t.Sm:=aL.mp (he▸hs);have ept:t.panes=v.tr.panes:=by exact rwR he (rwL ab rfl)
 apply bZ G rfl (show 29+1<=m from hm) rfl λn hn=>?_;ext;apply du e ?_;apply kx G (by have:=hst.dep;exact lu this hn rfl) hL hst λr1 H1 s1 el=>⟨p,r1,true,t.panes,rfl,rfl,el,λh=>?_,λh=>?_⟩<;>ext
 ·have h:p∉v.tr.panes:=by apply rwR ept ?_;simpa using h
  have:=q H1 s1.ex (by unfold cv;exact rwL (if_neg λz=>h z.1) (hM.sb s1));simpa[h]using this
 ·have h:p∈v.tr.panes:=by apply rwR ept ?_;simpa using h
  simp only[wq (s1.dS e),bu];apply⟨λhc=>?_,λhc=>?_⟩<;>ext
  ·have hc:p≠v.act:=by simpa using hc
   apply tA (s1.dS e) ?_;apply⟨by decide,?_⟩;rw[Bt (s1.dS e),Bs (AH.EP _ _ _),xM (AH.EP _ _ _),AH.set_set,AH.set_set]<;>ext;have m1:Mu H1 [a]:=.cons (s1.dS e) .nil;have:=q _ (s1.ex.trans Ex.put) ⟨t,by apply rwL (show cv p v=⟨v.tr,p,some v.act,false⟩from if_pos ⟨h,hc⟩) ?_;exact AH.EP _ _ _,(hL.sb s1).mu Ex.put m1,by simp only[dq];exact he⟩;simpa[h]using this
  ·have hc:p=v.act:=by simpa using hc
   have:=q H1 s1.ex (by unfold cv;exact rwL (if_neg λz=>z.2 hc) (hM.sb s1));simpa[h]using this
noncomputable def im (v:Win) (t':T) (p:Int):Win:=if v.act≠p then⟨t',p,some v.act,false⟩else⟨t',v.act,v.last,false⟩
theorem zb (G:GD W) {a r:Addr} {num p:Int} {v:Win} {t':L} (hm:2<=m) (hM:MW H a r num v) (hL':LR true H t') (q:∀H',Ex [a] H H'->MW H' a r num (im v (er t') p)->Q (.bool true) H'):a7 W 489 [.ref a,.ref t'.tag.1,.int p] m H Q:=by
 apply de (id hM) λt e hL he=>?_;apply bZ G rfl hm rfl λn hn=>?_
 walk_at "wp"
 have m1:Mu H [a]:=.cons e .nil;apply iN rfl trivial ⟨by decide,?_⟩;rw[zt e,xM (AH.EP _ _ _),AH.set_set];have e1:=AH.EP H a (.dS (eI num r t'.tag.1 v.act v.last false));apply rwL (wq e1) (rwL bu ?_);apply⟨λhc=>?_,λhc=>?_⟩
 ·have hc:v.act≠p:=by simpa using hc
  apply rwL (wq e1) ?_;apply⟨by decide,?_⟩;rw[Bt e1,Bs (AH.EP _ _ _),AH.set_set,AH.set_set];exact q _ Ex.put ⟨t',by apply rwL (show im v (er t') p=⟨er t',p,some v.act,false⟩from if_pos hc) ?_;exact AH.EP _ _ _,hL'.mu Ex.put m1,by unfold im;exact rwL (if_pos hc) rfl⟩
 ·have hc:¬v.act≠p:=by simpa using hc
  exact q _ Ex.put ⟨t',by apply rwL (show im v (er t') p=⟨er t',v.act,v.last,false⟩from if_neg hc) ?_;exact e1,hL'.mu Ex.put m1,by unfold im;exact rwL (if_neg hc) rfl⟩
theorem ud (G:GD W) {a:Addr} {p:Int} (hm:2<=m) (q:Q (.bool false) H):a7 W 489 [.ref a,.none,.int p] m H Q:=by
 apply bZ G rfl hm rfl λn hn=>?_;ext;exact j6 rfl trivial q
theorem za (G:GD W) {a r:Addr} {num one other:Int} {v:Win} (hm:45<=m) (hM:MW H a r num v) (hv:WOK v) (q:∀H',Ex [a] H H'->MW H' a r num ((ot v one other).getD v)->Q (.bool (ot v one other).isSome) H'):a7 W 510 [.ref a,.int one,.int other] m H Q:=by
 apply de (id hM) λt e hL he=>?_;have hst:t.Sm:=aL.mp (he▸hv.fine.sm);have ept:t.panes=v.tr.panes:=by exact rwR he (rwL ab rfl)
 apply bZ G rfl (show 44+1<=m from hm) rfl λn hn=>?_;ext;apply du e ?_;apply kx G (by have:=hst.dep;exact lu this hn rfl) hL hst λr1 H1 s1 el=>?_<;>ext;have no:¬(one∈v.tr.panes∧other∈v.tr.panes)->Q (.bool false) H1:=λh=>by
  have e0:ot v one other=none:=by delta ot Tr.fK;apply rwL (if_neg h) ?_;rfl
  have:=q H1 s1.ex (by exact rwL e0 (hM.sb s1));rwa [e0]at this
 apply⟨one,r1,true,t.panes,rfl,rfl,el,λh=>⟨λ_=>no λz=>?_,λz=>by ac_nf⟩,λh=>⟨other,r1,true,t.panes,rfl,rfl,el,λh2=>no λz=>?_,λh2=>?_⟩⟩<;>ext
 ·have h:=ept▸h;simp[z.1]at h
 ·have h2:=ept▸h2;simp[z.2]at h2
 have h:one∈v.tr.panes:=by apply rwR ept ?_;simpa using h
 have h2:other∈v.tr.panes:=by apply rwR ept ?_;simpa using h2
 apply du (s1.dS e) ?_;apply Bc G (ay hn rfl) (hL.sb s1) (he▸hv.fine) (by exact rwL ept hv.nd) (λhs=>?_) λt' H2 hs s2 l2=>⟨by decide,?_⟩
 ·rw[he]at hs;unfold Tr.fK at hs;rw[if_pos ⟨h,h2⟩]at hs;exact sN hs
 ·have hs:=he▸hs;have e0:ot v one other=some (ci v (er t')):=by unfold ot;apply rwL hs ?_;rfl
  have S2:Sb H H2:=s1.trans s2;rw[zt (S2.dS e),xM (AH.EP _ _ _),AH.set_set]<;>ext;have m1:Mu H2 [a]:=.cons (S2.dS e) .nil;have:=q _ (S2.ex.trans Ex.put) ⟨t',by apply rwL e0 ?_;exact AH.EP _ _ _,l2.mu Ex.put m1,by apply rwL e0 ?_;rfl⟩;rwa [e0]at this
theorem B3 (G:GD W) {a r:Addr} {num p b:Int} {v:Win} (hm:45<=m) (hM:MW H a r num v) (hv:WOK v) (q:∀H',Ex [a] H H'->MW H' a r num (aV v p b)->Q .none H'):a7 W 515 [.ref a,.int p,.int b] m H Q:=by
 apply de (id hM) λt e hL he=>?_;have hst:t.Sm:=aL.mp (he▸hv.fine.sm);have ept:t.panes=v.tr.panes:=by exact rwR he (rwL ab rfl)
 apply bZ G rfl (show 44+1<=m from hm) rfl λn hn=>?_
 walk_at "wp"
 apply rwL (Cl e) ?_;apply kx G (by have:=hst.dep;exact lu this hn rfl) hL hst λr1 H1 s1 el=>?_;apply cQ (g:=AV.int) (cs:=t.panes) (bD hst.len) (λpre out H'=>H'=H1∧out=pre.map λx=>.int (if x=p then b else x)) ⟨rfl,rfl⟩ ?_ ?_ ?_
 ·rintro pre out H' ⟨rfl,rfl⟩;exact⟨⟨true,el⟩,by simp⟩
 ·rintro pre u suf out H' hcs ⟨rfl,rfl⟩
  walk_at "wp"
  apply⟨λhc=>?_,λhc=>?_⟩
  ·have hc:u=p:=by simpa using hc
   simp[hc]
  ·have hc:u≠p:=by simpa using hc
   simp[hc]
 ·rintro out H' ⟨rfl,rfl⟩ r2 hr2;have s2:Sb H' (H'.set r2 (.list (t.panes.map λx=>.int (if x=p then b else x)))):=.new hr2;have el2:(H'.set r2 (.list (t.panes.map λx=>.int (if x=p then b else x)))) r2=some (false,.list ((v.tr.panes.map λx=>if x=p then b else x).map .int)):=by simp only[AH.EP,ept];simp
  generalize H'.set r2 (.list (t.panes.map λx=>.int (if x=p then b else x)))=H2 at s2 el2;have S2:Sb H H2:=s1.trans s2;apply rwL (Cl (S2.dS e)) ?_;apply wM G (ay hn rfl) (hL.sb S2) hst (by exact rwL ept hv.nd) el2 (Eq.symm (len_of_map_eq (congrArg (List.map λx=>if x=p then b else x) ept))) λt' H3 ht s3 l3=>⟨by decide,?_⟩;simp only[he]at ht;have S3:Sb H H3:=S2.trans s3;rw[zt (S3.dS e),xM (AH.EP _ _ _),AH.set_set];have e4:=AH.EP H3 a (.dS (eI num r t'.tag.1 v.act v.last false));have m3:Mu H3 [a]:=.cons (S3.dS e) .nil;have x4:Ex [a] H3 (H3.set a (.dS (eI num r t'.tag.1 v.act v.last false))):=Ex.put;generalize H3.set a (.dS (eI num r t'.tag.1 v.act v.last false))=H4 at e4 x4;apply rwL (wq e4) (rwL bu ?_);have st:dR (.ref a) (.str (ofString "active")) (.int (if v.act=p then b else v.act)) H4 λH=>be (.ref a) (.str (ofString "last")) H λx H=>kE H x (.int p) λt=>(t=true->dR (.ref a) (.str (ofString "last")) (.int b) H λH=>Q .none H)∧(t=false->be (.ref a) (.str (ofString "last")) H λu H=>dR (.ref a) (.str (ofString "last")) u H λH=>Q .none H):=by
   apply rwL (Bt e4) ?_;have e5:=AH.EP H4 a (.dS (eI num r t'.tag.1 (if v.act=p then b else v.act) v.last false));have x5:Ex [a] H4 (H4.set a (.dS (eI num r t'.tag.1 (if v.act=p then b else v.act) v.last false))):=Ex.put;generalize H4.set a (.dS (eI num r t'.tag.1 (if v.act=p then b else v.act) v.last false))=H5 at e5 x5;apply rwL (AE e5) ?_;have fin:∀H6,Ex [a] H5 H6->H6 a=some (false,.dS (eI num r t'.tag.1 (if v.act=p then b else v.act) (if v.last=some p then some b else v.last) false))->Q .none H6:=λH6 x6 e6=>
    q H6 ((S3.ex.trans (x4.trans x5)).trans x6) ⟨t',e6,l3.mu ((x4.trans x5).trans x6) m3,ht⟩
   cases hl:v.last with
   |none=>
    simp only[hl]at e5;apply rwL (show cR none=AV.none from rfl) (rwL ux ?_);apply⟨(λz=>by ac_nf),λ_=>?_⟩;apply rwL (AE e5) (rwL (show cR none=AV.none from rfl) (rwL (BV e5) ?_));exact fin _ Ex.put (by simp only[AH.EP,hl];rfl)
   |some l=>
    simp only[hl]at e5;simp only[show cR (some l)=AV.int l from rfl,bu];apply⟨λhc=>?_,λhc=>?_⟩
    ·have hc:l=p:=by simpa using hc
     apply rwL (Bs e5) ?_;exact fin _ Ex.put (by simp only[AH.EP,hl];simp[hc])
    ·have hc:l≠p:=by simpa using hc
     apply rwL (AE e5) (rwL (show cR (some l)=AV.int l from rfl) (rwL (Bs e5) ?_));exact fin _ Ex.put (by simp only[AH.EP,hl];simp[hc])
  apply⟨λhc=>?_,λhc=>?_⟩
  ·have hc:v.act=p:=by simpa using hc
   simp only[if_pos hc]at st;exact st
  ·have hc:v.act≠p:=by simpa using hc
   have st:=(if_neg hc)▸st;apply rwL (wq e4) ?_;exact st
end
end
section
section
variable {W:Wd} {n m:Nat} {H:AH} {Q:AV->AH->Prop} {QS:AH->Prop}
theorem ue (G:GD W) {a r:Addr} {num p:Int} {v:Win} (hm:45<=m) (hM:MW H a r num v) (hv:WOK v) (q:∀H',Ex [a] H H'->MW H' a r num ((ce v p).getD v)->Q (.bool (ce v p).isSome) H'):a7 W 482 [.ref a,.int p] m H Q:=by
 apply de (id hM) λt e hL he=>?_;have hst:t.Sm:=aL.mp (he▸hv.fine.sm);have ept:t.panes=v.tr.panes:=by exact rwR he (rwL ab rfl)
 have hlen:=hst.len;apply bZ G rfl (show 44+1<=m from hm) rfl λn hn=>?_;ext;apply du e ?_;apply kx G (by have:=hst.dep;exact lu this hn rfl) hL hst λr1 H1 s1 el=>?_<;>ext;have no:ce v p=none->Q (.bool false) H1:=λh=>by
  have:=q H1 s1.ex (by exact rwL h (hM.sb s1));rwa [h]at this
 apply⟨p,r1,true,t.panes,rfl,rfl,el,λh=>⟨λ_=>no (if_neg ?_),λz=>by ac_nf⟩,λh=>?_⟩
 ·have h:=ept▸h;simpa using h
 have h:p∈v.tr.panes:=by apply rwR ept ?_;simpa using h
 apply aF el (by simp only[length_map];unfold cap;exact le_trans hlen (by decide)) ?_;simp only[bu];apply⟨λh1=>no ?_,λh1=>?_⟩<;>ext
 ·have h1:t.panes.length=1:=by simp at h1;exact Int.ofNat.inj h1
  unfold ce;apply rwL (if_pos h) (rwL (Tr.cM hv.fine.ok (.inr (by exact rwR ept h1))) ?_);rfl
 have h1:v.tr.panes.length≠1:=λz=>by rw[<-ept]at z;simp[z]at h1
 apply a8 (Tr.bi hv.fine h h1) λg z1z=>?_;obtain⟨hc,_⟩:=z1z;apply jO (cP hv h hc) λhWd hmem k1 hnd etr z1z=>?_;(apply af z1z λhfil _=>?_;clear z1z);have hd:ce v p=some (bC v p g):=by unfold ce;apply rwL (if_pos h) (rwL hc ?_);rfl
 (have q:=q;have q:=hd▸q);apply⟨⟨_,_,_,rfl,el⟩,true,t.panes,el,by apply rwL ept ?_;exact h,by unfold cap;exact le_trans hlen (by decide),?_⟩;apply qj (xs:=t.panes.map .int) trivial (by simp only[length_map];unfold cap;exact le_trans hlen (by decide)) (λpre out H'=>H'=H1∧∃is:List Int,pre=is.map .int∧out=(is.filter λx=>x != p).map .int) ⟨rfl,[],rfl,rfl⟩ ?_ ?_ ?_
 ·rintro pre out H' ⟨rfl,is,rfl,rfl⟩;apply⟨gA el,?_⟩;simp only[length_map];exact List.length_filter_le _ _
 ·rintro pre u suf out H' hcs ⟨rfl,is,rfl,rfl⟩;apply nC (lq hcs) λs' c t' e1 e2 e3 e4=>?_;subst e3;ext;apply⟨λhz=>?_,λhz=>?_⟩
  ·apply⟨by trivial,is++[c],by simp,?_⟩;have:c≠p:=by simpa using hz
   simp[this]
  ·apply⟨by trivial,is++[c],by simp,?_⟩;have:c=p:=by simpa using hz
   simp[this]
 ·rintro out H' ⟨rfl,is,e1,rfl⟩ r2 hr2;obtain rfl:=t6 e1;have s2:Sb H' (H'.set r2 (.list ((t.panes.filter λx=>x != p).map .int))):=.new hr2;have el2:(H'.set r2 (.list ((t.panes.filter λx=>x != p).map .int))) r2=some (false,.list (g.panes.map .int)):=by simp only[AH.EP,hfil,ept]
  generalize H'.set r2 (.list ((t.panes.filter λx=>x != p).map .int))=H2 at s2 el2;have S2:Sb H H2:=s1.trans s2;apply⟨by decide,?_⟩<;>ext;apply du (S2.dS e) ?_;apply wN G (ay hn rfl) (hL.sb S2) (he▸hv.fine) (λhs=>by simp only[he,hc]at hs;exact sN hs) λt' hs H3 s3 l3=>⟨by decide,?_⟩;simp only[he,hc]at hs;obtain rfl:=sI hs;have S3:Sb H H3:=S2.trans s3;rw[zt (S3.dS e),xM (AH.EP _ _ _),AH.set_set]<;>ext;have e4:=AH.EP H3 a (.dS (eI num r t'.tag.1 v.act v.last false));have m3:Mu H3 [a]:=.cons (S3.dS e) .nil;have x4:Ex [a] H3 (H3.set a (.dS (eI num r t'.tag.1 v.act v.last false))):=Ex.put;generalize H3.set a (.dS (eI num r t'.tag.1 v.act v.last false))=H4 at e4 x4;have el4:=x4.list (s3.list el2) (λz=>by
   have z:=mS z;simp only[z]at el2;simp only[S2.dS e]at el2;simp at el2)
  apply tz e4 ?_;have step:∀(P:AH->Prop),(∀H5,Ex [a] H4 H5->H5 a=some (false,.dS (eI num r t'.tag.1 v.act (if v.last=some p then none else v.last) false))->P H5)->
    kE H4 (cR v.last) (.int p) λb=>(b=true->dR (.ref a) (.str (ofString "last")) .none H4 P)∧(b=false->P H4):=by
   intro P hP;cases hl:v.last with
   |none=>
    have e4:=hl▸e4;apply rwL (show cR none=AV.none from rfl) (rwL ux ?_);exact⟨(λz=>by ac_nf),λ_=>hP H4 .refl (by exact rwL hl e4)⟩
   |some l=>
    have e4:=hl▸e4;simp only[show cR (some l)=AV.int l from rfl,bu];apply⟨λhz=>?_,λhz=>hP H4 .refl ?_⟩
    ·have hz:l=p:=by simpa using hz
     apply rwL (BV e4) ?_;exact hP _ Ex.put (by rw[AH.EP,hl,hz];simp)
    ·have hz:l≠p:=by simpa using hz
     apply rwL hl ?_;simpa[hz]using e4
  walk_at "wp"
  apply step _ λH5 x5 e5=>?_;simp only[wq e5,bu];have l5:LR true H5 t':=l3.mu (x4.trans x5) m3;have X5:Ex [a] H H5:=S3.ex.trans (x4.trans x5);have el5:H5 r2=some (false,.list ((er t').panes.map .int)):=x5.list el4 (λz=>by
   have z:=mS z;simp only[z]at el2;simp only[S2.dS e]at el2;simp at el2)
  have fin:∀H6 w,Ex [a] H5 H6->bC v p (er t')=w->H6 a=some (false,.dS (eI num r t'.tag.1 w.act w.last w.zoom))->Q (.bool true) H6:=λH6 w x6 hw e6=>by
   subst hw;have m5:Mu H5 [a]:=.cons e5 .nil;exact q H6 (X5.trans x6) ⟨t',e6,l5.mu x6 m5,etr.symm⟩
  apply⟨λhz=>?_,λhz=>?_⟩
  ·have hz:v.act=p:=by simpa using hz
   apply tz e5 ?_;generalize hl1:(if v.last=some p then none else v.last)=l1 at e5;have put:∀i,bC v p (er t')=⟨er t',i,none,false⟩->2<=cap∧dR (.ref a) (.str (ofString "active")) (.int i) H5 λH=>dR (.ref a) (.str (ofString "last")) .none H λH=>Q (.bool true) H:=λi hi=>by
    apply⟨by decide,?_⟩;rw[Bt e5,BV (AH.EP _ _ _),AH.set_set];exact fin _ _ Ex.put hi (AH.EP _ _ _)
   cases l1 with
   |none=>
    apply j6 rfl trivial ?_;simp only[eG,n7];have hidx:Tr.mx (((t.panes.idxOf p:Nat):Int)-1) 0=((v.tr.panes.idxOf p-1:Nat):Int):=by exact rwL ept Er
    have hact:=hWd.act;have hdv:bC v p (er t')=⟨er t',((er t').panes[v.tr.panes.idxOf p-1]?).getD 0,none,false⟩:=by
     unfold bC;dsimp only;exact rwL (if_pos hz) (rwL hl1 rfl)
    have hj:∃i,(er t').panes[v.tr.panes.idxOf p-1]?=some i:=by
     have h2:v.tr.panes.idxOf p<v.tr.panes.length:=List.idxOf_lt_length_iff.mpr h;apply pS (Tr.bi hv.fine h h1) λt2 e1 _ _ z1z=>?_;(apply bb z1z λpre post k4 k5=>?_;clear z1z);simp only[hc]at e1;cases e1;have:(er t').panes.length+1=v.tr.panes.length:=by apply rwL k5 (rwL k4 ?_);simp;exact Nat.add_assoc pre.length post.length 1
     exact⟨_,getElem?_eq_getElem (by omega)⟩
    apply a8 hj λi hi=>?_;clear hj;apply df (j:=v.tr.panes.idxOf p-1) (u:=.int i) el5 hidx (by have:=k1.sm.len;simp only[length_map];unfold cap;exact le_trans this (by decide)) (by apply rwL getElem?_map (rwL hi ?_);rfl) (put i ?_);apply rwL hdv (rwL hi ?_);rfl
   |some l=>
    apply iN rfl trivial ?_;apply tz e5 ?_;apply put l ?_;unfold bC;dsimp only;exact rwL (if_pos hz) (rwL hl1 rfl)
  ·have hz:v.act≠p:=by simpa using hz
   apply fin H5 ⟨er t',v.act,if v.last=some p then none else v.last,false⟩ .refl ?_ e5;unfold bC;dsimp only;exact if_neg hz
end
set_option genInjectivity false in
structure Cx where
 D:Addr
 Lc:Addr
 Wd:Addr
 Pd:Addr
 Wl:Addr
 mi:Nat->Addr
 ri:Nat->Addr
 pa:Int->Addr
 cells:List Int
set_option genInjectivity false in
structure S where
 rw:List Win
 mw:List Win
 ks:List Int
 kb:Nat
structure WI (c:Cx) (H:AH) (s:S):Prop where
 deck:∃k:Nat,k<=s.kb∧H c.D=some (false,.dS [(bY,.ref c.Lc),(ou,.int k)])
 cells:H c.Lc=some (true,.list (c.cells.map .int))
 clen:c.cells.length<=200
 world:H c.Wd=some (false,.dS [(iJ,.ref c.Pd),(kY,.ref c.Wl)])
 panes:H c.Pd=some (false,.dI (s.ks.map λn=>(n,.ref (c.pa n))))
 wlist:H c.Wl=some (false,.list ((List.range s.mw.length).map λi=>.ref (c.mi i)))
 real:∀i v,s.rw[i]?=some v->FW H c.pa (c.ri i) i v
 mine:∀i v,s.mw[i]?=some v->MW H (c.mi i) (c.ri i) i v
 pn:∀n∈s.ks,∃sz,PN H c.pa n sz
structure PI (s:S):Prop where
 ok:∀v∈s.rw,WOK v
 nd:s.ks.Nodup
 sub:∀v∈s.rw,∀n∈v.tr.panes,n∈s.ks
 dis:∀(i j:Nat) (v w:Win),i≠j->s.rw[i]?=some v->s.rw[j]?=some w->∀x∈v.tr.panes,x∉w.tr.panes
 key:∀n∈s.ks,n=90\/(0<=n∧n<s.ks.length)
 stray:90∈s.ks
 klen:s.ks.length<=15
 wlen:1<=s.rw.length∧s.rw.length<=3
theorem qK:∀{a b:List Int},a.Nodup->(∀x∈a,x∈b)->a.length<=b.length:=by
 intro a
 induction a with
 |nil=>
  intro _ _ _;exact zero_le _
 |cons x a ih=>
  intro b nd h;(have nd:=nd;rw[nodup_cons]at nd);have:=ih (b:=b.erase x) nd.2 λy hy=>(List.mem_erase_of_ne λz=>nd.1 (by exact rwR z hy)).mpr (h y (.tail _ hy));simp only[List.length_erase_of_mem (h x (.head _))]at this;have:=length_pos_of_mem (h x (.head _));simp only[length_cons];lia
theorem PI.len {s:S} (h:PI s) {v:Win} (hv:v∈s.rw):v.tr.panes.length<=15:=by
 have:v.tr.panes.length<=s.ks.length:=qK (h.ok v hv).nd (h.sub v hv);have:=h.klen;lia
theorem WI.keep {c:Cx} {H H':AH} {s:S} {X:List Addr} {rw' mw':List Win} (h:WI c H s) (k:Ex X H H') (m:Mu H X) (hD:c.D∉X) (hW:c.Wd∉X) (hP:c.Pd∉X) (hl:c.Wl∉X) (hlen:mw'.length=s.mw.length) (hr:∀i v,rw'[i]?=some v->FW H' c.pa (c.ri i) i v)
  (hm:∀i v,mw'[i]?=some v->MW H' (c.mi i) (c.ri i) i v) (hp:∀n∈s.ks,∃sz,PN H' c.pa n sz):WI c H' ⟨rw',mw',s.ks,s.kb⟩:=
 ⟨let ⟨kk,h1,h2⟩:=h.deck;⟨kk,h1,k.dS h2 hD⟩,k.fz m aw h.cells,h.clen,k.dS h.world hW,k.dI h.panes hP,by apply rwL hlen ?_;exact k.list h.wlist hl,hr,hm,hp⟩
theorem WI.sb {c:Cx} {H H':AH} {s:S} (h:WI c H s) (k:Sb H H'):WI c H' s:=
 h.keep (rw':=s.rw) (mw':=s.mw) k .nil not_mem_nil not_mem_nil not_mem_nil not_mem_nil rfl (λi v e=>(h.real i v e).sb k) (λi v e=>(h.mine i v e).sb k) λn hn=>let ⟨sz,e⟩:=h.pn n hn;⟨sz,e.sb k⟩
def Is (H:AH) (X:List Addr):Prop:=∀a∈X,E3 λC dx fs=>H a=some (false,.inst C dx fs)
theorem Is.mu {H:AH} {X:List Addr} (h:Is H X):Mu H X:=λa ha=>let ⟨_,_,_,e⟩:=h a ha;⟨_,e⟩
theorem Is.out {H:AH} {X:List Addr} (h:Is H X) {a:Addr} {f:Bool} {o:AO} (e:H a=some (f,o)) (ho:∀C dx fs,o≠.inst C dx fs):a∉X:=λz=>by
 apply sU (h a z) λC dx fs e'=>?_;simp only[e]at e';injection e' with e';injection e' with _ e';exact ho _ _ _ e'
theorem Is.pn {H:AH} {pa:Int->Addr} {ns:List Int} (h:∀n∈ns,∃s,PN H pa n s):Is H (ns.map pa):=λa ha=>by
 apply ad (mP ha) λn hn z1z=>?_;subst z1z;apply a8 (h n hn) λs z1z=>a8 z1z λdx e=>?_;exact⟨_,_,_,e⟩
theorem Is.cons {H:AH} {a C dx:Addr} {fs:List (Nat × AV)} {X:List Addr} (e:H a=some (false,.inst C dx fs)) (h:Is H X):Is H (a::X):=λb hb=>by
 rcases mC hb with rfl|hb
 ·exact⟨_,_,_,e⟩
 ·exact h b hb
theorem FW.is {H:AH} {pa:Int->Addr} {r:Addr} {num:Int} {v:Win} (h:FW H pa r num v) {X:List Addr} (k:Is H X):Is H (r::X):=by
 apply a8 h.rw λt z1z=>?_;obtain⟨⟨dx,nm,lp,e1,_⟩,_⟩:=z1z;exact .cons e1 k
theorem MW.out {H:AH} {X:List Addr} (h:Is H X) {a r:Addr} {num:Int} {v:Win} (e:MW H a r num v):a∉X:=by
 obtain⟨t,e,_⟩:=e;exact h.out e (λ_ _ _ z=>by ac_nf)
theorem WI.inst {c:Cx} {H H':AH} {s:S} {X:List Addr} {rw':List Win} (h:WI c H s) (k:Ex X H H') (m:Is H X) (hr:∀i v,rw'[i]?=some v->FW H' c.pa (c.ri i) i v) (hp:∀n∈s.ks,∃sz,PN H' c.pa n sz):WI c H' ⟨rw',s.mw,s.ks,s.kb⟩:=
 h.keep k m.mu (let ⟨_,_,e⟩:=h.deck;m.out e (λ_ _ _ z=>by ac_nf)) (m.out h.world (λ_ _ _ z=>by ac_nf)) (m.out h.panes (λ_ _ _ z=>by ac_nf)) (m.out h.wlist (λ_ _ _ z=>by ac_nf)) rfl hr (λi v e=>(h.mine i v e).ex k m.mu (MW.out m (h.mine i v e))) hp
end
section
theorem qh {H:AH} {a b:Addr} {f g:Bool} {xs ys:List (Str × AV)} (h1:H a=some (f,.dS xs)) (h2:H b=some (g,.dS ys)) (hx:xs.map (·.1)≠ys.map (·.1)):a≠b:=λz=>by
 simp only[z,h2]at h1;cases h1;exact hx rfl
theorem jR {num:Int} {r lay:Addr} {act:Int} {last:Option Int} {z:Bool}:(eI num r lay act last z).map (·.1)=[zU,xf,zV,zY,xg,xe]:=rfl
theorem aP {H:AH} {a b:Addr} {p q:Bool × AO} (h1:H a=some p) (h2:H b=some q) (hx:p≠q):a≠b:=λz=>by
 simp only[z,h2]at h1;cases h1;exact hx rfl
theorem MW.inj {H:AH} {a b r r':Addr} {k k':Int} {v v':Win} (h:MW H a r k v) (h':MW H b r' k' v') (e:a=b):k=k':=by
 obtain⟨t,h,_⟩:=h;obtain⟨t',h',_⟩:=h';simp only[e,h']at h;simp[eI]at h;exact h.1.symm
theorem FW.inj {H:AH} {pa:Int->Addr} {a b:Addr} {k k':Int} {v v':Win} (h:FW H pa a k v) (h':FW H pa b k' v') (e:a=b):k=k':=by
 obtain⟨t,⟨dx,nm,lp,e1,_⟩,_⟩:=h.rw;obtain⟨t',⟨dx',nm',lp',e1',_⟩,_⟩:=h'.rw;simp only[e,e1']at e1;simp[dP]at e1;exact e1.2.1.symm
theorem aJ {a b:Addr} (h:a≠b):a∉[b]:=λz=>h (mS z)
theorem FW.one {H H':AH} {a:Addr} {o:AO} (k:Ex [a] H H') (e:H a=some (false,o)) (ho:∀C dx fs,o≠.inst C dx fs) {pa:Int->Addr} {r:Addr} {num:Int} {v:Win} (h:FW H pa r num v):FW H' pa r num v:=by
 apply a8 h.rw λt z1z=>?_;obtain⟨⟨dx,nm,lp,e1,_⟩,_⟩:=z1z;exact h.ex k (.cons e .nil) (aJ (aP e1 e λz=>ho _ _ _ (Prod.mk.inj z).2.symm)) λn hn=>by
  apply a8 (h.sz n hn) λd en=>?_;exact aJ (aP en e λz=>ho _ _ _ (Prod.mk.inj z).2.symm)
theorem PN.one {H H':AH} {a:Addr} {o:AO} (k:Ex [a] H H') (e:H a=some (false,o)) (ho:∀C dx fs,o≠.inst C dx fs) {pa:Int->Addr} {n:Int} {s:Int × Int} (h:PN H pa n s):PN H' pa n s:=by
 apply a8 (id h) λd en=>?_;exact h.ex k (aJ (aP en e λz=>ho _ _ _ (Prod.mk.inj z).2.symm))
theorem WI.setD {c:Cx} {H H':AH} {s:S} {kb:Nat} (h:WI c H s) (k:Ex [c.D] H H') (e:∃k':Nat,k'<=kb∧H' c.D=some (false,.dS [(bY,.ref c.Lc),(ou,.int k')])):WI c H' ⟨s.rw,s.mw,s.ks,kb⟩:=by
 apply ad h.deck λk0 _ e0=>?_;have m:Mu H [c.D]:=.cons e0 .nil;have ho:∀C dx fs,AO.dS [(bY,AV.ref c.Lc),(ou,.int k0)]≠.inst C dx fs:=λ_ _ _ z=>by ac_nf
 apply⟨e,k.fz m aw h.cells,h.clen,k.dS h.world (aJ (qh h.world e0 (by simp only[map_cons,map_nil];decide))),k.dI h.panes (aJ (aP h.panes e0 λz=>by simp at z)),k.list h.wlist (aJ (aP h.wlist e0 λz=>by simp at z)),λi v hv=>(h.real i v hv).one k e0 ho,λi v hv=>?_,λn hn=>let ⟨sz,q⟩:=h.pn n hn;⟨sz,q.one k e0 ho⟩⟩;have hM:=h.mine i v hv;apply a8 (id hM) λt z1z=>?_;obtain⟨em,_⟩:=z1z;exact hM.ex k m (aJ (qh em e0 (by simp only[jR];simp only[map_cons,map_nil];decide)))
theorem WI.setM {c:Cx} {H H':AH} {s:S} {i:Nat} {v v':Win} (h:WI c H s) (hi:s.mw[i]?=some v) (k:Ex [c.mi i] H H') (e:MW H' (c.mi i) (c.ri i) i v'):WI c H' ⟨s.rw,s.mw.set i v',s.ks,s.kb⟩:=by
 apply a8 (h.mine i v hi) λt z1z=>?_;obtain⟨e0,_⟩:=z1z;have m:Mu H [c.mi i]:=.cons e0 .nil;have ho:∀C dx fs,AO.dS (eI i (c.ri i) t.tag.1 v.act v.last v.zoom)≠.inst C dx fs:=λ_ _ _ z=>by ac_nf
 apply ad h.deck λk0 _ ed=>?_;apply h.keep k m (aJ (qh ed e0 (by simp only[jR];simp only[map_cons,map_nil];decide))) (aJ (qh h.world e0 (by simp only[jR];simp only[map_cons,map_nil];decide))) (aJ (aP h.panes e0 λz=>by simp at z)) (aJ (aP h.wlist e0 λz=>by simp at z)) (by simp) (λj w hw=>(h.real j w hw).one k e0 ho) (λj w hw=>?_) λn hn=>let ⟨sz,q⟩:=h.pn n hn;⟨sz,q.one k e0 ho⟩;by_cases hj:i=j
 ·subst hj;have hlt:=(mE hi).1;rw[getElem?_set_self hlt]at hw;obtain rfl:=sI hw;exact e
 ·rw[getElem?_set_ne hj]at hw;have hM:=h.mine j w hw;apply hM.ex k m (aJ λz=>hj ?_);have:=hM.inj (h.mine i v hi) z;lia
theorem WI.setR {c:Cx} {H H':AH} {s:S} {i:Nat} {v v':Win} {ps:List Int} (h:WI c H s) (hi:s.rw[i]?=some v) (k:Ex (c.ri i::ps.map c.pa) H H') (hps:∀x∈ps,x∈s.ks) (e:FW H' c.pa (c.ri i) i v') (hsz:∀x∈ps,∃z,PN H' c.pa x z)
  (dis:∀j w,j≠i->s.rw[j]?=some w->∀x∈w.tr.panes,x∉ps):WI c H' ⟨s.rw.set i v',s.mw,s.ks,s.kb⟩:=by
 have hI:Is H (c.ri i::ps.map c.pa):=(h.real i v hi).is (Is.pn λn hn=>h.pn n (hps n hn));have keepR:∀j w,j≠i->s.rw[j]?=some w->FW H' c.pa (c.ri j) j w:=λj w hj hw=>by
  have hF:=h.real j w hw;apply hF.ex k hI.mu (λz=>?_) λn hn z=>?_
  ·apply(mC z).elim (λz=>?_) λz=>?_
   ·have:=hF.inj (h.real i v hi) z;lia
   ·exact hF.out (λn hn=>h.pn n (hps n hn)) z
  ·apply(mC z).elim (λz=>?_) λz=>?_
   ·have:=(h.real i v hi).out (ns:=w.tr.panes) hF.pn;exact this (by simp only[<-z];exact mR ⟨n,hn,rfl⟩)
   ·exact iL (hF.sz n hn) (λn hn=>h.pn n (hps n hn)) (dis j w hj hw n hn) z
 apply h.inst k hI (λj w hw=>?_) λn hn=>?_
 ·by_cases hj:i=j
  ·subst hj;have hlt:=(mE hi).1;rw[getElem?_set_self hlt]at hw;obtain rfl:=sI hw;exact e
  ·rw[getElem?_set_ne hj]at hw;exact keepR j w (λz=>hj z.symm) hw
 ·by_cases hx:n∈ps
  ·exact hsz n hx
  ·apply a8 (h.pn n hn) λsz q=>?_;apply⟨sz,q.ex k λz=>?_⟩;apply(mC z).elim (λz=>?_) λz=>?_
   ·apply a8 q λd q=>?_;apply a8 ((h.real i v hi).rw) λt z1z=>?_;obtain⟨⟨dx,nm,lp,e1,_⟩,_⟩:=z1z;simp only[z,e1]at q;simp at q
   ·exact iL q (λn hn=>h.pn n (hps n hn)) hx z
section
variable {W:Wd} {n m:Nat} {H:AH} {Q:AV->AH->Prop} {c:Cx} {s:S}
theorem gE (G:GD W) {aY:Int} (hm:1<=m) (h:WI c H s) (hb:s.kb<=10000) (h0:0<aY) (q:∀v H',0<=v->v<aY->Ex [c.D] H H'->WI c H' ⟨s.rw,s.mw,s.ks,s.kb+1⟩->Q (.int v) H'):a7 W 456 [.ref c.D,.int aY] m H Q:=by
 apply ad h.deck λk hk e=>?_;apply bZ G rfl hm rfl λn hn=>?_
 walk_at "wp"
 apply rwL (di (u:=.int k) e rfl) (rwL aU (rwL (kX e (by simp)) ?_));have x1:Ex [c.D] H (H.set c.D (.dS (ch [(bY,.ref c.Lc),(ou,.int k)] (ofString "at") (.int (k+1))))):=Ex.put;have e1:(H.set c.D (.dS (ch [(bY,.ref c.Lc),(ou,.int k)] (ofString "at") (.int (k+1))))) c.D=some (false,.dS [(bY,.ref c.Lc),(ou,.int ((k+1:Nat):Int))]):=AH.EP _ _ _;generalize H.set c.D (.dS (ch [(bY,.ref c.Lc),(ou,.int k)] (ofString "at") (.int (k+1))))=H1 at x1 e1;have h1:WI c H1 ⟨s.rw,s.mw,s.ks,s.kb+1⟩:=h.setD x1 ⟨k+1,by exact add_le_add_right hk 1,e1⟩;have fin:∀x:Int,eH .mod (.int x) (.int aY) H1 Q:=λx=>by
  simp only[gY];exact⟨by exact Ne.symm (Int.ne_of_lt h0),q _ H1 (fmod_nonneg_of_pos _ h0) (fmod_lt_of_pos _ h0) x1 h1⟩
 apply rwL (di (u:=.ref c.Lc) e1 rfl) ?_;have hc:=h1.clen;apply aF h1.cells (by simp only[length_map];unfold cap;exact le_trans hc (by decide)) ⟨λhz=>?_,λhz=>?_⟩
 ·have hz:=of_decide_eq_true hz;apply rwL (di (u:=.ref c.Lc) e1 rfl) ?_;simp only[length_map]at hz;have hlt:k<c.cells.length:=by lia
  apply df (j:=k) (u:=.int c.cells[k]) h1.cells rfl (by simp only[length_map];unfold cap;exact le_trans hc (by decide)) (by apply rwL getElem?_map (rwL (getElem?_eq_getElem hlt) ?_);rfl) (fin _)
 ·simp only[pq];apply⟨by decide,by lia,?_⟩;simp only[jq];apply⟨by decide,by lia,by decide,?_⟩;simp only[aU];exact fin _
theorem qD {n i:Nat} (h:i<n):(List.range n)[i]?=some i:=by simp[h]
theorem kQ (G:GD W) {i:Nat} {v:Win} (hm:35<=m) (h:WI c H s) (hb:s.kb<=10000) (hi:s.mw[i]?=some v) (hs:v.tr.Sm) (q:∀p H',(p∈v.tr.panes\/p=90)->Ex [c.D] H H'->WI c H' ⟨s.rw,s.mw,s.ks,s.kb+1⟩->Q (.int p) H'):a7 W 470 [.ref c.D,.ref (c.mi i)] m H Q:=by
 apply de (h.mine i v hi) λt e hL he=>?_;have hst:t.Sm:=aL.mp (he▸hs);have ept:t.panes=v.tr.panes:=by exact rwR he (rwL ab rfl)
 have hlen:=hst.len;apply bZ G rfl (show 34+1<=m from hm) rfl λn hn=>?_;ext;apply du e ?_;apply kx G (by have:=hst.dep;lia) hL hst λr1 H1 s1 e1=>?_<;>ext;apply⟨true,true,_,_,e1,e1,by rewrite [length_map];unfold cap;lia,λr2 hr2=>?_⟩<;>ext;apply⟨by decide,λr3 hr3=>?_⟩<;>ext;have s2:Sb H1 (H1.set r2 (.list (t.panes.map .int++t.panes.map .int))):=.new hr2;have e2:(H1.set r2 (.list (t.panes.map .int++t.panes.map .int))) r2=some (false,.list (t.panes.map .int++t.panes.map .int)):=AH.EP _ _ _;generalize H1.set r2 (.list (t.panes.map .int++t.panes.map .int))=H2 at s2 e2 hr3;have s3:Sb H2 (H2.set r3 (.list [.int 90])):=.new hr3;have e3:(H2.set r3 (.list [.int 90])) r3=some (false,.list [.int 90]):=AH.EP _ _ _;generalize H2.set r3 (.list [.int 90])=H3 at s3 e3;apply⟨false,false,_,_,s3.list e2,e3,by simp only[length_append,length_map,length_cons,length_nil];unfold cap;lia,λr4 hr4=>?_⟩<;>ext;have s4:Sb H3 (H3.set r4 (.list (t.panes.map .int++t.panes.map .int++[.int 90]))):=.new hr4;have e4:(H3.set r4 (.list (t.panes.map .int++t.panes.map .int++[.int 90]))) r4=some (false,.list ((t.panes++t.panes++[90]).map .int)):=by simp only[AH.EP];simp
 generalize H3.set r4 (.list (t.panes.map .int++t.panes.map .int++[.int 90]))=H4 at s4 e4;have S4:Sb H H4:=(s1.trans s2).trans (s3.trans s4);have s14:Sb H1 H4:=s2.trans (s3.trans s4);apply aF (s14.list e1) (by simp only[length_map];unfold cap;exact le_trans hlen (by decide)) ?_;simp only[pq];apply⟨by decide,by rewrite [length_map];lia,?_⟩;simp only[aU];have h4:=h.sb S4;apply gE G (ay hn rfl) h4 hb (by rewrite [length_map];exact Int.sign_eq_one_iff_pos.mp rfl) λk H5 hk0 hk1 x5 h5=>?_;simp only[length_map]at hk1;apply ad h4.deck λk0 _ ed=>?_;have e5:=x5.list e4 (aJ (aP e4 ed λz=>by lia));have hkl:k.toNat<(t.panes++t.panes++[90]).length:=by simp only[length_append,length_cons,length_nil];lia
 apply df (j:=k.toNat) (u:=.int (t.panes++t.panes++[90])[k.toNat]) e5 (by lia) (by simp only[length_map,length_append,length_cons,length_nil];unfold cap;lia) (by apply rwL getElem?_map (rwL (getElem?_eq_getElem hkl) ?_);rfl) (q _ H5 ?_ (S4.ex.trans x5) h5);have:=getElem_mem hkl;generalize (t.panes++t.panes++[90])[k.toNat]=p at this ⊢;apply rwR ept ?_;simpa using this
end
end
section
theorem PI.set {s:S} {i:Nat} {v v':Win} {mw:List Win} {kb:Nat} (h:PI s) (hi:s.rw[i]?=some v) (ok:WOK v') (sub:∀x∈v'.tr.panes,x∈s.ks) (dis:∀j w,j≠i->s.rw[j]?=some w->∀x∈w.tr.panes,x∉v'.tr.panes):PI ⟨s.rw.set i v',mw,s.ks,kb⟩:=by
 have hlt:=(mE hi).1;have mem:∀w∈s.rw.set i v',w=v'\/w∈s.rw:=λw hw=>(mem_or_eq_of_mem_set hw).symm;apply⟨λw hw=>?_,h.nd,λw hw=>?_,λj k a b hjk ha hb x hx=>?_,h.key,h.stray,h.klen,by exact rwL length_set h.wlen⟩
 ·rcases(mem w hw).imp_left Eq.symm with rfl|hw
  ·exact ok
  ·exact h.ok w hw
 ·rcases(mem w hw).imp_left Eq.symm with rfl|hw
  ·exact sub
  ·exact h.sub w hw
 ·by_cases hij:i=j
  ·subst hij;rw[getElem?_set_self hlt]at ha;obtain rfl:=sI ha;rw[getElem?_set_ne hjk]at hb;exact λz=>dis k b (λz=>hjk z.symm) hb x z hx
  ·rw[getElem?_set_ne hij]at ha;by_cases hik:i=k
   ·subst hik;rw[getElem?_set_self hlt]at hb;obtain rfl:=sI hb;exact dis j a (λz=>hij z.symm) ha x hx
   ·rw[getElem?_set_ne hik]at hb;exact h.dis j k a b hjk ha hb x hx
structure Post (c:Cx) (s:S) (c':Cx) (H':AH) (s':S):Prop where
 wi:WI c' H' s'
 pi:PI s'
 eq:s'.mw=s'.rw
 kb:s'.kb<=s.kb+20
 ks:s'.ks.length<=s.ks.length+1
 hD:c'.D=c.D
 hW:c'.Wd=c.Wd
def rx (v:AV):Prop:=(∃b,v=.tup [.bool b,.bool b])\/v=.tup [.none,.none]
abbrev kC (c:Cx) (s:S) (Q:AV->AH->Prop):Prop:=∀v c' s' H',rx v->Post c s c' H' s'->Q v H'
theorem yw {pa:Int->Addr} {p:Int}:∀{ks:List Int},p∈ks->(ks.map λn=>(n,AV.ref (pa n))).lookup p=some (.ref (pa p)):=by
 intro ks
 induction ks with
 |nil=>
  intro h;exact absurd h not_mem_nil
 |cons k ks ih=>
  intro h;simp only[map_cons,lookup_cons];by_cases hk:p=k
  ·subst hk;simp
  ·apply rwL (beq_false_of_ne hk) ?_;apply(mC h).elim (λz=>?_) λh=>?_
   ·exact absurd z hk
   ·exact ih h
section
variable {W:Wd} {n m:Nat} {H:AH} {Q:AV->AH->Prop} {c:Cx} {s:S}
theorem jx (h:WI c H s):be (.ref c.Wd) (.str (ofString "panes")) H Q=Q (.ref c.Pd) H:=di h.world rfl
theorem aM (h:WI c H s) (q:Q (.ref c.Pd) H):be (.ref c.Wd) (.str (ofString "panes")) H Q:=(jx h).mpr q
theorem pB (h:WI c H s):be (.ref c.Wd) (.str (ofString "windows")) H Q=Q (.ref c.Wl) H:=di h.world rfl
theorem jw (h:WI c H s) (q:Q (.ref c.Wl) H):be (.ref c.Wd) (.str (ofString "windows")) H Q:=(pB h).mpr q
theorem bA (h:WI c H s) {p:Int} (hp:p∈s.ks) (q:Q (.ref (c.pa p)) H):be (.ref c.Pd) (.int p) H Q:=.inr ⟨false,_,_,h.panes,yw hp,q⟩
theorem rE (h:WI c H s) {k:Int} {i:Nat} (hk:k=(i:Int)) (hi:i<s.mw.length) (hl:s.mw.length<=100) (q:Q (.ref (c.mi i)) H):be (.ref c.Wl) (.int k) H Q:=
 df (j:=i) h.wlist hk (by simp only[length_map,length_range];unfold cap;exact le_trans hl (by decide)) (by apply rwL getElem?_map (rwL (qD hi) ?_);rfl) q
theorem uR (h:WI c H s) (hl:s.ks.length<=100) (q:Q (.int s.ks.length) H):fC .len [.ref c.Pd] H Q:=.inr ⟨_,h.panes,by simp only[length_map];unfold cap;exact le_trans hl (by decide),by simpa using q⟩
theorem jc (h:WI c H s) (hl:s.mw.length<=100) (q:Q (.int s.mw.length) H):fC .len [.ref c.Wl] H Q:=aF h.wlist (by simp only[length_map,length_range];unfold cap;exact le_trans hl (by decide)) (by simpa using q)
theorem pH {k:Int} {xs:List AV} (h0:0<=k) (h1:k<xs.length) (hl:xs.length<=100) (hx:∀x∈xs,∃o,x=cR o) (q:∀o,Q (cR o) H):be (.tup xs) (.int k) H Q:=by
 have hlt:k.toNat<xs.length:=by lia
 apply a8 (hx _ (getElem_mem hlt)) λo ho=>?_;apply⟨k.toNat,xs[k.toNat],by lia,by lia,?_,getElem?_eq_getElem hlt,by exact rwL ho (q o)⟩;unfold seqIndex?;simp only[show ¬k<0 by exact not_lt_of_ge h0,if_false];exact if_pos (by simp;exact And.symm ⟨h1,h0⟩)
theorem FW.pa_congr {H:AH} {pa pa':Int->Addr} {r:Addr} {num:Int} {v:Win} (h:FW H pa r num v) (hv:WOK v) (e:∀x∈v.tr.panes,pa' x=pa x):FW H pa' r num v:=by
 apply a8 h.rw λt z1z=>?_;(apply bH z1z λz1z hL he=>gQ z1z λdx nm lp e1 e2=>?_;clear z1z);have hl:b0 pa' v.last=b0 pa v.last:=by
  cases hl:v.last with
  |none=>rfl
  |some l=>simp[b0,e l (hv.last l hl)]
 apply⟨⟨t,⟨dx,nm,lp,by apply rwL (e _ hv.act) (rwL hl ?_);exact e1,by apply rwL e2 ?_;congr 3;exact map_congr_left λx hx=>by exact congrArg _ (e x hx).symm⟩,hL,he⟩,λx hx=>?_⟩;apply a8 (h.sz x hx) λd q=>?_;exact⟨d,by simp only[e x hx];exact q⟩
theorem vn {k:Int} {u:AV}:∀{es:List (Int × AV)},k∉es.map (·.1)->ch es k u=es++[(k,u)]:=by
 intro es
 induction es with
 |nil=>
  intro _;exact rfl
 |cons p0 es ih=>
  obtain⟨j,w⟩:=p0;intro h;simp only[map_cons,mem_cons,not_or]at h;simp only[jg,cons_append];exact rwL (if_neg λz=>h.1 z.symm) (rwL (ih h.2) rfl)
theorem WI.addP (h:WI c H s) (hp:PI s) {a:Addr} {H1 H2:AH} {k:Int} (hk:k∉s.ks) (ha:H a=none) (s1:Sb H H1) (e1:∃dx,H1 a=some (false,.inst 239 dx (si k 0 0))) (x2:Ex [c.Pd] H1 H2) (e2:H2 c.Pd=some (false,.dI ((s.ks.map λn=>(n,.ref (c.pa n)))++[(k,.ref a)]))) :
  WI {c with pa:=λn=>if n=k then a else c.pa n} H2 ⟨s.rw,s.mw,s.ks++[k],s.kb⟩:=by
 have h1:=h.sb s1;have ep:=h1.panes;have m:Mu H1 [c.Pd]:=.cons ep .nil;have ho:∀C dx fs,AO.dI (s.ks.map λn=>(n,AV.ref (c.pa n)))≠.inst C dx fs:=λ_ _ _ z=>by ac_nf
 have pe:∀x∈s.ks,(if x=k then a else c.pa x)=c.pa x:=λx hx=>if_neg λz=>hk (by exact rwR z hx);apply ad h1.deck λk0 hk0 ed=>?_;apply⟨⟨k0,hk0,x2.dS ed (aJ (aP ed ep λz=>by simp at z))⟩,x2.fz m aw h1.cells,h1.clen,x2.dS h1.world (aJ (aP h1.world ep λz=>by simp at z)),?_,x2.list h1.wlist (aJ (aP h1.wlist ep λz=>by simp at z)),λi v hv=>?_,λi v hv=>?_,λx hx=>?_⟩
 ·show H2 c.Pd=some (false,.dI ((s.ks++[k]).map λn=>(n,AV.ref (if n=k then a else c.pa n))));simp only[e2,map_append,map_congr_left (l:=s.ks) (f:=λn=>(n,AV.ref (if n=k then a else c.pa n))) (g:=λn=>(n,AV.ref (c.pa n))) (λx hx=>by exact looks_pair rfl (congrArg AV.ref (pe x hx)))];simp
 ·have hm:=mem_of_getElem? hv;exact((h1.real i v hv).one x2 ep ho).pa_congr (hp.ok v hm) λx hx=>pe x (hp.sub v hm x hx)
 ·have hM:=h1.mine i v hv;apply a8 (id hM) λt z1z=>?_;obtain⟨em,_⟩:=z1z;exact hM.ex x2 m (aJ (aP em ep λz=>by simp at z))
 ·apply(mA hx).elim (λhx=>?_) λhx=>?_
  ·apply a8 (h1.pn x hx) λsz q=>?_;apply a8 (q.one x2 ep ho) λd q=>?_;exact⟨sz,d,by show H2 (if x=k then a else c.pa x)=_;exact rwL (pe x hx) q⟩
  ·apply a8 e1 λdx e1=>?_;apply rwL (mS hx) ?_;apply⟨(0,0),dx,?_⟩;show H2 (if k=k then a else c.pa k)=_;apply rwL (if_pos rfl) ?_;exact x2.inst e1 (aJ (aP e1 ep λz=>by simp at z))
theorem PI.addP {s:S} (h:PI s) (hl:s.ks.length<15):(s.ks.length:Int)∉s.ks∧PI ⟨s.rw,s.mw,s.ks++[(s.ks.length:Int)],s.kb⟩:=by
 have hk:(s.ks.length:Int)∉s.ks:=λz=>by
  apply(h.key _ z).elim (λe=>?_) λe=>?_<;>lia
 apply⟨hk,h.ok,?_,λv hv x hx=>mem_append_left _ (h.sub v hv x hx),h.dis,λx hx=>?_,mem_append_left _ h.stray,by simp;exact Nat.le_of_lt_succ hl,h.wlen⟩
 ·rewrite [nodup_append]
  exact⟨h.nd,by simp,λa ha b hb z=>hk (by apply rwR (mS hb) (rwR z ?_);exact ha)⟩
 ·simp only[length_append,length_cons,length_nil];apply(mA hx).elim (λhx=>?_) λhx=>?_
  ·apply(h.key x hx).elim (λe=>?_) λe=>?_
   ·exact .inl e
   ·exact .inr ⟨e.1,by lia⟩
  ·apply rwL (mS hx) ?_;exact .inr ⟨by exact natCast_nonneg s.ks.length,by exact Int.lt.intro rfl⟩
theorem k9 {v:Win} {t':T} {p:Int} (h:p∈t'.panes):im v t' p=cv p (ci v t'):=by
 delta im cv ci;by_cases e:v.act=p
 ·subst e;exact rwL (if_neg λz=>z rfl) (rwL (if_neg λz=>z.2 rfl) rfl)
 ·exact rwL (if_pos e) (rwL (if_pos ⟨h,λz=>e z.symm⟩) rfl)
theorem tn {v:Win} {t':T}:im v t' v.act=ci v t':=if_neg λz=>z rfl
theorem CR (G:GD W) {i:Nat} {v:Win} (hm:60<=m) (h:WI c H s) (hp:PI s) (heq:s.mw=s.rw) (hb:s.kb<=9000) (hl:s.ks.length<15) (hi:s.rw[i]?=some v) (q:kC c s Q):a7 W 496 [.ref c.D,.ref c.Wd,.ref (c.mi i)] m H Q:=by
 have hvm:=mem_of_getElem? hi;have hv:=hp.ok v hvm;have hmi:s.mw[i]?=some v:=by exact rwL heq hi
 apply bZ G rfl (show 59+1<=m from hm) rfl λn hn=>?_;ext;apply kQ G (ay hn rfl) h (le_trans hb (by decide)) hmi hv.fine.sm λp H1 hpp x1 h1=>?_;apply aM h1 ?_;apply uR h1 (by show s.ks.length<=100;lia) ?_;apply gE G (ay hn rfl) h1 (by show s.kb+1<=_;lia) (by decide) λk2 H2 _ _ x2 h2=>?_;apply rwL bu ?_;apply⟨by decide,by decide,?_⟩<;>ext;apply gE G (ay hn rfl) h2 (by show s.kb+2<=_;lia) (by decide) λk3 H3 a3 b3 x3 h3=>?_;apply pH a3 b3 (by decide) (λx hx=>?_) λsize=>?_
 ·simp only[mem_cons,not_mem_nil,or_false]at hx;rcases hx with rfl|rfl|rfl|rfl
  ·exact⟨none,rfl⟩
  ·exact⟨none,rfl⟩
  ·exact⟨some 1,rfl⟩
  ·exact⟨some 3,rfl⟩
 apply gE G (ay hn rfl) h3 (by show s.kb+3<=_;lia) (by decide) λk4 H4 _ _ x4 h4=>?_;simp only[bu];apply gE G (ay hn rfl) h4 (by show s.kb+4<=_;lia) (by decide) λk5 H5 _ _ x5 h5=>⟨xt rfl,?_⟩<;>ext;replace h5:WI c H5 ⟨s.rw,s.mw,s.ks,s.kb+5⟩:=h5;generalize (k2==0)=d;generalize (k4==1)=before;generalize decide (k5<2)=active;clear x1 x2 x3 x4 x5 h1 h2 h3 h4;have hp5:PI ⟨s.rw,s.mw,s.ks,s.kb+5⟩:=⟨hp.ok,hp.nd,hp.sub,hp.dis,hp.key,hp.stray,hp.klen,hp.wlen⟩;apply af (hp5.addP hl) λhfk hp6=>?_;apply mo G (ay hn rfl) λa H6 ha s6 e6=>?_;have h6:=h5.sb s6;apply aM h6 ?_;apply .inr ⟨_,h6.panes,by simp only[length_map];unfold cap;lia,?_⟩<;>ext;have hput:ch (s.ks.map λn=>(n,AV.ref (c.pa n))) (s.ks.length:Int) (.ref a)=(s.ks.map λn=>(n,AV.ref (c.pa n)))++[((s.ks.length:Int),.ref a)]:=vn (by simpa using hfk)
 try dsimp only
 simp only[hput];have x7:Ex [c.Pd] H6 (H6.set c.Pd (.dI ((s.ks.map λn=>(n,AV.ref (c.pa n)))++[((s.ks.length:Int),.ref a)]))):=Ex.put;have h7:=h5.addP hp5 (k:=(s.ks.length:Int)) hfk ha s6 e6 x7 (AH.EP _ _ _);generalize H6.set c.Pd (.dI ((s.ks.map λn=>(n,AV.ref (c.pa n)))++[((s.ks.length:Int),.ref a)]))=H7 at h7;clear x7 e6 ha h6 s6;generalize hc':({c with pa:=λn=>if n=(s.ks.length:Int)then a else c.pa n}:Cx)=c' at h7;have cD:c'.D=c.D:=by exact rwR hc' rfl
 have cW:c'.Wd=c.Wd:=by exact rwR hc' rfl
 have cm:c'.mi=c.mi:=by exact rwR hc' rfl
 apply rwR cW (rwR cm ?_);apply de (h7.mine i v hmi) λt em hL he=>?_;apply kO em ?_;apply a8 ((h7.real i v hi).rw) λtt z1z=>?_;obtain⟨⟨dxr,nmr,lpr,er1,_⟩,_⟩:=z1z;have hpks:p∈s.ks++[(s.ks.length:Int)]:=by
  rcases hpp with z|rfl
  ·exact mem_append_left _ (hp.sub v hvm p z)
  ·exact mem_append_left _ hp.stray
 have hfks:(s.ks.length:Int)∈s.ks++[(s.ks.length:Int)]:=by exact mem_append_right _ (.head _)
 apply fF (g:=345) er1 rfl rfl ?_;apply aM h7 ?_;apply bA h7 hpks ?_;apply aM h7 ?_;apply bA h7 hfks ?_;have vl:=hp.len hvm;apply CX G (ay hn rfl) (h7.real i v hi) hv (by lia) (h7.pn p hpks) (h7.pn _ hfks) ⟨by exact natCast_nonneg s.ks.length,by lia⟩ (λhs H8 s8=>?_) λv' hs H8 x8 f8 w8=>?_<;>ext
 ·have h8:=h7.sb s8;apply de (h8.mine i v hmi) λt em hL he=>?_;apply du em ?_;have hs':Tr.bl v.tr p (s.ks.length:Int) d size before=none:=by
   unfold xL at hs;exact Option.map_eq_none_iff.mp hs
  apply pj G (ay hn rfl) hL (he▸hv.fine) (λ_ H9 s9=>?_) λt' hz=>by simp only[he,hs']at hz;exact nS hz
  have h9:=h8.sb s9;apply a8 (h9.mine i v hmi) λt9 z1z=>?_;obtain⟨em9,_⟩:=z1z;have fin:∀k,a7 W 489 [.ref (c'.mi i),.none,.int k] n H9 λv_1 H=>2<=cap∧Q (.tup [.bool false,v_1]) H:=λk=>ud G (ay hn rfl) ⟨by decide,q _ c' _ H9 (.inl ⟨false,rfl⟩) ⟨h9,hp6,heq,by show s.kb+5<=s.kb+20;lia,by simp,cD,cW⟩⟩;exact⟨λ_=>fin _,λ_=>by ext;exact rwL (wq em9) (fin _)⟩
 ·unfold xL at hs;apply ad (map_eq_some_iff.mp hs) λt2 hs2 hv'=>?_;apply jO (eJ hv.fine hv.nd hs2 (by lia)) λj1 j2 j3 j4 _ _=>?_;have htr:v'.tr=t2:=by
   apply rwR hv' ?_;split
   ·exact dq
   ·rfl
  have sub8:∀x∈v'.tr.panes,x∈s.ks++[(s.ks.length:Int)]:=λx hx=>by
   rw[htr]at hx;rcases(j3 x).mp hx with z|rfl
   ·exact mem_append_left _ (hp.sub v hvm x z)
   ·exact hfks
  have dis8:∀j w,j≠i->s.rw[j]?=some w->∀x∈w.tr.panes,x∉v'.tr.panes:=λj w hj hw x hx z=>by
   rw[htr]at z;rcases(j3 x).mp z with z|rfl
   ·exact hp.dis j i w v hj hw hi x hx z
   ·exact hfk (hp.sub w (mem_of_getElem? hw) _ hx)
  have h8:=h7.setR hi x8 sub8 f8 (λx hx=>f8.pn x hx) dis8;have hp8:PI ⟨s.rw.set i v',s.mw,s.ks++[(s.ks.length:Int)],s.kb+5⟩:=hp6.set hi w8 sub8 dis8;apply de (h8.mine i v hmi) λt em hL he=>?_;apply du em ?_;apply pj G (ay hn rfl) hL (he▸hv.fine) (λhz=>by rw[he,hs2]at hz;exact sN hz) λt' hz H9 s9 l9=>?_<;>ext;simp only[he,hs2]at hz;obtain rfl:=sI hz;have h9:=h8.sb s9;apply a8 (h9.mine i v hmi) λt9 z1z=>?_;obtain⟨em9,_⟩:=z1z;have fin:∀k,im v (er t') k=v'->a7 W 489 [.ref (c'.mi i),.ref t'.tag.1,.int k] n H9 λv_1 H=>2<=cap∧Q (.tup [.bool true,v_1]) H:=λk hk=>by
   apply zb G (ay hn rfl) (h9.mine i v hmi) l9 λH10 x10 m10=>⟨by decide,?_⟩;simp only[hk]at m10;have h10:=h9.setM hmi x10 m10;exact q _ c' _ H10 (.inl ⟨true,rfl⟩) ⟨h10,⟨hp8.ok,hp8.nd,hp8.sub,hp8.dis,hp8.key,hp8.stray,hp8.klen,hp8.wlen⟩,by show s.mw.set i v'=s.rw.set i v';exact heq▸rfl,by show s.kb+5<=s.kb+20;lia,by simp,cD,cW⟩
  apply⟨λha=>fin _ ?_,λha=>?_⟩
  ·(have hv':=hv';rw[if_pos ha]at hv');simp only[<-hv'];exact k9 ((j3 _).mpr (.inr rfl))
  ·(have hv':=hv';rw[if_neg (by apply rwL ha ?_;simp)]at hv');apply tA em9 ?_;exact fin _ (by simp only[<-hv'];exact tn)
end
end
section
theorem PI.set2 {s:S} {i j:Nat} {v u v' u':Win} {mw:List Win} {kb:Nat} (h:PI s) (hij:i≠j) (hi:s.rw[i]?=some v) (hj:s.rw[j]?=some u) (ok:WOK v') (ok2:WOK u') (sub:∀x∈v'.tr.panes,x∈s.ks) (sub2:∀x∈u'.tr.panes,x∈s.ks) (d12:∀x∈v'.tr.panes,x∉u'.tr.panes)
  (dis:∀k w,k≠i->k≠j->s.rw[k]?=some w->∀x∈w.tr.panes,x∉v'.tr.panes∧x∉u'.tr.panes):PI ⟨(s.rw.set i v').set j u',mw,s.ks,kb⟩:=by
 have hil:=(mE hi).1;have hjl:=(mE hj).1;have mem:∀w∈(s.rw.set i v').set j u',w=u'\/w=v'\/w∈s.rw:=λw hw=>by
  apply(mem_or_eq_of_mem_set hw).elim (λhw=>?_) λhw=>?_
  ·apply(mem_or_eq_of_mem_set hw).elim (λhw=>?_) λhw=>?_
   ·exact .inr (.inr hw)
   ·exact .inr (.inl hw)
  ·exact .inl hw
 have get:∀k,((s.rw.set i v').set j u')[k]?=if k=j then some u' else if k=i then some v' else s.rw[k]?:=λk=>by
  by_cases h1:k=j
  ·obtain rfl:=h1.symm;rw[if_pos rfl,getElem?_set_self (by simpa using hjl)]
  ·apply rwL (if_neg h1) (rwL (getElem?_set_ne (λz=>h1 z.symm)) ?_);by_cases h2:k=i
   ·obtain rfl:=h2.symm;rw[if_pos rfl,getElem?_set_self hil]
   ·rw[if_neg h2,getElem?_set_ne (λz=>h2 z.symm)]
 apply⟨λw hw=>?_,h.nd,λw hw=>?_,λa b x y hab ha hb z hz=>?_,h.key,h.stray,h.klen,by apply rwL length_set (rwL length_set ?_);exact h.wlen⟩
 ·rcases mem w hw with rfl|rfl|hw
  ·exact ok2
  ·exact ok
  ·exact h.ok w hw
 ·rcases mem w hw with rfl|rfl|hw
  ·exact sub2
  ·exact sub
  ·exact h.sub w hw
 ·simp only[get]at ha hb;split at ha
  ·rename_i e1;obtain rfl:=sI ha;split at hb
   ·rename_i e2;exact absurd (e1.trans e2.symm) hab
   ·split at hb
    ·obtain rfl:=sI hb;exact λq=>d12 z q hz
    ·rename_i e2 e3;exact λq=>(dis b y e3 e2 hb z q).2 hz
  ·split at ha
   ·rename_i e1 e2;obtain rfl:=sI ha;split at hb
    ·obtain rfl:=sI hb;exact d12 z hz
    ·split at hb
     ·rename_i e3 e4;exact absurd (e2.trans e4.symm) hab
     ·rename_i e3 e4;exact λq=>(dis b y e4 e3 hb z q).1 hz
   ·rename_i e1 e2;split at hb
    ·obtain rfl:=sI hb;exact(dis a x e2 e1 ha z hz).2
    ·split at hb
     ·obtain rfl:=sI hb;exact(dis a x e2 e1 ha z hz).1
     ·exact h.dis a b x y hab ha hb z hz
theorem WI.setR2 {c:Cx} {H H':AH} {s:S} {i j:Nat} {v u v' u':Win} {ps:List Int} (h:WI c H s) (hij:i≠j) (hi:s.rw[i]?=some v) (hj:s.rw[j]?=some u) (k:Ex (c.ri i::c.ri j::ps.map c.pa) H H') (hps:∀x∈ps,x∈s.ks) (e:FW H' c.pa (c.ri i) i v') (e2:FW H' c.pa (c.ri j) j u')
  (hsz:∀x∈ps,∃z,PN H' c.pa x z) (dis:∀k w,k≠i->k≠j->s.rw[k]?=some w->∀x∈w.tr.panes,x∉ps):WI c H' ⟨(s.rw.set i v').set j u',s.mw,s.ks,s.kb⟩:=by
 have hil:=(mE hi).1;have hjl:=(mE hj).1;have hI:Is H (c.ri i::c.ri j::ps.map c.pa):=(h.real i v hi).is ((h.real j u hj).is (Is.pn λn hn=>h.pn n (hps n hn)));have nri:∀x z,PN H c.pa x z->c.pa x≠c.ri i∧c.pa x≠c.ri j:=λx z q=>by
  apply a8 q λd q=>?_;apply a8 ((h.real i v hi).rw) λt z1z=>?_;obtain⟨⟨dx,nm,lp,e1,_⟩,_⟩:=z1z;apply a8 ((h.real j u hj).rw) λt' z1z=>?_;obtain⟨⟨dx',nm',lp',e1',_⟩,_⟩:=z1z;exact⟨(λz=>by simp only[z,e1]at q;exact nomatch q),(λz=>by simp only[z,e1']at q;exact nomatch q)⟩
 have keepR:∀k w,k≠i->k≠j->s.rw[k]?=some w->FW H' c.pa (c.ri k) k w:=λa w hai haj hw=>by
  have hF:=h.real a w hw;apply hF.ex k hI.mu (λz=>?_) λn hn z=>?_
  ·apply(mC z).elim (λz=>?_) λz=>?_
   ·have:=hF.inj (h.real i v hi) z;lia
   ·apply(mC z).elim (λz=>?_) λz=>?_
    ·have:=hF.inj (h.real j u hj) z;lia
    ·exact hF.out (λn hn=>h.pn n (hps n hn)) z
  ·apply(mC z).elim (λz=>?_) λz=>?_
   ·exact(nri n _ (hF.sz n hn)).1 z
   ·apply(mC z).elim (λz=>?_) λz=>?_
    ·exact(nri n _ (hF.sz n hn)).2 z
    ·exact iL (hF.sz n hn) (λn hn=>h.pn n (hps n hn)) (dis a w hai haj hw n hn) z
 apply h.inst k hI (λa w hw=>?_) λn hn=>?_
 ·by_cases h1:a=j
  ·obtain rfl:=h1.symm;rw[getElem?_set_self (by simpa using hjl)]at hw;obtain rfl:=sI hw;exact e2
  ·rw[getElem?_set_ne (λz=>h1 z.symm)]at hw;by_cases h2:a=i
   ·obtain rfl:=h2.symm;rw[getElem?_set_self hil]at hw;obtain rfl:=sI hw;exact e
   ·rw[getElem?_set_ne (λz=>h2 z.symm)]at hw;exact keepR a w h2 h1 hw
 ·by_cases hx:n∈ps
  ·exact hsz n hx
  ·apply a8 (h.pn n hn) λsz q=>?_;apply⟨sz,q.ex k λz=>?_⟩;apply(mC z).elim (λz=>?_) λz=>?_
   ·exact(nri n _ q).1 z
   ·apply(mC z).elim (λz=>?_) λz=>?_
    ·exact(nri n _ q).2 z
    ·exact iL q (λn hn=>h.pn n (hps n hn)) hx z
section
variable {W:Wd} {n m:Nat} {H:AH} {Q:AV->AH->Prop} {c:Cx} {s:S}
theorem PI.kb {s:S} (h:PI s) (kb:Nat):PI ⟨s.rw,s.mw,s.ks,kb⟩:=⟨h.ok,h.nd,h.sub,h.dis,h.key,h.stray,h.klen,h.wlen⟩
theorem WI.mi_inj (h:WI c H s) {i j:Nat} {v u:Win} (hi:s.mw[i]?=some v) (hj:s.mw[j]?=some u) (hij:i≠j):c.mi i≠c.mi j:=λz=>hij (by
 have:=(h.mine i v hi).inj (h.mine j u hj) z;lia)
theorem WI.mi_own (h:WI c H s) {i:Nat} {v:Win} (hi:s.mw[i]?=some v):∃p,H (c.mi i)=some p∧p.2≠.opq:=by obtain⟨t,e,_,_⟩:=h.mine i v hi;exact⟨_,e,λz=>by ac_nf⟩
theorem WI.ri_at (h:WI c H s) {i:Nat} {v:Win} (hi:s.rw[i]?=some v):E2 λdx fs=>H (c.ri i)=some (false,.inst 420 dx fs)∧∀m,m∈[82,83,84,85,86,87,88,89,90,91,92,93,94]->fs.lookup m=none:=by
 apply a8 ((h.real i v hi).rw) λt z1z=>?_;obtain⟨⟨dx,nm,lp,e,_⟩,_⟩:=z1z;exact⟨dx,_,e,λm hm=>by
  simp only[mem_cons,not_mem_nil,or_false]at hm;rcases hm with rfl|rfl|rfl|rfl|rfl|rfl|rfl|rfl|rfl|rfl|rfl|rfl|rfl<;>rfl⟩
theorem bL {b:Bool}:rx (.tup [.bool b,.bool b]):=.inl ⟨b,rfl⟩
theorem rF:rx (.tup [.none,.none]):=.inr rfl
theorem CN (G:GD W) {i:Nat} {v:Win} (hm:60<=m) (h:WI c H s) (hp:PI s) (heq:s.mw=s.rw) (hb:s.kb<=9000) (hi:s.rw[i]?=some v) (q:kC c s Q):a7 W 536 [.ref c.D,.ref (c.mi i)] m H Q:=by
 have hvm:=mem_of_getElem? hi;have hv:=hp.ok v hvm;have hmi:s.mw[i]?=some v:=by exact rwL heq hi
 apply bZ G rfl (show 59+1<=m from hm) rfl λn hn=>?_;ext;apply gE G (ay hn rfl) h (le_trans hb (by decide)) (by decide) λk1 H1 _ _ x1 h1=>?_;simp only[bu];generalize (k1==1)=back;replace h1:WI c H1 ⟨s.rw,s.mw,s.ks,s.kb+1⟩:=h1;apply de (h1.mine i v hmi) λt em hL he=>?_;have hst:t.Sm:=aL.mp (he▸hv.fine.sm);have ept:t.panes=v.tr.panes:=by exact rwR he (rwL ab rfl)
 have hlen:=hst.len;apply du em ?_;apply kx G (by have:=hst.dep;lia) hL hst λr2 H2 s2 el=>⟨⟨_,_,_,rfl,el⟩,?_⟩;have h2:=h1.sb s2;apply tA (s2.dS em) ?_;apply⟨true,t.panes,el,by apply rwL ept ?_;exact hv.act,by unfold cap;exact le_trans hlen (by decide),by decide,?_⟩<;>ext;apply rwL (DJ (s2.dS em)) (rwL ept ?_);apply bb (h2.ri_at hi) λdx fs er hfs=>?_;apply af (A0 (back:=back) hv) λwro tro=>?_;apply af (jD (back:=back) hv) λk1 k2=>?_;apply(fF (g:=388) er rfl (hfs _ (by decide)) (CV G (ay hn rfl) (h2.real i v hi) hv λH3 x3 f3=>?_))<;>ext;have h3:=h2.setR hi x3 (hp.sub v hvm) f3 (λx hx=>f3.pn x (by exact rwL tro (k2.mem_iff.mpr hx))) λj w hj hw x hx=>hp.dis j i w v hj hw hi x hx;have p3:PI ⟨s.rw.set i (xj v back),s.mw,s.ks,s.kb+1⟩:=hp.set hi wro (λx hx=>hp.sub v hvm x (k2.mem_iff.mp (by rwa [tro]at hx))) λj w hj hw x hx z=>hp.dis j i w v hj hw hi x hx (k2.mem_iff.mp (by rwa [tro]at z));apply de (h3.mine i v hmi) λt3 em3 hL3 he3=>?_;have ept3:t3.panes=v.tr.panes:=by exact rwR he3 (rwL ab rfl)
 apply du em3 ?_;apply Bb G (back:=back) (ay hn rfl) hL3 (he3▸hv.fine) (by exact rwL ept3 hv.nd) λt4 H4 ht s4 l4=>⟨by decide,?_⟩;simp only[he3]at ht;have h4:=h3.sb s4;rw[zt (s4.dS em3),xM (AH.EP _ _ _),AH.set_set]<;>ext;have x5:Ex [c.mi i] H4 (H4.set (c.mi i) (.dS (eI i (c.ri i) t4.tag.1 v.act v.last false))):=Ex.put;have e5:=AH.EP H4 (c.mi i) (.dS (eI i (c.ri i) t4.tag.1 v.act v.last false));generalize H4.set (c.mi i) (.dS (eI i (c.ri i) t4.tag.1 v.act v.last false))=H5 at x5 e5;have m4:Mu H4 [c.mi i]:=.cons (s4.dS em3) .nil;have M5:MW H5 (c.mi i) (c.ri i) i (ci v (Tr.gM back v.tr)):=⟨t4,e5,l4.mu x5 m4,ht⟩;have h5:=h4.setM hmi x5 M5;have hil:i<s.mw.length:=(mE hmi).1;apply du e5 ?_;have hst4:t4.Sm:=aL.mp (ht▸k1.sm);have ept4:t4.panes=(Tr.gM back v.tr).panes:=by exact rwR ht (rwL ab rfl)
 apply kx G (by have:=hst4.dep;lia) (l4.mu x5 m4) hst4 λr6 H6 s6 e6=>?_;have h6:=h5.sb s6;have hidx:v.tr.panes.idxOf v.act<(Tr.gM back v.tr).panes.length:=by simp only[k2.length_eq];exact List.idxOf_lt_length_iff.mpr hv.act
 have hget:=getElem?_eq_getElem hidx;have hmem:=getElem_mem hidx;generalize (Tr.gM back v.tr).panes[v.tr.panes.idxOf v.act]'hidx=a at hget hmem;have hkl:=k1.sm.len;apply df (j:=v.tr.panes.idxOf v.act) (u:=.int a) e6 rfl (by apply rwL ept4 ?_;simp only[length_map];unfold cap;exact le_trans hkl (by decide)) (by apply rwL ept4 (rwL getElem?_map (rwL hget ?_));rfl) ?_;have hro:xj v back=cv a (ci v (Tr.gM back v.tr)):=by unfold xj;apply rwL hget ?_;rfl
 apply wK G (v:=ci v (Tr.gM back v.tr)) (ay hn rfl) (M5.sb s6) k1.sm λH7 x7 m7=>⟨by decide,?_⟩;simp only[<-hro]at m7;have h7:=h6.setM (i:=i) (v:=ci v (Tr.gM back v.tr)) (by show(s.mw.set i _)[i]?=_;rw[getElem?_set_self hil]) x7 m7;exact q _ c _ H7 rF ⟨h7,⟨p3.ok,p3.nd,p3.sub,p3.dis,p3.key,p3.stray,p3.klen,p3.wlen⟩,by show(s.mw.set i _).set i _=s.rw.set i _;rw[heq,List.set_set],by show s.kb+1<=s.kb+20;lia,by show s.ks.length<=_;exact le_add_right s.ks.length 1,rfl,rfl⟩
end
end
section
section
variable {W:Wd} {n m:Nat} {H:AH} {Q:AV->AH->Prop} {c:Cx} {s:S}
theorem lO {xs:List AV} {k:Int} {j:Nat} {u:AV} (hk:k=(j:Int)) (hl:xs.length<=100) (hu:xs[j]?=some u) (q:Q u H):be (.tup xs) (.int k) H Q:=by
 have hlt:=(mE hu).1;apply⟨j,u,by lia,by lia,?_,hu,q⟩;unfold seqIndex?;simp only[show ¬k<0 by lia,if_false];apply rwL (if_pos (by simp;lia)) (rwL hk ?_);simp
theorem sX (G:GD W) {Z:am} {QS:am->AH->Prop} {i:Nat} {v:Win} {p b:Int} {d before told:Bool} {size:Option Int} {r1 r2:Addr} (hn:50<=n) (h6:Z.lookup 6=some (.int p)) (h55:Z.lookup 55=some (.int b)) (h77:Z.lookup 77=some (.ref r1)) (h78:Z.lookup 78=some (.ref r2)) (h64:Z.lookup 64=some (.bool told))
  (h61:Z.lookup 61=some (.ref (c.mi i))) (h65:Z.lookup 65=some (.ref (c.mi i))) (h27:Z.lookup 27=some (.bool d)) (h34:Z.lookup 34=some (cR size)) (h35:Z.lookup 35=some (.bool before)) (h:WI c H s) (hv:WOK v) (hi:s.mw[i]?=some v)
  (e1:H r1=some (true,.list (v.tr.panes.map .int))) (e2:H r2=some (true,.list (v.tr.panes.map .int))) (ht:told=(eS v p b d size before).isSome)
  (q:∀H',WI c H' ⟨s.rw,s.mw.set i ((eS v p b d size before).getD v),s.ks,s.kb⟩->Q (.tup [.bool told,.bool told]) H'):cG W n (kT.drop 6) Z H QS Q:=by
 unfold kT;simp only[drop_succ_cons,drop_zero];apply cI (.cons h6 (.cons h55 (.cons h77 (.cons h78 (.cons h64 (.cons h61 (.cons h65 (.cons h27 (.cons h34 (.cons h35 .nil)))))))))) ?_;ext;have set0:s.mw.set i v=s.mw:=by
  have:=mE hi;apply a8 this λhl e=>?_;clear this;exact rwR e (set_getElem_self hl)
 have no:¬(p∈v.tr.panes∧(b∈v.tr.panes∧p≠b))->2<=cap∧Q (.tup [.bool told,.bool false]) H:=λz=>by
  have e0:eS v p b d size before=none:=if_neg z;simp only[e0]at ht q;subst ht;exact⟨by decide,q H (by show WI c H ⟨s.rw,s.mw.set i v,s.ks,s.kb⟩;exact rwL set0 h)⟩
 try rw[bu]
 apply⟨λhz=>⟨λ_=>no λz=>?_,λz=>by ac_nf⟩,λhz=>⟨p,r1,true,v.tr.panes,rfl,rfl,e1,λhy=>⟨λ_=>no λz=>?_,λz=>by ac_nf⟩,λhy=>⟨b,r2,true,v.tr.panes,rfl,rfl,e2,λhx=>no λz=>?_,λhx=>?_⟩⟩⟩<;>ext
 ·exact z.2.2 (by simpa using hz)
 ·simp[z.1]at hy
 ·simp[z.2.1]at hx
 have hpb:p≠b:=by simpa using hz
 have hpm:p∈v.tr.panes:=by simpa using hy
 have hbm:b∈v.tr.panes:=by simpa using hx
 have h1:v.tr.panes.length≠1:=λz=>by
  apply a8 (List.length_eq_one_iff.mp z) λx hx=>?_;simp only[hx]at hpm hbm;exact hpb ((mS hpm).trans (mS hbm).symm)
 apply a8 (Tr.bi hv.fine hpm h1) λg z1z=>?_;obtain⟨hc,_⟩:=z1z;apply jO (cP hv hpm hc) λ_ hmem k1 hnd _ _=>?_;apply de (h.mine i v hi) λt em hL he=>?_;have own:=h.mi_own hi;apply⟨decide (c.mi i=c.mi i),rfl,⟨own,own.imp λ_ z=>z.1⟩,(λ_=>?_),λz=>by simp at z⟩;apply du em ?_;apply wN G (ay hn rfl) hL (he▸hv.fine) (λhs=>by simp only[he,hc]at hs;exact sN hs) λg' hs H1 s1 l1=>?_<;>ext;simp only[he,hc]at hs;obtain rfl:=sI hs;have h1':=h.sb s1;apply pj G (ay hn rfl) l1 k1 (λhs H2 s2=>?_) λt' hs H2 s2 l2=>?_<;>ext
 ·have e0:eS v p b d size before=none:=by unfold eS;apply rwL (if_pos ⟨hpm,hbm,hpb⟩) (rwL hc ?_);simp[hs]
  simp only[e0]at ht q;subst ht;have h2:=h1'.sb s2;apply⟨true,rfl,trivial,(λ_=>⟨(λz=>by ac_nf),λ_=>?_⟩),λz=>by exact absurd z false_ne_true⟩<;>ext;exact ud G (ay hn rfl) ⟨by decide,q H2 (by show WI c H2 ⟨s.rw,s.mw.set i v,s.ks,s.kb⟩;exact rwL set0 h2)⟩
 ·have e0:eS v p b d size before=some (cv p (ci v (er t'))):=by unfold eS;apply rwL (if_pos ⟨hpm,hbm,hpb⟩) (rwL hc ?_);simp[hs]
  simp only[e0]at ht q;subst ht;have h2:=h1'.sb s2;apply af (ke hv hpm hc hs) λ_ hm'=>?_;have own2:=h2.mi_own hi;apply⟨false,rfl,trivial,(λz=>by ac_nf),λ_=>⟨decide (c.mi i=c.mi i),rfl,⟨own2,own2.imp λ_ z=>z.1⟩,(λz=>by simp at z),λ_=>?_⟩⟩<;>ext;apply zb G (ay hn rfl) (h2.mine i v hi) l2 λH3 x3 m3=>⟨by decide,?_⟩;simp only[k9 ((hm' p).mpr hpm)]at m3;exact q H3 (h2.setM hi x3 m3)
theorem sY (G:GD W) {Z:am} {QS:am->AH->Prop} {i j:Nat} {v u:Win} {p b:Int} {d before told:Bool} {size:Option Int} {r1 r2:Addr} (hn:50<=n) (hij:i≠j) (h6:Z.lookup 6=some (.int p)) (h55:Z.lookup 55=some (.int b)) (h77:Z.lookup 77=some (.ref r1)) (h78:Z.lookup 78=some (.ref r2)) (h64:Z.lookup 64=some (.bool told))
  (h61:Z.lookup 61=some (.ref (c.mi i))) (h65:Z.lookup 65=some (.ref (c.mi j))) (h27:Z.lookup 27=some (.bool d)) (h34:Z.lookup 34=some (cR size)) (h35:Z.lookup 35=some (.bool before)) (h:WI c H s) (hv:WOK v) (hu:WOK u) (hi:s.mw[i]?=some v) (hj:s.mw[j]?=some u) (hul:u.tr.panes.length+1<=20) (hl1:v.tr.panes.length≠1)
  (e1:H r1=some (true,.list (v.tr.panes.map .int))) (e2:H r2=some (true,.list (u.tr.panes.map .int))) (ht:told=(dX v u p b d size before).isSome)
  (q:∀H',WI c H' ⟨s.rw,(s.mw.set i ((dX v u p b d size before).getD (v,u)).1).set j ((dX v u p b d size before).getD (v,u)).2,s.ks,s.kb⟩->Q (.tup [.bool told,.bool told]) H'):cG W n (kT.drop 6) Z H QS Q:=by
 unfold kT;simp only[drop_succ_cons,drop_zero];apply cI (.cons h6 (.cons h55 (.cons h77 (.cons h78 (.cons h64 (.cons h61 (.cons h65 (.cons h27 (.cons h34 (.cons h35 .nil)))))))))) ?_;ext;have set0:(s.mw.set i v).set j u=s.mw:=by
  apply a8 (mE hi) λhl e=>?_;apply a8 (mE hj) λhl2 e2=>?_;simp only[<-e,set_getElem_self hl,<-e2,set_getElem_self hl2]
 have no:dX v u p b d size before=none->∀H',WI c H' s->2<=cap∧Q (.tup [.bool told,.bool false]) H':=λe0 H' h'=>by
  simp only[e0]at ht q;subst ht;exact⟨by decide,q H' (by show WI c H' ⟨s.rw,(s.mw.set i v).set j u,s.ks,s.kb⟩;exact rwL set0 h')⟩
 have no':¬(p∈v.tr.panes∧(b∈u.tr.panes∧p≠b))->2<=cap∧Q (.tup [.bool told,.bool false]) H:=λz=>no (if_neg z) H h
 try rw[bu]
 apply⟨λhz=>⟨λ_=>no' λz=>?_,λz=>by ac_nf⟩,λhz=>⟨p,r1,true,v.tr.panes,rfl,rfl,e1,λhy=>⟨λ_=>no' λz=>?_,λz=>by ac_nf⟩,λhy=>⟨b,r2,true,u.tr.panes,rfl,rfl,e2,λhx=>no' λz=>?_,λhx=>?_⟩⟩⟩<;>ext
 ·exact z.2.2 (by simpa using hz)
 ·simp[z.1]at hy
 ·simp[z.2.1]at hx
 have hpb:p≠b:=by simpa using hz
 have hpm:p∈v.tr.panes:=by simpa using hy
 have hbm:b∈u.tr.panes:=by simpa using hx
 apply a8 (Tr.bi hv.fine hpm hl1) λg z1z=>?_;obtain⟨hc,_⟩:=z1z;have hdrop:ce v p=some (bC v p g):=by unfold ce;apply rwL (if_pos hpm) (rwL hc ?_);rfl
 apply de (h.mine j u hj) λtu eu hLu heu=>?_;have own:=h.mi_own hi;have ownj:=h.mi_own hj;have mne:=h.mi_inj hi hj hij;have hdec:decide (c.mi i=c.mi j)=false:=by simpa using mne
 apply⟨decide (c.mi i=c.mi j),rfl,⟨own,ownj.imp λ_ z=>z.1⟩,(λz=>by rw[hdec]at z;ac_nf),λ_=>?_⟩;apply du eu ?_<;>ext;apply pj G (ay hn rfl) hLu (heu▸hu.fine) (λhs H2 s2=>?_) λt' hs H2 s2 l2=>?_<;>ext
 ·have hs:=heu▸hs;have e0:dX v u p b d size before=none:=by unfold dX;apply rwL (if_pos ⟨hpm,hbm,hpb⟩) ?_;simp[hs]
  have h2:=h.sb s2;apply⟨true,rfl,trivial,(λ_=>⟨(λz=>by ac_nf),λ_=>?_⟩),λz=>by exact absurd z false_ne_true⟩<;>ext;exact ud G (ay hn rfl) (no e0 H2 h2)
 ·have hs:=heu▸hs;have e0:dX v u p b d size before=some (bC v p g,cv p (ci u (er t'))):=by unfold dX;apply rwL (if_pos ⟨hpm,hbm,hpb⟩) ?_;simp[hs,hdrop]
  simp only[e0]at ht q;subst ht;have h2:=h.sb s2;apply jO (eJ hu.fine hu.nd hs hul) λj1 j2 j3 j4 _ _=>?_;have own2:=h2.mi_own hi;have ownj2:=h2.mi_own hj;apply⟨false,rfl,trivial,(λz=>by ac_nf),λ_=>⟨decide (c.mi i=c.mi j),rfl,⟨own2,ownj2.imp λ_ z=>z.1⟩,(λ_=>?_),λz=>by rw[hdec]at z;ac_nf⟩⟩<;>ext;apply ue G (ay hn rfl) (h2.mine i v hi) hv λH3 x3 m3=>?_<;>ext;simp only[hdrop]at m3;have h3:=h2.setM hi x3 m3;have hj3:(s.mw.set i (bC v p g))[j]?=some u:=by apply rwL (getElem?_set_ne hij) ?_;exact hj
  apply a8 (h2.mine i v hi) λti z1z=>?_;obtain⟨ei,_⟩:=z1z;have mu3:Mu H2 [c.mi i]:=.cons ei .nil;apply zb G (ay hn rfl) (h3.mine j u hj3) (l2.mu x3 mu3) λH4 x4 m4=>⟨by decide,?_⟩;simp only[k9 ((j3 p).mpr (.inr rfl))]at m4;exact q H4 (h3.setM hj3 x4 m4)
theorem CQ (G:GD W) {i j:Nat} {v u:Win} (hm:60<=m) (h:WI c H s) (hp:PI s) (heq:s.mw=s.rw) (hb:s.kb<=9000) (hi:s.rw[i]?=some v) (hj:s.rw[j]?=some u) (q:kC c s Q):a7 W 503 [.ref c.D,.ref c.Wd,.ref (c.mi i),.ref (c.mi j)] m H Q:=by
 have hvm:=mem_of_getElem? hi;have hum:=mem_of_getElem? hj;have hv:=hp.ok v hvm;have hu:=hp.ok u hum;have hmi:s.mw[i]?=some v:=by exact rwL heq hi
 have hmj:s.mw[j]?=some u:=by exact rwL heq hj
 apply bZ G rfl (show 59+1<=m from hm) rfl λn hn=>?_;have hd:kT=kT.take 6++kT.drop 6:=rfl;apply rwL hd (rwL qm ?_);generalize hT:kT.drop 6=T6;delta kT zF;simp only[take_succ_cons,take_zero];ext;apply kQ G (ay hn rfl) h (le_trans hb (by decide)) hmi hv.fine.sm λp H1 hpp x1 h1=>?_;apply kQ G (ay hn rfl) h1 (by show s.kb+1<=_;lia) hmj hu.fine.sm λb H2 hbb x2 h2=>?_;apply gE G (ay hn rfl) h2 (by show s.kb+2<=_;lia) (by decide) λk3 H3 _ _ x3 h3=>?_;simp only[bu];apply⟨by decide,by decide,?_⟩<;>ext;apply gE G (ay hn rfl) h3 (by show s.kb+3<=_;lia) (by decide) λk4 H4 a4 b4 x4 h4=>?_;apply pH a4 b4 (by decide) (λx hx=>?_) λsize=>?_
 ·simp only[mem_cons,not_mem_nil,or_false]at hx;rcases hx with rfl|rfl
  ·exact⟨none,rfl⟩
  ·exact⟨some 2,rfl⟩
 apply gE G (ay hn rfl) h4 (by show s.kb+4<=_;lia) (by decide) λk5 H5 _ _ x5 h5=>?_;simp only[bu];apply⟨xt rfl,?_⟩<;>ext;replace h5:WI c H5 ⟨s.rw,s.mw,s.ks,s.kb+5⟩:=h5;generalize (k3==0)=d;generalize (k5==1)=before;clear x1 x2 x3 x4 x5 h1 h2 h3 h4;have vl:=hp.len hvm;have ul:=hp.len hum;apply de (h5.mine i v hmi) λt em hL he=>?_;have hst:t.Sm:=aL.mp (he▸hv.fine.sm);have ept:t.panes=v.tr.panes:=by exact rwR he (rwL ab rfl)
 apply du em ?_;apply kx G (by have:=hst.dep;lia) hL hst λr1 H6 s6 e6=>?_;have h6:=h5.sb s6;apply de (h6.mine j u hmj) λt2 em2 hL2 he2=>?_;have hst2:t2.Sm:=aL.mp (he2▸hu.fine.sm);have ept2:t2.panes=u.tr.panes:=by exact rwR he2 (rwL ab rfl)
 apply du em2 ?_;apply kx G (by have:=hst2.dep;lia) hL2 hst2 λr2 H7 s7 e7=>⟨by decide,?_⟩<;>ext;have h7:=h6.sb s7;have e6:=ept▸e6;have e7:=ept2▸e7;have e6':=s7.list e6;have own:=h7.mi_own hmi;have ownj:=h7.mi_own hmj;have hpks:p∈s.ks:=by
  rcases hpp with z|rfl
  ·exact hp.sub v hvm p z
  ·exact hp.stray
 have hbks:b∈s.ks:=by
  rcases hbb with z|rfl
  ·exact hp.sub u hum b z
  ·exact hp.stray
 apply⟨decide (c.mi i=c.mi j),rfl,⟨own,ownj.imp λ_ z=>z.1⟩,?_⟩;by_cases hij:i=j
 ·subst hij;simp only[hi]at hj;obtain rfl:=sI hj;apply⟨λ_=>⟨(λz=>by ac_nf),λ_=>?_⟩,λz=>by simp at z⟩<;>ext;apply aM h7 ?_;apply bA h7 hpks ?_;apply aM h7 ?_;apply bA h7 hbks ⟨by decide,?_⟩<;>ext;apply a8 (h7.mine i v hmi) λtm z1z=>?_;obtain⟨em7,_⟩:=z1z;apply kO em7 ?_;apply lO (j:=0) rfl (by simp) rfl ?_;apply kO em7 ?_;apply lO (j:=1) rfl (by simp) rfl ?_;have done:∀told o H8,eS v p b d size before=o->told=o.isSome->Le H7 H8->WI c H8 ⟨s.rw.set i (o.getD v),s.mw,s.ks,s.kb+5⟩->PI ⟨s.rw.set i (o.getD v),s.mw,s.ks,s.kb+5⟩->∀Z:am,Z.lookup 6=some (.int p)->Z.lookup 55=some (.int b)->Z.lookup 77=some (.ref r1)->Z.lookup 78=some (.ref r2)->Z.lookup 64=some (.bool told)->
    Z.lookup 61=some (.ref (c.mi i))->Z.lookup 65=some (.ref (c.mi i))->Z.lookup 27=some (.bool d)->Z.lookup 34=some (cR size)->Z.lookup 35=some (.bool before)->cG W n T6 Z H8 (λ_ H=>Q .none H) Q:=by
   intro told o H8 ho ht le h8 p8 Z g6 g55 g77 g78 g64 g61 g65 g27 g34 g35;subst hT;subst ho;apply sX G (ay hn rfl) g6 g55 g77 g78 g64 g61 g65 g27 g34 g35 h8 hv hmi (le _ _ e6') (le _ _ e7) ht λH9 h9=>?_;exact q _ c _ H9 bL ⟨h9,⟨p8.ok,p8.nd,p8.sub,p8.dis,p8.key,p8.stray,p8.klen,p8.wlen⟩,by show s.mw.set i _=s.rw.set i _;exact heq▸rfl,by show s.kb+5<=s.kb+20;lia,by show s.ks.length<=_;exact le_add_right s.ks.length 1,rfl,rfl⟩
  have set0:s.rw.set i v=s.rw:=by
   apply a8 (mE hi) λhl e=>?_;exact rwR e (set_getElem_self hl)
  apply a7.le (B7 G (ay hn rfl) (h7.real i v hi) hv (h7.pn p hpks) (h7.pn b hbks) (λhz H8 s8 le=>?_) λv' hz H8 x8 f8 w8 le=>?_)
  ·apply done false none H8 hz rfl le ?_ ?_ _ ?_ ?_ ?_ ?_ ?_ ?_ ?_ ?_ ?_ ?_
   ·show WI c H8 ⟨s.rw.set i v,s.mw,s.ks,s.kb+5⟩;exact rwL set0 (h7.sb s8)
   ·show PI ⟨s.rw.set i v,s.mw,s.ks,s.kb+5⟩;exact rwL set0 (hp.kb _)
   all_goals rfl
  ·have hz':=hz;unfold eS at hz';split at hz'
   ·rename_i hc;apply ad (bind_eq_some_iff.mp hz') λg hg hz'=>?_;apply ad (map_eq_some_iff.mp hz') λt' ht' hz'=>?_;apply af (ke hv hc.1 hg ht') λ_ hm'=>?_;have htr:v'.tr.panes=t'.panes:=by apply rwR hz' (rwL dq ?_);rfl
    have sub':∀x∈v'.tr.panes,x∈v.tr.panes:=λx hx=>(hm' x).mp (by rwa [htr]at hx);have all':∀x∈v.tr.panes,∃z,PN H8 c.pa x z:=λx hx=>f8.pn x (by exact rwL htr ((hm' x).mpr hx));apply done true (some v') H8 hz rfl le ?_ ?_ _ ?_ ?_ ?_ ?_ ?_ ?_ ?_ ?_ ?_ ?_
    ·exact h7.setR hi x8 (hp.sub v hvm) f8 all' λj w hj hw x hx=>hp.dis j i w v hj hw hi x hx
    ·exact hp.set hi w8 (λx hx=>hp.sub v hvm x (sub' x hx)) λj w hj hw x hx z=>hp.dis j i w v hj hw hi x hx (sub' x z)
    all_goals rfl
   ·exact nS hz'
 ·have mne:=h7.mi_inj hmi hmj hij;have hdec:decide (c.mi i=c.mi j)=false:=by simpa using mne
  apply⟨(λz=>by rw[hdec]at z;ac_nf),λ_=>?_⟩;apply aF e6' (by simp only[length_map];unfold cap;exact le_trans vl (by decide)) ?_;simp only[bu];apply⟨λ_=>⟨by decide,q _ c _ H7 bL ⟨h7,hp.kb _,heq,by show s.kb+5<=s.kb+20;lia,by show s.ks.length<=_;exact le_add_right s.ks.length 1,rfl,rfl⟩⟩,λhl1=>?_⟩<;>ext;have hl1:v.tr.panes.length≠1:=λz=>by simp[z]at hl1
  apply aM h7 ?_;apply bA h7 hpks ?_;apply aM h7 ?_;apply bA h7 hbks ⟨by decide,?_⟩<;>ext;apply a8 (h7.mine i v hmi) λtm z1z=>?_;obtain⟨em7,_⟩:=z1z;apply a8 (h7.mine j u hmj) λtm2 z1z=>?_;obtain⟨em72,_⟩:=z1z;apply kO em7 ?_;apply lO (j:=0) rfl (by simp) rfl ?_;apply kO em72 ?_;apply lO (j:=1) rfl (by simp) rfl ?_;have done:∀told o H8,dX v u p b d size before=o->told=o.isSome->Le H7 H8->WI c H8 ⟨(s.rw.set i (o.getD (v,u)).1).set j (o.getD (v,u)).2,s.mw,s.ks,s.kb+5⟩->PI ⟨(s.rw.set i (o.getD (v,u)).1).set j (o.getD (v,u)).2,s.mw,s.ks,s.kb+5⟩->∀Z:am,Z.lookup 6=some (.int p)->Z.lookup 55=some (.int b)->Z.lookup 77=some (.ref r1)->Z.lookup 78=some (.ref r2)->Z.lookup 64=some (.bool told)->
    Z.lookup 61=some (.ref (c.mi i))->Z.lookup 65=some (.ref (c.mi j))->Z.lookup 27=some (.bool d)->Z.lookup 34=some (cR size)->Z.lookup 35=some (.bool before)->cG W n T6 Z H8 (λ_ H=>Q .none H) Q:=by
   intro told o H8 ho ht le h8 p8 Z g6 g55 g77 g78 g64 g61 g65 g27 g34 g35;subst hT;subst ho;apply sY G (ay hn rfl) hij g6 g55 g77 g78 g64 g61 g65 g27 g34 g35 h8 hv hu hmi hmj (by lia) hl1 (le _ _ e6') (le _ _ e7) ht λH9 h9=>?_;exact q _ c _ H9 bL ⟨h9,⟨p8.ok,p8.nd,p8.sub,p8.dis,p8.key,p8.stray,p8.klen,p8.wlen⟩,by show(s.mw.set i _).set j _=(s.rw.set i _).set j _;exact heq▸rfl,by show s.kb+5<=s.kb+20;lia,by show s.ks.length<=_;exact le_add_right s.ks.length 1,rfl,rfl⟩
  have set0:(s.rw.set i v).set j u=s.rw:=by
   apply a8 (mE hi) λhl e=>?_;apply a8 (mE hj) λhl2 e2=>?_;simp only[<-e,set_getElem_self hl,<-e2,set_getElem_self hl2]
  have rne:c.ri i≠c.ri j:=λz=>hij (by have:=(h7.real i v hi).inj (h7.real j u hj) z;lia);apply a7.le (B8 G (ay hn rfl) (h7.real i v hi) hv (h7.real j u hj) hu rne (hp.dis i j v u hij hi hj) hl1 (by lia) (h7.pn p hpks) (h7.pn b hbks) (λhz H8 s8 le=>?_) λw hz H8 x8 f8 w8 f8' w8' le=>?_)
  ·apply done false none H8 hz rfl le ?_ ?_ _ ?_ ?_ ?_ ?_ ?_ ?_ ?_ ?_ ?_ ?_
   ·show WI c H8 ⟨(s.rw.set i v).set j u,s.mw,s.ks,s.kb+5⟩;exact rwL set0 (h7.sb s8)
   ·show PI ⟨(s.rw.set i v).set j u,s.mw,s.ks,s.kb+5⟩;exact rwL set0 (hp.kb _)
   all_goals rfl
  ·have hz':=hz;unfold dX at hz';split at hz'
   ·rename_i hc;apply ad (bind_eq_some_iff.mp hz') λt' ht' hz'=>?_;apply ad (map_eq_some_iff.mp hz') λv' hv' hz'=>?_;subst hz';apply jO (eJ hu.fine hu.nd ht' (by lia)) λj1 j2 j3 j4 _ _=>?_;unfold ce at hv';(have hv':=hv';rw[if_pos hc.1]at hv');apply ad (map_eq_some_iff.mp hv') λg hg hv'=>?_;apply jO (cP hv hc.1 hg) λ_ hmem _ _ etr _=>?_;have m1:∀x,x∈v'.tr.panes↔x∈v.tr.panes∧x≠p:=λx=>by apply rwR hv' (rwL etr ?_);exact hmem x
    have m2:∀x,x∈(cv p (ci u t')).tr.panes↔x∈u.tr.panes\/x=p:=λx=>by exact rwL dq (j3 x)
    have psub:∀x∈v.tr.panes++u.tr.panes,x∈s.ks:=λx hx=>by
     apply(mA hx).elim (λhx=>?_) λhx=>?_
     ·exact hp.sub v hvm x hx
     ·exact hp.sub u hum x hx
    apply done true (some (v',cv p (ci u t'))) H8 hz rfl le ?_ ?_ _ ?_ ?_ ?_ ?_ ?_ ?_ ?_ ?_ ?_ ?_
    ·apply h7.setR2 hij hi hj x8 psub f8 f8' (λx hx=>?_) λk w h1 h2 hw x hx z=>?_
     ·by_cases hxp:x=p
      ·exact f8'.pn x ((m2 x).mpr (.inr hxp))
      ·apply(mA hx).elim (λhx=>?_) λhx=>?_
       ·exact f8.pn x ((m1 x).mpr ⟨hx,hxp⟩)
       ·exact f8'.pn x ((m2 x).mpr (.inl hx))
     ·apply(mA z).elim (λz=>?_) λz=>?_
      ·exact hp.dis k i w v h1 hw hi x hx z
      ·exact hp.dis k j w u h2 hw hj x hx z
    ·apply hp.set2 hij hi hj w8 w8' (λx hx=>hp.sub v hvm x ((m1 x).mp hx).1) (λx hx=>?_) (λx hx z=>?_) λk w h1 h2 hw x hx=>⟨λz=>hp.dis k i w v h1 hw hi x hx ((m1 x).mp z).1,λz=>?_⟩
     ·rcases((m2 x).mp hx).imp_right Eq.symm with z|rfl
      ·exact hp.sub u hum x z
      ·exact hpks
     ·apply af ((m1 x).mp hx) λa1 a2=>?_;apply((m2 x).mp z).elim (λz=>?_) λz=>?_
      ·exact hp.dis i j v u hij hi hj x a1 z
      ·exact a2 z
     ·rcases((m2 x).mp z).imp_right Eq.symm with z|rfl
      ·exact hp.dis k j w u h2 hw hj x hx z
      ·exact hp.dis k i w v h1 hw hi p hx hc.1
    all_goals rfl
   ·exact nS hz'
end
end
section
section
variable {W:Wd} {n m:Nat} {H:AH} {Q:AV->AH->Prop} {c:Cx} {s:S}
theorem set_same {l:List Win} {i:Nat} {v:Win} (hi:l[i]?=some v):l.set i v=l:=by
 apply a8 (mE hi) λhl e=>?_;exact rwR e (set_getElem_self hl)
theorem PI.mw {s:S} (h:PI s) (mw:List Win) (kb:Nat):PI ⟨s.rw,mw,s.ks,kb⟩:=⟨h.ok,h.nd,h.sub,h.dis,h.key,h.stray,h.klen,h.wlen⟩
theorem CP (G:GD W) {i j:Nat} {v u:Win} (hm:60<=m) (h:WI c H s) (hp:PI s) (heq:s.mw=s.rw) (hb:s.kb<=9000) (hi:s.rw[i]?=some v) (hj:s.rw[j]?=some u) (q:kC c s Q):a7 W 522 [.ref c.D,.ref c.Wd,.ref (c.mi i),.ref (c.mi j)] m H Q:=by
 have hvm:=mem_of_getElem? hi;have hum:=mem_of_getElem? hj;have hv:=hp.ok v hvm;have hu:=hp.ok u hum;have hmi:s.mw[i]?=some v:=by exact rwL heq hi
 have hmj:s.mw[j]?=some u:=by exact rwL heq hj
 apply bZ G rfl (show 59+1<=m from hm) rfl λn hn=>?_;ext;apply kQ G (ay hn rfl) h (le_trans hb (by decide)) hmi hv.fine.sm λp H1 hpp x1 h1=>?_;apply kQ G (ay hn rfl) h1 (by show s.kb+1<=_;lia) hmj hu.fine.sm λb H2 hbb x2 h2=>⟨by decide,?_⟩<;>ext;replace h2:WI c H2 ⟨s.rw,s.mw,s.ks,s.kb+2⟩:=h2;clear x1 x2 h1;have hpks:p∈s.ks:=by
  rcases hpp with z|rfl
  ·exact hp.sub v hvm p z
  ·exact hp.stray
 have hbks:b∈s.ks:=by
  rcases hbb with z|rfl
  ·exact hp.sub u hum b z
  ·exact hp.stray
 apply de (h2.mine i v hmi) λt em hL he=>?_;apply de (h2.mine j u hmj) λt2 em2 hL2 he2=>?_;apply kO em (aM h2 ?_);apply bA h2 hpks ?_;apply kO em2 (aM h2 ?_);apply bA h2 hbks ?_;by_cases hij:i=j
 ·subst hij;simp only[hi]at hj;obtain rfl:=sI hj;have fin:∀told o H3,ot v p b=o->told=o.isSome->WI c H3 ⟨s.rw.set i (o.getD v),s.mw,s.ks,s.kb+2⟩->PI ⟨s.rw.set i (o.getD v),s.mw,s.ks,s.kb+2⟩->a7 W 510 [.ref (c.mi i),.int p,.int b] n H3 λv H=>2<=cap∧Q (.tup [.bool told,v]) H:=by
   intro told o H3 ho ht h3 p3;subst ho;subst ht;apply za G (ay hn rfl) (h3.mine i v hmi) hv λH4 x4 m4=>⟨by decide,?_⟩;exact q _ c _ H4 bL ⟨h3.setM hmi x4 m4,p3.mw _ _,by show s.mw.set i _=s.rw.set i _;exact heq▸rfl,by show s.kb+2<=s.kb+20;lia,by show s.ks.length<=_;exact le_add_right s.ks.length 1,rfl,rfl⟩
  have isdec:∀(H3:AH) (rw':List Win) (P:Bool->Prop),WI c H3 ⟨rw',s.mw,s.ks,s.kb+2⟩->P true->∃b,lM (.ref (c.mi i)) (.ref (c.mi i))=some b∧fh H3 (.ref (c.mi i)) (.ref (c.mi i))∧P b:=λH3 rw' P h3 hP=>by
   have own:=h3.mi_own hmi;exact⟨true,congrArg some (decide_eq_true rfl),⟨own,own.imp λ_ z=>z.1⟩,hP⟩
  apply B5 G (ay hn rfl) (h2.real i v hi) hv (h2.pn p hpks) (h2.pn b hbks) (λhz H3 s3=>?_) λv' hz H3 x3 f3 w3=>?_<;>ext
  ·have h3:=h2.sb s3;apply isdec H3 s.rw _ h3 ⟨λ_=>fin false none H3 hz rfl ?_ ?_,λz=>by ac_nf⟩
   ·show WI c H3 ⟨s.rw.set i v,s.mw,s.ks,s.kb+2⟩;exact rwL (set_same hi) h3
   ·show PI ⟨s.rw.set i v,s.mw,s.ks,s.kb+2⟩;exact rwL (set_same hi) (hp.kb _)
  ·have hz':=hz;unfold ot at hz';apply ad (map_eq_some_iff.mp hz') λt' ht' hz'=>?_;apply af (iI hv ht') λk1 k2=>?_;have htr:v'.tr=t':=by apply rwR hz' ?_;rfl
   have sub':∀x∈v'.tr.panes,x∈v.tr.panes:=λx hx=>k2.mem_iff.mp (by rwa [htr]at hx);have h3:=h2.setR hi x3 (hp.sub v hvm) f3 (λx hx=>f3.pn x (by exact rwL htr (k2.mem_iff.mpr hx))) λj w hj hw x hx=>hp.dis j i w v hj hw hi x hx;apply isdec H3 _ _ h3 ⟨λ_=>fin true (some v') H3 hz rfl h3 ?_,λz=>by ac_nf⟩;exact hp.set hi w3 (λx hx=>hp.sub v hvm x (sub' x hx)) λj w hj hw x hx z=>hp.dis j i w v hj hw hi x hx (sub' x z)
 ·have rne:c.ri i≠c.ri j:=λz=>hij (by have:=(h2.real i v hi).inj (h2.real j u hj) z;lia);have dvu:=hp.dis i j v u hij hi hj;have isdec:∀(H3:AH) (rw':List Win) (P:Bool->Prop),WI c H3 ⟨rw',s.mw,s.ks,s.kb+2⟩->P false->∃b,lM (.ref (c.mi i)) (.ref (c.mi j))=some b∧fh H3 (.ref (c.mi i)) (.ref (c.mi j))∧P b:=λH3 rw' P h3 hP=>by
   have own:=h3.mi_own hmi;have ownj:=h3.mi_own hmj;have:=h3.mi_inj hmi hmj hij;exact⟨false,congrArg some (decide_eq_false this),⟨own,ownj.imp λ_ z=>z.1⟩,hP⟩
  have hst:t.Sm:=aL.mp (he▸hv.fine.sm);apply B6 G (ay hn rfl) (h2.real i v hi) hv (h2.real j u hj) hu rne dvu (h2.pn p hpks) (h2.pn b hbks) (λhz H3 s3=>?_) λw hz hpm hbm H3 x3 f3 w3 f3' w3'=>?_<;>ext
  ·have h3:=h2.sb s3;have nm:¬(p∈v.tr.panes∧b∈u.tr.panes):=λz=>by
    unfold BH at hz;(have hz:=hz;rw[if_pos z]at hz);exact sN hz
   apply isdec H3 s.rw _ h3 ⟨(λz=>by ac_nf),λ_=>?_⟩<;>ext;apply de (h3.mine i v hmi) λt em hL he=>?_;have hst:t.Sm:=aL.mp (he▸hv.fine.sm);have ept:t.panes=v.tr.panes:=by exact rwR he (rwL ab rfl)
   apply du em ?_;apply kx G (by have:=hst.dep;lia) hL hst λr1 H4 s4 e4=>?_;rw[ept]at e4;have h4:=h3.sb s4;have fin:∀H',WI c H' ⟨s.rw,s.mw,s.ks,s.kb+2⟩->2<=cap∧Q (.tup [.bool false,.bool false]) H':=λH' h'=>⟨by decide,q _ c _ H' bL ⟨h',hp.kb _,heq,by show s.kb+2<=s.kb+20;lia,by show s.ks.length<=_;exact le_add_right s.ks.length 1,rfl,rfl⟩⟩;apply⟨p,r1,true,v.tr.panes,rfl,rfl,e4,λ_=>⟨λ_=>fin H4 h4,λz=>by ac_nf⟩,λhx=>?_⟩;apply de (h4.mine j u hmj) λt5 em5 hL5 he5=>?_;have hst5:t5.Sm:=aL.mp (he5▸hu.fine.sm);have ept5:t5.panes=u.tr.panes:=by exact rwR he5 (rwL ab rfl)
   apply du em5 ?_;apply kx G (by have:=hst5.dep;lia) hL5 hst5 λr6 H6 s6 e6=>?_;rw[ept5]at e6;apply⟨b,r6,true,u.tr.panes,rfl,rfl,e6,λ_=>fin H6 (h4.sb s6),λhy=>absurd ⟨by simpa using hx,by simpa using hy⟩ nm⟩
  ·unfold BH at hz;(have hz:=hz;rw[if_pos ⟨hpm,hbm⟩]at hz);obtain rfl:=sI hz;have hbv:b∉v.tr.panes:=λz=>dvu b z hbm;have hpu:p∉u.tr.panes:=dvu p hpm;apply bH (i7 hv hpm hbv (hu.rng b hbm)) λ_ _ m1=>?_;apply bH (i7 hu hbm hpu (hv.rng p hpm)) λ_ _ m2=>?_;have psub:∀x∈v.tr.panes++u.tr.panes,x∈s.ks:=λx hx=>by
    apply(mA hx).elim (λhx=>?_) λhx=>?_
    ·exact hp.sub v hvm x hx
    ·exact hp.sub u hum x hx
   have s1:∀x∈(aV v p b).tr.panes,x∈v.tr.panes++u.tr.panes:=λx hx=>by
    rcases((m1 x).mp hx).imp_right Eq.symm with z|rfl
    ·exact mem_append_left _ z.1
    ·exact mem_append_right _ hbm
   have s2:∀x∈(aV u b p).tr.panes,x∈v.tr.panes++u.tr.panes:=λx hx=>by
    rcases((m2 x).mp hx).imp_right Eq.symm with z|rfl
    ·exact mem_append_right _ z.1
    ·exact mem_append_left _ hpm
   have dk:∀k w,k≠i->k≠j->s.rw[k]?=some w->∀x∈w.tr.panes,x∉v.tr.panes++u.tr.panes:=λk w h1 h2 hw x hx z=>by
    apply(mA z).elim (λz=>?_) λz=>?_
    ·exact hp.dis k i w v h1 hw hi x hx z
    ·exact hp.dis k j w u h2 hw hj x hx z
   have h3:=h2.setR2 hij hi hj x3 psub f3 f3' (λx hx=>?_) dk
   rotate_left
   ·apply(mA hx).elim (λhx=>?_) λhx=>?_
    ·by_cases hxp:x=p
     ·exact f3'.pn x ((m2 x).mpr (.inr hxp))
     ·exact f3.pn x ((m1 x).mpr (.inl ⟨hx,hxp⟩))
    ·by_cases hxb:x=b
     ·exact f3.pn x ((m1 x).mpr (.inr hxb))
     ·exact f3'.pn x ((m2 x).mpr (.inl ⟨hx,hxb⟩))
   have p3:PI ⟨(s.rw.set i (aV v p b)).set j (aV u b p),s.mw,s.ks,s.kb+2⟩:=hp.set2 hij hi hj w3 w3' (λx hx=>psub x (s1 x hx)) (λx hx=>psub x (s2 x hx)) (λx hx z=>by
    apply((m1 x).mp hx).elim (λa=>?_) λa=>?_<;>apply((m2 x).mp z).elim (λc=>?_) λc=>?_
    ·exact dvu x a.1 c.1
    ·exact a.2 c
    ·exact c.2 a
    ·rw[a]at c;simp only[c]at hbm;exact hpu hbm) λk w h1 h2 hw x hx=>⟨λz=>dk k w h1 h2 hw x hx (s1 x z),λz=>dk k w h1 h2 hw x hx (s2 x z)⟩
   apply isdec H3 _ _ h3 ⟨(λz=>by ac_nf),λ_=>?_⟩<;>ext;apply de (h3.mine i v hmi) λt em hL he=>?_;have hst:t.Sm:=aL.mp (he▸hv.fine.sm);have ept:t.panes=v.tr.panes:=by exact rwR he (rwL ab rfl)
   apply du em ?_;apply kx G (by have:=hst.dep;lia) hL hst λr1 H4 s4 e4=>?_;rw[ept]at e4;have h4:=h3.sb s4;apply⟨p,r1,true,v.tr.panes,rfl,rfl,e4,λhx=>by simp[hpm]at hx,λ_=>?_⟩;apply de (h4.mine j u hmj) λt5 em5 hL5 he5=>?_;have hst5:t5.Sm:=aL.mp (he5▸hu.fine.sm);have ept5:t5.panes=u.tr.panes:=by exact rwR he5 (rwL ab rfl)
   apply du em5 ?_;apply kx G (by have:=hst5.dep;lia) hL5 hst5 λr6 H6 s6 e6=>?_;rw[ept5]at e6;have h6:=h4.sb s6;apply⟨b,r6,true,u.tr.panes,rfl,rfl,e6,λhx=>by simp[hbm]at hx,λ_=>?_⟩<;>ext;apply B3 G (ay hn rfl) (h6.mine i v hmi) hv λH7 x7 m7=>?_<;>ext;have h7:=h6.setM hmi x7 m7;have hj7:(s.mw.set i (aV v p b))[j]?=some u:=by apply rwL (getElem?_set_ne hij) ?_;exact hmj
   apply B3 G (ay hn rfl) (h7.mine j u hj7) hu λH8 x8 m8=>⟨by decide,?_⟩;exact q _ c _ H8 bL ⟨h7.setM hj7 x8 m8,p3.mw _ _,by show(s.mw.set i _).set j _=(s.rw.set i _).set j _;exact heq▸rfl,by show s.kb+2<=s.kb+20;lia,by show s.ks.length<=_;exact le_add_right s.ks.length 1,rfl,rfl⟩
theorem B4 (G:GD W) {a:Addr} {num p w h:Int} (hm:5<=m) (q:∀md H',Sb H H'->MW H' md a num (cT p w h)->Q (.ref md) H'):a7 W 463 [.int num,.ref a,.int p,.int w,.int h] m H Q:=by
 apply bZ G rfl (show 4+1<=m from hm) rfl λn hn=>?_;ext;apply Ec G (le_of_lt (by assumption)) λla ll H1 hla hll s1 l1=>⟨by decide,λmd hmd=>?_⟩;have s2:Sb H1 (H1.set md (.dS (eI num a la p none false))):=.new hmd;exact q md _ (s1.trans s2) ⟨.leaf (la,ll) w h 0 0 p,AH.EP _ _ _,l1.sb s2,rfl⟩
theorem WI.addW {H':AH} {a md:Addr} {one:Win} (h:WI c H s) (hlen:s.mw.length=s.rw.length) (k:Ex [c.Wl] H H') (e:H' c.Wl=some (false,.list (((List.range s.mw.length).map λi=>.ref (c.mi i))++[.ref md]))) (f:FW H c.pa a s.rw.length one) (g:MW H md a s.rw.length one) :
  WI {c with mi:=λi=>if i=s.mw.length then md else c.mi i,ri:=λi=>if i=s.rw.length then a else c.ri i} H' ⟨s.rw++[one],s.mw++[one],s.ks,s.kb⟩:=by
 have e0:=h.wlist;have m:Mu H [c.Wl]:=.cons e0 .nil;have ho:∀C dx fs,AO.list ((List.range s.mw.length).map λi=>AV.ref (c.mi i))≠.inst C dx fs:=λ_ _ _ z=>by ac_nf
 apply ad h.deck λk0 hk0 ed=>?_;have mw_one:∀{x y:Addr} {num:Int} {v:Win},MW H x y num v->MW H' x y num v:=λhM=>by
  apply a8 (id hM) λt z1z=>?_;obtain⟨em,_⟩:=z1z;exact hM.ex k m (aJ (aP em e0 λz=>by simp at z))
 apply⟨⟨k0,hk0,k.dS ed (aJ (aP ed e0 λz=>by simp at z))⟩,k.fz m aw h.cells,h.clen,k.dS h.world (aJ (aP h.world e0 λz=>by simp at z)),k.dI h.panes (aJ (aP h.panes e0 λz=>by simp at z)),?_,λi v hv=>?_,λi v hv=>?_,λn hn=>let ⟨sz,q⟩:=h.pn n hn;⟨sz,q.one k e0 ho⟩⟩
 ·show H' c.Wl=some (false,.list ((List.range (s.mw++[one]).length).map λi=>.ref (if i=s.mw.length then md else c.mi i)));simp only[e,length_append,length_singleton,List.range_succ,map_append];have:(List.range s.mw.length).map (λi=>AV.ref (if i=s.mw.length then md else c.mi i))=(List.range s.mw.length).map λi=>AV.ref (c.mi i):=map_congr_left λi hi=>by
   (have hi:=hi;rewrite [List.mem_range]at hi);exact congrArg _ (if_neg (by exact ne_of_lt hi))
  simp only[this];simp
 ·show FW H' c.pa (if i=s.rw.length then a else c.ri i) i v;by_cases hi:i=s.rw.length
  ·subst hi;simp at hv;subst hv;exact rwL (if_pos rfl) (f.one k e0 ho)
  ·apply rwL (if_neg hi) ?_;have hlt:i<s.rw.length:=by
    have:=(mE hv).1;simp at this;lia
   rw[getElem?_append_left hlt]at hv;exact(h.real i v hv).one k e0 ho
 ·show MW H' (if i=s.mw.length then md else c.mi i) (if i=s.rw.length then a else c.ri i) i v;by_cases hi:i=s.mw.length
  ·apply rwL (if_pos hi) (rwL (if_pos (hi.trans hlen)) ?_);subst hi;simp at hv;subst hv;exact rwL hlen (mw_one g)
  ·apply rwL (if_neg hi) (rwL (if_neg (Eq.mpr_not (congrArg (Eq i) (Eq.symm hlen)) hi)) ?_);have hlt:i<s.mw.length:=by
    have:=(mE hv).1;simp at this;lia
   rw[getElem?_append_left hlt]at hv;exact mw_one (h.mine i v hv)
theorem PI.addW {one:Win} {mw:List Win} (h:PI s) (ok:WOK one) (sub:∀x∈one.tr.panes,x∈s.ks) (dis:∀w∈s.rw,∀x∈w.tr.panes,x∉one.tr.panes) (hl:s.rw.length<3):PI ⟨s.rw++[one],mw,s.ks,s.kb⟩:=by
 have get:∀(i:Nat) (v:Win),(s.rw++[one])[i]?=some v->(i=s.rw.length∧v=one)\/s.rw[i]?=some v:=λi v hv=>by
  by_cases hlt:i<s.rw.length
  ·rw[getElem?_append_left hlt]at hv;exact .inr hv
  ·have:=(mE hv).1;simp at this;have hi:i=s.rw.length:=by exact Nat.eq_of_lt_succ_of_not_lt this hlt
   subst hi;simp at hv;exact .inl ⟨rfl,hv.symm⟩
 apply⟨λw hw=>?_,h.nd,λw hw=>?_,λi j v w hij hi hj x hx=>?_,h.key,h.stray,h.klen,by apply rwL length_append (rwL length_singleton ?_);have:=h.wlen;lia⟩
 ·apply(mA hw).elim (λhw=>?_) λhw=>?_
  ·exact h.ok w hw
  ·exact rwL (mS hw) ok
 ·apply(mA hw).elim (λhw=>?_) λhw=>?_
  ·exact h.sub w hw
  ·exact rwL (mS hw) sub
 ·rcases get i v hi with⟨e1,e1'⟩|hi2<;>rcases get j w hj with⟨e2,e2'⟩|hj2
  ·exact absurd (e1.trans e2.symm) hij
  ·have hx:=e1'▸hx;exact λz=>dis w (mem_of_getElem? hj2) x z hx
  ·exact rwL e2' (dis v (mem_of_getElem? hi2) x hx)
  ·exact h.dis i j v w hij hi2 hj2 x hx
theorem CO (G:GD W) {i:Nat} {v:Win} (hm:60<=m) (h:WI c H s) (hp:PI s) (heq:s.mw=s.rw) (hb:s.kb<=9000) (hl3:s.rw.length<3) (hi:s.rw[i]?=some v) (q:kC c s Q):a7 W 529 [.ref c.D,.ref c.Wd,.ref (c.mi i)] m H Q:=by
 have hvm:=mem_of_getElem? hi;have hv:=hp.ok v hvm;have hmi:s.mw[i]?=some v:=by exact rwL heq hi
 have hlen:s.mw.length=s.rw.length:=by exact congrArg _ heq
 apply bZ G rfl (show 59+1<=m from hm) rfl λn hn=>?_;ext;apply kQ G (ay hn rfl) h (le_trans hb (by decide)) hmi hv.fine.sm λp H1 hpp x1 h1=>?_;replace h1:WI c H1 ⟨s.rw,s.mw,s.ks,s.kb+1⟩:=h1;clear x1;have hpks:p∈s.ks:=by
  rcases hpp with z|rfl
  ·exact hp.sub v hvm p z
  ·exact hp.stray
 apply jw h1 ?_;apply jc h1 (by show s.mw.length<=100;lia) ⟨by decide,?_⟩<;>ext;apply de (h1.mine i v hmi) λt em hL he=>?_;apply kO em (aM h1 ?_);apply bA h1 hpks ?_;have kb20:s.kb+1<=s.kb+20:=by lia
 have fks:s.ks.length<=s.ks.length+1:=by exact le_add_right s.ks.length 1
 apply CU G (ay hn rfl) (h1.real i v hi) hv (h1.pn p hpks) (λhd H2 s2=>?_) λv' hd a H2 x2 hna f2 w2 fa=>?_
 ·have h2:=h1.sb s2;apply a8 (h2.mine i v hmi) λt2 z1z=>?_;obtain⟨em2,_⟩:=z1z;apply du em2 ?_;apply⟨by decide,ue G (ay hn rfl) (h2.mine i v hmi) hv λH3 x3 m3=>?_⟩;rw[hd]at m3 ⊢;have h3:=h2.setM hmi x3 m3;apply⟨(λ_=>⟨true,rfl,trivial,by decide,?_⟩),λz=>by ac_nf⟩;exact q _ c _ H3 bL ⟨h3,hp.mw _ _,by show s.mw.set i v=s.rw;exact rwL (set_same hmi) (rwL heq rfl),kb20,fks,rfl,rfl⟩
 ·have hd':=hd;unfold ce at hd';split at hd'
  ·rename_i hpm;apply ad (map_eq_some_iff.mp hd') λg hg hv'=>?_;apply jO (cP hv hpm hg) λ_ hmem _ _ etr _=>?_;have m1:∀x,x∈v'.tr.panes↔x∈v.tr.panes∧x≠p:=λx=>by apply rwR hv' (rwL etr ?_);exact hmem x
   have onep:(cT p v.tr.w v.tr.h).tr.panes=[p]:=by simp[cT,Tr.au]
   have h2:=h1.setR hi x2 (hp.sub v hvm) f2 (λx hx=>by
    by_cases hxp:x=p
    ·obtain rfl:=hxp.symm;exact fa.pn p (by exact rwL onep (.head _))
    ·exact f2.pn x ((m1 x).mpr ⟨hx,hxp⟩)) λj w hj hw x hx=>hp.dis j i w v hj hw hi x hx
   have p2:PI ⟨s.rw.set i v',s.mw,s.ks,s.kb+1⟩:=hp.set hi w2 (λx hx=>hp.sub v hvm x ((m1 x).mp hx).1) λj w hj hw x hx z=>hp.dis j i w v hj hw hi x hx ((m1 x).mp z).1;apply de (h2.mine i v hmi) λt2 em2 hL2 he2=>?_;apply du em2 ?_;apply⟨by decide,ue G (ay hn rfl) (h2.mine i v hmi) hv λH3 x3 m3=>?_⟩;rw[hd]at m3 ⊢;have h3:=h2.setM hmi x3 m3;have mu2:Mu H2 [c.mi i]:=.cons em2 .nil;have L3:LR true H3 t2:=hL2.mu x3 mu2;have fa3:=fa.one x3 em2 (λ_ _ _ z=>by ac_nf);apply⟨(λz=>by ac_nf),λ_=>?_⟩<;>ext;apply jw h3 ?_;apply⟨⟨_,_,_,rfl,h3.wlist⟩,?_⟩;apply af L3.nd λz1z _=>?_;(apply a8 z1z λdxt et=>?_;clear z1z);apply yO et (yP et ?_);have ew:t2.w=v.tr.w:=by exact rwR he2 Tr.ii.symm
   have eh:t2.h=v.tr.h:=by exact rwR he2 Tr.ik.symm
   simp only[ew,eh];apply B4 G (ay hn rfl) λmd H4 s4 m4=>?_;have h4:=h3.sb s4;have fa4:=fa3.sb s4;apply⟨_,h4.wlist,by simp only[length_map,length_range,length_set];unfold cap;lia,?_⟩<;>ext;have x5:Ex [c.Wl] H4 (H4.set c.Wl (.list (((List.range (s.mw.set i v').length).map λi=>AV.ref (c.mi i))++[.ref md]))):=Ex.put;have e5:=AH.EP H4 c.Wl (.list (((List.range (s.mw.set i v').length).map λi=>AV.ref (c.mi i))++[.ref md]));show ∃b,lM (.ref a) .none=some b∧_∧_;have hn':((s.mw.length:Nat):Int)=(((s.rw.set i v').length:Nat):Int):=by simp only[length_set,hlen]
   have h5:=h4.addW (a:=a) (md:=md) (one:=cT p v.tr.w v.tr.h) (by simp[hlen]) x5 e5 (by simp only[<-hn'];exact fa4) (by exact rwR hn' m4);have dnew:∀w∈s.rw.set i v',∀x∈w.tr.panes,x∉(cT p v.tr.w v.tr.h).tr.panes:=λw hw x hx z=>by
    (have z:=z;rewrite [onep,mem_singleton]at z);obtain rfl:=z.symm;apply a8 (List.getElem?_of_mem hw) λj hj=>?_;by_cases hji:i=j
    ·subst hji;rw[getElem?_set_self (mE hi).1]at hj;obtain rfl:=sI hj;exact((m1 p).mp hx).2 rfl
    ·rw[getElem?_set_ne hji]at hj;exact hp.dis j i w v (λz=>hji z.symm) hj hi p hx hpm
   have p5:=p2.addW (mw:=s.mw.set i v'++[cT p v.tr.w v.tr.h]) (su (hv.rng p hpm) (jl hv.fine).1 ⟨(jl hv.fine).2,(jl hv.fine).3⟩) (λx hx=>by simp only[onep,mem_singleton]at hx;obtain rfl:=hx.symm;exact hpks) dnew (by simpa using hl3);apply⟨false,rfl,trivial,by decide,?_⟩;exact q _ _ _ _ bL ⟨h5,p5,by show s.mw.set i v'++_=s.rw.set i v'++_;exact heq▸rfl,kb20,fks,rfl,rfl⟩
  ·exact nS hd'
end
end
section
section
variable {W:Wd} {n m:Nat} {H:AH} {Q:AV->AH->Prop} {c:Cx} {s:S}
theorem B2 (G:GD W) {i:Nat} {v:Win} {way:Int} (hm:60<=m) (h:WI c H s) (hp:PI s) (heq:s.mw=s.rw) (hb:s.kb<=9000) (hi:s.rw[i]?=some v) (q:kC c s Q):a7 W 543 [.ref c.D,.ref c.Wd,.ref (c.mi i),.int way] m H Q:=by
 have hvm:=mem_of_getElem? hi;have hv:=hp.ok v hvm;have hmi:s.mw[i]?=some v:=by exact rwL heq hi
 have hlen:=hv.fine.sm.len;apply bZ G rfl (show 59+1<=m from hm) rfl λn hn=>?_;ext;apply de (h.mine i v hmi) λt em hL he=>?_;have hst:t.Sm:=aL.mp (he▸hv.fine.sm);have ept:t.panes=v.tr.panes:=by exact rwR he (rwL ab rfl)
 apply kO em (du em ?_);apply kx G (by have:=hst.dep;lia) hL hst λr1 H1 s1 e1=>⟨by decide,?_⟩<;>ext;rw[ept]at e1;have h1:=h.sb s1;clear hL he em hst ept t;have ks_of:∀p,p∈v.tr.panes\/p=90->p∈s.ks:=λp hpp=>by
  rcases hpp with z|rfl
  ·exact hp.sub v hvm p z
  ·exact hp.stray
 have disv:∀j w,j≠i->s.rw[j]?=some w->∀x∈w.tr.panes,x∉v.tr.panes:=λj w hj hw x hx=>hp.dis j i w v hj hw hi x hx;have fin:∀(kb:Nat) (H':AH) (v':Win) (told:AV),WI c H' ⟨s.rw.set i v',s.mw.set i v',s.ks,kb⟩->PI ⟨s.rw.set i v',s.mw,s.ks,kb⟩->kb<=s.kb+20->rx (.tup [told,told])->Q (.tup [told,told]) H':=λkb H' v' told h' p' hk ht=>
  q _ c _ H' ht ⟨h',p'.mw _ _,by show s.mw.set i v'=s.rw.set i v';exact heq▸rfl,hk,by show s.ks.length<=_;exact le_add_right s.ks.length 1,rfl,rfl⟩
 have setR:∀{kb:Nat} {H2 H3:AH} {v':Win},WI c H2 ⟨s.rw,s.mw,s.ks,kb⟩->Ex (c.ri i::v.tr.panes.map c.pa) H2 H3->FW H3 c.pa (c.ri i) i v'->WOK v'->(∀x,x∈v'.tr.panes↔x∈v.tr.panes)->WI c H3 ⟨s.rw.set i v',s.mw,s.ks,kb⟩∧PI ⟨s.rw.set i v',s.mw,s.ks,kb⟩:=λh2 x3 f3 w3 hm'=>
  ⟨h2.setR hi x3 (hp.sub v hvm) f3 (λx hx=>f3.pn x ((hm' x).mpr hx)) disv,hp.set hi w3 (λx hx=>hp.sub v hvm x ((hm' x).mp hx)) λj w hj hw x hx z=>disv j w hj hw x hx ((hm' x).mp z)⟩
 apply⟨λ_=>?_,λ_=>?_⟩<;>ext
 ·
  apply kQ G (ay hn rfl) h1 (le_trans hb (by decide)) hmi hv.fine.sm λp H2 hpp x2 h2=>?_<;>ext;replace h2:WI c H2 ⟨s.rw,s.mw,s.ks,s.kb+1⟩:=h2;have hpks:=ks_of p hpp;apply bb (h2.ri_at hi) λdx fs er hfs=>?_;apply(fF (g:=352) er rfl (hfs _ (by decide)) ?_);apply aM h2 ?_;apply bA h2 hpks ?_;apply zc G (ay hn rfl) (h2.real i v hi) hv (h2.pn p hpks) (λhd H3 s3=>?_) λv' hd hpm H3 x3 f3 w3=>?_
  ·have h3:=h2.sb s3;apply ue G (ay hn rfl) (h3.mine i v hmi) hv λH4 x4 m4=>⟨by decide,?_⟩;rw[hd]at m4 ⊢;have h4:=h3.setM hmi x4 m4;exact fin (s.kb+1) H4 v _ (by exact rwL (set_same hi) h4) (by exact rwL (set_same hi) (hp.kb _)) (by lia) bL
  ·have hd':=hd;unfold ce at hd';rw[if_pos hpm]at hd';apply ad (map_eq_some_iff.mp hd') λg hg hv'=>?_;apply jO (cP hv hpm hg) λ_ hmem _ _ etr _=>?_;have m1:∀x,x∈v'.tr.panes↔x∈v.tr.panes∧x≠p:=λx=>by apply rwR hv' (rwL etr ?_);exact hmem x
   have sub':∀x∈v'.tr.panes,x∈v.tr.panes:=λx hx=>((m1 x).mp hx).1;have h3:=h2.setR hi x3 (λx hx=>hp.sub v hvm x (sub' x hx)) f3 (λx hx=>f3.pn x hx) λj w hj hw x hx z=>disv j w hj hw x hx (sub' x z);have p3:PI ⟨s.rw.set i v',s.mw,s.ks,s.kb+1⟩:=hp.set hi w3 (λx hx=>hp.sub v hvm x (sub' x hx)) λj w hj hw x hx z=>disv j w hj hw x hx (sub' x z);apply ue G (ay hn rfl) (h3.mine i v hmi) hv λH4 x4 m4=>⟨by decide,?_⟩;rw[hd]at m4 ⊢;exact fin (s.kb+1) H4 v' _ (h3.setM hmi x4 m4) p3 (by lia) bL
 apply⟨λ_=>?_,λ_=>?_⟩<;>ext
 ·
  apply kQ G (ay hn rfl) h1 (le_trans hb (by decide)) hmi hv.fine.sm λp H2 hpp x2 h2=>?_<;>ext;replace h2:WI c H2 ⟨s.rw,s.mw,s.ks,s.kb+1⟩:=h2;have hpks:=ks_of p hpp;apply bb (h2.ri_at hi) λdx fs er hfs=>?_;apply(fF (g:=308) er rfl (hfs _ (by decide)) ?_);apply aM h2 ?_;apply bA h2 hpks ?_;apply pg G (ay hn rfl) (h2.real i v hi) hv (h2.pn p hpks) λH3 x3 f3=>?_;apply af (setR h2 x3 f3 (fc hv) λx=>by rw[dq]) λh3 p3=>?_;apply wK G (ay hn rfl) (h3.mine i v hmi) hv.fine.sm λH4 x4 m4=>⟨by decide,?_⟩;exact fin (s.kb+1) H4 _ _ (h3.setM hmi x4 m4) p3 (by lia) bL
 apply⟨λ_=>?_,λ_=>?_⟩<;>ext
 ·
  apply bb (h1.ri_at hi) λdx fs er hfs=>?_;apply(fF (g:=315) er rfl (hfs _ (by decide)) ?_);apply D0 G (ay hn rfl) (h1.real i v hi) hv λH3 x3 f3=>?_;have wl:WOK (kK v):=by
   unfold kK;cases v.last with
   |none=>exact hv
   |some l=>exact fc hv
  have tl:(kK v).tr=v.tr:=by
   unfold kK;cases v.last with
   |none=>rfl
   |some l=>exact dq
  apply af (setR h1 x3 f3 wl λx=>by rw[tl]) λh3 p3=>?_;apply a8 (h3.mine i v hmi) λt3 z1z=>?_;obtain⟨em3,_⟩:=z1z;apply tz em3 ?_;cases hl:v.last with
  |none=>
   apply⟨true,rfl,trivial,(λ_=>⟨by decide,?_⟩),λz=>by ac_nf⟩;have e0:kK v=v:=by unfold kK;exact hl▸rfl
   simp only[e0]at h3 p3;exact fin s.kb H3 v _ (by exact rwL (set_same hmi) h3) p3 (le_add_right s.kb 20) bL
  |some l=>
   apply⟨false,rfl,trivial,(λz=>by ac_nf),λ_=>?_⟩;apply rwL (AE em3) (rwL hl ?_);have e0:kK v=cv l v:=by unfold kK;exact rwL hl rfl
   simp only[e0]at h3 p3;apply wK G (ay hn rfl) (h3.mine i v hmi) hv.fine.sm λH4 x4 m4=>⟨by decide,?_⟩;have:decide (l∈v.tr.panes)=true:=by simpa using hv.last l hl
   apply rwL this ?_;exact fin s.kb H4 _ _ (h3.setM hmi x4 m4) p3 (le_add_right s.kb 20) bL
 apply⟨λ_=>?_,λ_=>?_⟩<;>ext
 ·
  apply aF e1 (by simp only[length_map];unfold cap;exact le_trans hlen (by decide)) ?_;apply de (h1.mine i v hmi) λt1 em1 hL1 he1=>?_;have zoom:∀z,z=(c9 v).zoom->dR (.ref (c.mi i)) (.str (ofString "zoom")) (.bool z) H1 λH=>E5 λa f C dx fs=>∃ g, AV.ref (c.ri i)=.ref a∧H a=some (f,.inst C dx fs)∧jQ.lookup (C,89)=some g∧fs.lookup 89=none∧a7 W g [.ref (c.ri i)] n H λv H=>be (.ref (c.mi i)) (.str (ofString "zoom")) H λv_1 H=>2<=cap∧Q (.tup [v,v_1]) H:=by
   rintro z rfl;apply rwL (xM em1) ?_;have x2:Ex [c.mi i] H1 (H1.set (c.mi i) (.dS (eI i (c.ri i) t1.tag.1 v.act v.last (c9 v).zoom))):=Ex.put;have e2:=AH.EP H1 (c.mi i) (.dS (eI i (c.ri i) t1.tag.1 v.act v.last (c9 v).zoom));generalize H1.set (c.mi i) (.dS (eI i (c.ri i) t1.tag.1 v.act v.last (c9 v).zoom))=H2 at x2 e2;have m1:Mu H1 [c.mi i]:=.cons em1 .nil;have h2:=h1.setM hmi x2 (v':=c9 v) ⟨t1,e2,hL1.mu x2 m1,he1⟩;apply bb (h2.ri_at hi) λdx fs er hfs=>?_;apply(fF (g:=337) er rfl (hfs _ (by decide)) ?_);apply CY G (ay hn rfl) (h2.real i v hi) hv λH3 x3 f3=>?_;have wz:WOK (c9 v):=⟨hv.fine,hv.nd,hv.act,hv.last,hv.rng⟩;have h3:=h2.setR hi x3 (hp.sub v hvm) f3 (λx hx=>f3.pn x hx) disv;have p3:PI ⟨s.rw.set i (c9 v),s.mw,s.ks,s.kb⟩:=hp.set hi wz (hp.sub v hvm) disv;have hil:i<s.mw.length:=(mE hmi).1;apply a8 (h3.mine i (c9 v) (by show(s.mw.set i _)[i]?=_;rw[getElem?_set_self hil])) λt3 z1z=>?_;obtain⟨em3,_⟩:=z1z;apply wo em3 ?_;exact⟨by decide,fin s.kb H3 (c9 v) _ h3 p3 (le_add_right s.kb 20) bL⟩
  apply⟨λhz=>zoom _ ?_,λhz=>?_⟩
  ·unfold c9;have:¬(1:Int)<((v.tr.panes.map AV.int).length:Nat):=of_decide_eq_false hz;simp only[length_map]at this;have:¬1<v.tr.panes.length:=by lia
   simp[this]
  ·apply wo em1 ?_;apply zoom _ ?_;unfold c9;have:(1:Int)<((v.tr.panes.map AV.int).length:Nat):=of_decide_eq_true hz;simp only[length_map]at this;have:1<v.tr.panes.length:=by exact Int.ofNat_lt.mp this
   simp[this]
 apply⟨λ_=>?_,λ_=>?_⟩<;>ext
 ·
  apply kQ G (ay hn rfl) h1 (le_trans hb (by decide)) hmi hv.fine.sm λp H2 hpp x2 h2=>?_;apply kQ G (ay hn rfl) h2 (by show s.kb+1<=_;lia) hmi hv.fine.sm λb H3 hbb x3 h3=>⟨by decide,?_⟩<;>ext;replace h3:WI c H3 ⟨s.rw,s.mw,s.ks,s.kb+2⟩:=h3;have hpks:=ks_of p hpp;have hbks:=ks_of b hbb;apply bb (h3.ri_at hi) λdx fs er hfs=>?_;apply(fF (g:=380) er rfl (hfs _ (by decide)) ?_);apply aM h3 ?_;apply bA h3 hpks ?_;apply aM h3 ?_;apply bA h3 hbks ?_;apply B9 G (ay hn rfl) (h3.real i v hi) hv (h3.pn p hpks) (h3.pn b hbks) (λhz H4 s4=>?_) λv' hz H4 x4 f4 w4=>?_
  ·have h4:=h3.sb s4;apply za G (ay hn rfl) (h4.mine i v hmi) hv λH5 x5 m5=>⟨by decide,?_⟩;rw[hz]at m5 ⊢;exact fin (s.kb+2) H5 v _ (by exact rwL (set_same hi) (h4.setM hmi x5 m5)) (by exact rwL (set_same hi) (hp.kb _)) (by lia) bL
  ·have hz':=hz;unfold ot at hz';apply ad (map_eq_some_iff.mp hz') λt' ht' hz'=>?_;apply af (iI hv ht') λk1 k2=>?_;have htr:v'.tr=t':=by apply rwR hz' ?_;rfl
   apply af (setR h3 x4 f4 w4 λx=>by exact rwL htr k2.mem_iff) λh4 p4=>?_;apply za G (ay hn rfl) (h4.mine i v hmi) hv λH5 x5 m5=>⟨by decide,?_⟩;rw[hz]at m5 ⊢;exact fin (s.kb+2) H5 v' _ (h4.setM hmi x5 m5) p4 (by lia) bL
 apply⟨λ_=>?_,λ_=>?_⟩<;>ext
 ·
  apply a7.le (gE G (ay hn rfl) h1 (by omega) (by decide) λk H2 _ _ x2 h2 le2=>?_);replace h2:WI c H2 ⟨s.rw,s.mw,s.ks,s.kb+1⟩:=h2;simp only[eG]<;>ext;generalize k-4=aY;apply bb (h2.ri_at hi) λdx fs er hfs=>?_;apply(fF (g:=330) er rfl (hfs _ (by decide)) ?_);apply a7.le (CZ G (ay hn rfl) (h2.real i v hi) hv λH3 x3 f3 le3=>?_)<;>ext;apply af (setR h2 x3 f3 (fc hv) λx=>by rw[dq]) λh3 p3=>?_;have e3:=le3 _ _ (le2 _ _ e1);apply a8 (h3.mine i v hmi) λt3 z1z=>?_;obtain⟨em3,_⟩:=z1z;apply⟨⟨_,_,_,rfl,e3⟩,?_⟩;apply tA em3 ?_;apply⟨true,v.tr.panes,e3,hv.act,by unfold cap;exact le_trans hlen (by decide),?_⟩;dsimp only;simp only[aU];apply aF e3 (by simp only[length_map];unfold cap;exact le_trans hlen (by decide)) ?_;simp only[gY,length_map];apply ad (lh hv aY) λj hj1 hj2=>?_;have hl:0<v.tr.panes.length:=length_pos_of_mem hv.act;apply⟨by exact Int.natCast_ne_zero_iff_pos.mpr hl,df (j:=j) (u:=.int (lj v aY)) e3 hj1 (by simp only[length_map];unfold cap;exact le_trans hlen (by decide)) (by apply rwL getElem?_map (rwL hj2 ?_);rfl) ?_⟩;apply wK G (ay hn rfl) (h3.mine i v hmi) hv.fine.sm λH4 x4 m4=>⟨by decide,?_⟩;have:decide (lj v aY∈v.tr.panes)=true:=by simpa using mem_of_getElem? hj2
  apply rwL this ?_;exact fin (s.kb+1) H4 _ _ (h3.setM hmi x4 m4) p3 (by lia) bL
 ·
  apply gE G (ay hn rfl) h1 (by omega) (by decide) λk1 H2 a1 b1 x2 h2=>?_;simp only[aU];apply gE G (ay hn rfl) h2 (by show s.kb+1<=_;lia) (by decide) λk2 H3 a2 b2 x3 h3=>?_;replace h3:WI c H3 ⟨s.rw,s.mw,s.ks,s.kb+2⟩:=h3;simp only[aU];apply⟨by decide,?_⟩<;>ext;apply de (h3.mine i v hmi) λt3 em3 hL3 he3=>?_;apply du em3 ?_;apply Bd G (ay hn rfl) hL3 (he3▸hv.fine) λt' H4 ht s4 l4=>?_;simp only[he3]at ht;have h4:=h3.sb s4;apply rwL (zt (s4.dS em3)) ?_<;>ext;have x5:Ex [c.mi i] H4 (H4.set (c.mi i) (.dS (eI i (c.ri i) t'.tag.1 v.act v.last v.zoom))):=Ex.put;have e5:=AH.EP H4 (c.mi i) (.dS (eI i (c.ri i) t'.tag.1 v.act v.last v.zoom));generalize H4.set (c.mi i) (.dS (eI i (c.ri i) t'.tag.1 v.act v.last v.zoom))=H5 at x5 e5;have m4:Mu H4 [c.mi i]:=.cons (s4.dS em3) .nil;have h5:=h4.setM hmi x5 (v':=vi v (4+k1) (3+k2)) ⟨t',e5,l4.mu x5 m4,ht⟩;apply af (xh (w:=4+k1) (h:=3+k2) hv (by lia) (by lia)) λwr er'=>?_;apply bb (h5.ri_at hi) λdx fs er hfs=>?_;apply(fF (g:=359) er rfl (hfs _ (by decide)) ?_);apply CW G (ay hn rfl) (h5.real i v hi) hv (by lia) (by lia) λH6 x6 f6=>⟨by decide,?_⟩;have h6:=h5.setR hi x6 (hp.sub v hvm) f6 (λx hx=>f6.pn x (by exact rwL er' hx)) disv;have p6:PI ⟨s.rw.set i (vi v (4+k1) (3+k2)),s.mw,s.ks,s.kb+2⟩:=hp.set hi wr (λx hx=>hp.sub v hvm x (by rwa [er']at hx)) λj w hj hw x hx z=>disv j w hj hw x hx (by rwa [er']at z);exact fin (s.kb+2) H6 _ _ h6 p6 (by lia) rF
structure Aftd (c:Cx) (s:S) (c':Cx) (H':AH) (s':S):Prop where
 wi:WI c' H' s'
 pi:PI s'
 eq:s'.mw=s'.rw
 kb:s'.kb<=s.kb+30
 ks:s'.ks.length<=s.ks.length+1
 hD:c'.D=c.D
 hW:c'.Wd=c.Wd
theorem CM (G:GD W) (hm:62<=m) (h:WI c H s) (hp:PI s) (heq:s.mw=s.rw) (hb:s.kb<=8000) (hl:s.ks.length<15) (q:∀v c' s' H',rx v->Aftd c s c' H' s'->Q v H'):a7 W 550 [.ref c.D,.ref c.Wd] m H Q:=by
 have hlen:s.mw.length=s.rw.length:=by exact congrArg _ heq
 have hwl:=hp.wlen;apply bZ G rfl (show 61+1<=m from hm) rfl λn hn=>?_;ext;apply jw h ?_<;>ext;apply jc h (by lia) (gE G (ay hn rfl) h (le_trans hb (by decide)) (by lia) λk1 H1 a1 b1 x1 h1=>?_);apply rE h1 (i:=k1.toNat) (by lia) (by show k1.toNat<s.mw.length;lia) (by show s.mw.length<=100;lia) ?_;apply jc h1 (by show s.mw.length<=100;lia) (gE G (ay hn rfl) h1 (by show s.kb+1<=_;lia) (by show(0:Int)<(s.mw.length:Nat);exact Int.lt_of_le_of_lt a1 b1) λk2 H2 a2 b2 x2 h2=>?_);replace b2:k2<(s.mw.length:Nat):=b2;apply rE h2 (i:=k2.toNat) (by lia) (by show k2.toNat<s.mw.length;lia) (by show s.mw.length<=100;lia) ⟨by decide,?_⟩<;>ext;apply gE G (ay hn rfl) h2 (by show s.kb+2<=_;lia) (by decide) λway H3 a3 b3 x3 h3=>?_<;>ext;replace h3:WI c H3 ⟨s.rw,s.mw,s.ks,s.kb+3⟩:=h3;have hi:s.rw[k1.toNat]?=some (s.rw[k1.toNat]'(by lia)):=getElem?_eq_getElem (by lia);have hj:s.rw[k2.toNat]?=some (s.rw[k2.toNat]'(by lia)):=getElem?_eq_getElem (by lia);have qq:kC c ⟨s.rw,s.mw,s.ks,s.kb+3⟩ Q:=λv c' s' H' ht hpost=>by
  have z1:s'.kb<=s.kb+3+20:=hpost.kb;have z2:s'.ks.length<=s.ks.length+1:=hpost.ks;exact q v c' s' H' ht ⟨hpost.wi,hpost.pi,hpost.eq,by lia,z2,hpost.hD,hpost.hW⟩
 have p3:=hp.kb (s.kb+3);have hb3:s.kb+3<=9000:=by lia
 apply⟨λ_=>CR G (le_of_lt (by assumption)) h3 p3 heq hb3 hl hi qq,λ_=>?_⟩<;>ext;apply⟨λ_=>CN G (le_of_lt (by assumption)) h3 p3 heq hb3 hi qq,λ_=>?_⟩<;>ext;apply⟨λ_=>CQ G (le_of_lt (by assumption)) h3 p3 heq hb3 hi hj qq,λ_=>?_⟩<;>ext;apply⟨λ_=>CP G (le_of_lt (by assumption)) h3 p3 heq hb3 hi hj qq,λ_=>?_⟩<;>ext;apply⟨λ_=>⟨(λz=>by ac_nf),λ_=>B2 G (le_of_lt (by assumption)) h3 p3 heq hb3 hi qq⟩,λ_=>?_⟩;apply jc h3 (by show s.mw.length<=100;lia) ⟨λh3l=>CO G (le_of_lt (by assumption)) h3 p3 heq hb3 ?_ hi qq,λ_=>B2 G (le_of_lt (by assumption)) h3 p3 heq hb3 hi qq⟩;have:((s.mw.length:Nat):Int)<3:=of_decide_eq_true h3l;show s.rw.length<3;lia
end
end
section
namespace Tr
variable {U O:Type}
theorem vZ {g:U->O} {M:Int}:∀{t:Tr U},box M (t.map g)↔box M t:=by
 intro t
 induction t using bn with
 |step t ih=>
  rw[iE,iE,t8];unfold Bx;simp only[ii,ik,Ap,Ao];simp only[mem_map,forall_exists_index,and_imp,forall_apply_eq_imp_iff₂];exact and_congr_right λ_=>⟨λk c hc=>(ih c hc).mp (k c hc),λk c hc=>(ih c hc).mpr (k c hc)⟩
end Tr
theorem yR {t:L} {M:Int}:(er t).box M↔t.box M:=Tr.vZ
theorem jm {a:Int}:uM (.int a) (.int a)=some true:=congrArg some (beq_self_eq_true a)
theorem eU {x y:AV} {xs ys:List AV} (h:uM x y=some true) (k:mI xs ys=some true):mI (x::xs) (y::ys)=some true:=by
 show(uM x y).bind _=_;exact rwL h (show(mI xs ys).map _=_ from rwL k rfl)
theorem rj {a:Int} {l:Option Int} {z:Bool}:mI [.int a,cR l,.bool z] [.int a,cR l,.bool z]=some true:=by
 exact eU jm (eU (by cases l<;>first|rfl|exact jm) (eU (by cases z<;>rfl) rfl))
noncomputable def sb:List CS:=[
  .assignT [(.name 60),(.name 19)] (.tup [(.sub (.loc 61) (.k (.str (ofString "real")))),(.sub (.loc 61) (.k (.str (ofString "layout"))))]),
  .assign (.name 18) (.ite (.cmp .is (.attr (.loc 60) 18) (.k .none)) (.k .none) (.attr (.attr (.loc 60) 18) 7)),
  .ite (.cmp .ne (.tup [(.attr (.attr (.loc 60) 17) 7),(.loc 18),(.attr (.loc 60) 20)]) (.tup [(.sub (.loc 61) (.k (.str (ofString "active")))),(.sub (.loc 61) (.k (.str (ofString "last")))),(.sub (.loc 61) (.k (.str (ofString "zoom"))))])) [
   .ret (some (.k (.bool false)))] [
],
  .ite (.or (.cmp .ne (.call 207 [(.attr (.loc 60) 19)]) (.call 207 [(.loc 19)])) (.cmp .ne (.attr (.loc 60) 7) (.sub (.loc 61) (.k (.str (ofString "number")))))) [
   .ret (some (.k (.bool false)))] [
],
  .ite (.cmp .ne (.comp (.attr (.loc 6) 7) 6 (.attr (.loc 60) 16) (.k (.bool true))) (.call 73 [(.loc 19)])) [
   .ret (some (.k (.bool false)))] [
],
  .for1 36 (.one (.call 68 [(.loc 19)])) [
   .assign (.name 79) (.ite (.and (.sub (.loc 61) (.k (.str (ofString "zoom")))) (.cmp .eq (.attr (.loc 36) 6) (.sub (.loc 61) (.k (.str (ofString "active")))))) (.loc 19) (.loc 36)),
   .ite (.cmp .ne (.tup [(.attr (.sub (.sub (.loc 63) (.k (.str (ofString "panes")))) (.attr (.loc 36) 6)) 9),(.attr (.sub (.sub (.loc 63) (.k (.str (ofString "panes")))) (.attr (.loc 36) 6)) 10)]) (.tup [(.attr (.loc 79) 2),(.attr (.loc 79) 1)])) [
    .ret (some (.k (.bool false)))] [
]]]
section
variable {W:Wd} {n m:Nat} {H:AH} {Q:AV->AH->Prop} {c:Cx} {s:S}
theorem pQ (G:GD W) {t:L} {v:Win} (hm:40<=m) (hv:WOK v) (hL:LR true H t) (he:er t=v.tr) (q:∀H',Sb H H'->Q (.bytes (vQ v.tr)) H'):a7 W 207 [.ref t.tag.1] m H Q:=by
 have q:=he.symm▸q;exact D3 G hm hL (he▸hv.fine) (yR.mp (he▸hv.fine.box)) (λp hp=>hv.rng p (by apply rwR he (rwL ab ?_);exact hp)) q
theorem zR (G:GD W) {Z:am} {QS:am->AH->Prop} {RR:AV->AH->Prop} {i:Nat} {v:Win} (hn:50<=n) (h61:Z.lookup 61=some (.ref (c.mi i))) (h63:Z.lookup 63=some (.ref c.Wd)) (h:WI c H s) (hi:s.rw[i]?=some v) (hmi:s.mw[i]?=some v) (hv:WOK v) (hks:∀x∈v.tr.panes,x∈s.ks)
  (q:∀Z' H',Z'.lookup 63=some (.ref c.Wd)->Sb H H'->QS Z' H'):cG W n sb Z H QS RR:=by
 have hd:sb=sb.take 2++sb.drop 2:=rfl;apply rwL hd (rwL qm ?_);have hlen:=hv.fine.sm.len;have rest:∀(Z:am) (t2:L),Z.lookup 61=some (.ref (c.mi i))->Z.lookup 63=some (.ref c.Wd)->Z.lookup 60=some (.ref (c.ri i))->Z.lookup 19=some (.ref t2.tag.1)->Z.lookup 18=some (cR v.last)->
   H (c.mi i)=some (false,.dS (eI i (c.ri i) t2.tag.1 v.act v.last v.zoom))->LR true H t2->er t2=v.tr->cG W n (sb.drop 2) Z H QS RR:=by
  intro Z t2 g61 g63 g60 g19 g18 em hL2 he2;apply a8 ((h.real i v hi).rw) λt z1z=>?_;apply bH z1z λz1z hL he=>gQ z1z λdx nm lp e1 e2=>?_;apply a8 ((h.real i v hi).sz v.act hv.act) λdxa ea=>?_;unfold sb;simp only[drop_succ_cons,drop_zero];apply cI (.cons g61 (.cons g63 (.cons g60 (.cons g19 (.cons g18 .nil))))) ?_;ext;apply wn e1 (iq ea (Ch e1 ?_));apply⟨by decide,?_⟩;apply tA em (tz em (wo em ?_));apply⟨by decide,iU rj ⟨(λz=>by ac_nf),λ_=>?_⟩⟩<;>ext;apply gW e1 ?_;apply pQ G (ay hn rfl) hv hL he λH1 s1=>?_;apply pQ G (ay hn rfl) hv (hL2.sb s1) he2 λH2 s2=>?_;have S2:Sb H H2:=s1.trans s2;simp only[zk];have hbb:(vQ v.tr==vQ v.tr)=true:=by simp
  apply⟨(λz=>by rw[hbb]at z;exact absurd z false_ne_true),λ_=>?_⟩;apply rwL (Ey (S2.inst e1)) (rwL (EB (S2.dS em)) (rwL bu ?_));apply⟨(λz=>by simp at z),λ_=>?_⟩<;>ext;apply yN (S2.inst e1) ?_;have h2:=h.sb S2;apply cQ (g:=λn=>.ref (c.pa n)) (cs:=v.tr.panes) (bD hlen) (λpre out H'=>H'=H2∧out=pre.map AV.int) ⟨rfl,rfl⟩ ?_ ?_ ?_
  ·rintro pre out H' ⟨rfl,rfl⟩;exact⟨⟨true,S2.list e2⟩,by simp⟩
  ·rintro pre u suf out H' hcs ⟨rfl,rfl⟩;apply a8 ((h2.real i v hi).sz u (by exact rwL hcs (mem_append_right _ (.head _)))) λd eu=>?_
   walk_at "wp"
   apply iq eu ?_;exact⟨rfl,by simp⟩
  ·rintro out H' ⟨rfl,rfl⟩ r3 hr3;have s3:Sb H' (H'.set r3 (.list (v.tr.panes.map .int))):=.new hr3;have e3:(H'.set r3 (.list (v.tr.panes.map .int))) r3=some (false,.list (v.tr.panes.map .int)):=AH.EP _ _ _;generalize H'.set r3 (.list (v.tr.panes.map .int))=H3 at s3 e3;have S3:Sb H H3:=S2.trans s3;have hst2:t2.Sm:=aL.mp (he2▸hv.fine.sm);have ept2:t2.panes=v.tr.panes:=by exact rwR he2 (rwL ab rfl)
   apply kx G (by have:=hst2.dep;lia) (hL2.sb S3) hst2 λr4 H4 s4 e4=>?_;rw[ept2]at e4;have S4:Sb H H4:=S3.trans s4;apply zj (s4.list e3) e4 ⟨(λz=>by simp at z),λ_=>?_⟩<;>ext;apply z9 G (by have:=hst2.dep;lia) (hL2.sb S4) hst2 λr5 H5 s5 e5=>?_;have S5:Sb H H5:=S4.trans s5;have h5:=h.sb S5;have hL5:=hL2.sb S5;have em5:=S5.dS em;apply cC (g:=rf) (cs:=t2.leaves) (λpre Z' H'=>H'=H5∧Z'.lookup 61=some (.ref (c.mi i))∧Z'.lookup 63=some (.ref c.Wd)∧Z'.lookup 19=some (.ref t2.tag.1)) ⟨rfl,rfl,rfl,rfl⟩ (λpre Z' H' hJ=>⟨true,by exact rwL hJ.1 e5⟩) ?_ ?_
   ·rintro pre u suf Z' H' hcs ⟨rfl,k61,k63,k19⟩;have hu:u∈t2.leaves:=by exact rwL hcs (mem_append_right _ (.head _))
    apply vS (hL5.leaf hu) λa w hh x y z1z=>?_;obtain⟨p,rfl,hLu⟩:=z1z;apply af hLu.nd λz1z _=>?_;(apply a8 z1z λdxu eu=>?_;clear z1z);apply af hL5.nd λz1z _=>?_;(apply a8 z1z λdxt et=>?_;clear z1z);have hpv:p∈v.tr.panes:=by exact rwR ept2 (mR ⟨_,hu,rfl⟩)
    apply a8 ((h5.real i v hi).sz p hpv) λdp ep=>?_;have hszv:gC v p=if v.zoom&&p==v.act then(t2.h,t2.w)else(hh,w):=by
     unfold gC;have:=lw (u:=.leaf a w hh x y p) (by exact rwL ept2 hv.nd) hu;rw[he2]at this;have hp':(Tr.leaf a w hh x y p:L).pane=p:=rfl;simp only[hp']at this;apply rwL this ?_;have h1:v.tr.h=t2.h:=by exact rwR he2 Tr.ik
     have h2:v.tr.w=t2.w:=by exact rwR he2 Tr.ii
     apply rwL h1 (rwL h2 ?_);rfl
    walk_at "wp"
    simp only[k61,k63,k19,cz];apply wo em5 ?_;have rd:∀(K:AV->AV->AH->Prop),K (.int (gC v p).1) (.int (gC v p).2) H'->be (.ref c.Wd) (.str (ofString "panes")) H' λx1 H=>aQ W (rf (.leaf a w hh x y p)) 6 n H λy1 H=>be x1 y1 H λv1 H=>aQ W v1 9 n H λa1 H=>be (.ref c.Wd) (.str (ofString "panes")) H λx1 H=>aQ W (rf (.leaf a w hh x y p)) 6 n H λy1 H=>be x1 y1 H λv1 H=>aQ W v1 10 n H λa2 H=>K a1 a2 H:=by
     intro K hK;simp only[rf];apply rwL (jx h5) (rwL (gp eu) ?_);apply bA h5 (hks p hpv) ?_;apply rwL (DG ep) (rwL (jx h5) (rwL (gp eu) ?_));apply bA h5 (hks p hpv) ?_;apply rwL (DH ep) ?_;exact hK
    have fs:∀a b:Int,mI [.int a,.int b] [.int a,.int b]=some true:=λa b=>eU jm (eU jm rfl);have small:(v.zoom&&p==v.act)=false->2<=cap∧aQ W (rf (.leaf a w hh x y p)) 2 n H' λv3 H=>aQ W (rf (.leaf a w hh x y p)) 1 n H λv4 H=>2<=cap∧lk (mI [.int (gC v p).1,.int (gC v p).2] [v3,v4]) λc=>((!c)=true->RR (.bool false) H)∧((!c)=false->H=H'∧True∧True∧True):=λhc=>by
     apply rwL hszv (rwL hc ?_);apply⟨by decide,?_⟩;simp only[rf];apply rwL (gh eu) (rwL (gw eu) ?_);exact⟨by decide,iU (fs _ _) ⟨(λz=>by ac_nf),λ_=>⟨rfl,trivial,trivial,trivial⟩⟩⟩
    apply⟨λhz=>⟨(λz=>by exact absurd z false_ne_true),λ_=>rd _ (small (by apply rwL hz ?_;rfl))⟩,λhz=>?_⟩;have hrf:rf (Tr.leaf a w hh x y p)=.ref (Tr.leaf a w hh x y p:L).tag.1:=rfl;apply rwL hrf (rwL (gp eu) (rwL (wq em5) ?_));show kE H' (.int p) (.int v.act) _;simp only[bu];apply⟨λhd=>rd _ ?_,λhd=>rd _ (small (by simp only[hd,Bool.and_false]))⟩;apply rwL hszv (rwL hd (rwL hz ?_));apply⟨by decide,?_⟩;apply rwL (gh et) (rwL (gw et) ?_);exact⟨by decide,iU (fs _ _) ⟨(λz=>by ac_nf),λ_=>⟨rfl,trivial,trivial,trivial⟩⟩⟩
   ·rintro Z' H' ⟨rfl,k61,k63,k19⟩;exact λZ1 E=>q Z1 H' (E _ _ k63) S5
 apply de (h.mine i v hmi) λt2 em hL2 he2=>?_;apply a8 ((h.real i v hi).rw) λt z1z=>?_;apply bH z1z λz1z hL he=>gQ z1z λdx nm lp e1 e2=>?_;generalize hT:sb.drop 2=T2 at rest;unfold sb;simp only[take_succ_cons,take_zero];apply cI (.cons h61 (.cons h63 .nil)) ?_;ext;apply kO em (du em ?_);apply⟨by decide,?_⟩<;>ext;apply ty e1 ?_;have go:∀w,w=cR v.last->∀Z1,eZ Z1 [(61,.ref (c.mi i)),(63,.ref c.Wd),(60,.ref (c.ri i)),(19,.ref t2.tag.1),(18,w)]->cG W n T2 Z1 H QS RR:=λw hw Z1 E=>
  rest Z1 t2 (E _ _ rfl) (E _ _ rfl) (E _ _ rfl) (E _ _ rfl) (hw▸E _ _ rfl) em hL2 he2
 cases hl:v.last with
 |none=>exact j6 rfl trivial (go _ (by apply rwL hl ?_;rfl))
 |some l=>
  apply iN rfl trivial ?_;apply rwL (BG e1) (rwL hl ?_);apply a8 ((h.real i v hi).sz l (hv.last l hl)) λd el=>?_;show aQ W (.ref (c.pa l)) 7 n H _;apply rwL (xo el) ?_;exact go _ (by apply rwL hl ?_;rfl)
theorem B1 (G:GD W) (hm:52<=m) (h:WI c H s) (hp:PI s) (heq:s.mw=s.rw) (q:∀H',WI c H' s->Q (.bool true) H'):a7 W 555 [.ref c.Wd] m H Q:=by
 apply bZ G rfl (show 51+1<=m from hm) rfl λn hn=>?_;have hx:Bi=[.for1 61 (.one (.sub (.loc 63) (.k (.str (ofString "windows"))))) sb,.ret (some (.k (.bool true)))]:=rfl;apply rwL hx ?_;unfold zE
 walk_at "wp"
 apply rwL (pB h) ?_;apply cC (g:=λi=>.ref (c.mi i)) (cs:=List.range s.mw.length) (λpre Z H'=>Z.lookup 63=some (.ref c.Wd)∧Sb H H') ⟨rfl,.refl⟩ (λpre Z H' hJ=>⟨false,hJ.2.list h.wlist⟩) ?_ ?_
 ·rintro pre u suf Z H' hcs ⟨h1,h2⟩;have hu:u<s.mw.length:=by
   have:u∈List.range s.mw.length:=by exact rwL hcs (mem_append_right _ (.head _))
   exact List.mem_range.mp this
  have hmi:s.mw[u]?=some s.mw[u]:=getElem?_eq_getElem hu;have hi:s.rw[u]?=some s.mw[u]:=by exact rwR heq hmi
  have hvm:=mem_of_getElem? hi;apply zR G (i:=u) (v:=s.mw[u]) (le_of_lt (by assumption)) (gP Z 61 (AV.ref (c.mi u))) (by apply rwL my (rwL (if_neg (by decide)) ?_);exact h1) (h.sb h2) hi hmi (hp.ok _ hvm) (hp.sub _ hvm) λZ' H'' g1 g2=>⟨g1,h2.trans g2⟩
 ·rintro Z H' ⟨h1,h2⟩;exact q H' (h.sb h2)
end
end
section
section
variable {W:Wd} {n m:Nat} {H:AH} {Q:AV->AH->Prop}
theorem yT {xs:List AV}:cut xs none (some 120)=xs.take 120:=by
 delta cut clipAt;simp
 apply(Nat.le_total 120 xs.length).elim (λh=>?_) λh=>?_
 ·exact rwL (show(max 0 (min 120 (xs.length:Int))).toNat=120 from C7 h) rfl
 ·simp only[show(max 0 (min 120 (xs.length:Int))).toNat=xs.length from Eo h,Nat.min_self,Nat.min_eq_right h]
theorem CT (G:GD W) {l:Addr} {f:Bool} {ns:List Int} (hm:1<=m) (el:H l=some (f,.list (ns.map .int))) (hl:ns.length<=63) (q:∀(D Lc:Addr) (cells:List Int) (H':AH),cells.length<=200->Sb H H'->H' Lc=some (true,.list (cells.map .int))->H' D=some (false,.dS [(bY,.ref Lc),(ou,.int 0)])->Q (.ref D) H'):a7 W 449 [.ref l] m H Q:=by
 apply a7.fz (bZ G rfl hm rfl λn hn=>?_);ext;apply⟨l,f,_,none,some 120,rfl,el,by simp only[length_map];unfold cap;exact le_trans hl (by decide),rfl,by decide,λr1 hr1=>?_⟩;apply rwL yT (rwR List.map_take ?_);have s1:Sb H (H.set r1 (.list ((ns.take 120).map .int))):=.new hr1;have e1:(H.set r1 (.list ((ns.take 120).map .int))) r1=some (false,.list ((ns.take 120).map .int)):=AH.EP _ _ _;generalize H.set r1 (.list ((ns.take 120).map .int))=H1 at s1 e1;generalize hns:ns.take 120=is at e1;have hil:is.length<=63:=by apply rwR hns (rwL length_take ?_);lia
 apply cQ (g:=AV.int) (cs:=is) (by unfold cap;exact le_trans hil (by decide)) (λpre out H'=>H'=H1∧∃js:List Int,js.length=pre.length∧out=js.map .int) ⟨rfl,[],rfl,rfl⟩ ?_ ?_ ?_
 ·rintro pre out H' ⟨rfl,js,h1,rfl⟩;exact⟨⟨false,e1⟩,by simp[h1]⟩
 ·rintro pre u suf out H' hcs ⟨rfl,js,h1,rfl⟩;ext;dsimp only[zh,gY];exact⟨by decide,rfl,js++[u.fmod 1000003],by simp[h1],by simp⟩
 ·rintro out H' ⟨rfl,js,h1,rfl⟩ r2 hr2;have s2:Sb H' (H'.set r2 (.list (js.map .int))):=.new hr2;have e2:(H'.set r2 (.list (js.map .int))) r2=some (false,.list (js.map .int)):=AH.EP _ _ _;generalize H'.set r2 (.list (js.map .int))=H2 at s2 e2;apply⟨by decide,λD hD=>⟨[r2],?_⟩⟩;have s3:Sb H2 (H2.set D (.dS [(bY,.ref r2),(ou,.int 0)])):=.new hD;have S3:Sb H (H2.set D (.dS [(bY,.ref r2),(ou,.int 0)])):=(s1.trans s2).trans s3;have hne:D≠r2:=λz=>by simp only[z,e2]at hD;exact sN hD
  have hN:Nw H [r2]:=Nw.sb s1 (.of hr2);exact q D r2 js _ (by lia) (dY S3 hN) (ir aw (s3.list e2) (.head _)) (gX xk (AH.EP _ _ _) (aJ hne))
theorem xu (G:GD W) {D Lc:Addr} {cells:List Int} {k aY:Int} (hm:1<=m) (e:H D=some (false,.dS [(bY,.ref Lc),(ou,.int k)])) (hc:H Lc=some (true,.list (cells.map .int))) (hcl:cells.length<=200) (hk0:0<=k) (hk:k<=10000) (h0:0<aY)
  (q:∀v H',0<=v->v<aY->Ex [D] H H'->H' D=some (false,.dS [(bY,.ref Lc),(ou,.int (k+1))])->Q (.int v) H'):a7 W 456 [.ref D,.int aY] m H Q:=by
 apply bZ G rfl hm rfl λn hn=>?_;ext;apply rwL (di (u:=.int k) e rfl) ?_<;>ext;apply rwL aU (rwL (kX e (by simp)) ?_)<;>ext;have x1:Ex [D] H (H.set D (.dS (ch [(bY,.ref Lc),(ou,.int k)] (ofString "at") (.int (k+1))))):=Ex.put;have e1:(H.set D (.dS (ch [(bY,.ref Lc),(ou,.int k)] (ofString "at") (.int (k+1))))) D=some (false,.dS [(bY,.ref Lc),(ou,.int (k+1))]):=AH.EP _ _ _;generalize H.set D (.dS (ch [(bY,.ref Lc),(ou,.int k)] (ofString "at") (.int (k+1))))=H1 at x1 e1;have m0:Mu H [D]:=.cons e .nil;have hc1:=x1.fz m0 aw hc;have fin:∀x:Int,eH .mod (.int x) (.int aY) H1 Q:=λx=>by
  simp only[gY];exact⟨by exact Ne.symm (Int.ne_of_lt h0),q _ H1 (fmod_nonneg_of_pos _ h0) (fmod_lt_of_pos _ h0) x1 e1⟩
 apply rwL (di (u:=.ref Lc) e1 rfl) ?_;apply aF hc1 (by simp only[length_map];unfold cap;exact le_trans hcl (by decide)) ⟨λhz=>?_,λhz=>?_⟩
 ·have hz:=of_decide_eq_true hz;apply rwL (di (u:=.ref Lc) e1 rfl) ?_;simp only[length_map]at hz;have hlt:k.toNat<cells.length:=by lia
  apply df (j:=k.toNat) (u:=.int cells[k.toNat]) hc1 (by lia) (by simp only[length_map];unfold cap;exact le_trans hcl (by decide)) (by apply rwL getElem?_map (rwL (getElem?_eq_getElem hlt) ?_);rfl) (fin _)
 ·simp only[pq];apply⟨by decide,by lia,?_⟩;simp only[jq];apply⟨by decide,by lia,by decide,?_⟩;simp only[aU];exact fin _
theorem qX {x:Nat} {b:List CS} {Z:am} {QS:am->AH->Prop} {R:AV->AH->Prop} {k:Int} {N:Nat} (hk:k=(N:Int)) (hN:N<=1000000) (J:Nat->am->AH->Prop) (h0:J 0 Z H) (step:∀i Z H,i<N->J i Z H->cG W n b (put Z x (.int (Int.ofNat i))) H (J (i+1)) R) (fin:∀Z H,J N Z H->QS Z H):qr W n x b Z (.range k) H QS R:=by
 subst hk;apply⟨⟨by exact natCast_nonneg N,by exact Nat.ToInt.of_le rfl rfl hN⟩,λi Z H=>i<=N∧J i Z H,N,⟨zero_le _,h0⟩,λi Z H hI=>⟨hI.1,?_⟩⟩;apply af hI λhi hJ=>?_;clear hI;by_cases hlt:i<N
 ·apply⟨some (.int (Int.ofNat i)),by exact congrArg some (if_pos (by lia)),?_⟩;have e:(λZ H=>i+1<=N∧J (i+1) Z H)=J (i+1):=by
   funext Z H;exact propext ⟨λh=>h.2,λh=>⟨hlt,h⟩⟩
  show cG W n b _ H (λZ H=>i+1<=N∧J (i+1) Z H) R;simp only[e];exact step i Z H hlt hJ
 ·apply⟨none,by exact congrArg some (if_neg (by lia)),?_⟩;have:i=N:=by lia
  obtain rfl:=this.symm;exact fin Z H hJ
theorem uS {v:AV} (h:rx v):∃x,v=.tup [x,x]∧lM x x=some true∧∀H,fh H x x:=by
 rcases h with⟨b,rfl⟩|rfl
 ·exact⟨_,rfl,congrArg some (beq_self_eq_true b),λ_=>trivial⟩
 ·exact⟨_,rfl,rfl,λ_=>trivial⟩
theorem CL (G:GD W) {l:Addr} {ns:List Int} (el:H l=some (true,.list (ns.map .int))) (hl:ns.length<=63):a7 W 562 [.ref l] 200 H λv _=>v=.bool true:=by
 apply DK G (n:=199) rfl (ws:=[]) (λh _=>rfl) rfl ?_;ext;apply CT G (succ_pos _) el hl λD Lc cells H1 hcl s1 eL1 eD1=>?_<;>ext;apply xu G (succ_pos _) eD1 eL1 hcl (by decide) (by decide) (by decide) λk1 H2 a1 b1 x2 eD2=>?_;have m1:Mu H1 [D]:=.cons eD1 .nil;have eL2:=x2.fz m1 aw eL1;simp only[aU];apply xu G (succ_pos _) eD2 eL2 hcl (by decide) (by decide) (by decide) λk2 H3 a2 b2 x3 eD3=>?_;have m2:Mu H2 [D]:=.cons eD2 .nil;have eL3:=x3.fz m2 aw eL2;simp only[aU];apply⟨by decide,?_⟩<;>ext;generalize hw:24+k1=w;generalize hh:8+k2=hh';have hw1:1<=w∧w<=64:=by lia
 have hh1:1<=hh'∧hh'<=64:=by lia
 apply mo G (by decide) λa0 H4 BD s4 e0=>?_;apply mo G (by decide) λa9 H5 ha9 s5 e9=>?_;apply a8 e0 λd0 e0=>?_;apply a8 e9 λd9 e9=>?_;apply⟨[(0,.ref a0),(90,.ref a9)],rfl,by simp,λPd hPd=>⟨by decide,λWl hWl=>⟨by decide,λWd' hWd=>?_⟩⟩⟩<;>ext;have s6:Sb H5 (H5.set Pd (.dI [(0,.ref a0),(90,.ref a9)])):=.new hPd;have eP:(H5.set Pd (.dI [(0,.ref a0),(90,.ref a9)])) Pd=some (false,.dI [(0,.ref a0),(90,.ref a9)]):=AH.EP _ _ _;have hfo:(([(0,AV.ref a0),(90,.ref a9)]:List (Int × AV)).foldl (λes p=>ch es p.1 p.2) [])=[(0,.ref a0),(90,.ref a9)]:=rfl;simp only[hfo]at hWl hWd ⊢;generalize H5.set Pd (.dI [(0,.ref a0),(90,.ref a9)])=H6 at s6 eP hWl hWd ⊢;have s7:Sb H6 (H6.set Wl (.list [])):=.new hWl;have eW:(H6.set Wl (.list [])) Wl=some (false,.list []):=AH.EP _ _ _;generalize H6.set Wl (.list [])=H7 at s7 eW hWd ⊢;have s8:Sb H7 (H7.set Wd' (.dS [(iJ,.ref Pd),(kY,.ref Wl)])):=.new hWd;have eX:(H7.set Wd' (.dS [(iJ,.ref Pd),(kY,.ref Wl)])) Wd'=some (false,.dS [(iJ,.ref Pd),(kY,.ref Wl)]):=AH.EP _ _ _;show be (.ref Wd') (.str (ofString "windows")) (H7.set Wd' (.dS [(iJ,.ref Pd),(kY,.ref Wl)])) _;generalize H7.set Wd' (.dS [(iJ,.ref Pd),(kY,.ref Wl)])=H8 at s8 eX ⊢;apply rwL (di (u:=.ref Wl) eX rfl) ?_;have eW8:=s8.list eW;apply⟨⟨_,_,_,rfl,eW8⟩,?_⟩;apply rwL (di (u:=.ref Pd) eX rfl) ?_;have eP8:=s8.dI (s7.dI eP);apply .inr ⟨_,_,_,eP8,rfl,?_⟩
 let pa:Int->Addr:=λn=>if n=0 then a0 else a9
 have e08:PN H8 pa 0 (0,0):=⟨d0,(s8.inst (s7.inst (s6.inst (s5.inst e0))))⟩;have e98:PN H8 pa 90 (0,0):=⟨d9,(s8.inst (s7.inst (s6.inst e9)))⟩;show iT W 420 [.int 0,.bytes #[119],.ref (pa 0),.int w,.int hh'] 199 H8 _;apply sV G (by decide) ⟨_,e08⟩ hw1 hh1 λa H9 ha9' x9 f9=>?_;have m8:Mu H8 [pa 0]:=let ⟨d,e⟩:=e08;.cons e .nil;have S38:Sb H3 H8:=(s4.trans s5).trans ((s6.trans s7).trans s8);have i8:Is H8 [pa 0]:=let ⟨d,e⟩:=e08;.cons e (λ_ z=>by simp at z);apply B4 G (by decide) λmd H10 s10 m10=>?_;have X10:Ex [pa 0] H8 H10:=x9.trans s10.ex;have eW10:=X10.list eW8 (i8.out eW8 λ_ _ _ z=>by ac_nf);apply⟨_,eW10,by decide,?_⟩<;>ext;have x11:Ex [Wl] H10 (H10.set Wl (.list [.ref md])):=Ex.put;have eW11:(H10.set Wl (.list [.ref md])) Wl=some (false,.list ((List.range 1).map λ_=>.ref md)):=AH.EP _ _ _
 try dsimp only
 generalize H10.set Wl (.list [.ref md])=H11 at x11 eW11 ⊢
 let c:Cx:=⟨D,Lc,Wd',Pd,Wl,λ_=>md,λ_=>a,pa,cells⟩
 have ho:∀C dx fs,AO.list ([]:List AV)≠.inst C dx fs:=λ_ _ _ z=>by ac_nf
 have m10':Mu H10 [Wl]:=.cons eW10 .nil;have eD10:=X10.dS (S38.dS eD3) (i8.out (S38.dS eD3) λ_ _ _ z=>by ac_nf);have eX10:=X10.dS eX (i8.out eX λ_ _ _ z=>by ac_nf);have eP10:=X10.dI eP8 (i8.out eP8 λ_ _ _ z=>by ac_nf);have f10:=f9.sb s10;have h11:WI c H11 ⟨[cT 0 w hh'],[cT 0 w hh'],[0,90],3⟩:=by
  apply⟨⟨2,by show 2<=3;decide,x11.dS eD10 (aJ (aP eD10 eW10 λz=>by lia))⟩,?_,hcl,x11.dS eX10 (aJ (aP eX10 eW10 λz=>by simp at z)),x11.dI eP10 (aJ (aP eP10 eW10 λz=>by simp at z)),eW11,λi v hv=>?_,λi v hv=>?_,λx hx=>?_⟩
  ·exact x11.fz m10' aw (X10.fz m8 aw (S38.list eL3))
  ·cases i with
   |zero=>simp at hv;subst hv;exact f10.one x11 eW10 ho
   |succ i=>exact nS hv
  ·cases i with
   |zero=>
    simp at hv;subst hv;apply a8 (id m10) λt z1z=>?_;obtain⟨em,_⟩:=z1z;exact m10.ex x11 m10' (aJ (aP em eW10 λz=>by simp at z))
   |succ i=>exact nS hv
  ·simp only[mem_cons,not_mem_nil,or_false]at hx;rcases hx with rfl|rfl
   ·exact⟨_,(f10.sz 0 (.head _)).one x11 eW10 ho⟩
   ·have:pa 90∉[pa 0]:=aJ λz=>by
     have:=e98.inj e08 z;lia
    exact⟨_,(e98.ex X10 this).one x11 eW10 ho⟩
 have p11:PI ⟨[cT 0 w hh'],[cT 0 w hh'],[0,90],3⟩:=by
  apply⟨λv hv=>?_,by simp,λv hv x hx=>?_,λi j v u hij hi hj=>?_,λx hx=>?_,by exact .tail _ (.head _),by simp,by simp⟩
  ·apply rwL (mS hv) ?_;exact su ⟨by decide,by decide⟩ hw1 hh1
  ·rw[mS hv]at hx;simp only[cT,Tr.au,mem_singleton]at hx;simp[hx]
  ·cases i with
   |zero=>
    cases j with
    |zero=>exact absurd rfl hij
    |succ j=>exact nS hj
   |succ i=>exact nS hi
  ·simp only[mem_cons,not_mem_nil,or_false]at hx;rcases hx with rfl|rfl
   ·exact .inr ⟨by decide,by simp⟩
   ·exact .inl rfl
 apply B1 G (c:=c) (by decide) h11 p11 rfl λH12 h12=>⟨(λz=>by ac_nf),λ_=>?_⟩<;>ext;apply gE G (c:=c) (succ_pos _) h12 (by show 3<=_;decide) (by decide) λk3 H13 a3 b3 x13 h13=>?_;simp only[aU];simp only[nQ];apply qX (N:=(4+k3).toNat) (by lia) (by lia) (λi Z H'=>Z.lookup 59=some (.ref D)∧Z.lookup 63=some (.ref Wd')∧E2 λc' s'=>c'.D=D∧c'.Wd=Wd'∧WI c' H' s'∧PI s'∧s'.mw=s'.rw∧s'.kb<=4+30 * i∧s'.ks.length<=2+i) ?_ ?_ ?_
 ·exact⟨rfl,rfl,c,_,rfl,rfl,h13,p11.kb _,rfl,by show 3+1<=_;exact le_refl _,by exact le_refl _⟩
 ·rintro i Z H' hi ⟨g59,g63,c',s',hD,hW,h',p',heq,hkb,hks⟩
  walk_at "wp"
  simp only[g59,g63,cz];apply rwR hD (rwR hW ?_);apply CM G (by decide) h' p' heq (by lia) (by lia) λv c2 s2 H2' ht ha=>?_;apply de (uS ht) λx z1z hx1 hx2=>?_;subst z1z
  walk_at "wp"
  simp only[g63,cz];apply⟨true,hx1,hx2 _,(λz=>by exact absurd z false_ne_true),λ_=>?_⟩;apply rwR hW (rwR ha.hW ?_);apply B1 G (c:=c2) (by decide) ha.wi ha.pi ha.eq λH3' h3'=>⟨(λz=>by exact Bool.noConfusion z),λ_=>?_⟩;have e1:=ha.kb;have e2:=ha.ks;exact⟨by first|exact g59|(rw[ha.hD];exact g59)|(apply rwR ha.hD ?_;exact g59)|(apply rwL hD ?_;exact g59),rfl,c2,s2,by first|rfl|exact ha.hD.trans hD|exact ha.hD,by first|rfl|exact ha.hW.trans hW|exact ha.hW,h3',ha.pi,ha.eq,by lia,by lia⟩
 ·rintro Z H' _
  first|rfl|trivial
end
end
section
theorem Ax (P:Params):nsIn (KK P) mainGlobals (ofString "law")=some (some (.ref 562)):=by kernel_rfl
theorem tx {H:AH} {h:Heap} {vs:List Value} {ns:List Int} (x:IntsAre vs ns):bK H h (ns.map .int) vs:=by
 induction x with
 |nil=>rfl
 |cons n t r ih=>exact⟨_,_,rfl,⟨t,rfl⟩,ih⟩
theorem qt {P:Params} {h:Heap} {l:Addr} {xs:List WData} (w:Well P h (.ref l) (.list xs)):∃vs:List Value,h.get? l=some {cls:=.type "list",data:=.seq vs.toArray}:=by
 cases w with
 |list e _=>exact⟨_,e⟩
set_option maxHeartbeats 8000000 in
theorem join (lawC:∀(W:Wd) (G:Gd W (KK W.w.params)) (H:AH) (l:Addr) (ns:List Int),H l=some (true,.list (ns.map .int))->ns.length<=63->a7 W 562 [.ref l] 200 H (λv H'=>v=.bool true)):PySem.Challenge.rw_pq1192_01.Holds:=by
 apply holds_law Di ((λh _=>h) ?_);apply holds_open (q:=A2) (loose:=Ca) (Xt:=Dh) (XP:=XL A2 []) (Yf:=HK.obs) (Ya:=HK.val) (YP:=HK.says) (N:=6452) ?hl HK.of HK.keeps (λs e=>xl_of s (Bool.and_eq_true_iff.mp e).1) XL.keeps (by rfl) (by rfl) (by rfl) (λs e=>recFacts_of (Bool.and_eq_true_iff.mp e).2) (by rfl) (row_said Di) (by decide +kernel) ⟨rfl,rfl,rfl,rfl,rfl,by decide +kernel⟩ ?hw ?hc
 case hl=>exact Ar Cf Cg BD Ew
 case hw=>w_witness2
 intro w s₀ s₁ mg mb G Y fa o pm cd doc dV kV ho hd hcd hD hmg hg args vals as hpre hlay hrd hwl hlo;have KX:=kIn_of Y;apply Ground.open G ?_;intro T B D TE TW;have hfa:=mg_of KX T.g (Ax w.params);have e1:some (Value.ref 562)=some (Value.ref fa):=hfa.symm.trans hmg;cases e1;clear hD hmg hd hcd ho
 set_option tactic.hygienic true in wrow_args hpre hlay hrd hwl hlo
 rename_i ns _ _ _ _ _ _ _ l vs _ hL _ wl _ hI _ hlen _;apply a8 (qt wl) λvs' hl=>?_;have hvs:vs'=vs:=by
  apply ad hL λob h1 z1z=>af z1z λh2 z2z=>a8 z2z λn h3=>?_;clear hL z1z z2z;simp only[hl]at h1;obtain rfl:=sI h1;cases h3;rfl
 subst hvs;apply enter_call ?_
 let W:Wd:=⟨PySem.Challenge.rw_pq1192_01.row.prog,w,s₁.heap⟩
 let H:AH:=λa=>if a=l then some (true,.list (ns.map .int))else none
 have hH:H l=some (true,.list (ns.map .int)):=if_pos rfl;have hS:W.St H s₁.heap:=by
  apply⟨λa f ob e=>?_,λa ob e=>⟨e,λx z=>?_⟩,λa f C dx fs e=>?_⟩
  ·by_cases ha:a=l
   ·obtain rfl:=ha.symm;simp only[hH]at e;cases e;exact⟨_,_,hl,by simpa using tx hI⟩
   ·simp only[show H a=none from if_neg ha]at e;exact nS e
  ·by_cases ha:a=l
   ·obtain rfl:=ha.symm;simp only[hH]at z;simp at z
   ·simp only[show H a=none from if_neg ha]at z;exact nS z
  ·by_cases ha:a=l
   ·obtain rfl:=ha.symm;simp only[hH]at e;simp at e
   ·simp only[show H a=none from if_neg ha]at e;exact nS e
 have G':Gd W (KK W.w.params):=AG KX (by
  apply ad G.T.nodigits λ_ z1z _=>?_;apply a8 z1z λo z1z=>a8 z1z λ_ z2z=>ad z2z λ_ ho _=>?_;exact⟨_,o,by decide,ho⟩) ⟨_,_,_,_,topRead_of T⟩
 apply lawC W G' H l ns hH (by omega) callerA s₁ [.ref l] _ ⟨by decide +kernel,by decide +kernel,rfl⟩ hS (by simp only[c8,bv,dM];exact⟨_,_,rfl,rfl,rfl⟩) ?_;intro v u s' H' hv ha hq;subst hq;subst hv;apply GoodW.toG ⟨.inl ⟨_,.bool true,[],rfl,?_,.bool true,?_,?_⟩,λb o e=>(ha.st.base b o e).1,ha.same.os,ha.same.gens.trans hg⟩
 ·exact λ_=>rfl
 ·exact postW_of (X:=true) (by wrow_shape) (by wtm_val) rfl
 ·exact λ_=>⟨.nil,λa h=>by simp at h⟩
end
end Mine.Internal
theorem PySem.Challenge.cw_pq1192_01_holds : PySem.Challenge.rw_pq1192_01.Holds :=
  Mine.Internal.join λW G H l ns e hl => Mine.Internal.CL G e hl
