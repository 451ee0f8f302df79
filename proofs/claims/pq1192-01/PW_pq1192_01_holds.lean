import PyProof.Rows.All
import Wide.All
import OpenK.AllK
import Wide.FinOn
import PySem.Challenge.RW_pq1192_01
open PySem PySem.W PyProof.Rows
set_option Elab.async false
set_option maxRecDepth 100000 in
set_option maxHeartbeats 8000000 in
open_top hd for PySem.Challenge.rw_pq1192_01
open PySem.Calls
set_option maxRecDepth 100000
set_option linter.unusedVariables false
set_option linter.unusedSimpArgs false
namespace Mine
section
def NT:List String:=["kind","width","height","x","y","parts","pane","number","terminal","rows","columns","bells","title","is_dead","options",
 "name","panes","active","last","layout","is_zoomed","has_bell","has_activity",
 "rest","found","cell","part","is_row","side","rooms","change","path","fresh","root","size","is_before","leaf","wish","many","other","both","at","top",
 "numbers","one","turned","is_back","octets","octet","sizes","head","inner","window","source","target","beside","is_active","mate","script","deck","real","mine",
 "row","world","told","yours","ends","ground","way","windows","go","self","parent","more","known","gone","left","near","far","place","due","shift",
 "sized","hand_sizes","lay","has","select","select_last","select_next","zoom","split","drop","resize","swap","rotate","__init__","k","word","main"]
def NS:List Str:=NT.map Str.ofString
def nm (i:Nat):Str:=(NS[i]?).getD ⟨#[0,i]⟩
theorem ns_len:NS.length=99:=by decide +kernel
theorem ns_nodup:NS.Nodup:=by decide +kernel
theorem ns_zero:∀s∈NS,s.cps[0]?≠some 0:=by decide +kernel
theorem nm_inj {i j:Nat} (h:nm i=nm j):i=j:=by
 unfold nm at h
 by_cases hi:i<NS.length<;>by_cases hj:j<NS.length
 ·rw[List.getElem?_eq_getElem hi,List.getElem?_eq_getElem hj]at h
  simp only[Option.getD_some]at h
  rcases Nat.lt_trichotomy i j with q|q|q
  ·exact absurd h (List.pairwise_iff_getElem.mp ns_nodup i j hi hj q)
  ·exact q
  ·exact absurd h.symm (List.pairwise_iff_getElem.mp ns_nodup j i hj hi q)
 ·rw[List.getElem?_eq_getElem hi,List.getElem?_eq_none (Nat.le_of_not_lt hj)]at h
  have:=ns_zero _ (List.getElem_mem hi)
  simp only[Option.getD_some,Option.getD_none]at h
  rw[h]at this;simp at this
 ·rw[List.getElem?_eq_getElem hj,List.getElem?_eq_none (Nat.le_of_not_lt hi)]at h
  have:=ns_zero _ (List.getElem_mem hj)
  simp only[Option.getD_some,Option.getD_none]at h
  rw[←h]at this;simp at this
 ·rw[List.getElem?_eq_none (Nat.le_of_not_lt hi),List.getElem?_eq_none (Nat.le_of_not_lt hj)]at h
  simpa using h
inductive AV where
 |none
 |bool (b:Bool)
 |int (i:Int)
 |str (s:Str)
 |bytes (b:Array UInt8)
 |ref (a:Addr)
 |tup (vs:List AV)
inductive AO where
 |list (vs:List AV)
 |inst (C dx:Addr) (fs:List (Nat × AV))
 |dS (es:List (Str × AV))
 |dI (es:List (Int × AV))
 |own (a:Addr)
 |opq
abbrev AH:=Addr→Option (Bool × AO)
def AH.set (H:AH) (a:Addr) (o:AO):AH:=fun b=>if b=a then some (false,o)else H b
theorem AH.set_same (H:AH) (a:Addr) (o:AO):H.set a o a=some (false,o):=if_pos rfl
theorem AH.set_ne (H:AH) {a b:Addr} (o:AO) (h:b≠a):H.set a o b=H b:=if_neg h
mutual
def VR (H:AH) (h:Heap):AV→Value→Prop
 |.none,v=>v=.none
 |.bool b,v=>v=.bool b
 |.int i,v=>∃t,v=.int i t
 |.str s,v=>∃t,v=.str s t
 |.bytes b,v=>∃t,v=.bytes b t
 |.ref a,v=>v=.ref a
 |.tup vs,v=>∃a us n,v=.ref a∧h.get? a=some {cls:=.type "tuple",data:=.seq us n}∧H a=none∧VRs H h vs us.toList
def VRs (H:AH) (h:Heap):List AV→List Value→Prop
 |[],us=>us=[]
 |v::vs,us=>∃u r,us=u::r∧VR H h v u∧VRs H h vs r
end
def FR (H:AH) (h:Heap):List (Nat × AV)→List DictEntry→Prop
 |[],es=>es=[]
 |f::fs,es=>∃e r t,es=e::r∧e.key=.str (nm f.1) t∧VR H h f.2 e.val∧FR H h fs r
def KR {K:Type} (H:AH) (h:Heap):List (K × AV)→List (K × Value)→Prop
 |[],es=>es=[]
 |f::fs,es=>∃u r,es=(f.1,u)::r∧VR H h f.2 u∧KR H h fs r
def OR (prog:Program) (w:World) (H:AH) (h:Heap) (a:Addr):AO→Prop
 |.list vs=>∃us n,h.get? a=some {cls:=.type "list",data:=.seq us n}∧VRs H h vs us.toList
 |.inst C dx fs=>h.get? a=some (instObj C dx)∧(∃f,H dx=some (f,.own a))∧∃es n,h.get? dx=some {cls:=.type "dict",data:=.dict es n}∧FR H h fs es.toList
 |.dS es=>∃kvs,h.DictOf (strKind prog w) a kvs∧KR H h es kvs
 |.dI es=>∃kvs,h.DictOf (intKind prog w) a kvs∧KR H h es kvs∧(a==sysModules)=false
 |.own b=>∃f C fs,H b=some (f,.inst C a fs)
 |.opq=>∃x y,h.get? a=some {cls:=.type "tuple",data:=.seq #[x,y]}
structure St (prog:Program) (w:World) (B:Heap) (H:AH) (h:Heap):Prop where
 objs:∀a f o,H a=some (f,o)→OR prog w H h a o
 base:∀a o,B.get? a=some o→h.get? a=some o∧∀x,H a≠some (false,x)
 fl:∀a f C dx fs,H a=some (f,.inst C dx fs)→H dx=some (f,.own a)
def Kp (X:Addr→Prop) (H:AH) (h:Heap) (H':AH) (h':Heap):Prop:=
 ∀a o,h.get? a=some o→(H a=none→H' a=none∧∃o',h'.get? a=some o'∧(¬X a→o'=o))∧(∀x,H a=some (true,x)→H' a=some (true,x)∧h'.get? a=some o)∧∃o',h'.get? a=some o'
abbrev nX:Addr→Prop:=fun _=>False
def Le (H H':AH):Prop:=∀a o,H a=some (true,o)→H' a=some (true,o)
theorem Le.refl (H:AH):Le H H:=fun _ _ e=>e
theorem Le.trans {H H' H'':AH} (x:Le H H') (y:Le H' H''):Le H H'':=fun a o e=>y a o (x a o e)
structure Same (s s':Shared):Prop where
 os:s'.os=s.os
 gens:s'.gens=s.gens
theorem Same.refl (s:Shared):Same s s:=⟨rfl,rfl⟩
theorem Same.trans {s s' s'':Shared} (x:Same s s') (y:Same s' s''):Same s s'':=⟨y.os.trans x.os,y.gens.trans x.gens⟩
theorem Kp.refl (X:Addr→Prop) (H:AH) (h:Heap):Kp X H h H h:=fun _ o e=>⟨fun n=>⟨n,o,e,fun _=>rfl⟩,fun _ q=>⟨q,e⟩,o,e⟩
theorem Kp.trans {X:Addr→Prop} {H H' H'':AH} {h h' h'':Heap} (x:Kp X H h H' h') (y:Kp X H' h' H'' h''):Kp X H h H'' h'':=fun a o e=>⟨fun n=>
 let ⟨n',o',e',k⟩:=(x a o e).1 n
 let ⟨n'',o'',e'',k'⟩:=(y a o' e').1 n'
 ⟨n'',o'',e'',fun q=>(k' q).trans (k q)⟩,fun z q=>
 let ⟨q',e'⟩:=(x a o e).2.1 z q
 (y a o e').2.1 z q',let ⟨o',e'⟩:=(x a o e).2.2;(y a o' e').2.2⟩
theorem Kp.mono {X Y:Addr→Prop} {H H':AH} {h h':Heap} (x:Kp X H h H' h') (hxy:∀a,X a→Y a):Kp Y H h H' h':=fun a o e=>⟨fun n=>
 let ⟨n',o',e',k⟩:=(x a o e).1 n
 ⟨n',o',e',fun q=>k fun z=>q (hxy a z)⟩,(x a o e).2⟩
theorem Kp.getX {X:Addr→Prop} {H H':AH} {h h':Heap} (x:Kp X H h H' h') {a:Addr} {o:Obj} (e:h.get? a=some o) (n:H a=none) (q:¬X a):h'.get? a=some o∧H' a=none:=
 let ⟨n',o',e',k⟩:=(x a o e).1 n
 ⟨(k q)▸e',n'⟩
theorem Kp.get {H H':AH} {h h':Heap} (x:Kp nX H h H' h') {a:Addr} {o:Obj} (e:h.get? a=some o) (n:H a=none):h'.get? a=some o∧H' a=none:=x.getX e n id
theorem VR.keep {H H':AH} {h h':Heap} (k:∀a us n,h.get? a=some {cls:=.type "tuple",data:=.seq us n}→H a=none→h'.get? a=some {cls:=.type "tuple",data:=.seq us n}∧H' a=none) :
  ∀(v:AV) (u:Value),VR H h v u→VR H' h' v u:=by
 intro v
 refine AV.rec (motive_1:=fun v=>∀u,VR H h v u→VR H' h' v u) (motive_2:=fun vs=>∀us,VRs H h vs us→VRs H' h' vs us) ?_ ?_ ?_ ?_ ?_ ?_ ?_ ?_ ?_ v
 ·intro u x;simpa only[VR]using x
 ·intro b u x;simpa only[VR]using x
 ·intro b u x;simpa only[VR]using x
 ·intro b u x;simpa only[VR]using x
 ·intro b u x;simpa only[VR]using x
 ·intro b u x;simpa only[VR]using x
 ·intro vs ih u x
  simp only[VR]at x ⊢
  obtain⟨a,us,n,rfl,e,z,r⟩:=x
  exact⟨a,us,n,rfl,(k a us n e z).1,(k a us n e z).2,ih _ r⟩
 ·intro us x;simpa only[VRs]using x
 ·intro v vs ihv ihs us x
  simp only[VRs]at x ⊢
  obtain⟨u,r,rfl,p,q⟩:=x
  exact⟨u,r,rfl,ihv _ p,ihs _ q⟩
def SeqOut (X:Addr→Prop) (h:Heap):Prop:=∀a us n,h.get? a=some {cls:=.type "tuple",data:=.seq us n}→¬X a
theorem VR.kp {X:Addr→Prop} {H H':AH} {h h':Heap} (k:Kp X H h H' h') (hX:SeqOut X h) {v:AV} {u:Value} (x:VR H h v u):VR H' h' v u:=
 VR.keep (fun a us n e z=>k.getX e z (hX a us n e)) v u x
theorem seqOut_nX (h:Heap):SeqOut nX h:=fun _ _ _ _=>id
theorem VR.kp0 {H H':AH} {h h':Heap} (k:Kp nX H h H' h') {v:AV} {u:Value} (x:VR H h v u):VR H' h' v u:=x.kp k (seqOut_nX h)
theorem VRs.keep' {H H':AH} {h h':Heap} (k:∀v u,VR H h v u→VR H' h' v u):∀{vs:List AV} {us:List Value},VRs H h vs us→VRs H' h' vs us
 |[],_,x=>by simpa only[VRs]using x
 |v::vs,us,x=>by
  simp only[VRs]at x ⊢
  obtain⟨u,r,rfl,p,q⟩:=x
  exact⟨u,r,rfl,k _ _ p,VRs.keep' k q⟩
theorem FR.keep' {H H':AH} {h h':Heap} (k:∀v u,VR H h v u→VR H' h' v u):∀{vs:List (Nat × AV)} {us:List DictEntry},FR H h vs us→FR H' h' vs us
 |[],_,x=>by simpa only[FR]using x
 |v::vs,us,x=>by
  simp only[FR]at x ⊢
  obtain⟨u,r,t,rfl,e,p,q⟩:=x
  exact⟨u,r,t,rfl,e,k _ _ p,FR.keep' k q⟩
theorem KR.keep' {K:Type} {H H':AH} {h h':Heap} (k:∀v u,VR H h v u→VR H' h' v u):∀{vs:List (K × AV)} {us:List (K × Value)},KR H h vs us→KR H' h' vs us
 |[],_,x=>by simpa only[KR]using x
 |v::vs,us,x=>by
  simp only[KR]at x ⊢
  obtain⟨u,r,rfl,p,q⟩:=x
  exact⟨u,r,rfl,k _ _ p,KR.keep' k q⟩
theorem VRs.length {H:AH} {h:Heap}:∀{vs:List AV} {us:List Value},VRs H h vs us→us.length=vs.length
 |[],_,x=>by simp only[VRs]at x;subst x;rfl
 |v::vs,us,x=>by
  simp only[VRs]at x
  obtain⟨u,r,rfl,p,q⟩:=x
  simp[VRs.length q]
theorem VRs.get {H:AH} {h:Heap}:∀{vs:List AV} {us:List Value} {i:Nat} {v:AV},VRs H h vs us→vs[i]?=some v→∃u,us[i]?=some u∧VR H h v u
 |[],_,i,v,x,e=>by simp at e
 |v::vs,us,i,v',x,e=>by
  simp only[VRs]at x
  obtain⟨u,r,rfl,p,q⟩:=x
  cases i with
  |zero=>simp at e;subst e;exact⟨u,by simp,p⟩
  |succ i=>simp at e;simpa using VRs.get q e
theorem VRs.append {H:AH} {h:Heap}:∀{vs ws:List AV} {us xs:List Value},VRs H h vs us→VRs H h ws xs→VRs H h (vs++ws) (us++xs)
 |[],ws,us,xs,x,y=>by simp only[VRs]at x;subst x;simpa using y
 |v::vs,ws,us,xs,x,y=>by
  simp only[VRs]at x
  obtain⟨u,r,rfl,p,q⟩:=x
  simp only[List.cons_append,VRs]
  exact⟨u,r++xs,rfl,p,VRs.append q y⟩
theorem VRs.drop {H:AH} {h:Heap}:∀{vs:List AV} {us:List Value} (n:Nat),VRs H h vs us→VRs H h (vs.drop n) (us.drop n)
 |[],_,n,x=>by simp only[VRs]at x;subst x;simp[VRs]
 |v::vs,us,0,x=>by simpa using x
 |v::vs,us,n+1,x=>by
  simp only[VRs]at x
  obtain⟨u,r,rfl,p,q⟩:=x
  simpa using VRs.drop n q
theorem VRs.take {H:AH} {h:Heap}:∀{vs:List AV} {us:List Value} (n:Nat),VRs H h vs us→VRs H h (vs.take n) (us.take n)
 |[],_,n,x=>by simp only[VRs]at x;subst x;simp[VRs]
 |v::vs,us,0,x=>by simp[VRs]
 |v::vs,us,n+1,x=>by
  simp only[VRs]at x
  obtain⟨u,r,rfl,p,q⟩:=x
  simp only[List.take_succ_cons,VRs]
  exact⟨u,_,rfl,p,VRs.take n q⟩
theorem VRs.snoc {H:AH} {h:Heap} {vs:List AV} {us:List Value} {v:AV} {u:Value} (x:VRs H h vs us) (y:VR H h v u):VRs H h (vs++[v]) (us++[u]):=
 x.append (by simp only[VRs];exact⟨u,[],rfl,y,rfl⟩)
theorem VRs.reverse {H:AH} {h:Heap}:∀{vs:List AV} {us:List Value},VRs H h vs us→VRs H h vs.reverse us.reverse
 |[],_,x=>by simp only[VRs]at x;subst x;simp[VRs]
 |v::vs,us,x=>by
  simp only[VRs]at x
  obtain⟨u,r,rfl,p,q⟩:=x
  simpa using(VRs.reverse q).snoc p
section
variable {prog:Program} {w:World} {B:Heap} {H H':AH} {h h':Heap}
theorem OR.keep {a:Addr} {o:AO} (kv:∀v u,VR H h v u→VR H' h' v u) (x:OR prog w H h a o)
  (ha:∀ob,h.get? a=some ob→h'.get? a=some ob)
  (hd:∀C dx fs,o=.inst C dx fs→(∀ob,h.get? dx=some ob→h'.get? dx=some ob)∧∃f,H' dx=some (f,.own a))
  (ho:∀b,o=.own b→∃f C fs,H' b=some (f,.inst C a fs)):OR prog w H' h' a o:=by
 cases o with
 |list vs=>
  obtain⟨us,n,e,r⟩:=x
  exact⟨us,n,ha _ e,r.keep' kv⟩
 |inst C dx fs=>
  obtain⟨e,_,es,n,e',r⟩:=x
  obtain⟨k1,k2⟩:=hd C dx fs rfl
  exact⟨ha _ e,k2,es,n,k1 _ e',r.keep' kv⟩
 |dS es=>
  obtain⟨kvs,⟨o,ds,ep,e,r⟩,q⟩:=x
  exact⟨kvs,⟨o,ds,ep,ha _ e,r⟩,q.keep' kv⟩
 |dI es=>
  obtain⟨kvs,⟨o,ds,ep,e,r⟩,q⟩:=x
  exact⟨kvs,⟨o,ds,ep,ha _ e,r⟩,q.1.keep' kv,q.2⟩
 |own b=>exact ho b rfl
 |opq=>obtain⟨u,v,e⟩:=x;exact⟨u,v,ha _ e⟩
theorem OR.get {a:Addr} {o:AO} (x:OR prog w H h a o) (S:St prog w B H h):∃ob,h.get? a=some ob:=by
 cases o with
 |list vs=>obtain⟨us,n,e,r⟩:=x;exact⟨_,e⟩
 |inst C dx fs=>exact⟨_,x.1⟩
 |dS es=>obtain⟨kvs,⟨o,ds,ep,e,r⟩,q⟩:=x;exact⟨_,e⟩
 |dI es=>obtain⟨kvs,⟨o,ds,ep,e,r⟩,q⟩:=x;exact⟨_,e⟩
 |opq=>obtain⟨u,v,e⟩:=x;exact⟨_,e⟩
 |own b=>
  obtain⟨f,C,fs,e⟩:=x
  obtain⟨_,_,es,n,e',r⟩:=S.objs _ _ _ e
  exact⟨_,e'⟩
theorem St.some_get (S:St prog w B H h) {a:Addr} {x:Bool × AO} (e:H a=some x):∃ob,h.get? a=some ob:=(S.objs a x.1 x.2 e).get S
theorem St.lt (S:St prog w B H h) {a:Addr} {x:Bool × AO} (e:H a=some x):a<h.objs.size:=Heap.lt_size (S.some_get e).choose_spec
theorem St.none_of_ge (S:St prog w B H h) {a:Addr} (ha:h.objs.size≤a):H a=none:=by
 cases e:H a with
 |none=>rfl
 |some x=>exact absurd (S.lt e) (Nat.not_lt.mpr ha)
theorem Kp.le (S:St prog w B H h) {X:Addr→Prop} (k:Kp X H h H' h'):Le H H':=fun a o e=>
 let ⟨ob,q⟩:=S.some_get e
 ((k a ob q).2.1 o e).1
theorem St.grow (S:St prog w B H h) (k:∀a o,h.get? a=some o→h'.get? a=some o):St prog w B H h':=
 ⟨fun a f o e=>(S.objs a f o e).keep (VR.keep fun a us n e z=>⟨k _ _ e,z⟩) (k a) (fun C dx fs q=>by
   subst q
   exact⟨k dx,(S.objs _ _ _ e).2.1⟩) fun b q=>by subst q;exact S.objs _ _ _ e,
  fun a o e=>⟨k _ _ (S.base a o e).1,(S.base a o e).2⟩,S.fl⟩
theorem Kp.grow {X:Addr→Prop} (k:∀a o,h.get? a=some o→h'.get? a=some o):Kp X H h H h':=fun a o e=>⟨fun n=>⟨n,o,k a o e,fun _=>rfl⟩,fun _ q=>⟨q,k a o e⟩,o,k a o e⟩
theorem St.vars {X:Addr→Prop} (S:St prog w B H h) (hX:∀a,X a→H a=none∧B.get? a=none) (hs:SeqOut X h)
  (k:∀a o,h.get? a=some o→∃o',h'.get? a=some o'∧(¬X a→o'=o)):St prog w B H h'∧Kp X H h H h':=by
 have own:∀a x,H a=some x→∀ob,h.get? a=some ob→h'.get? a=some ob:=fun a x e ob q=>by
  obtain⟨o',q',z⟩:=k a ob q
  rw[z (fun y=>by rw[(hX a y).1]at e;cases e)]at q';exact q'
 have kk:Kp X H h H h':=fun a o e=>⟨fun n=>⟨n,k a o e⟩,fun x q=>⟨q,own a _ q o e⟩,let ⟨o',q,_⟩:=k a o e;⟨o',q⟩⟩
 refine⟨⟨fun a f o e=>(S.objs a f o e).keep (fun v u=>VR.kp kk hs) (own a _ e) (fun C dx fs q=>by
   subst q
   obtain⟨_,⟨g,e2⟩,_⟩:=S.objs _ _ _ e
   exact⟨own dx _ e2,g,e2⟩) fun b q=>by subst q;exact S.objs _ _ _ e,fun a o e=>?_,S.fl⟩,kk⟩
 obtain⟨q1,q2⟩:=S.base a o e
 obtain⟨o',q',z⟩:=k a o q1
 rw[z (fun y=>by rw[(hX a y).2]at e;cases e)]at q'
 exact⟨q',q2⟩
theorem St.put (S:St prog w B H h) {a:Addr} {o o₁:AO} {ob':Obj} (e:H a=some (false,o)) (hp:∀C dx fs,o≠.inst C dx fs) (hp':∀b,o≠.own b)
  (hne:∀b,b≠a→h'.get? b=h.get? b) (hb:h'.get? a=some ob') (hor:(∀v u,VR H h v u→VR (H.set a o₁) h' v u)→OR prog w (H.set a o₁) h' a o₁)
  (hni:∀C dx fs,o₁≠.inst C dx fs:=by intro _ _ _ h;cases h) :
  St prog w B (H.set a o₁) h'∧Kp nX H h (H.set a o₁) h':=by
 have kp:Kp nX H h (H.set a o₁) h':=fun b ob q=>by
  by_cases hba:b=a
  ·subst hba;rw[e];exact⟨fun n=>(by cases n),fun x z=>(by cases z),_,hb⟩
  ·exact⟨fun n=>⟨(AH.set_ne H o₁ hba).trans n,ob,(hne b hba).trans q,fun _=>rfl⟩,fun x z=>⟨(AH.set_ne H o₁ hba).trans z,(hne b hba).trans q⟩,ob,(hne b hba).trans q⟩
 have kv:∀v u,VR H h v u→VR (H.set a o₁) h' v u:=fun v u=>VR.kp0 kp
 refine⟨⟨fun b f o' q=>?_,fun b ob q=>?_,fun b f C dx fs q=>?_⟩,kp⟩
 ·by_cases hba:b=a
  ·subst hba
   rw[AH.set_same]at q;cases q
   exact hor kv
  ·rw[AH.set_ne H o₁ hba]at q
   refine(S.objs b f o' q).keep kv (fun ob z=>(hne b hba).trans z) (fun C dx fs z=>?_) fun b' z=>?_
   ·subst z
    obtain⟨_,⟨g,e2⟩,_⟩:=S.objs _ _ _ q
    have hda:dx≠a:=fun y=>by rw[y,e]at e2;cases e2;exact hp' _ rfl
    exact⟨fun ob z=>(hne dx hda).trans z,g,(AH.set_ne H o₁ hda).trans e2⟩
   ·subst z
    obtain⟨g,C,fs,e2⟩:=S.objs _ _ _ q
    have hda:b'≠a:=fun y=>by rw[y,e]at e2;cases e2;exact hp _ _ _ rfl
    exact⟨g,C,fs,(AH.set_ne H o₁ hda).trans e2⟩
 ·obtain⟨q1,q2⟩:=S.base b ob q
  by_cases hba:b=a
  ·subst hba;exact absurd e (q2 _)
  ·exact⟨(hne b hba).trans q1,fun x=>by rw[AH.set_ne H o₁ hba];exact q2 x⟩
 ·by_cases hba:b=a
  ·subst hba;rw[AH.set_same]at q;injection q with q;injection q with _ q;exact absurd q (hni _ _ _)
  ·rw[AH.set_ne H o₁ hba]at q
   have e2:=S.fl _ _ _ _ _ q
   have hda:dx≠a:=fun y=>by rw[y,e]at e2;cases e2;exact hp' _ rfl
   exact(AH.set_ne H o₁ hda).trans e2
theorem St.take (S:St prog w B H h) {a:Addr} {o₁:AO} (e:H a=none) (hB:B.get? a=none)
  (hseq:∀us n,h.get? a≠some {cls:=.type "tuple",data:=.seq us n})
  (hor:(∀v u,VR H h v u→VR (H.set a o₁) h v u)→OR prog w (H.set a o₁) h a o₁) (hni:∀C dx fs,o₁≠.inst C dx fs:=by intro _ _ _ h;cases h):St prog w B (H.set a o₁) h:=by
 have kv:∀v u,VR H h v u→VR (H.set a o₁) h v u:=VR.keep fun b us n q z=>⟨q,by rw[AH.set_ne H o₁ (fun y=>by rw[y]at q;exact hseq us n q)];exact z⟩
 refine⟨fun b f o' q=>?_,fun b ob q=>?_,fun b f C dx fs q=>?_⟩
 ·by_cases hba:b=a
  ·subst hba
   rw[AH.set_same]at q;cases q
   exact hor kv
  ·rw[AH.set_ne H o₁ hba]at q
   refine(S.objs b f o' q).keep kv (fun ob z=>z) (fun C dx fs z=>?_) fun b' z=>?_
   ·subst z
    obtain⟨_,⟨g,e2⟩,_⟩:=S.objs _ _ _ q
    have hda:dx≠a:=fun y=>by rw[y,e]at e2;cases e2
    exact⟨fun ob z=>z,g,(AH.set_ne H o₁ hda).trans e2⟩
   ·subst z
    obtain⟨g,C,fs,e2⟩:=S.objs _ _ _ q
    have hda:b'≠a:=fun y=>by rw[y,e]at e2;cases e2
    exact⟨g,C,fs,(AH.set_ne H o₁ hda).trans e2⟩
 ·obtain⟨q1,q2⟩:=S.base b ob q
  have hba:b≠a:=fun z=>by rw[z,hB]at q;cases q
  exact⟨q1,fun x=>by rw[AH.set_ne H o₁ hba];exact q2 x⟩
 ·by_cases hba:b=a
  ·subst hba;rw[AH.set_same]at q;injection q with q;injection q with _ q;exact absurd q (hni _ _ _)
  ·rw[AH.set_ne H o₁ hba]at q
   have e2:=S.fl _ _ _ _ _ q
   have hda:dx≠a:=fun y=>by rw[y,e]at e2;cases e2
   exact(AH.set_ne H o₁ hda).trans e2
end
end
section
inductive Op|add|sub|mul|fdiv|mod|shr|shl|band
inductive Cm|eq|ne|lt|le|gt|ge|is|isNot|isIn|notIn
inductive BM|append|extend|pop|index|get|join
inductive BF|len|min|max|sum|list|bytes|int
inductive CE where
 |k (v:AV)
 |loc (x:Nat)
 |attr (e:CE) (f:Nat)
 |call (f:Addr) (es:List CE)
 |new (C:Addr) (es:List CE)
 |meth (e:CE) (m:Nat) (es:List CE)
 |bm (m:BM) (e:CE) (es:List CE)
 |bf (b:BF) (es:List CE)
 |bin (op:Op) (a b:CE)
 |cmp (op:Cm) (a b:CE)
 |and (a b:CE)
 |or (a b:CE)
 |not (a:CE)
 |neg (a:CE)
 |ite (c a b:CE)
 |list (es:List CE)
 |tup (es:List CE)
 |dS (ks:List Str) (es:List CE)
 |dI (es:List CE)
 |sub (a i:CE)
 |slice (a lo hi:CE)
 |rev (a:CE)
 |comp (elt:CE) (x:Nat) (src cond:CE)
inductive Tg where
 |name (x:Nat)
 |attr (e:CE) (f:Nat)
 |sub (e i:CE)
 |cut (e lo hi:CE)
inductive Sr where
 |one (e:CE)
 |enum (e:CE)
 |zip (a b:CE)
 |range (e:CE)
inductive CS where
 |assign (t:Tg) (e:CE)
 |assignT (ts:List Tg) (e:CE)
 |aug (x:Nat) (op:Op) (e:CE)
 |expr (e:CE)
 |ite (c:CE) (a b:List CS)
 |wh (c:CE) (b:List CS)
 |for1 (x:Nat) (s:Sr) (b:List CS)
 |forT (xs:List Nat) (s:Sr) (b:List CS)
 |ret (e:Option CE)
 |pass
abbrev Rho:=List (Nat × AV)
def put:List (Nat × AV)→Nat→AV→List (Nat × AV)
 |[],x,v=>[(x,v)]
 |(y,u)::r,x,v=>if y=x then(x,v)::r else(y,u)::put r x v
structure Wd where
 prog:Program
 w:World
 B:Heap
def Room (n:Nat) (A:Around):Prop:=A.depth+3 * n<1000∧A.units+20 * n+100<9900∧A.handled=none
theorem Room.mono {n m:Nat} {A:Around} (h:Room n A) (hm:m≤n):Room m A:=⟨by have:=h.1;omega,by have:=h.2.1;omega,h.2.2⟩
section
variable (W:Wd)
abbrev Wd.St (H:AH) (h:Heap):Prop:=Mine.St W.prog W.w W.B H h
structure Aft (H:AH) (s:Shared) (H':AH) (s':Shared):Prop where
 st:W.St H' s'.heap
 kp:Kp nX H s.heap H' s'.heap
 same:Same s s'
theorem Aft.refl {W:Wd} {H:AH} {s:Shared} (S:W.St H s.heap):Aft W H s H s:=⟨S,.refl _ _ _,.refl _⟩
theorem Aft.trans {W:Wd} {H H' H'':AH} {s s' s'':Shared} (x:Aft W H s H' s') (y:Aft W H' s' H'' s''):Aft W H s H'' s'':=⟨y.st,x.kp.trans y.kp,x.same.trans y.same⟩
theorem Aft.tok {W:Wd} {H:AH} {s s':Shared} (S:W.St H s.heap) (t:Nat) (e:s'={s with toks:=t}):Aft W H s H s':=by subst e;exact⟨S,.refl _ _ _,⟨rfl,rfl⟩⟩
theorem Aft.grow {W:Wd} {H:AH} {s s':Shared} (S:W.St H s.heap) (hs:Same s s') (k:∀a o,s.heap.get? a=some o→s'.heap.get? a=some o):Aft W H s H s':=⟨S.grow k,.grow k,hs⟩
def PostR (H:AH) (s:Shared) (Q:AV→AH→Prop) (R:Value→Shared→Prop):Prop:=
 ∀v u s' H',VR H' s'.heap v u→Aft W H s H' s'→Q v H'→R u s'
def CallF (f:Addr) (args:List AV) (n:Nat) (H:AH) (Q:AV→AH→Prop):Prop:=
 ∀(A:Around) (s:Shared) (us:List Value) (R:Result→Shared→Prop),Room n A→W.St H s.heap→VRs H s.heap args us→
  PostR W H s Q (fun u s'=>R (.ok (.ret u)) s')→codeAny (model W.prog W.w) A (.call (.ref f) ⟨us,[]⟩) R s
theorem CallF.mono {W:Wd} {f:Addr} {args:List AV} {n:Nat} {H:AH} {Q Q':AV→AH→Prop} (h:CallF W f args n H Q) (k:∀v H',Q v H'→Q' v H'):CallF W f args n H Q':=
 fun A s us R hr S V P=>h A s us R hr S V fun v u s' H' a b q=>P v u s' H' a b (k v H' q)
theorem CallF.budget {W:Wd} {f:Addr} {args:List AV} {n m:Nat} {H:AH} {Q:AV→AH→Prop} (h:CallF W f args n H Q) (hm:n≤m):CallF W f args m H Q:=
 fun A s us R hr S V P=>h A s us R (hr.mono hm) S V P
theorem CallF.le {W:Wd} {f:Addr} {args:List AV} {n:Nat} {H:AH} {Q:AV→AH→Prop} (h:CallF W f args n H fun v H'=>Le H H'→Q v H'):CallF W f args n H Q:=
 fun A s us R hr S V P=>h A s us R hr S V fun v u s' H' a b q=>P v u s' H' a b (q (b.kp.le S))
def mtab:List ((Addr × Nat) × Addr):=[((239,82),229),((420,83),287),((420,84),294),((420,85),301),((420,86),308),((420,87),315),((420,88),330),((420,89),337),
 ((420,90),345),((420,91),352),((420,92),359),((420,93),380),((420,94),388)]
def itab:List (Addr × Addr):=[(45,42),(239,222),(420,264)]
def ptab:List ((Addr × Nat) × Addr):=[((420,1),271),((420,2),279)]
def ftab:List (Addr × List Nat):=[(45,[0,1,2,3,4,5,6]),(239,[7,8,9,10,11,12,13,14]),(420,[7,15,16,17,18,19,20,21,22,14])]
def isField (C:Addr) (f:Nat):Bool:=((ftab.lookup C).getD []).contains f
def GetA (v:AV) (f:Nat) (n:Nat) (H:AH) (Q:AV→AH→Prop):Prop:=
 ∃a b C dx fs,v=.ref a∧H a=some (b,.inst C dx fs) ∧
  ((isField C f=true∧∃u,fs.lookup f=some u∧Q u H)∨∃g m,ptab.lookup (C,f)=some g∧n=m+1∧CallF W g [v] m H Q)
def SetA (v:AV) (f:Nat) (u:AV) (H:AH) (Q:AH→Prop):Prop:=
 ∃a C dx fs,v=.ref a∧H a=some (false,.inst C dx fs)∧isField C f=true∧fs.length≤100∧Q (H.set a (.inst C dx (put fs f u)))
def NewC (C:Addr) (vs:List AV) (n:Nat) (H:AH) (Q:AV→AH→Prop):Prop:=
 ∃g m,itab.lookup C=some g∧n=m+1∧∀x dx,H x=none→H dx=none→x≠dx→
  CallF W g (.ref x::vs) m ((H.set dx (.own x)).set x (.inst C dx [])) fun r H'=>r=.none∧Q (.ref x) H'
def cap:Nat:=1000000
def BinR (op:Op) (x y:AV) (H:AH) (Q:AV→AH→Prop):Prop:=
 match op,x,y with
 |.add,.int a,.int b=>Q (.int (a+b)) H
 |.sub,.int a,.int b=>Q (.int (a-b)) H
 |.mul,.int a,.int b=>a.natAbs<2 ^ 60∧b.natAbs<2 ^ 60∧Q (.int (a * b)) H
 |.fdiv,.int a,.int b=>b≠0∧a.natAbs<2 ^ 60∧b.natAbs<2 ^ 60∧Q (.int (a.fdiv b)) H
 |.mod,.int a,.int b=>b≠0∧Q (.int (a.fmod b)) H
 |.shr,.int a,.int b=>0≤b∧b<64∧Q (.int (a.fdiv (2 ^ b.toNat))) H
 |.shl,.int a,.int b=>0≤b∧b<64∧a.natAbs<2 ^ 60∧Q (.int (a * 2 ^ b.toNat)) H
 |.band,.int a,.int b=>Q (.int (Builtin.bitAnd a b)) H
 |.add,.ref a,.ref b=>∃f g xs ys,H a=some (f,.list xs)∧H b=some (g,.list ys)∧xs.length+ys.length≤cap∧∀r,H r=none→Q (.ref r) (H.set r (.list (xs++ys)))
 |.add,.bytes a,.bytes b=>a.size+b.size≤cap∧Q (.bytes (a++b)) H
 |_,_,_=>False
def feq:AV→AV→Option Bool
 |.none,.none=>some true
 |.none,.int _=>some false
 |.int _,.none=>some false
 |.bool a,.bool b=>some (a==b)
 |.int a,.int b=>some (a==b)
 |_,_=>none
def feqs:List AV→List AV→Option Bool
 |[],[]=>some true
 |x::xs,y::ys=>match feq x y,feqs xs ys with
  |some a,some b=>some (a&&b)
  |_,_=>none
 |_,_=>none
def aeq (H:AH) (x y:AV) (Q:Bool→Prop):Prop:=
 match x,y with
 |.tup xs,.tup ys=>∃b,feqs xs ys=some b∧Q b
 |.bytes a,.bytes b=>Q (a==b)
 |.str a,.str b=>Q (decide (a=b))
 |.ref a,.ref b=>∃(f g:Bool) (xs ys:List Int),H a=some (f,.list (xs.map .int))∧H b=some (g,.list (ys.map .int))∧Q (decide (xs=ys))
 |x,y=>∃b,feq x y=some b∧Q b
def ais:AV→AV→Option Bool
 |.none,.none=>some true
 |.none,.int _=>some false
 |.int _,.none=>some false
 |.none,.bool _=>some false
 |.bool _,.none=>some false
 |.none,.ref _=>some false
 |.ref _,.none=>some false
 |.bool a,.bool b=>some (a==b)
 |.ref a,.ref b=>some (decide (a=b))
 |_,_=>none
def isOK (H:AH) (x y:AV):Prop:=match x,y with
 |.ref a,.ref b=>(∃p,H a=some p∧p.2≠.opq)∧∃p,H b=some p
 |_,_=>True
def CmpR (op:Cm) (x y:AV) (H:AH) (Q:AV→AH→Prop):Prop:=
 match op with
 |.eq=>aeq H x y fun b=>Q (.bool b) H
 |.ne=>aeq H x y fun b=>Q (.bool (!b)) H
 |.lt=>∃a b,x=.int a∧y=.int b∧Q (.bool (decide (a<b))) H
 |.le=>∃a b,x=.int a∧y=.int b∧Q (.bool (decide (a≤b))) H
 |.gt=>∃a b,x=.int a∧y=.int b∧Q (.bool (decide (b<a))) H
 |.ge=>∃a b,x=.int a∧y=.int b∧Q (.bool (decide (b≤a))) H
 |.is=>∃b,ais x y=some b∧isOK H x y∧Q (.bool b) H
 |.isNot=>∃b,ais x y=some b∧isOK H x y∧Q (.bool (!b)) H
 |.isIn=>∃(a:Int) (l:Addr) (f:Bool) (xs:List Int),x=.int a∧y=.ref l∧H l=some (f,.list (xs.map .int))∧Q (.bool (decide (a∈xs))) H
 |.notIn=>∃(a:Int) (l:Addr) (f:Bool) (xs:List Int),x=.int a∧y=.ref l∧H l=some (f,.list (xs.map .int))∧Q (.bool (!decide (a∈xs))) H
def bInts (b:Array UInt8):List Int:=b.toList.map fun c=>(c.toNat:Int)
def GetI (v i:AV) (H:AH) (Q:AV→AH→Prop):Prop:=
 match v,i with
 |.ref a,.int k=>(∃f xs j u,H a=some (f,.list xs)∧-(2 ^ 62)<k∧k<2 ^ 62∧seqIndex? k xs.length=some j∧xs[j]?=some u∧Q u H) ∨
   ∃f es u,H a=some (f,.dI es)∧es.lookup k=some u∧Q u H
 |.ref a,.str k=>∃f es u,H a=some (f,.dS es)∧es.lookup k=some u∧Q u H
 |.tup xs,.int k=>∃j u,-(2 ^ 62)<k∧k<2 ^ 62∧seqIndex? k xs.length=some j∧xs[j]?=some u∧Q u H
 |.bytes b,.int k=>0≤k∧b.size≤cap∧∃c,b[k.toNat]?=some c∧Q (.int (c.toNat:Int)) H
 |_,_=>False
def putS {K:Type} [DecidableEq K]:List (K × AV)→K→AV→List (K × AV)
 |[],x,v=>[(x,v)]
 |(y,u)::r,x,v=>if y=x then(x,v)::r else(y,u)::putS r x v
def SetI (v i u:AV) (H:AH) (Q:AH→Prop):Prop:=
 match v,i with
 |.ref a,.int k=>(∃xs,H a=some (false,.list xs)∧0≤k∧k<xs.length∧xs.length≤cap∧Q (H.set a (.list (xs.set k.toNat u)))) ∨
   ∃es,H a=some (false,.dI es)∧es.length≤cap∧Q (H.set a (.dI (putS es k u)))
 |.ref a,.str k=>∃es,H a=some (false,.dS es)∧es.length≤cap∧Q (H.set a (.dS (putS es k u)))
 |_,_=>False
def SetCut (v lo hi u:AV) (H:AH) (Q:AH→Prop):Prop:=
 ∃a b f xs ys i j,v=.ref a∧u=.ref b∧a≠b∧lo=.int (Int.ofNat i)∧hi=.int (Int.ofNat j)∧H a=some (false,.list xs)∧H b=some (f,.list ys)∧i≤j∧j≤xs.length ∧
  xs.length+ys.length≤cap∧Q (H.set a (.list (xs.take i++ys++xs.drop j)))
def cut (xs:List AV) (lo hi:Option Int):List AV:=
 let a:=lo.elim 0 (clipAt xs.length)
 let b:=hi.elim xs.length (clipAt xs.length)
 (xs.drop a).take (b-a)
def endI:AV→Option (Option Int)
 |.none=>some none
 |.int i=>if -(2 ^ 62)<i∧i<2 ^ 62 then some (some i)else none
 |_=>none
def BMRec (m:BM) (v:AV) (H:AH):Prop:=
 match m with
 |.append|.extend|.pop|.index=>∃a f xs,v=.ref a∧H a=some (f,.list xs)
 |.get=>∃a f es,v=.ref a∧H a=some (f,.dI es)
 |.join=>∃b,v=.bytes b
def joinB (sep:Array UInt8):List (Array UInt8)→Array UInt8
 |[]=>#[]
 |[x]=>x
 |x::y::r=>x++sep++joinB sep (y::r)
def BMeth (m:BM) (v:AV) (args:List AV) (H:AH) (Q:AV→AH→Prop):Prop:=
 match m,v,args with
 |.append,.ref a,[y]=>∃xs,H a=some (false,.list xs)∧xs.length≤cap∧Q .none (H.set a (.list (xs++[y])))
 |.extend,.ref a,[.ref b]=>a≠b∧∃f xs ys,H a=some (false,.list xs)∧H b=some (f,.list ys)∧xs.length+ys.length≤cap∧Q .none (H.set a (.list (xs++ys)))
 |.pop,.ref a,[.int k]=>∃xs u,H a=some (false,.list xs)∧0≤k∧k<2 ^ 62∧xs.length≤cap∧xs[k.toNat]?=some u∧Q u (H.set a (.list (xs.eraseIdx k.toNat)))
 |.index,.ref a,[.int k]=>∃(f:Bool) (xs:List Int),H a=some (f,.list (xs.map .int))∧k∈xs∧xs.length≤cap∧Q (.int (xs.idxOf k:Nat)) H
 |.get,.ref a,[.int k,d]=>∃es,H a=some (false,.dI es)∧Q ((es.lookup k).getD d) H
 |.join,.bytes sep,[.ref b]=>∃(f:Bool) (xs:List (Array UInt8)),H b=some (f,.list (xs.map .bytes))∧(joinB sep xs).size≤cap∧sep.size≤cap∧xs.length≤cap∧Q (.bytes (joinB sep xs)) H
 |_,_,_=>False
def BFun (b:BF) (args:List AV) (H:AH) (Q:AV→AH→Prop):Prop:=
 match b,args with
 |.len,[.ref a]=>(∃f xs,H a=some (f,.list xs)∧xs.length≤cap∧Q (.int xs.length) H)∨∃es,H a=some (false,.dI es)∧es.length≤cap∧Q (.int es.length) H
 |.min,[.int a,.int b]=>Q (.int (if b<a then b else a)) H
 |.max,[.int a,.int b]=>Q (.int (if a<b then b else a)) H
 |.min,[.ref a]=>∃(f:Bool) (xs:List Int),H a=some (f,.list (xs.map .int))∧xs≠[]∧∀M,M∈xs→(∀a∈xs,M≤a)→Q (.int M) H
 |.sum,[.ref a]=>∃(f:Bool) (xs:List Int),H a=some (f,.list (xs.map .int))∧Q (.int xs.sum) H
 |.list,[.ref a]=>∃f xs,H a=some (f,.list xs)∧xs.length≤cap∧∀r,H r=none→Q (.ref r) (H.set r (.list xs))
 |.list,[.tup xs]=>xs.length≤cap∧∀r,H r=none→Q (.ref r) (H.set r (.list xs))
 |.bytes,[.ref a]=>∃(f:Bool) (xs:List Int),H a=some (f,.list (xs.map .int))∧(∀x∈xs,0≤x∧x<256)∧xs.length≤cap∧Q (.bytes (xs.map fun x=>x.toNat.toUInt8).toArray) H
 |.int,[.int a]=>Q (.int a) H
 |_,_=>False
inductive AI where
 |seq (v:AV)
 |enum (v:AV)
 |zip (v w:AV) (r:Addr)
 |range (n:Int)
def curI (H:AH):AV→Option (List AV)
 |.ref a=>match H a with
  |some (_,.list xs)=>some xs
  |_=>none
 |.tup xs=>some xs
 |.bytes b=>some ((bInts b).map .int)
 |_=>none
def nextI (H:AH):AI→Nat→Option (Option AV)
 |.seq v,i=>(curI H v).map (·[i]?)
 |.enum v,i=>(curI H v).map fun xs=>xs[i]?.map fun x=>.tup [.int (Int.ofNat i),x]
 |.zip v w r,i=>match H r with
  |some (false,.opq)=>(curI H v).bind fun xs=>(curI H w).map fun ys=>(match xs[i]?,ys[i]? with
   |some x,some y=>some (.tup [x,y])
   |_,_=>none)
  |_=>none
 |.range n,i=>some (if (i:Int)<n then some (.int (Int.ofNat i))else none)
def AI.ok1:AI→Prop
 |.seq (.ref _)|.seq (.tup _)|.seq (.bytes _)=>True
 |.range n=>0≤n∧n≤1000000
 |_=>False
def AI.okT:AI→Prop
 |.seq (.ref _)|.seq (.tup _)|.enum (.ref _)|.zip (.ref _) (.ref _) _=>True
 |_=>False
def AH.del (H:AH) (a:Addr):AH:=fun b=>if b=a then none else H b
def outI:AI→AH→AH
 |.zip _ _ r,H=>H.del r
 |_,H=>H
def putAll:Rho→List Nat→List AV→Option Rho
 |ρ,[],[]=>some ρ
 |ρ,x::xs,v::vs=>putAll (put ρ x v) xs vs
 |_,_,_=>none
def augI:Op→Int→Int→Int
 |.sub,i,j=>i-j
 |_,i,j=>i+j
mutual
def wpE (n:Nat):CE→Rho→AH→(AV→AH→Prop)→Prop
 |.k v,ρ,H,Q=>Q v H
 |.loc x,ρ,H,Q=>∃v,ρ.lookup x=some v∧Q v H
 |.attr e f,ρ,H,Q=>wpE n e ρ H fun v H=>GetA W v f n H Q
 |.call f es,ρ,H,Q=>wpEs n es ρ H fun vs H=>CallF W f vs n H Q
 |.new C es,ρ,H,Q=>wpEs n es ρ H fun vs H=>NewC W C vs n H Q
 |.meth e m es,ρ,H,Q=>wpE n e ρ H fun v H=>∃a f C dx fs g,v=.ref a∧H a=some (f,.inst C dx fs)∧mtab.lookup (C,m)=some g∧fs.lookup m=none ∧
   wpEs n es ρ H fun vs H=>CallF W g (v::vs) n H Q
 |.bm m e es,ρ,H,Q=>wpE n e ρ H fun v H=>BMRec m v H∧wpEs n es ρ H fun vs H=>BMeth m v vs H Q
 |.bf b es,ρ,H,Q=>wpEs n es ρ H fun vs H=>BFun b vs H Q
 |.bin op a b,ρ,H,Q=>wpE n a ρ H fun x H=>wpE n b ρ H fun y H=>BinR op x y H Q
 |.cmp op a b,ρ,H,Q=>wpE n a ρ H fun x H=>wpE n b ρ H fun y H=>CmpR op x y H Q
 |.and a b,ρ,H,Q=>wpE n a ρ H fun x H=>∃t,x=.bool t∧(t=false→Q (.bool false) H)∧(t=true→wpE n b ρ H Q)
 |.or a b,ρ,H,Q=>wpE n a ρ H fun x H=>∃t,x=.bool t∧(t=true→Q (.bool true) H)∧(t=false→wpE n b ρ H Q)
 |.not a,ρ,H,Q=>wpE n a ρ H fun x H=>∃t,x=.bool t∧Q (.bool (!t)) H
 |.neg a,ρ,H,Q=>wpE n a ρ H fun x H=>∃i,x=.int i∧Q (.int (-i)) H
 |.ite c a b,ρ,H,Q=>wpE n c ρ H fun x H=>∃t,x=.bool t∧(t=true→wpE n a ρ H Q)∧(t=false→wpE n b ρ H Q)
 |.list es,ρ,H,Q=>wpEs n es ρ H fun vs H=>vs.length≤cap∧∀r,H r=none→Q (.ref r) (H.set r (.list vs))
 |.tup es,ρ,H,Q=>wpEs n es ρ H fun vs H=>vs.length≤cap∧Q (.tup vs) H
 |.dS ks es,ρ,H,Q=>wpEs n es ρ H fun vs H=>ks.length=vs.length∧ks.length≤10∧∀r,H r=none→Q (.ref r) (H.set r (.dS ((ks.zip vs).foldl (fun es p=>putS es p.1 p.2) [])))
 |.dI es,ρ,H,Q=>wpEs n es ρ H fun vs H=>∃ps:List (Int × AV),vs=ps.flatMap (fun p=>[AV.int p.1,p.2])∧ps.length≤10∧∀r,H r=none→Q (.ref r) (H.set r (.dI (ps.foldl (fun es p=>putS es p.1 p.2) [])))
 |.sub a i,ρ,H,Q=>wpE n a ρ H fun x H=>wpE n i ρ H fun y H=>GetI x y H Q
 |.slice a lo hi,ρ,H,Q=>wpE n a ρ H fun x H=>wpE n lo ρ H fun l H=>wpE n hi ρ H fun h H=>∃a f xs i j,x=.ref a∧H a=some (f,.list xs)∧xs.length≤cap ∧
   endI l=some i∧endI h=some j∧∀r,H r=none→Q (.ref r) (H.set r (.list (cut xs i j)))
 |.rev a,ρ,H,Q=>wpE n a ρ H fun x H=>∃l f xs,x=.ref l∧H l=some (f,.list xs)∧xs.length≤cap∧∀r,H r=none→Q (.ref r) (H.set r (.list xs.reverse))
 |.comp elt x src cond,ρ,H,Q=>wpE n src ρ H fun v H=>AI.ok1 (.seq v)∧∃(I:Nat→List AV→AH→Prop) (N:Nat),N≤cap∧I 0 [] H∧∀i out H,I i out H→i≤N∧out.length≤i ∧
   ∃o,nextI H (.seq v) i=some o∧match o with
    |none=>∀r,H r=none→Q (.ref r) (H.set r (.list out))
    |some u=>wpE n cond ((x,u)::ρ) H fun y H=>∃t,y=.bool t∧(t=true→wpE n elt ((x,u)::ρ) H fun y H=>I (i+1) (out++[y]) H)∧(t=false→I (i+1) out H)
def wpEs (n:Nat):List CE→Rho→AH→(List AV→AH→Prop)→Prop
 |[],ρ,H,Q=>Q [] H
 |e::es,ρ,H,Q=>wpE n e ρ H fun v H=>wpEs n es ρ H fun vs H=>Q (v::vs) H
end
def wpT (n:Nat):Tg→AV→Rho→AH→(Rho→AH→Prop)→Prop
 |.name x,v,ρ,H,Q=>Q (put ρ x v) H
 |.attr e f,v,ρ,H,Q=>wpE W n e ρ H fun o H=>SetA o f v H (Q ρ)
 |.sub e i,v,ρ,H,Q=>wpE W n e ρ H fun o H=>wpE W n i ρ H fun k H=>SetI o k v H (Q ρ)
 |.cut e lo hi,v,ρ,H,Q=>wpE W n e ρ H fun o H=>wpE W n lo ρ H fun l H=>wpE W n hi ρ H fun h H=>SetCut o l h v H (Q ρ)
def wpTs (n:Nat):List Tg→List AV→Rho→AH→(Rho→AH→Prop)→Prop
 |[],[],ρ,H,Q=>Q ρ H
 |t::ts,v::vs,ρ,H,Q=>wpT W n t v ρ H fun ρ H=>wpTs n ts vs ρ H Q
 |_,_,_,_,_=>False
def wpSr (n:Nat):Sr→Rho→AH→(AI→AH→Prop)→Prop
 |.one e,ρ,H,Q=>wpE W n e ρ H fun v H=>Q (.seq v) H
 |.enum e,ρ,H,Q=>wpE W n e ρ H fun v H=>Q (.enum v) H
 |.zip a b,ρ,H,Q=>wpE W n a ρ H fun v H=>wpE W n b ρ H fun u H=>∀r,H r=none→Q (.zip v u r) (H.set r .opq)
 |.range e,ρ,H,Q=>wpE W n e ρ H fun v H=>∃i,v=.int i∧Q (.range i) H
mutual
def wpS (n:Nat):CS→Rho→AH→(Rho→AH→Prop)→(AV→AH→Prop)→Prop
 |.assign t e,ρ,H,Q,R=>wpE W n e ρ H fun v H=>wpT W n t v ρ H Q
 |.assignT ts e,ρ,H,Q,R=>wpE W n e ρ H fun v H=>∃vs,v=.tup vs∧ts.length=vs.length∧wpTs W n ts vs ρ H Q
 |.aug x op e,ρ,H,Q,R=>∃i,ρ.lookup x=some (.int i)∧wpE W n e ρ H fun v H=>∃j,v=.int j∧Q (put ρ x (.int (augI op i j))) H
 |.expr e,ρ,H,Q,R=>wpE W n e ρ H fun _ H=>Q ρ H
 |.ite c a b,ρ,H,Q,R=>wpE W n c ρ H fun v H=>∃t,v=.bool t∧(t=true→wpB n a ρ H Q R)∧(t=false→wpB n b ρ H Q R)
 |.wh c b,ρ,H,Q,R=>∃(I:Nat→Rho→AH→Prop) (m:Nat),I m ρ H∧∀m ρ H,I m ρ H→wpE W n c ρ H fun v H=>∃t,v=.bool t∧(t=false→Q ρ H) ∧
   (t=true→wpB n b ρ H (fun ρ H=>∃m',m'<m∧I m' ρ H) R)
 |.for1 x s b,ρ,H,Q,R=>wpSr W n s ρ H fun ai H=>ai.ok1∧∃(I:Nat→Rho→AH→Prop) (N:Nat),I 0 ρ H∧∀i ρ H,I i ρ H→i≤N∧∃o,nextI H ai i=some o∧match o with
   |none=>Q ρ (outI ai H)
   |some v=>wpB n b (put ρ x v) H (I (i+1)) R
 |.forT xs s b,ρ,H,Q,R=>wpSr W n s ρ H fun ai H=>ai.okT∧∃(I:Nat→Rho→AH→Prop) (N:Nat),I 0 ρ H∧∀i ρ H,I i ρ H→i≤N∧∃o,nextI H ai i=some o∧match o with
   |none=>Q ρ (outI ai H)
   |some v=>∃vs ρ',v=.tup vs∧putAll ρ xs vs=some ρ'∧wpB n b ρ' H (I (i+1)) R
 |.ret none,ρ,H,Q,R=>R .none H
 |.ret (some e),ρ,H,Q,R=>wpE W n e ρ H R
 |.pass,ρ,H,Q,R=>Q ρ H
def wpB (n:Nat):List CS→Rho→AH→(Rho→AH→Prop)→(AV→AH→Prop)→Prop
 |[],ρ,H,Q,R=>Q ρ H
 |s::ss,ρ,H,Q,R=>wpS n s ρ H (fun ρ H=>wpB n ss ρ H Q R) R
end
end
end
section
abbrev Names:=List (Str × NameKind)
def codeOf (x:Str):Option Nat:=NS.findIdx? (·==x)
theorem nm_codeOf {x:Str} {i:Nat} (h:codeOf x=some i):nm i=x:=by
 obtain⟨hl,he,_⟩:=List.findIdx?_eq_some_iff_getElem.mp h
 unfold nm
 rw[List.getElem?_eq_getElem hl]
 exact eq_of_beq he
def gfun:List (Str × Addr):=([("decimal_octets",28),("layout_leaf",56),("layout_copy",61),("layout_leaves",68),("layout_panes",73),("layout_path",80),("layout_kind",87),("layout_side",94),
 ("layout_set_side",101),("layout_index",108),("layout_room",113),("layout_change",120),("layout_placed",127),("layout_exchanged",134),("split_layout",142),("layout_melted",149),
 ("close_pane",156),("fit_layout",163),("layout_renumbered",170),("swap_panes",175),("rotate_panes",183),("layout_sum",190),("layout_hex",195),("layout_cell_octets",200),("layout_octets",207),
 ("pane_numbered",250),("break_pane",431),("join_pane",439),("exchange_panes",444),("_law_deck",449),("_law_draw",456),("_law_made",463),("_law_chosen",470),("_law_selected",477),
 ("_law_dropped",482),("_law_laid",489),("_law_split",496),("_law_joined",503),("_law_swapped",510),("_law_role",515),("_law_exchanged",522),("_law_broken",529),("_law_turned",536),
 ("_law_plain",543),("_law_deed",550),("_law_stands",555)]:List (String × Addr)).map fun p=>(Str.ofString p.1,p.2)
def gcls:List (Str × Addr):=([("Cell",45),("Pane",239),("Window",420)]:List (String × Addr)).map fun p=>(Str.ofString p.1,p.2)
def gint:List (Str × Int):=([("LEAST_SIDE",1),("LAYOUT_DEEP",50),("_law_stray",90)]:List (String × Int)).map fun p=>(Str.ofString p.1,p.2)
def hexB:Array UInt8:=#[48,49,50,51,52,53,54,55,56,57,97,98,99,100,101,102]
def sHex:Str:=Str.ofString "LAYOUT_HEX"
def bfun:List (Str × BF):=([("len",.len),("min",.min),("max",.max),("sum",.sum),("list",.list),("bytes",.bytes),("int",.int)]:List (String × BF)).map fun p=>(Str.ofString p.1,p.2)
def bmeth:List (Str × BM):=([("append",.append),("extend",.extend),("pop",.pop),("index",.index),("get",.get),("join",.join)]:List (String × BM)).map fun p=>(Str.ofString p.1,p.2)
def isGlobal (sc:Names) (x:Str):Bool:=sc.lookup x==some .globalImplicit&&x != Str.ofString "__debug__"
def opOf:Operator→Option Op
 |.Add=>some .add
 |.Sub=>some .sub
 |.Mult=>some .mul
 |.FloorDiv=>some .fdiv
 |.Mod=>some .mod
 |.RShift=>some .shr
 |.LShift=>some .shl
 |.BitAnd=>some .band
 |_=>none
def cmOf:CmpOp→Option Cm
 |.Eq=>some .eq
 |.NotEq=>some .ne
 |.Lt=>some .lt
 |.LtE=>some .le
 |.Gt=>some .gt
 |.GtE=>some .ge
 |.Is=>some .is
 |.IsNot=>some .isNot
 |.In=>some .isIn
 |.NotIn=>some .notIn
def strKeys:List (Option Expr)→Option (List Str)
 |[]=>some []
 |some (.Constant (.str s) _ _)::r=>(strKeys r).map (s::·)
 |_=>none
def isStar:Expr→Bool
 |.Starred ..=>true
 |_=>false
def notSuper:Expr→Bool
 |.Call (.Name ..) [] [] _=>false
 |_=>true
def isSlice:Expr→Bool
 |.Slice ..=>true
 |_=>false
def compOk (sc:Names) (scope:Scope) (x:Str):Bool:=
 scope.kind==.function&&scope.names.lookup x==some .local&&!scope.isCoroutine &&
 scope.names.all (fun p=>((p.2==.local&&(p.1==x||p.1==Str.ofString ".0"))||p.2==.globalImplicit||(p.2==.free&&sc.lookup p.1==some .cell))&&scope.names.lookup p.1==some p.2)
def compAll (f:Expr→Option CE):List Expr→Option (List CE)
 |[]=>some []
 |e::r=>if isStar e then none else(f e).bind fun c=>(compAll f r).map (c::·)
def compKV (f:Expr→Option CE):List (Option Expr)→List Expr→Option (List CE)
 |[],[]=>some []
 |some k::ks,e::r=>(f k).bind fun c=>(f e).bind fun c'=>(compKV f ks r).map (c::c'::·)
 |_,_=>none
def compO (f:Expr→Option CE):Option Expr→Option CE
 |none=>some (.k .none)
 |some e=>f e
def compE:Nat→Names→Expr→Option CE
 |0,_,_=>none
 |d+1,sc,e=>match e with
  |.Constant c _ _=>(match c with
   |.none=>some (.k .none)
   |.bool b=>some (.k (.bool b))
   |.int i=>some (.k (.int i))
   |.str s=>some (.k (.str s))
   |.bytes b=>some (.k (.bytes b.toArray))
   |_=>none)
  |.Name x _=>if x==Str.ofString "__debug__" then none else match sc.lookup x with
   |some .local=>(codeOf x).map .loc
   |some .cell=>(codeOf x).map .loc
   |some .free=>if x==Str.ofString "__classdict__" then none else(codeOf x).map .loc
   |some .globalImplicit=>(match gint.lookup x with
    |some i=>some (.k (.int i))
    |none=>if x==sHex then some (.k (.bytes hexB))else none)
   |_=>none
  |.Attribute v a _=>if !notSuper v then none else(compE d sc v).bind fun c=>(codeOf a).map fun i=>.attr c i
  |.BoolOp op [a,b] _=>(compE d sc a).bind fun x=>(compE d sc b).map fun y=>(match op with|.And=>.and x y|.Or=>.or x y)
  |.BoolOp op [a,b,c] _=>(compE d sc a).bind fun x=>(compE d sc b).bind fun y=>(compE d sc c).map fun z=>(match op with|.And=>.and x (.and y z)|.Or=>.or x (.or y z))
  |.BinOp l op r _=>(opOf op).bind fun o=>(compE d sc l).bind fun x=>(compE d sc r).map fun y=>.bin o x y
  |.UnaryOp .Not x _=>(compE d sc x).map .not
  |.UnaryOp .USub x _=>(compE d sc x).map .neg
  |.IfExp t b o _=>(compE d sc t).bind fun x=>(compE d sc b).bind fun y=>(compE d sc o).map fun z=>.ite x y z
  |.Compare l [op] [r] _=>if behindInMarks op r then none else(cmOf op).bind fun o=>(compE d sc l).bind fun x=>(compE d sc r).map fun y=>.cmp o x y
  |.List es _=>(compAll (compE d sc) es).map .list
  |.Tuple es _ _=>(compAll (compE d sc) es).map .tup
  |.Dict ks es _=>(match strKeys ks with
   |some ss=>if ss.isEmpty then none else if ss.length==es.length&&decide (ss.length≤10)then(compAll (compE d sc) es).map (.dS ss)else none
   |none=>if ks.length==es.length&&decide (ks.length≤10)then(compKV (compE d sc) ks es).map .dI else none)
  |.Subscript v (.Slice lo hi none _) _=>(compE d sc v).bind fun c=>(compO (compE d sc) lo).bind fun l=>(compO (compE d sc) hi).map fun h=>.slice c l h
  |.Subscript v (.Slice none none (some (.UnaryOp .USub (.Constant (.int 1) _ _) _)) _) _=>(compE d sc v).map .rev
  |.Subscript v i _=>if isSlice i then none else(compE d sc v).bind fun c=>(compE d sc i).map fun j=>.sub c j
  |.ListComp elt [⟨.Name x _,iter,ifs,0⟩] scope _=>if compOk sc scope x then
    (compE d sc iter).bind fun s=>(compE d scope.names elt).bind fun c=>(codeOf x).bind fun i=>(match ifs with
     |[]=>some (.comp c i s (.k (.bool true)))
     |[t]=>(compE d scope.names t).map fun t=>.comp c i s t
     |_=>none)else none
  |.Call (.Name f _) as [] _=>if isGlobal sc f then(compAll (compE d sc) as).bind fun cs=>(match gfun.lookup f,gcls.lookup f,bfun.lookup f with
    |some a,_,_=>some (.call a cs)
    |none,some C,_=>some (.new C cs)
    |none,none,some b=>some (.bf b cs)
    |_,_,_=>none)else none
  |.Call (.Attribute o m ap) as [] p=>if as.length≤10&&ap.endLine==p.line&&notSuper o then(compE d sc o).bind fun c=>(compAll (compE d sc) as).bind fun cs=>(match bmeth.lookup m with
    |some b=>some (.bm b c cs)
    |none=>(codeOf m).map fun i=>.meth c i cs)else none
  |_=>none
def compT:Names→Expr→Option Tg
 |sc,.Name x _=>if sc.lookup x==some .local||sc.lookup x==some .cell then(codeOf x).map .name else none
 |sc,.Attribute o a _=>(compE 30 sc o).bind fun c=>(codeOf a).map fun i=>.attr c i
 |sc,.Subscript o (.Slice (some lo) (some hi) none _) _=>(compE 30 sc o).bind fun c=>(compE 30 sc lo).bind fun l=>(compE 30 sc hi).map fun h=>.cut c l h
 |sc,.Subscript o i _=>if isSlice i then none else(compE 30 sc o).bind fun c=>(compE 30 sc i).map fun j=>.sub c j
 |_,_=>none
def compTs (sc:Names):List Expr→Option (List Tg)
 |[]=>some []
 |e::r=>(compT sc e).bind fun t=>(compTs sc r).map (t::·)
def nameCodes (sc:Names):List Expr→Option (List Nat)
 |[]=>some []
 |.Name x _::r=>if sc.lookup x==some .local||sc.lookup x==some .cell then(codeOf x).bind fun i=>(nameCodes sc r).map (i::·)else none
 |_=>none
def sEnum:Str:=Str.ofString "enumerate"
def sZip:Str:=Str.ofString "zip"
def sRange:Str:=Str.ofString "range"
def compSr (sc:Names):Expr→Option Sr
 |.Call (.Name f _) [a] [] _=>if f==sEnum&&isGlobal sc f then(if isStar a then none else(compE 30 sc a).map .enum)else
   if f==sRange&&isGlobal sc f then(if isStar a then none else(compE 30 sc a).map .range)else(compE 30 sc (.Call (.Name f default) [a] [] default)).map .one
 |.Call (.Name f _) [a,b] [] _=>if f==sZip&&isGlobal sc f then(if isStar a||isStar b then none else(compE 30 sc a).bind fun x=>(compE 30 sc b).map fun y=>.zip x y)else none
 |.Name x p=>(compE 30 sc (.Name x p)).map .one
 |.Attribute v a p=>(compE 30 sc (.Attribute v a p)).map .one
 |.Subscript v a p=>(compE 30 sc (.Subscript v a p)).map .one
 |.Tuple es k p=>(compE 30 sc (.Tuple es k p)).map .one
 |_=>none
def isComp:Expr→Bool
 |.ListComp ..|.SetComp ..|.DictComp ..=>true
 |_=>false
def constTuple:Expr→Bool
 |.Tuple es _ _=>es.all (constantsAlone 8)
 |_=>false
def compSs (f:Stmt→Option CS):List Stmt→Option (List CS)
 |[]=>some []
 |s::r=>(f s).bind fun c=>(compSs f r).map (c::·)
def compS:Nat→Names→Stmt→Option CS
 |0,_,_=>none
 |d+1,sc,s=>match s with
  |.Assign [.Tuple ts _ _] v _=>if isComp v||constTuple v then none else if (ts.all fun t=>match t with|.Name ..=>true|_=>false)then
    (nameCodes sc ts).bind fun xs=>if decide xs.Nodup then(compE 30 sc v).map (.assignT (xs.map .name))else none
   else if (ts.any fun t=>match t with|.Name ..=>true|.Starred ..=>true|_=>false)then none else
    (compTs sc ts).bind fun xs=>(compE 30 sc v).map (.assignT xs)
  |.Assign [t] v _=>(compT sc t).bind fun t'=>(compE 30 sc v).map (.assign t')
  |.AugAssign (.Name x _) op v _=>if sc.lookup x==some .local||sc.lookup x==some .cell then(codeOf x).bind fun i=>(compE 30 sc v).bind fun c=>(match op with
    |.Add=>some (.aug i .add c)
    |.Sub=>some (.aug i .sub c)
    |_=>none)else none
  |.Expr (.Call f as ks p) _=>(compE 30 sc (.Call f as ks p)).map .expr
  |.If t b o _=>(compE 30 sc t).bind fun c=>(compSs (compS d sc) b).bind fun x=>(compSs (compS d sc) o).map fun y=>.ite c x y
  |.While t b [] _=>(compE 30 sc t).bind fun c=>(compSs (compS d sc) b).map fun x=>.wh c x
  |.For (.Name x _) it b [] _=>if sc.lookup x==some .local||sc.lookup x==some .cell then(codeOf x).bind fun i=>(compSr sc it).bind fun s=>(compSs (compS d sc) b).map fun y=>.for1 i s y else none
  |.For (.Tuple ts _ _) it b [] _=>(nameCodes sc ts).bind fun xs=>(compSr sc it).bind fun s=>(compSs (compS d sc) b).map fun y=>.forT xs s y
  |.Return none _=>some (.ret none)
  |.Return (some e) _=>(compE 30 sc e).map fun c=>.ret (some c)
  |.Pass _=>some .pass
  |_=>none
end
section
def fnAt (K:Frag) (a:Addr):Option FuncData:=match K.lookup a with
 |some ⟨_,_,.func fd,_⟩=>some fd
 |_=>none
def argCodes:List Arg→Option (List Nat)
 |[]=>some []
 |a::r=>(codeOf a.arg).bind fun i=>(argCodes r).map (i::·)
def bodyOf (fd:FuncData):Option (List CS):=match fd.body with
 |.stmts b=>compSs (compS 30 fd.scope.names) b
 |_=>none
end
section
def bfVal:BF→Value
 |.len=>.builtin "len"
 |.min=>.builtin "min"
 |.max=>.builtin "max"
 |.sum=>.builtin "sum"
 |.list=>.type "list"
 |.bytes=>.type "bytes"
 |.int=>.type "int"
structure Gd (W:Wd) (K:Frag):Prop where
 kin:K.In W.B
 sysm:∃a o,sysModules<a∧W.B.get? a=some o
 top:∃p loose mg mb,TopRead p loose mg mb W.B
 gfunOK:∀x a,gfun.lookup x=some a→nsIn K mainGlobals x=some (some (.ref a))∧keepIn K (.ref a)=true
 gclsOK:∀x a,gcls.lookup x=some a→nsIn K mainGlobals x=some (some (.ref a))∧keepIn K (.ref a)=true
 gintOK:∀x i,gint.lookup x=some i→∃t,nsIn K mainGlobals x=some (some (.int i t))
 hexOK:∃t,nsIn K mainGlobals sHex=some (some (.bytes hexB t))
 bfunOK:∀x b,bfun.lookup x=some b→nsIn K mainGlobals x=some none∧bootBuiltins x=some (bfVal b)∧x≠Str.ofString "__name__"
 enumOK:nsIn K mainGlobals sEnum=some none∧bootBuiltins sEnum=some (.type "enumerate")∧sEnum≠Str.ofString "__name__"
 zipOK:nsIn K mainGlobals sZip=some none∧bootBuiltins sZip=some (.type "zip")∧sZip≠Str.ofString "__name__"
 rangeOK:nsIn K mainGlobals sRange=some none∧bootBuiltins sRange=some (.type "range")∧sRange≠Str.ofString "__name__"
 ga:∀C f,isField C f=true→findIn K (.ref C) "__getattribute__"=some (some (.builtin "object.__getattribute__"))
 fld:∀C f,isField C f=true→findIn K (.ref C) (nm f)=some none
 sa:∀C f,isField C f=true→findIn K (.ref C) "__setattr__"=some (some (.builtin "object.__setattr__"))∧plainOver K C=true∧(clsIn K C).any (·.hasDict)=true
 cpn:∀C f,isField C f=true→copiedNames.contains (nm f)=false
 met:∀C m g,mtab.lookup (C,m)=some g→findIn K (.ref C) (nm m)=some (some (.ref g))∧isFn K (.ref g)=true∧keepIn K (.ref g)=true∧plainGet K C (nm m)=true
 ini:∀C g,itab.lookup C=some g→makesIn K C=true∧findIn K (.ref C) "__init__"=some (some (.ref g))∧isFn K (.ref g)=true
 prp:∀C f g,ptab.lookup (C,f)=some g→∃p rest,findIn K (.ref C) (nm f)=some (some (.ref p))∧recIn K p "property"=some (.ref g::rest)∧specialIn K (.ref p) "__get__"=some (some (.builtin "property.__get__")) ∧
  takesIn K (.ref p)=some true∧plainGet K C (nm f)=true∧(clsIn K C).isSome=true
section
variable {W:Wd} {K:Frag} {H:AH} {h:Heap}
theorem Gd.at (G:Gd W K) (S:W.St H h):K.In h:=fun a o e=>(S.base a o (G.kin a o e)).1
theorem Gd.keepB (S:W.St H h):∀b o,W.B.get? b=some o→h.get? b=some o:=fun a o e=>(S.base a o e).1
theorem Gd.topAt (G:Gd W K) (S:W.St H h):∃p loose mg mb,TopRead p loose mg mb h:=
 let ⟨p,l,mg,mb,T⟩:=G.top
 ⟨p,l,mg,mb,T.keeps (Gd.keepB S)⟩
end
structure EnvR (W:Wd) (env:Env) (H:AH) (h:Heap) (ρ:Rho):Prop where
 kind:env.scope.kind=.function
 glob:env.globals=mainGlobals
 blt:env.builtins=builtinsNs
 loc:H env.locals=none∧W.B.get? env.locals=none
 has:∀x,env.kindOf x=some .cell→∃c,env.cells.lookup x=some c
 cells:∀x c,env.cells.lookup x=some c→H c=none∧W.B.get? c=none∧c≠env.locals∧∃v,h.IsCell c v
 inj:∀x y c,env.cells.lookup x=some c→env.cells.lookup y=some c→x=y
 vals:∃m,h.Ns env.locals m∧∀x v,ρ.lookup x=some v→
  (env.kindOf (nm x)=some .local→∃u,m (nm x)=some u∧VR H h v u) ∧
  ((env.kindOf (nm x)=some .cell∨env.kindOf (nm x)=some .free)→∃c u,env.cells.lookup (nm x)=some c∧h.IsCell c (some u)∧VR H h v u)
theorem EnvR.keep {W:Wd} {env:Env} {H H':AH} {h h':Heap} {ρ:Rho} (e:EnvR W env H h ρ) (k:Kp nX H h H' h'):EnvR W env H' h' ρ:=by
 obtain⟨m,hn,hv⟩:=e.vals
 obtain⟨o,es,ep,ho,r⟩:=id hn
 have hl:=k.get ho e.loc.1
 have hc:∀x c v,env.cells.lookup x=some c→h.IsCell c v→h'.IsCell c v∧H' c=none:=fun x c v q z=>by
  obtain⟨o,ho,hd⟩:=z
  have:=k.get ho (e.cells x c q).1
  exact⟨⟨o,this.1,hd⟩,this.2⟩
 refine⟨e.kind,e.glob,e.blt,⟨hl.2,e.loc.2⟩,e.has,fun x c q=>?_,e.inj,m,⟨o,es,ep,hl.1,r⟩,fun x v q=>⟨fun z=>?_,fun z=>?_⟩⟩
 ·obtain⟨z1,z2,z3,v,z4⟩:=e.cells x c q
  exact⟨(hc x c v q z4).2,z2,z3,v,(hc x c v q z4).1⟩
 ·obtain⟨u,a,b⟩:=(hv x v q).1 z
  exact⟨u,a,b.kp0 k⟩
 ·obtain⟨c,u,a,b,d⟩:=(hv x v q).2 z
  exact⟨c,u,a,(hc _ _ _ a b).1,d.kp0 k⟩
def Agree (env:Env) (sc:Names):Prop:=∀x k,sc.lookup x=some k→match k with
 |.local=>env.kindOf x=some .local
 |.cell=>env.kindOf x=some .cell
 |.free=>env.kindOf x=some .cell∨env.kindOf x=some .free
 |.globalImplicit=>env.kindOf x=some .globalImplicit
 |_=>True
def OkE (W:Wd) (n:Nat) (e:Expr) (env:Env) (ρ:Rho) (H:AH) (Q:AV→AH→Prop):Prop:=
 ∀(A:Around) (s:Shared) (R E:Value→Shared→Prop),Room n A→W.St H s.heap→EnvR W env H s.heap ρ→PostR W H s Q R→wpAny (model W.prog W.w) A (eval e env) R E s
def OkEs (W:Wd) (n:Nat) (es:List Expr) (env:Env) (ρ:Rho) (H:AH) (Q:List AV→AH→Prop):Prop:=
 ∀(pos:Pos) (A:Around) (s:Shared) (R:List Value→Shared→Prop) (E:Value→Shared→Prop),Room n A→W.St H s.heap→EnvR W env H s.heap ρ→
  (∀vs us s' H',VRs H' s'.heap vs us→Aft W H s H' s'→Q vs H'→R us s')→wpAny (model W.prog W.w) A (spliced (backTo pos (starEach es env))) R E s
section
variable {W:Wd} {K:Frag} {n:Nat} {env:Env} {ρ:Rho} {H:AH} {Q:AV→AH→Prop}
theorem OkE.then {e:Expr} {Q:AV→AH→Prop} {A:Around} {s s₀:Shared} {H₀:AH} {R E:Value→Shared→Prop} (h:OkE W n e env ρ H Q) (hr:Room n A) (a:Aft W H₀ s₀ H s) (er:EnvR W env H₀ s₀.heap ρ)
  (k:∀v u s' H',VR H' s'.heap v u→Aft W H s H' s'→EnvR W env H' s'.heap ρ→Q v H'→R u s'):wpAny (model W.prog W.w) A (eval e env) R E s:=
 h A s R E hr a.st (er.keep a.kp) fun v u s' H' x b q=>k v u s' H' x b ((er.keep a.kp).keep b.kp) q
theorem ok_k {c:Const} {kk:Nat} {pos:Pos} {v:AV} (hv:match c with|.none=>v=.none|.bool b=>v=.bool b|.int i=>v=.int i|.str x=>v=.str x|.bytes b=>v=.bytes b.toArray|_=>False)
  (q:Q v H):OkE W n (.Constant c kk pos) env ρ H Q:=fun A s R E hr S er P=>by
 cases c with
 |none=>subst hv;exact wpAny_Constant_none (P .none _ _ _ (by simp only[VR]) (.refl S) q)
 |bool b=>subst hv;exact wpAny_Constant_bool (P (.bool b) _ _ _ (by simp only[VR]) (.refl S) q)
 |int i=>subst hv;exact wpAny_Constant_int (P (.int i) _ _ _ (by simp only[VR];exact⟨_,rfl⟩) (.tok S _ rfl) q)
 |str x=>subst hv;exact wpAny_Constant_str (P (.str x) _ _ _ (by simp only[VR];exact⟨_,rfl⟩) (.tok S _ rfl) q)
 |bytes b=>
  subst hv
  intro Γ p hΓ
  exact P (.bytes b.toArray) (.bytes b.toArray s.toks) {s with toks:=s.toks+1} H (by simp only[VR];exact⟨_,rfl⟩) (.tok S _ rfl) q
 |_=>exact hv.elim
theorem ok_loc {x:Nat} {y:Str} {pos:Pos} {sc:Names} {v:AV} (ag:Agree env sc) (hy:nm x=y) (hk:sc.lookup y=some .local∨sc.lookup y=some .cell∨(sc.lookup y=some .free∧(y==("__classdict__":Str))=false))
  (hd:(y==("__debug__":Str))=false) (hv:ρ.lookup x=some v) (q:Q v H):OkE W n (.Name y pos) env ρ H Q:=fun A s R E hr S er P=>by
 obtain⟨m,hn,vals⟩:=er.vals
 have r:=vals x v hv
 rw[hy]at r
 have cell:(env.kindOf y=some .cell∨(env.kindOf y=some .free∧(y==("__classdict__":Str))=false))→wpAny (model W.prog W.w) A (eval (.Name y pos) env) R E s:=fun z=>by
  obtain⟨c,u,a,b,d⟩:=r.2 (z.imp id (·.1))
  rcases z with z|z
  ·exact wpAny_Name (wpAny_loadName_cell er.kind z a b (P v u s H d (.refl S) q)) hd
  ·exact wpAny_Name (wpAny_loadName_free er.kind z.1 a b (P v u s H d (.refl S) q) z.2) hd
 rcases hk with z|z|z
 ·obtain⟨u,a,d⟩:=r.1 (ag y _ z)
  exact wpAny_Name (wpAny_loadName_local er.kind (ag y _ z) hn a (P v u s H d (.refl S) q)) hd
 ·exact cell (.inl (ag y _ z))
 ·rcases ag y _ z.1 with z'|z'
  ·exact cell (.inl z')
  ·exact cell (.inr ⟨z',z.2⟩)
theorem global_at (G:Gd W K) {y:Str} {pos:Pos} {sc:Names} {u:Value} {A:Around} {s:Shared} {R E:Value→Shared→Prop} (ag:Agree env sc) (hg:isGlobal sc y=true) (S:W.St H s.heap) (er:EnvR W env H s.heap ρ)
  (hn:nsIn K mainGlobals y=some (some u)) (h:R u s):wpAny (model W.prog W.w) A (eval (.Name y pos) env) R E s:=by
 obtain⟨p,l,mg,mb,T⟩:=G.topAt S
 simp only[isGlobal,Bool.and_eq_true,beq_iff_eq,bne_iff_ne]at hg
 exact Name_function_global er.kind (ag y _ hg.1) (loadGlobal_global (env:=env) (by rw[er.glob];exact T.g) (mg_of (G.at S) T.g hn) h) (beq_eq_false_iff_ne.mpr hg.2)
theorem builtin_at (G:Gd W K) {y:Str} {pos:Pos} {sc:Names} {u:Value} {A:Around} {s:Shared} {R E:Value→Shared→Prop} (ag:Agree env sc) (hg:isGlobal sc y=true) (S:W.St H s.heap) (er:EnvR W env H s.heap ρ)
  (hn:nsIn K mainGlobals y=some none∧bootBuiltins y=some u∧y≠Str.ofString "__name__") (h:R u s):wpAny (model W.prog W.w) A (eval (.Name y pos) env) R E s:=by
 obtain⟨p,l,mg,mb,T⟩:=G.topAt S
 simp only[isGlobal,Bool.and_eq_true,beq_iff_eq,bne_iff_ne]at hg
 exact Name_function_global er.kind (ag y _ hg.1) (loadGlobal_builtin (env:=env) (by rw[er.glob];exact T.g) (mg_none_of (G.at S) T.g hn.1) (by rw[er.blt];exact T.b) ((T.builtins y hn.2.2).trans hn.2.1) h) (beq_eq_false_iff_ne.mpr hg.2)
theorem OkEs.nil {Q:List AV→AH→Prop} (q:Q [] H):OkEs W n [] env ρ H Q:=fun pos A s R E hr S er P=>wpAny_items_nil (P [] [] s H (by simp only[VRs]) (.refl S) q)
theorem starEach_cons {e:Expr} (he:isStar e=false) (rest:List Expr) (env:Env):starEach (e::rest) env=(false,eval e env)::starEach rest env:=by
 cases e<;>first|rfl|cases he
theorem OkEs.cons {e:Expr} {es:List Expr} {Q:List AV→AH→Prop} (he:isStar e=false) (h:OkE W n e env ρ H fun v H'=>OkEs W n es env ρ H' fun vs H''=>Q (v::vs) H''):OkEs W n (e::es) env ρ H Q:=
 fun pos A s R E hr S er P=>wpAny_items_cons (h A s _ E hr S er fun v u s' H' x a q=>q pos A s' _ E hr a.st (er.keep a.kp) fun vs us s'' H'' y b q'=>
  P (v::vs) (u::us) s'' H'' (by simp only[VRs];exact⟨u,us,rfl,x.kp0 b.kp,y⟩) (a.trans b) q') (starEach_cons he es env)
theorem cap_le {k:Nat} (h:k≤cap):k≤sizeLine:=by rw[sizeLine_eq];unfold cap at h;omega
theorem Aft.new {s s':Shared} {o:AO} {ob:Obj} (S:W.St H s.heap) (hs:s'={s with heap:=s.heap.push ob}) (hf:ob.isFreed=false) (ht:ob.cls≠.type "tuple")
  (hor:(∀v u,VR H s.heap v u→VR (H.set s.heap.objs.size o) s'.heap v u)→OR W.prog W.w (H.set s.heap.objs.size o) s'.heap s.heap.objs.size o) (hni:∀C dx fs,o≠.inst C dx fs:=by intro _ _ _ h;cases h) :
  H s.heap.objs.size=none∧Aft W H s (H.set s.heap.objs.size o) s':=by
 subst hs
 have hn:=S.none_of_ge (Nat.le_refl s.heap.objs.size)
 have gr:∀a o,s.heap.get? a=some o→(s.heap.push ob).get? a=some o:=fun a o e=>Heap.get?_push_of_some _ e
 have S1:=S.grow gr
 have hg:(s.heap.push ob).get? s.heap.objs.size=some ob:=Heap.get?_push_size _ hf
 have hB:W.B.get? s.heap.objs.size=none:=by
  cases e:W.B.get? s.heap.objs.size with
  |none=>rfl
  |some o=>exact absurd (Heap.lt_size (S.base _ _ e).1) (Nat.lt_irrefl _)
 have S2:=S1.take hn hB (fun us m e=>by rw[hg]at e;cases e;exact ht rfl) (fun kv=>hor fun v u x=>kv v u (VR.keep (fun a us m e z=>⟨gr _ _ e,z⟩) v u x)) hni
 refine⟨hn,S2,fun a o e=>?_,⟨rfl,rfl⟩⟩
 have hne:a≠s.heap.objs.size:=Nat.ne_of_lt (Heap.lt_size e)
 exact⟨fun z=>⟨(AH.set_ne H _ hne).trans z,o,gr _ _ e,fun _=>rfl⟩,fun x z=>⟨(AH.set_ne H _ hne).trans z,gr _ _ e⟩,o,gr _ _ e⟩
theorem list_ne_tuple:Value.type "list"≠Value.type "tuple":=by decide
theorem Aft.newList {s:Shared} {vs:List AV} {us:Array Value} {k:Nat} (S:W.St H s.heap) (x:VRs H s.heap vs us.toList) :
  H s.heap.objs.size=none∧Aft W H s (H.set s.heap.objs.size (.list vs)) {s with heap:=s.heap.push {cls:=.type "list",data:=.seq us k}}:=
 Aft.new S rfl rfl list_ne_tuple fun kv=>⟨us,k,Heap.get?_push_size _ rfl,x.keep' kv⟩
theorem ok_list {es:List Expr} {pos:Pos} (h:OkEs W n es env ρ H fun vs H=>vs.length≤cap∧∀r,H r=none→Q (.ref r) (H.set r (.list vs))):OkE W n (.List es pos) env ρ H Q:=fun A s R E hr S er P=>
 wpAny_List (h pos A s _ E hr S er fun vs us s' H' x a q=>by
  obtain⟨hn,b⟩:=Aft.newList (k:=0) (us:=us.toArray) a.st (by simpa using x)
  exact⟨cap_le (by rw[x.length];exact q.1),P (.ref s'.heap.objs.size) _ _ _ (by simp only[VR]) (a.trans b) (q.2 _ hn)⟩)
theorem ok_tup {es:List Expr} {k:Nat} {pos:Pos} (h:OkEs W n es env ρ H fun vs H=>vs.length≤cap∧Q (.tup vs) H):OkE W n (.Tuple es k pos) env ρ H Q:=fun A s R E hr S er P=>
 wpAny_Tuple (h pos A s _ E hr S er fun vs us s' H' x a q=>by
  have gr:∀b o,s'.heap.get? b=some o→(s'.heap.push {cls:=.type "tuple",data:=.seq us.toArray}).get? b=some o:=fun b o e=>Heap.get?_push_of_some _ e
  refine⟨cap_le (by rw[x.length];exact q.1),P (.tup vs) _ _ H' ?_ (a.trans (.grow a.st ⟨rfl,rfl⟩ gr)) q.2⟩
  simp only[VR]
  exact⟨_,us.toArray,0,rfl,Heap.get?_push_size _ rfl,a.st.none_of_ge (Nat.le_refl _),x.keep' (VR.keep fun b us m e z=>⟨gr _ _ e,z⟩)⟩)
end
end
section
theorem lookup_ne {α β:Type} [BEq α] [LawfulBEq α] {f g:α} {u:β} {fs:List (α × β)} (h:f≠g):List.lookup f ((g,u)::fs)=List.lookup f fs:=by
 rw[List.lookup_cons,beq_eq_false_iff_ne.mpr h]
theorem lookup_eq {α β:Type} [BEq α] [LawfulBEq α] {f:α} {u:β} {fs:List (α × β)}:List.lookup f ((f,u)::fs)=some u:=by
 rw[List.lookup_cons,beq_self_eq_true]
theorem FR.find {H:AH} {h:Heap}:∀{fs:List (Nat × AV)} {es:List DictEntry} {f:Nat} {v:AV},FR H h fs es→fs.lookup f=some v→∃e,es.find? (·.key.isStr (nm f))=some e∧VR H h v e.val
 |[],es,f,v,x,e=>by simp at e
 |(g,u)::fs,es,f,v,x,e=>by
  simp only[FR]at x
  obtain⟨en,r,t,rfl,hk,p,q⟩:=x
  by_cases hg:f=g
  ·subst hg
   simp only[List.lookup_cons,beq_self_eq_true,Option.some.injEq]at e
   subst e
   exact⟨en,by rw[List.find?_cons_of_pos (by rw[hk];simp[Value.isStr])],p⟩
  ·have hne:nm f≠nm g:=fun z=>hg (nm_inj z)
   have e':fs.lookup f=some v:=(lookup_ne hg).symm.trans e
   obtain⟨en',h1,h2⟩:=FR.find q e'
   refine⟨en',?_,h2⟩
   rw[List.find?_cons,hk]
   have:(Value.isStr (.str (nm g) t) (nm f))=false:=by simp only[Value.isStr,beq_eq_false_iff_ne];exact fun z=>hne z.symm
   rw[this];exact h1
theorem FR.miss {H:AH} {h:Heap}:∀{fs:List (Nat × AV)} {es:List DictEntry} {f:Nat},FR H h fs es→fs.lookup f=none→es.find? (·.key.isStr (nm f))=none
 |[],es,f,x,e=>by simp only[FR]at x;subst x;rfl
 |(g,u)::fs,es,f,x,e=>by
  simp only[FR]at x
  obtain⟨en,r,t,rfl,hk,p,q⟩:=x
  have hg:f≠g:=fun z=>by subst z;simp at e
  have hne:nm f≠nm g:=fun z=>hg (nm_inj z)
  have e':fs.lookup f=none:=(lookup_ne hg).symm.trans e
  rw[List.find?_cons,hk]
  have:(Value.isStr (.str (nm g) t) (nm f))=false:=by simp only[Value.isStr,beq_eq_false_iff_ne];exact fun z=>hne z.symm
  rw[this];exact FR.miss q e'
theorem FR.noref {H:AH} {h:Heap}:∀{fs:List (Nat × AV)} {es:List DictEntry},FR H h fs es→es.any (·.refKey)=false
 |[],es,x=>by simp only[FR]at x;subst x;rfl
 |(g,u)::fs,es,x=>by
  simp only[FR]at x
  obtain⟨en,r,t,rfl,hk,p,q⟩:=x
  rw[List.any_cons,FR.noref q,DictEntry.refKey,hk];rfl
theorem FR.length {H:AH} {h:Heap}:∀{fs:List (Nat × AV)} {es:List DictEntry},FR H h fs es→es.length=fs.length
 |[],es,x=>by simp only[FR]at x;subst x;rfl
 |(g,u)::fs,es,x=>by
  simp only[FR]at x
  obtain⟨en,r,t,rfl,hk,p,q⟩:=x
  simp[FR.length q]
abbrev dObj (es:Array DictEntry) (n:Nat):Obj:={cls:=.type "dict",data:=.dict es n}
theorem FR.hit {H:AH} {h:Heap} {fs:List (Nat × AV)} {es:Array DictEntry} {n:Nat} {f:Nat} {v:AV} (x:FR H h fs es.toList) (e:fs.lookup f=some v):∃u,lookIn (nm f) (dObj es n)=some (some u)∧VR H h v u:=by
 obtain⟨en,h1,h2⟩:=x.find e
 exact⟨en.val,by unfold PySem.W.lookIn;dsimp only;rw[h1],h2⟩
theorem FR.nohit {H:AH} {h:Heap} {fs:List (Nat × AV)} {es:Array DictEntry} {n:Nat} {f:Nat} (x:FR H h fs es.toList) (e:fs.lookup f=none):lookIn (nm f) (dObj es n)=some none:=by
 unfold PySem.W.lookIn;dsimp only;rw[x.miss e,x.noref];rfl
theorem VR.handed {H:AH} {h:Heap} {v:AV} {u:Value} (x:VR H h v u):handedIn u=true:=by
 cases v<;>simp only[VR]at x
 case none=>subst x;rfl
 case bool=>subst x;rfl
 case int=>obtain⟨t,rfl⟩:=x;rfl
 case str=>obtain⟨t,rfl⟩:=x;rfl
 case bytes=>obtain⟨t,rfl⟩:=x;rfl
 case ref=>subst x;rfl
 case tup=>obtain⟨a,us,n,rfl,_⟩:=x;rfl
section
variable {W:Wd} {K:Frag} {n:Nat} {env:Env} {ρ:Rho} {H:AH} {Q:AV→AH→Prop}
theorem inst_at {h:Heap} {a C dx:Addr} {fs:List (Nat × AV)} {b:Bool} (S:W.St H h) (e:H a=some (b,.inst C dx fs)):∃es k,InstAt h a (instObj C dx) C (some (dObj es k))∧FR H h fs es.toList∧h.get? dx=some (dObj es k):=by
 obtain⟨h1,h2,es,k,h3,h4⟩:=S.objs _ _ _ e
 exact⟨es,k,⟨h1,rfl,rfl,h3⟩,h4,h3⟩
theorem attributeBase_plain {v:Expr} {a:Str} {env:Env} {w:Sem Value} (hs:notSuper v=true):attributeBase v a env w=w:=by
 unfold attributeBase
 split
 ·cases hs
 ·rfl
theorem eval_Attribute_plain {v:Expr} {a:Str} {pos:Pos} {env:Env} (hs:notSuper v=true):eval (.Attribute v a pos) env=(do
   let o ←eval v env
   standAt pos.atName
   let r ←holding [o] (getAttr o a true)
   letTemporaryGo v o r
   pure r):=by rw[arm_eval_Attribute,attributeBase_plain hs]
theorem getA_ok (G:Gd W K) {A:Around} {s:Shared} {R E:Value→Shared→Prop} {v:AV} {u:Value} {f:Nat} {a:Str} {ex:Bool} (hf:nm f=a) (hr:Room n A) (S:W.St H s.heap) (x:VR H s.heap v u)
  (q:GetA W v f n H Q) (P:PostR W H s Q R):wpAny (model W.prog W.w) A (getAttr u a ex) R E s:=by
 obtain⟨x',b,C,dx,fs,rfl,e,q⟩:=q
 simp only[VR]at x;subst x
 subst hf
 obtain⟨es,k,I,F,D⟩:=inst_at S e
 rcases q with⟨hfld,v,hv,q⟩|⟨g,m,hp,hn,q⟩
 ·obtain⟨u,hl,hvr⟩:=FR.hit (n:=k) F hv
  exact get_value (G.at S) I (G.ga C f hfld) (findObj_own (G.sa C f hfld).2.2 (G.fld C f hfld) rfl hl) hvr.handed (P v u _ H hvr (.tok S _ rfl) q)
 ·obtain⟨p,rest,h1,h2,h3,h4,h5,h6⟩:=G.prp C f g hp
  subst hn
  refine get_bind (G.at S) I (plainGet_of h5).1 (findObj_data h6 h1 h3 h4) (plainGet_of h5).2 (wpAny_call (prop_get (s:={s with toks:=s.toks+1}) (G.at S) h2 ?_))
  have at':Aft W H s H {s with toks:=s.toks+1}:=.tok S _ rfl
  refine q A.in1 {s with toks:=s.toks+1} [.ref x'] _ ⟨by have:=hr.1;show A.depth+_<_;omega,by have:=hr.2.1;show A.units+1+_+_<_;omega,hr.2.2⟩ S (by simp[VRs,VR]) fun v u s' H' x a q=>?_
  show wpAny _ _ (handedOut u) _ _ _
  rw[handedOut_of x.handed]
  exact wpAny_pure (P v u s' H' x (at'.trans a) q)
theorem ok_attr (G:Gd W K) {v:Expr} {a:Str} {pos:Pos} {f:Nat} (hs:notSuper v=true) (hf:nm f=a) (h:OkE W n v env ρ H fun o H=>GetA W o f n H Q):OkE W n (.Attribute v a pos) env ρ H Q:=fun A s R E hr S er P=>by
 rw[eval_Attribute_plain hs]
 refine wpAny_bind (h A s _ E hr S er fun o u s' H' x b q=>wpAny_bind (wpAny_standAt (wpAny_bind (wpAny_holding (getA_ok G hf hr b.st x q fun v u' s'' H'' x' b' q'=>?_)))))
 exact wpAny_bind (wpAny_letTemporaryGo (wpAny_pure (P v u' s'' H'' x' (b.trans b') q')))
end
end
section
def noStars (es:List Expr):Bool:=es.all fun e=>!isStar e
theorem noStars_plain {pos:Pos} {env:Env}:∀{es:List Expr},noStars es=true→(backTo pos (starEach es env)).any (·.1)=false
 |[],_=>rfl
 |e::es,h=>by
  simp only[noStars,List.all_cons,Bool.and_eq_true,Bool.not_eq_true']at h
  rw[starEach_cons h.1]
  show(false||(backTo pos (starEach es env)).any (·.1))=false
  rw[noStars_plain h.2];rfl
theorem evalArgs_all {M:Model} {A:Around} {E:Value→Shared→Prop} {s:Shared} {f:Value} {pos:Pos} {env:Env} {es:List Expr} {Q:Args→Shared→Prop} (hst:noStars es=true)
  (h:wpAny M A (spliced (backTo pos (starEach es env))) (fun vs s'=>Q ⟨vs,[]⟩ s') E s):wpAny M A (evalArgs f true (backTo pos (starEach es env)) []) Q E s:=by
 cases es with
 |nil=>
  unfold evalArgs
  show wpAny M A (spliced [] >>= _) Q E s
  exact wpAny_bind (wpAny_mono h (fun vs s' h'=>wpAny_holding (wpAny_bind (wpAny_pure (wpAny_bind (wpAny_pure (wpAny_pure h')))))) fun _ _ x=>x)
 |cons e es=>
  simp only[noStars,List.all_cons,Bool.and_eq_true,Bool.not_eq_true']at hst
  rw[starEach_cons hst.1]at h ⊢
  exact evalArgs_plain h
theorem callW {M:Model} {A:Around} {E:Value→Shared→Prop} {s:Shared} {P:Heap→Prop} {f:Value} {first:List Value} {pos:Pos} {env:Env} {es:List Expr} {Q:Value→Shared→Prop} (hst:noStars es=true)
  (hk:∀h,P h→∃k,(k=Keeper.frame∨k=Keeper.machine∨k=Keeper.boundFrame)∧Looks M h (keeperOf f) k)
  (h:wpAny M A (spliced (backTo pos (starEach es env))) (fun vs s₁=>P s₁.heap∧wpAny M A (call f (first++vs)) Q E s₁) E s):wpAny M A (callWith pos f first (backTo pos (starEach es env)) []) Q E s:=
 callWith_of (by rw[noStars_plain hst];rfl) hk (evalArgs_all hst h)
theorem keep_builtin {M:Model} {id:String} (h:Heap) (_:True):∃k,(k=Keeper.frame∨k=Keeper.machine∨k=Keeper.boundFrame)∧Looks M h (keeperOf (.builtin id)) k:=⟨.machine,.inr (.inl rfl),Looks.of_pure rfl⟩
theorem keep_type {M:Model} {id:String} (h:Heap) (_:True):∃k,(k=Keeper.frame∨k=Keeper.machine∨k=Keeper.boundFrame)∧Looks M h (keeperOf (.type id)) k:=⟨.machine,.inr (.inl rfl),Looks.of_pure rfl⟩
section
variable {W:Wd} {K:Frag} {n:Nat} {env:Env} {ρ:Rho} {H:AH} {Q:AV→AH→Prop}
theorem callF_ok {A:Around} {s:Shared} {R E:Value→Shared→Prop} {f:Addr} {vs:List AV} {us:List Value} (h:CallF W f vs n H Q) (hr:Room n A) (S:W.St H s.heap) (x:VRs H s.heap vs us) (P:PostR W H s Q R) :
  wpAny (model W.prog W.w) A (call (.ref f) us) R E s:=wpAny_call (h A s us _ hr S x P)
theorem newC_ok (G:Gd W K) {A:Around} {s:Shared} {R:Result→Shared→Prop} {C:Addr} {vs:List AV} {us:List Value} (h:NewC W C vs n H Q) (hr:Room n A) (S:W.St H s.heap) (x:VRs H s.heap vs us) (P:PostR W H s Q fun u s'=>R (.ok (.ret u)) s') :
  codeAny (model W.prog W.w) A (.call (.ref C) ⟨us,[]⟩) R s:=by
 obtain⟨g,m,hg,rfl,q⟩:=h
 obtain⟨h1,h2,h3⟩:=G.ini C g hg
 obtain⟨hh,gn,d,t,os⟩:=s
 have X:=G.at S
 refine make_core (makes_of X h1) (looks_findIn X h2) (fun self=>bind_fn X self (beq_iff_eq.mp h3)) (.inl rfl) ?_
 have n0:H hh.objs.size=none:=S.none_of_ge (Nat.le_refl _)
 have n1:H (hh.objs.size+1)=none:=S.none_of_ge (Nat.le_succ _)
 have hne:hh.objs.size+1≠hh.objs.size:=Nat.succ_ne_self _
 have q:=q (hh.objs.size+1) hh.objs.size n1 n0 hne
 have gr:∀a o,hh.get? a=some o→((hh.push emptyDict).push (instObj C hh.objs.size)).get? a=some o:=fun a o e=>Heap.get?_push_of_some _ (Heap.get?_push_of_some _ e)
 have g0:((hh.push emptyDict).push (instObj C hh.objs.size)).get? hh.objs.size=some emptyDict:=Heap.get?_push_of_some _ (Heap.get?_push_size _ rfl)
 have g1:((hh.push emptyDict).push (instObj C hh.objs.size)).get? (hh.objs.size+1)=some (instObj C hh.objs.size):=by
  have:=Heap.get?_push_size (o:=instObj C hh.objs.size) (hh.push emptyDict) rfl
  rwa [Heap.size_push]at this
 have nB:∀a,hh.objs.size≤a→W.B.get? a=none:=fun a ha=>by
  cases e:W.B.get? a with
  |none=>rfl
  |some o=>exact absurd (Heap.lt_size (S.base _ _ e).1) (Nat.not_lt.mpr ha)
 generalize hH':(H.set hh.objs.size (.own (hh.objs.size+1))).set (hh.objs.size+1) (.inst C hh.objs.size [])=H' at q
 have hx:H' (hh.objs.size+1)=some (false,.inst C hh.objs.size []):=by rw[←hH',AH.set_same]
 have hd:H' hh.objs.size=some (false,.own (hh.objs.size+1)):=by rw[←hH',AH.set_ne _ _ (Ne.symm hne),AH.set_same]
 have ho:∀a,a≠hh.objs.size→a≠hh.objs.size+1→H' a=H a:=fun a h0 h1=>by rw[←hH',AH.set_ne _ _ h1,AH.set_ne _ _ h0]
 have kv:∀v u,VR H hh v u→VR H' ((hh.push emptyDict).push (instObj C hh.objs.size)) v u:=VR.keep fun a us k e z=>⟨gr _ _ e,by
  have l:=Heap.lt_size e
  rw[ho a (Nat.ne_of_lt l) (Nat.ne_of_lt (Nat.lt_succ_of_lt l))];exact z⟩
 have S':W.St H' ((hh.push emptyDict).push (instObj C hh.objs.size)):=by
  refine⟨fun a f o e=>?_,fun a o e=>?_,fun a f C' dx fs e=>?_⟩
  ·by_cases h0:a=hh.objs.size
   ·subst h0;rw[hd]at e;cases e
    exact⟨_,_,_,hx⟩
   ·by_cases h1:a=hh.objs.size+1
    ·subst h1;rw[hx]at e;cases e
     exact⟨g1,⟨_,hd⟩,#[],0,g0,by simp only[FR]⟩
    ·rw[ho a h0 h1]at e
     refine(S.objs a f o e).keep kv (gr a) (fun C' dx fs z=>?_) fun b z=>?_
     ·subst z
      obtain⟨_,⟨g,e2⟩,_⟩:=S.objs _ _ _ e
      have l:=S.lt e2
      exact⟨gr dx,g,by rw[ho dx (Nat.ne_of_lt l) (Nat.ne_of_lt (Nat.lt_succ_of_lt l))];exact e2⟩
     ·subst z
      obtain⟨g,C',fs,e2⟩:=S.objs _ _ _ e
      have l:=S.lt e2
      exact⟨g,C',fs,by rw[ho b (Nat.ne_of_lt l) (Nat.ne_of_lt (Nat.lt_succ_of_lt l))];exact e2⟩
  ·obtain⟨q1,q2⟩:=S.base a o e
   have l:=Heap.lt_size q1
   exact⟨gr _ _ q1,by rw[ho a (Nat.ne_of_lt l) (Nat.ne_of_lt (Nat.lt_succ_of_lt l))];exact q2⟩
  ·by_cases h0:a=hh.objs.size
   ·subst h0;rw[hd]at e;cases e
   ·by_cases h1:a=hh.objs.size+1
    ·subst h1;rw[hx]at e;cases e;exact hd
    ·rw[ho a h0 h1]at e
     have e2:=S.fl _ _ _ _ _ e
     have l:=S.lt e2
     rw[ho dx (Nat.ne_of_lt l) (Nat.ne_of_lt (Nat.lt_succ_of_lt l))];exact e2
 have a1:Aft W H ⟨hh,gn,d,t,os⟩ H' ⟨(hh.push emptyDict).push (instObj C hh.objs.size),gn,d,t,os⟩:=by
  refine⟨S',fun a o e=>?_,⟨rfl,rfl⟩⟩
  have l:=Heap.lt_size e
  have e':=ho a (Nat.ne_of_lt l) (Nat.ne_of_lt (Nat.lt_succ_of_lt l))
  exact⟨fun z=>⟨e'.trans z,o,gr _ _ e,fun _=>rfl⟩,fun x z=>⟨e'.trans z,gr _ _ e⟩,o,gr _ _ e⟩
 refine q _ _ (.ref (hh.objs.size+1)::us) _ ⟨?_,?_,hr.2.2⟩ S' (by simp only[VRs,VR];exact⟨_,us,rfl,rfl,x.keep' kv⟩) fun v u s' H'' x' a q'=>?_
 ·have:=hr.1;have hw:(Code.builtin "type.__call__" ⟨.ref C::us,[]⟩).weight=1:=by simp[Code.weight,Code.frames,Code.isCreation,Code.isGuard,Code.isCaller,guardIds,Code.isFrame]
  show A.depth+Code.weight _+_<_
  rw[hw];omega
 ·have:=hr.2.1;have hw:(Code.builtin "type.__call__" ⟨.ref C::us,[]⟩).cUnits≤4:=by simp[Code.cUnits,Code.frames,Code.isFrame]
  show A.units+Code.cUnits _+_+_<_
  omega
 ·obtain⟨rfl,q'⟩:=q'
  simp only[VR]at x'
  subst x'
  exact⟨rfl,P _ _ s' H'' (by simp only[VR]) (a1.trans a) q'⟩
theorem eval_Call_Name {f:Str} {p pos:Pos} {es:List Expr} {A:Around} {s:Shared} {R E:Value→Shared→Prop}
  (h:wpAny (model W.prog W.w) A (eval (.Name f p) env) (fun f s₁=>wpAny (model W.prog W.w) A (callWith pos f [] (backTo pos (starEach es env)) []) R E s₁) E s) :
  wpAny (model W.prog W.w) A (eval (.Call (.Name f p) es [] pos) env) R E s:=by
 rw[arm_eval_Call_Name']
 exact wpAny_bind h
theorem ok_call (G:Gd W K) {x:Str} {p pos:Pos} {es:List Expr} {f:Addr} {sc:Names} (ag:Agree env sc) (hg:isGlobal sc x=true) (hf:gfun.lookup x=some f) (hst:noStars es=true)
  (h:OkEs W n es env ρ H fun vs H=>CallF W f vs n H Q):OkE W n (.Call (.Name x p) es [] pos) env ρ H Q:=fun A s R E hr S er P=>
 eval_Call_Name (global_at G ag hg S er (G.gfunOK x f hf).1 (callW hst (keeps_K (G.gfunOK x f hf).2) (h pos A s _ E hr S er fun vs us s' H' x a q=>
  ⟨G.at a.st,callF_ok q hr a.st x fun v u s'' H'' x' b q'=>P v u s'' H'' x' (a.trans b) q'⟩)))
theorem ok_new (G:Gd W K) {x:Str} {p pos:Pos} {es:List Expr} {C:Addr} {sc:Names} (ag:Agree env sc) (hg:isGlobal sc x=true) (hf:gcls.lookup x=some C) (hst:noStars es=true)
  (h:OkEs W n es env ρ H fun vs H=>NewC W C vs n H Q):OkE W n (.Call (.Name x p) es [] pos) env ρ H Q:=fun A s R E hr S er P=>
 eval_Call_Name (global_at G ag hg S er (G.gclsOK x C hf).1 (callW hst (keeps_K (G.gclsOK x C hf).2) (h pos A s _ E hr S er fun vs us s' H' x a q=>
  ⟨G.at a.st,wpAny_call (newC_ok G q hr a.st x fun v u s'' H'' x' b q'=>P v u s'' H'' x' (a.trans b) q')⟩)))
theorem methodCall_open {o:Expr} {name:Str} {apos pos:Pos} {es:List Expr} {ov:Value} {A:Around} {s:Shared} {R E:Value→Shared→Prop} (hst:noStars es=true) (hlen:es.length≤10) (hline:(apos.endLine==pos.line)=true)
  (h:∀pl,wpAny (model W.prog W.w) A (getMethod ov name pl) (fun x s₁=>wpAny (model W.prog W.w) A (callWith pos x.1 x.2 (backTo pos (starEach es env)) []) R E s₁) E s) :
  wpAny (model W.prog W.w) A (methodCall o name apos pos env ov (es.length+([]:List Keyword).length) (backTo pos (starEach es env)) (backToKw pos (keywordEach [] env))) R E s:=by
 have hform:methodCallForm (es.length+([]:List Keyword).length) (backTo pos (starEach es env)) (backToKw pos (keywordEach [] env))=true:=by
  unfold methodCallForm
  have e1:(backTo pos (starEach es env)).all (fun x=>!x.1)=true:=by
   have:=noStars_plain (pos:=pos) (env:=env) hst
   rw[List.any_eq_false]at this
   rw[List.all_eq_true]
   intro y hy
   simpa using this y hy
  rw[e1]
  simp[backToKw,keywordEach]
  omega
 have hpos:methodCallPos true o env apos pos=pure pos:=by unfold methodCallPos;simp[hline]
 unfold methodCall
 rw[hform]
 refine wpAny_bind (wpAny_holding (wpAny_mono (h _) (fun x s₁ h₁=>?_) fun _ _ z=>z))
 exact wpAny_bind (wpAny_of_eq hpos h₁)
theorem eval_Call_meth {o:Expr} {name:Str} {apos pos:Pos} {es:List Expr} {A:Around} {s:Shared} {R E:Value→Shared→Prop} (hs:notSuper o=true)
  (h:wpAny (model W.prog W.w) A (eval o env) (fun ov s₁=>wpAny (model W.prog W.w) A (methodCall o name apos pos env ov (es.length+([]:List Keyword).length) (backTo pos (starEach es env)) (backToKw pos (keywordEach [] env))) R E s₁) E s) :
  wpAny (model W.prog W.w) A (eval (.Call (.Attribute o name apos) es [] pos) env) R E s:=by
 rw[arm_eval_Call,attributeBase_plain hs]
 exact wpAny_bind (wpAny_mono h (fun ov s₁ h₁=>wpAny_bind (wpAny_standAt h₁)) fun _ _ z=>z)
theorem ok_meth (G:Gd W K) {o:Expr} {name:Str} {apos pos:Pos} {es:List Expr} {m:Nat} (hs:notSuper o=true) (hm:nm m=name) (hst:noStars es=true) (hlen:es.length≤10) (hline:(apos.endLine==pos.line)=true)
  (h:OkE W n o env ρ H fun v H=>∃a f C dx fs g,v=.ref a∧H a=some (f,.inst C dx fs)∧mtab.lookup (C,m)=some g∧fs.lookup m=none∧OkEs W n es env ρ H fun vs H=>CallF W g (v::vs) n H Q) :
  OkE W n (.Call (.Attribute o name apos) es [] pos) env ρ H Q:=fun A s R E hr S er P=>
 eval_Call_meth hs (h A s _ E hr S er fun v u s' H' x a q=>by
  obtain⟨b,f,C,dx,fs,g,rfl,e,hg,hl,q⟩:=q
  simp only[VR]at x;subst x;subst hm
  obtain⟨es',k,I,F,D⟩:=inst_at a.st e
  obtain⟨m1,m2,m3,m4⟩:=G.met C m g hg
  refine methodCall_open hst hlen hline fun pl=>method_fn (G.at a.st) I (plainGet_of m4).1 (plainGet_of m4).2 m1 (beq_iff_eq.mp m2) (by show(lookIn (nm m) (dObj es' k)).map _=_;rw[F.nohit hl];rfl) ?_
  exact callW hst (keeps_K m3) (q pos A s' _ E hr a.st (er.keep a.kp) fun vs us s'' H'' y a' q'=>
   ⟨G.at a'.st,callF_ok q' hr a'.st (by simp only[List.singleton_append,VRs,VR];exact⟨_,us,rfl,rfl,y⟩) fun v u s3 H3 x' b' q3=>P v u s3 H3 x' ((a.trans a').trans b') q3⟩))
end
end
section
section
variable {W:Wd} {K:Frag} {n:Nat} {env:Env} {ρ:Rho} {H:AH} {Q:AV→AH→Prop}
theorem list_at {h:Heap} {a:Addr} {b:Bool} {xs:List AV} (S:W.St H h) (e:H a=some (b,.list xs)):∃us k,h.get? a=some {cls:=.type "list",data:=.seq us k}∧VRs H h xs us.toList:=S.objs _ _ _ e
theorem VRs.size {H:AH} {h:Heap} {xs:List AV} {us:Array Value} (x:VRs H h xs us.toList):us.size=xs.length:=by rw[←x.length,Array.length_toList]
theorem noPy {a b:Int} (h:b.natAbs<2 ^ 60):Builtin.divisionGoesByPylong a b=false:=PyProof.noPylong_of_log2 (by
 by_cases h0:b.natAbs=0
 ·rw[h0];decide
 ·have:=(Nat.log2_lt h0).mpr h
  omega)
theorem binR_ok {op:Op} {o:Operator} (ho:opOf o=some op) {A:Around} {s:Shared} {R E:Value→Shared→Prop} {x y:AV} {u v:Value} (S:W.St H s.heap) (hx:VR H s.heap x u) (hy:VR H s.heap y v) (q:BinR op x y H Q) (P:PostR W H s Q R) :
  wpAny (model W.prog W.w) A (binaryOp o u v) R E s:=by
 have tk:Aft W H s H {s with toks:=s.toks+1}:=.tok S _ rfl
 cases o<;>simp only[opOf,Option.some.injEq,reduceCtorEq]at ho<;>subst ho<;>unfold BinR at q<;>split at q<;>first|exact q.elim|skip
 all_goals simp only[reduceCtorEq]at *
 all_goals simp only[VR]at hx hy
 ·obtain⟨t,rfl⟩:=hx;obtain⟨t',rfl⟩:=hy
  exact add_int (P _ _ _ _ (by simp only[VR];exact⟨_,rfl⟩) tk q)
 ·subst hx hy
  obtain⟨f,g,xs,ys,e1,e2,hl,q⟩:=q
  obtain⟨us,k,h1,v1⟩:=list_at S e1
  obtain⟨vs,k',h2,v2⟩:=list_at S e2
  obtain⟨hn,b⟩:=Aft.newList (us:=us++vs) (k:=0) S (by rw[Array.toList_append];exact v1.append v2)
  exact _root_.PySem.P.add_list h1 h2 (P _ _ _ _ (by simp only[VR]) b (q _ hn)) (by rw[v1.size,v2.size];exact cap_le hl)
 ·obtain⟨t,rfl⟩:=hx;obtain⟨t',rfl⟩:=hy
  refine PySem.W.KBy.add_bytes (by have:=q.1;unfold cap at this;omega) fun t' k=>P (.bytes _) _ _ _ ?_ (.tok S _ rfl) q.2
  simp only[VR];exact⟨_,rfl⟩
 ·obtain⟨t,rfl⟩:=hx;obtain⟨t',rfl⟩:=hy
  exact sub_int (P _ _ _ _ (by simp only[VR];exact⟨_,rfl⟩) tk q)
 ·obtain⟨t,rfl⟩:=hx;obtain⟨t',rfl⟩:=hy
  exact mul_int (P _ _ _ _ (by simp only[VR];exact⟨_,rfl⟩) tk q.2.2) (IntMulOk.of_left (intBits_le_64 (by have:=q.1;omega) (by have:=q.1;omega)))
 ·obtain⟨t,rfl⟩:=hx;obtain⟨t',rfl⟩:=hy
  exact mod_int q.1 (P _ _ _ _ (by simp only[VR];exact⟨_,rfl⟩) tk q.2)
 ·obtain⟨t,rfl⟩:=hx;obtain⟨t',rfl⟩:=hy
  exact lshift_int_small q.1 (by have:=q.2.1;omega) (by have:=q.2.2.1;omega) (P _ _ _ _ (by simp only[VR];exact⟨_,rfl⟩) tk q.2.2.2)
 ·obtain⟨t,rfl⟩:=hx;obtain⟨t',rfl⟩:=hy
  exact rshift_int q.1 (P _ _ _ _ (by simp only[VR];exact⟨_,rfl⟩) tk q.2.2)
 ·obtain⟨t,rfl⟩:=hx;obtain⟨t',rfl⟩:=hy
  exact and_int (P _ _ _ _ (by simp only[VR];exact⟨_,rfl⟩) tk q)
 ·obtain⟨t,rfl⟩:=hx;obtain⟨t',rfl⟩:=hy
  exact floordiv_int q.1 (P _ _ _ _ (by simp only[VR];exact⟨_,rfl⟩) tk q.2.2.2) (.inl (noPy q.2.2.1))
def pd:AV→Option PyData
 |.none=>some .none
 |.bool b=>some (.bool b)
 |.int i=>some (.int i)
 |_=>none
def pds:List AV→Option (List PyData)
 |[]=>some []
 |x::xs=>match pd x,pds xs with
  |some a,some b=>some (a::b)
  |_,_=>none
theorem feq_pd {x y:AV} {b:Bool} (h:feq x y=some b):∃da db,pd x=some da∧pd y=some db∧PyData.eqv da db=b∧SeqAt.shaped da=true∧SeqAt.shaped db=true∧da.depth=0∧db.depth=0∧da.canLay0=true∧db.canLay0=true:=by
 cases x<;>cases y<;>simp only[feq,reduceCtorEq,Option.some.injEq]at h<;>subst h<;>refine⟨_,_,rfl,rfl,?_,rfl,rfl,rfl,rfl,rfl,rfl⟩<;>first|rfl|(simp only[PyData.eqv];rename_i a b;by_cases e:a=b<;>simp[e])
theorem feqs_pd:∀{xs ys:List AV} {b:Bool},feqs xs ys=some b→∃das dbs,pds xs=some das∧pds ys=some dbs∧PyData.eqvAll das dbs=b∧PyData.canLayAll0 das=true∧PyData.canLayAll0 dbs=true∧PyData.depthAll das=0∧PyData.depthAll dbs=0
 |[],[],b,h=>by simp only[feqs,Option.some.injEq]at h;subst h;exact⟨[],[],rfl,rfl,rfl,rfl,rfl,rfl,rfl⟩
 |[],y::ys,b,h=>by simp[feqs]at h
 |x::xs,[],b,h=>by simp[feqs]at h
 |x::xs,y::ys,b,h=>by
  unfold feqs at h
  split at h
  ·rename_i p q hp hq
   obtain⟨da,db,h1,h2,h3,h4,h5,h6,h7,h8,h9⟩:=feq_pd hp
   obtain⟨das,dbs,g1,g2,g3,g4,g5,g6,g7⟩:=feqs_pd hq
   cases h
   exact⟨da::das,db::dbs,by simp[pds,h1,g1],by simp[pds,h2,g2],by simp[PyData.eqvAll,h3,g3],by simp[PyData.canLayAll0,h8,g4],by simp[PyData.canLayAll0,h9,g5],by simp[PyData.depthAll,h6,g6],by simp[PyData.depthAll,h7,g7]⟩
  ·cases h
theorem pd_reads {h:Heap} {x:AV} {u:Value} {d:PyData} (v:VR H h x u) (e:pd x=some d):Reads h u d []:=by
 cases x<;>simp only[pd,reduceCtorEq,Option.some.injEq]at e<;>subst e<;>simp only[VR]at v
 ·subst v;exact .none
 ·subst v;exact .bool _
 ·obtain⟨t,rfl⟩:=v;exact .int _ _
theorem pds_reads {h:Heap}:∀{xs:List AV} {us:List Value} {ds:List PyData},VRs H h xs us→pds xs=some ds→ReadsAll h us ds []
 |[],us,ds,v,e=>by simp only[VRs]at v;subst v;simp only[pds,Option.some.injEq]at e;subst e;exact .nil
 |x::xs,us,ds,v,e=>by
  simp only[VRs]at v
  obtain⟨u,r,rfl,p,q⟩:=v
  unfold pds at e
  split at e
  ·rename_i a b h1 h2
   cases e
   exact .cons (as:=[]) (bs:=[]) (pd_reads p h1) (pds_reads q h2)
  ·cases e
theorem VRs.ints {h:Heap}:∀{xs:List Int} {us:List Value},VRs H h (xs.map .int) us→IntsAre us xs
 |[],us,v=>by simp only[List.map_nil,VRs]at v;subst v;exact .nil
 |x::xs,us,v=>by
  simp only[List.map_cons,VRs,VR]at v
  obtain⟨u,r,rfl,⟨t,rfl⟩,q⟩:=v
  exact .cons x t (VRs.ints q)
theorem aeq_ok {A:Around} {s:Shared} {E:Value→Shared→Prop} {x y:AV} {u v:Value} {Qb:Bool→Prop} (hr:Room n A) (S:W.St H s.heap) (hx:VR H s.heap x u) (hy:VR H s.heap y v) (q:aeq H x y Qb) :
  ∃b,Qb b∧∀R:Value→Shared→Prop,(R (.bool b) s→wpAny (model W.prog W.w) A (compareOp .Eq u v) R E s)∧(R (.bool (!b)) s→wpAny (model W.prog W.w) A (compareOp .NotEq u v) R E s):=by
 have hu:A.units+64<cLine:=by have:=hr.2.1;unfold cLine;omega
 unfold aeq at q
 split at q
 ·rename_i xs ys
  obtain⟨b,hb,q⟩:=q
  obtain⟨das,dbs,g1,g2,g3,g4,g5,g6,g7⟩:=feqs_pd hb
  simp only[VR]at hx hy
  obtain⟨a,us,k,rfl,e1,z1,r1⟩:=hx
  obtain⟨a',us',k',rfl,e2,z2,r2⟩:=hy
  have ra:Reads s.heap (.ref a) (.tuple das) []:=.tuple e1 rfl rfl (pds_reads r1 g1)
  have rb:Reads s.heap (.ref a') (.tuple dbs) []:=.tuple e2 rfl rfl (pds_reads r2 g2)
  have sa:SeqAt.shaped (.tuple das)=true:=by simp[SeqAt.shaped,PyData.canLay0,PyData.depth,g4,g6]
  have sb:SeqAt.shaped (.tuple dbs)=true:=by simp[SeqAt.shaped,PyData.canLay0,PyData.depth,g5,g7]
  exact⟨b,q,fun R=>⟨fun r=>eq_dataH ra rb sa sb hu (by simp only[PyData.eqv,g3];exact r),fun r=>ne_dataH ra rb sa sb hu (by simp only[PyData.eqv,g3];exact r)⟩⟩
 ·rename_i a b
  simp only[VR]at hx hy
  obtain⟨t,rfl⟩:=hx;obtain⟨t',rfl⟩:=hy
  have e:(a==b)=(a.toList==b.toList):=by
   by_cases h:a=b
   ·subst h;simp
   ·rw[beq_eq_false_iff_ne.mpr h];symm;rw[beq_eq_false_iff_ne];exact fun z=>h (Array.toList_inj.mp z)
  exact⟨_,q,fun R=>⟨fun r=>eq_bytes (by rw[←e];exact r),fun r=>ne_bytes (by rw[show(a.toList != b.toList) = !(a==b)by rw[e];rfl];exact r)⟩⟩
 ·rename_i a b
  simp only[VR]at hx hy
  obtain⟨t,rfl⟩:=hx;obtain⟨t',rfl⟩:=hy
  have e:(a==b)=decide (a=b):=by by_cases h:a=b<;>simp[h]
  exact⟨_,q,fun R=>⟨fun r=>eq_str (by rw[e];exact r),fun r=>ne_str (by rw[show(a != b) = !(decide (a=b))by rw[←e];rfl];exact r)⟩⟩
 ·obtain⟨f,g,xs,ys,e1,e2,q⟩:=q
  simp only[VR]at hx hy
  subst hx hy
  obtain⟨us,k,h1,v1⟩:=list_at S e1
  obtain⟨vs,k',h2,v2⟩:=list_at S e2
  have i1:s.heap.IsList _ us.toList.toArray:=⟨_,h1,rfl,k,by simp⟩
  have i2:s.heap.IsList _ vs.toList.toArray:=⟨_,h2,rfl,k',by simp⟩
  exact⟨_,q,fun R=>⟨fun r=>ke_eq_ints i1 i2 v1.ints v2.ints hu r,fun r=>ke_ne_ints i1 i2 v1.ints v2.ints hu r⟩⟩
 ·obtain⟨b,hb,q⟩:=q
  obtain⟨da,db,h1,h2,h3,h4,h5,_⟩:=feq_pd hb
  exact⟨b,q,fun R=>⟨fun r=>eq_dataH (pd_reads hx h1) (pd_reads hy h2) h4 h5 hu (by rw[h3];exact r),fun r=>ne_dataH (pd_reads hx h1) (pd_reads hy h2) h4 h5 hu (by rw[h3];exact r)⟩⟩
theorem dict_ne_tuple:Value.type "dict"≠Value.type "tuple":=by decide
theorem ais_ok {M:Model} {A:Around} {s:Shared} {E:Value→Shared→Prop} {x y:AV} {u v:Value} {b:Bool} (S:W.St H s.heap) (hx:VR H s.heap x u) (hy:VR H s.heap y v) (q:ais x y=some b) (ok:isOK H x y) :
  ∀R:Value→Shared→Prop,(R (.bool b) s→wpAny M A (compareOp .Is u v) R E s)∧(R (.bool (!b)) s→wpAny M A (compareOp .IsNot u v) R E s):=by
 intro R
 have plain:plainIs u v=true→(u==v)=b→(R (.bool b) s→wpAny M A (compareOp .Is u v) R E s)∧(R (.bool (!b)) s→wpAny M A (compareOp .IsNot u v) R E s):=fun p e=>
  ⟨fun r=>wpAny_is_plain p (by rw[e];exact r),fun r=>wpAny_isNot_plain p (by rw[e];exact r)⟩
 cases x<;>cases y<;>simp only[ais,reduceCtorEq,Option.some.injEq]at q<;>simp only[VR]at hx hy<;>subst q
 case ref.ref a c=>
  subst hx hy
  by_cases e:a=c
  ·subst e
   simp only[decide_true]
   exact⟨fun r=>wpAny_is_ref_self r,fun r=>wpAny_isNot_ref_self r⟩
  ·obtain⟨⟨p,hp,hno⟩,⟨p',hp'⟩⟩:=ok
   obtain⟨o,ho⟩:=S.some_get hp
   obtain⟨o',ho'⟩:=S.some_get hp'
   have nt:o.cls≠.type "tuple":=fun z=>by
    obtain⟨f,p⟩:=p
    have OR:=S.objs _ _ _ hp
    cases p with
    |list vs=>obtain⟨us,k,e,_⟩:=OR;rw[ho]at e;cases e;exact list_ne_tuple z
    |inst C dx fs=>obtain⟨e,_⟩:=OR;rw[ho]at e;cases e;cases z
    |dS es=>obtain⟨kvs,⟨o2,ds,ep,e,x,_⟩,_⟩:=OR;rw[ho]at e;cases e;rw[x.1]at z;exact dict_ne_tuple z
    |dI es=>obtain⟨kvs,⟨o2,ds,ep,e,x,_⟩,_⟩:=OR;rw[ho]at e;cases e;rw[x.1]at z;exact dict_ne_tuple z
    |opq=>exact absurd rfl hno
    |own b=>
     obtain⟨g,C,fs,e⟩:=OR
     obtain⟨_,_,es,k,e',_⟩:=S.objs _ _ _ e
     rw[ho]at e';cases e';exact dict_ne_tuple z
   rw[decide_eq_false e]
   exact⟨fun r=>wpAny_is_ref_other e ho ho' nt r,fun r=>wpAny_isNot_ref_other e ho ho' nt r⟩
 all_goals first
  |(obtain⟨t,rfl⟩:=hx;obtain rfl:=hy;exact plain rfl rfl)
  |(obtain⟨t,rfl⟩:=hy;obtain rfl:=hx;exact plain rfl rfl)
  |(obtain rfl:=hx;obtain rfl:=hy;exact plain rfl rfl)
  |(obtain rfl:=hx;obtain rfl:=hy;exact plain rfl (by rename_i a b;cases a<;>cases b<;>rfl))
end
end
section
section
variable {W:Wd} {K:Frag} {n:Nat} {env:Env} {ρ:Rho} {H:AH} {Q:AV→AH→Prop}
theorem ok_bin {o:Operator} {op:Op} {l r:Expr} {pos:Pos} (ho:opOf o=some op) (h:OkE W n l env ρ H fun x H=>OkE W n r env ρ H fun y H=>BinR op x y H Q):OkE W n (.BinOp l o r pos) env ρ H Q:=fun A s R E hr S er P=>
 wpAny_BinOp (h A s _ E hr S er fun x u s1 H1 hx a q=>q A s1 _ E hr a.st (er.keep a.kp) fun y v s2 H2 hy b q=>binR_ok ho b.st (hx.kp0 b.kp) hy q fun v u s' H' x c q=>P v u s' H' x ((a.trans b).trans c) q)
theorem any_ints {a:Int}:∀{xs:List Int} {us:List Value},IntsAre us xs→us.any (fun y=>match y with|.int b _=>b==a|_=>false)=decide (a∈xs)
 |[],[],_=>by simp
 |x::xs,_,.cons _ t r=>by
  rw[List.any_cons,any_ints r]
  by_cases h:x=a
  ·subst h;simp
  ·have:¬a=x:=fun z=>h z.symm
   simp[h,this]
theorem eq_ints {a:Int} {t:Tok}:∀{xs:List Int} {us:List Value},IntsAre us xs→∀y,y∈us→MeetsSeq.EqGives y (.int a t) (match y with|.int b _=>b==a|_=>false)
 |_,_,.cons x u r,y,hy=>by
  cases hy with
  |head=>exact MeetsSeq.EqGives.int x a u t
  |tail _ h=>exact eq_ints r y h
theorem cmpR_ok {op:Cm} {o:CmpOp} (ho:cmOf o=some op) {A:Around} {s:Shared} {R E:Value→Shared→Prop} {x y:AV} {u v:Value} (hr:Room n A) (S:W.St H s.heap) (hx:VR H s.heap x u) (hy:VR H s.heap y v) (q:CmpR op x y H Q) (P:PostR W H s Q R) :
  wpAny (model W.prog W.w) A (compareOp o u v) R E s:=by
 have pb:∀b,Q (.bool b) H→R (.bool b) s:=fun b q=>P _ _ s H (by simp only[VR]) (.refl S) q
 cases o<;>simp only[cmOf,Option.some.injEq,reduceCtorEq]at ho<;>subst ho<;>simp only[CmpR]at q
 ·obtain⟨b,qb,k⟩:=aeq_ok (E:=E) hr S hx hy q
  exact(k R).1 (pb _ qb)
 ·obtain⟨b,qb,k⟩:=aeq_ok (E:=E) hr S hx hy q
  exact(k R).2 (pb _ qb)
 ·obtain⟨a,b,rfl,rfl,q⟩:=q
  simp only[VR]at hx hy
  obtain⟨t,rfl⟩:=hx;obtain⟨t',rfl⟩:=hy
  exact lt_int (pb _ q)
 ·obtain⟨a,b,rfl,rfl,q⟩:=q
  simp only[VR]at hx hy
  obtain⟨t,rfl⟩:=hx;obtain⟨t',rfl⟩:=hy
  exact le_int (pb _ q)
 ·obtain⟨a,b,rfl,rfl,q⟩:=q
  simp only[VR]at hx hy
  obtain⟨t,rfl⟩:=hx;obtain⟨t',rfl⟩:=hy
  exact gt_int (pb _ q)
 ·obtain⟨a,b,rfl,rfl,q⟩:=q
  simp only[VR]at hx hy
  obtain⟨t,rfl⟩:=hx;obtain⟨t',rfl⟩:=hy
  exact ge_int (pb _ q)
 ·obtain⟨b,e,ok,q⟩:=q
  exact(ais_ok S hx hy e ok R).1 (pb _ q)
 ·obtain⟨b,e,ok,q⟩:=q
  exact(ais_ok S hx hy e ok R).2 (pb _ q)
 ·obtain⟨a,l,f,xs,rfl,rfl,e,q⟩:=q
  simp only[VR]at hx hy
  obtain⟨t,rfl⟩:=hx;subst hy
  obtain⟨us,k,h1,v1⟩:=list_at S e
  refine SeqRoads2.in_list _ (fun y hy=>eq_ints (t:=t) v1.ints y (by simpa using hy)) h1 ?_
  rw[←Array.any_toList,any_ints v1.ints];exact pb _ q
 ·obtain⟨a,l,f,xs,rfl,rfl,e,q⟩:=q
  simp only[VR]at hx hy
  obtain⟨t,rfl⟩:=hx;subst hy
  obtain⟨us,k,h1,v1⟩:=list_at S e
  refine SeqRoads2.notIn_list _ (fun y hy=>eq_ints (t:=t) v1.ints y (by simpa using hy)) h1 ?_
  rw[←Array.any_toList,any_ints v1.ints];exact pb _ q
theorem ok_cmp {o:CmpOp} {op:Cm} {l r:Expr} {pos:Pos} (ho:cmOf o=some op) (hm:behindInMarks o r=false) (h:OkE W n l env ρ H fun x H=>OkE W n r env ρ H fun y H=>CmpR op x y H Q):OkE W n (.Compare l [o] [r] pos) env ρ H Q:=fun A s R E hr S er P=>
 wpAny_Compare1 (h A s _ E hr S er fun x u s1 H1 hx a q=>q A s1 _ E hr a.st (er.keep a.kp) fun y v s2 H2 hy b q=>cmpR_ok ho hr b.st (hx.kp0 b.kp) hy q fun v u s' H' x c q=>P v u s' H' x ((a.trans b).trans c) q) hm
theorem ok_neg {x:Expr} {pos:Pos} (h:OkE W n x env ρ H fun v H=>∃i,v=.int i∧Q (.int (-i)) H):OkE W n (.UnaryOp .USub x pos) env ρ H Q:=fun A s R E hr S er P=>
 wpAny_UnaryOp (h A s _ E hr S er fun v u s1 H1 hx a q=>by
  obtain⟨i,rfl,q⟩:=q
  simp only[VR]at hx;obtain⟨t,rfl⟩:=hx
  exact neg_int (P _ _ _ H1 (by simp only[VR];exact⟨_,rfl⟩) (a.trans (.tok a.st _ rfl)) q))
theorem ok_not {x:Expr} {pos:Pos} (h:OkE W n x env ρ H fun v H=>∃t,v=.bool t∧Q (.bool (!t)) H):OkE W n (.UnaryOp .Not x pos) env ρ H Q:=fun A s R E hr S er P=>
 wpAny_UnaryOp (h A s _ E hr S er fun v u s1 H1 hx a q=>by
  obtain⟨t,rfl,q⟩:=q
  simp only[VR]at hx;subst hx
  exact not_value (wpAny_truthy_bool (P _ _ _ H1 (by simp only[VR]) a q)))
theorem ok_and {x y:Expr} {pos:Pos} (h:OkE W n x env ρ H fun v H=>∃t,v=.bool t∧(t=false→Q (.bool false) H)∧(t=true→OkE W n y env ρ H Q)):OkE W n (.BoolOp .And [x,y] pos) env ρ H Q:=fun A s R E hr S er P=>
 wpAny_And2 (h A s _ E hr S er fun v u s1 H1 hx a q=>by
  obtain⟨t,rfl,q1,q2⟩:=q
  simp only[VR]at hx;subst hx
  refine wpAny_truthy_bool ?_
  cases t with
  |false=>exact P _ _ _ H1 (by simp only[VR]) a (q1 rfl)
  |true=>exact q2 rfl A s1 _ E hr a.st (er.keep a.kp) fun v u s' H' x c q=>P v u s' H' x (a.trans c) q)
theorem ok_or {x y:Expr} {pos:Pos} (h:OkE W n x env ρ H fun v H=>∃t,v=.bool t∧(t=true→Q (.bool true) H)∧(t=false→OkE W n y env ρ H Q)):OkE W n (.BoolOp .Or [x,y] pos) env ρ H Q:=fun A s R E hr S er P=>
 wpAny_Or2 (h A s _ E hr S er fun v u s1 H1 hx a q=>by
  obtain⟨t,rfl,q1,q2⟩:=q
  simp only[VR]at hx;subst hx
  refine wpAny_truthy_bool ?_
  cases t with
  |true=>exact P _ _ _ H1 (by simp only[VR]) a (q1 rfl)
  |false=>exact q2 rfl A s1 _ E hr a.st (er.keep a.kp) fun v u s' H' x c q=>P v u s' H' x (a.trans c) q)
theorem ok_or3 {x y z:Expr} {pos:Pos} (h:OkE W n x env ρ H fun v H=>∃t,v=.bool t∧(t=true→Q (.bool true) H)∧(t=false→OkE W n (.BoolOp .Or [y,z] pos) env ρ H Q)):OkE W n (.BoolOp .Or [x,y,z] pos) env ρ H Q:=fun A s R E hr S er P=>by
 show wpAny _ A (do
  let v ←eval x env
  standAt pos
  let t ←holding [v] (truthy v)
  match BoolOp.Or,t with
  |.And,false|.Or,true=>pure v
  |_,_=>boolOp pos .Or [eval y env,eval z env]) R E s
 refine wpAny_bind (h A s _ E hr S er fun v u s1 H1 hx a q=>?_)
 obtain⟨t,rfl,q1,q2⟩:=q
 simp only[VR]at hx;subst hx
 refine wpAny_bind (wpAny_standAt (wpAny_bind (wpAny_holding (wpAny_truthy_bool ?_))))
 cases t with
 |true=>exact wpAny_pure (P _ _ _ H1 (by simp only[VR]) a (q1 rfl))
 |false=>exact q2 rfl A s1 _ E hr a.st (er.keep a.kp) fun v u s' H' x c q=>P v u s' H' x (a.trans c) q
theorem ok_and3 {x y z:Expr} {pos:Pos} (h:OkE W n x env ρ H fun v H=>∃t,v=.bool t∧(t=false→Q (.bool false) H)∧(t=true→OkE W n (.BoolOp .And [y,z] pos) env ρ H Q)):OkE W n (.BoolOp .And [x,y,z] pos) env ρ H Q:=fun A s R E hr S er P=>by
 show wpAny _ A (do
  let v ←eval x env
  standAt pos
  let t ←holding [v] (truthy v)
  match BoolOp.And,t with
  |.And,false|.Or,true=>pure v
  |_,_=>boolOp pos .And [eval y env,eval z env]) R E s
 refine wpAny_bind (h A s _ E hr S er fun v u s1 H1 hx a q=>?_)
 obtain⟨t,rfl,q1,q2⟩:=q
 simp only[VR]at hx;subst hx
 refine wpAny_bind (wpAny_standAt (wpAny_bind (wpAny_holding (wpAny_truthy_bool ?_))))
 cases t with
 |false=>exact wpAny_pure (P _ _ _ H1 (by simp only[VR]) a (q1 rfl))
 |true=>exact q2 rfl A s1 _ E hr a.st (er.keep a.kp) fun v u s' H' x c q=>P v u s' H' x (a.trans c) q
def OkC (W:Wd) (n:Nat) (e:Expr) (env:Env) (ρ:Rho) (H:AH) (Q:Bool→AH→Prop):Prop:=
 ∀(A:Around) (s:Shared) (R:Bool→Shared→Prop) (E:Value→Shared→Prop),Room n A→W.St H s.heap→EnvR W env H s.heap ρ→(∀t s' H',Aft W H s H' s'→Q t H'→R t s')→wpAny (model W.prog W.w) A (isTrue e env (eval e env)) R E s
theorem isTrue_plainE (e:Expr) (env:Env) (w:Sem Value) (h:match e with|.UnaryOp .Not ..|.BoolOp ..|.IfExp ..|.Compare ..=>False|_=>True):isTrue e env w=(do
  let v ←w
  standAt e.pos
  holding [v] (truthy v)):=by
 cases e<;>first|rfl|(exact h.elim)|(rename_i op x p;cases op<;>first|rfl|exact h.elim)
theorem okc_plain {e:Expr} {Q:Bool→AH→Prop} (hp:match e with|.UnaryOp .Not ..|.BoolOp ..|.IfExp ..|.Compare ..=>False|_=>True) (h:OkE W n e env ρ H fun v H=>∃t,v=.bool t∧Q t H):OkC W n e env ρ H Q:=fun A s R E hr S er P=>by
 rw[isTrue_plainE e env _ hp]
 refine wpAny_bind (h A s _ E hr S er fun v u s1 H1 hx a q=>?_)
 obtain⟨t,rfl,q⟩:=q
 simp only[VR]at hx;subst hx
 exact wpAny_bind (wpAny_standAt (wpAny_holding (wpAny_truthy_bool (P t s1 H1 a q))))
theorem okc_cmp {o:CmpOp} {op:Cm} {l r:Expr} {pos:Pos} {Q:Bool→AH→Prop} (ho:cmOf o=some op) (hm:behindInMarks o r=false) (h:OkE W n l env ρ H fun x H=>OkE W n r env ρ H fun y H=>CmpR op x y H fun v H=>∃t,v=.bool t∧Q t H):OkC W n (.Compare l [o] [r] pos) env ρ H Q:=fun A s R E hr S er P=>
 wpAny_isTrue_Compare1 (h A s _ E hr S er fun x u s1 H1 hx a q=>q A s1 _ E hr a.st (er.keep a.kp) fun y v s2 H2 hy b q=>cmpR_ok ho hr b.st (hx.kp0 b.kp) hy q fun v u s' H' x c q=>by
  obtain⟨t,rfl,q⟩:=q
  simp only[VR]at x;subst x
  exact wpAny_truthy_bool (P t s' H' ((a.trans b).trans c) q)) hm
theorem okc_not {x:Expr} {pos:Pos} {Q:Bool→AH→Prop} (h:OkC W n x env ρ H fun t H=>Q (!t) H):OkC W n (.UnaryOp .Not x pos) env ρ H Q:=fun A s R E hr S er P=>
 wpAny_isTrue_Not (h A s _ E hr S er fun t s' H' a q=>P (!t) s' H' a q)
theorem okc_and {x:Expr} {ys:List Expr} {pos:Pos} {Q:Bool→AH→Prop} (h:OkC W n x env ρ H fun t H=>(t=false→Q false H)∧(t=true→OkC W n (.BoolOp .And ys pos) env ρ H Q)):OkC W n (.BoolOp .And (x::ys) pos) env ρ H Q:=fun A s R E hr S er P=>
 wpAny_isTrue_BoolOp (wpAny_allTrue_And_cons (h A s _ E hr S er fun t s' H' a q=>by
  cases t with
  |false=>exact P false s' H' a (q.1 rfl)
  |true=>exact q.2 rfl A s' _ E hr a.st (er.keep a.kp) fun t s'' H'' b q=>P t s'' H'' (a.trans b) q))
theorem okc_or {x:Expr} {ys:List Expr} {pos:Pos} {Q:Bool→AH→Prop} (h:OkC W n x env ρ H fun t H=>(t=true→Q true H)∧(t=false→OkC W n (.BoolOp .Or ys pos) env ρ H Q)):OkC W n (.BoolOp .Or (x::ys) pos) env ρ H Q:=fun A s R E hr S er P=>
 wpAny_isTrue_BoolOp (wpAny_allTrue_Or_cons (h A s _ E hr S er fun t s' H' a q=>by
  cases t with
  |true=>exact P true s' H' a (q.1 rfl)
  |false=>exact q.2 rfl A s' _ E hr a.st (er.keep a.kp) fun t s'' H'' b q=>P t s'' H'' (a.trans b) q))
theorem okc_and0 {pos:Pos} {Q:Bool→AH→Prop} (h:Q true H):OkC W n (.BoolOp .And [] pos) env ρ H Q:=fun A s R E hr S er P=>wpAny_isTrue_BoolOp (wpAny_allTrue_And_nil (P true s H (.refl S) h))
theorem okc_or0 {pos:Pos} {Q:Bool→AH→Prop} (h:Q false H):OkC W n (.BoolOp .Or [] pos) env ρ H Q:=fun A s R E hr S er P=>wpAny_isTrue_BoolOp (wpAny_allTrue_Or_nil (P false s H (.refl S) h))
theorem okc_ite {c a b:Expr} {pos:Pos} {Q:Bool→AH→Prop} (h:OkC W n c env ρ H fun t H=>(t=true→OkC W n a env ρ H Q)∧(t=false→OkC W n b env ρ H Q)):OkC W n (.IfExp c a b pos) env ρ H Q:=fun A s R E hr S er P=>by
 rw[arm_isTrue_IfExp]
 refine wpAny_bind (h A s _ E hr S er fun t s' H' x q=>?_)
 cases t with
 |true=>exact q.1 rfl A s' _ E hr x.st (er.keep x.kp) fun t s'' H'' b q=>P t s'' H'' (x.trans b) q
 |false=>exact q.2 rfl A s' _ E hr x.st (er.keep x.kp) fun t s'' H'' b q=>P t s'' H'' (x.trans b) q
theorem ok_ite {c a b:Expr} {pos:Pos} (h:OkC W n c env ρ H fun t H=>(t=true→OkE W n a env ρ H Q)∧(t=false→OkE W n b env ρ H Q)):OkE W n (.IfExp c a b pos) env ρ H Q:=fun A s R E hr S er P=>by
 rw[arm_eval_IfExp]
 refine wpAny_bind (h A s _ E hr S er fun t s' H' x q=>?_)
 cases t with
 |true=>exact q.1 rfl A s' _ E hr x.st (er.keep x.kp) fun v u s'' H'' y b q=>P v u s'' H'' y (x.trans b) q
 |false=>exact q.2 rfl A s' _ E hr x.st (er.keep x.kp) fun v u s'' H'' y b q=>P v u s'' H'' y (x.trans b) q
end
end
section
theorem KR.keys {K:Type} {H:AH} {h:Heap}:∀{es:List (K × AV)} {kvs:List (K × Value)},KR H h es kvs→kvs.map (·.1)=es.map (·.1)
 |[],_,x=>by simp only[KR]at x;subst x;rfl
 |f::fs,_,x=>by
  simp only[KR]at x
  obtain⟨u,r,rfl,p,q⟩:=x
  simp[KR.keys q]
theorem KR.length {K:Type} {H:AH} {h:Heap} {es:List (K × AV)} {kvs:List (K × Value)} (x:KR H h es kvs):kvs.length=es.length:=by
 have:=congrArg List.length x.keys;simpa using this
theorem KR.find {K:Type} [DecidableEq K] {H:AH} {h:Heap}:∀{es:List (K × AV)} {kvs:List (K × Value)} {k:K} {v:AV},KR H h es kvs→es.lookup k=some v→∃u,valueAt kvs k=some u∧VR H h v u
 |[],_,k,v,x,e=>by simp at e
 |(g,w)::fs,_,k,v,x,e=>by
  simp only[KR]at x
  obtain⟨u,r,rfl,p,q⟩:=x
  by_cases hk:k=g
  ·subst hk
   rw[lookup_eq]at e;cases e
   exact⟨u,by simp[valueAt],p⟩
  ·rw[lookup_ne hk]at e
   obtain⟨u',h1,h2⟩:=KR.find q e
   refine⟨u',?_,h2⟩
   have:¬g=k:=fun z=>hk z.symm
   simpa[valueAt,List.find?_cons,this]using h1
theorem KR.miss {K:Type} [DecidableEq K] {H:AH} {h:Heap}:∀{es:List (K × AV)} {kvs:List (K × Value)} {k:K},KR H h es kvs→es.lookup k=none→valueAt kvs k=none
 |[],_,k,x,e=>by simp only[KR]at x;subst x;rfl
 |(g,w)::fs,_,k,x,e=>by
  simp only[KR]at x
  obtain⟨u,r,rfl,p,q⟩:=x
  have hk:k≠g:=fun z=>by subst z;rw[lookup_eq]at e;cases e
  rw[lookup_ne hk]at e
  have:=KR.miss q e
  have hg:¬g=k:=fun z=>hk z.symm
  simpa[valueAt,List.find?_cons,hg]using this
theorem KR.stored {K:Type} [DecidableEq K] {H:AH} {h:Heap} {k:K} {v:AV} {u:Value} (p:VR H h v u):∀{es:List (K × AV)} {kvs:List (K × Value)},KR H h es kvs→(kvs.map (·.1)).Nodup→KR H h (putS es k v) (stored kvs k u)
 |[],_,x,nd=>by simp only[KR]at x;subst x;simp only[putS,PySem.stored,List.any_nil,Bool.false_eq_true,if_false,List.nil_append,KR];exact⟨u,[],rfl,p,rfl⟩
 |(g,w)::fs,_,x,nd=>by
  simp only[KR]at x
  obtain⟨u',r,rfl,p',q⟩:=x
  rw[List.map_cons,List.nodup_cons]at nd
  by_cases hk:g=k
  ·subst hk
   have e:(r.map fun kv=>if kv.1=g then(kv.1,u)else kv)=r:=map_store_of_not_mem r g u nd.1
   simp only[putS,if_true,PySem.stored,List.any_cons,decide_true,Bool.true_or,List.map_cons,e,KR]
   exact⟨u,r,rfl,p,q⟩
  ·have ih:=KR.stored (k:=k) p q nd.2
   simp only[putS,if_neg hk,PySem.stored,List.any_cons,decide_eq_false hk,Bool.false_or,List.map_cons]at ih ⊢
   by_cases ha:r.any (fun kv=>decide (kv.1=k))=true
   ·rw[if_pos ha]at ih ⊢
    simp only[KR]
    exact⟨u',_,rfl,p',ih⟩
   ·rw[if_neg ha]at ih ⊢
    simp only[KR,List.cons_append]
    exact⟨u',_,rfl,p',ih⟩
theorem subscripted_plain {i:Expr} {o v:Value} (h:isSlice i=false):subscripted i false o v=operate [o,v] (getItem o v):=by
 cases i<;>first|rfl|cases h
theorem tail_ok {prog:Program} {w:World} {A:Around} {E:Value→Shared→Prop} {s:Shared} {value slice:Expr} {o i:Value} {T id:String} {Q:Value→Shared→Prop} (hsl:isSlice slice=false) (hT:s.TypeIs o T)
  (hl:typeLookup (.type T) "__getitem__"=pure (some (.builtin id))) (hg:wpAny (model prog w) A (getItem o i) Q E s):wpAny (model prog w) A (subscriptTail value slice o i) Q E s:=tail_any hT hl hg (subscripted_plain hsl)
section
variable {W:Wd} {K:Frag} {n:Nat} {env:Env} {ρ:Rho} {H:AH} {Q:AV→AH→Prop}
theorem seqIndex_cases {k:Int} {m j:Nat} (h:seqIndex? k m=some j):(0≤k∧k.toNat=j∧j<m)∨(k<0∧-(m:Int)≤k∧(k+m).toNat=j∧j<m):=by
 unfold seqIndex? at h
 by_cases hk:k<0
 ·simp only[hk,if_true]at h
  split at h
  ·rename_i q
   simp only[Bool.and_eq_true,decide_eq_true_eq]at q
   cases h
   exact .inr ⟨hk,by omega,rfl,by omega⟩
  ·cases h
 ·simp only[hk,if_false]at h
  split at h
  ·rename_i q
   simp only[Bool.and_eq_true,decide_eq_true_eq]at q
   cases h
   exact .inl ⟨by omega,rfl,by omega⟩
  ·cases h
theorem getI_ok {A:Around} {s:Shared} {R E:Value→Shared→Prop} {v i:Expr} {x y:AV} {o j:Value} (hsl:isSlice i=false) (S:W.St H s.heap) (hx:VR H s.heap x o) (hy:VR H s.heap y j) (q:GetI x y H Q) (P:PostR W H s Q R) :
  wpAny (model W.prog W.w) A (subscriptTail v i o j) R E s:=by
 unfold GetI at q
 split at q
 ·rename_i a' k
  simp only[VR]at hx hy
  subst hx;obtain⟨t,rfl⟩:=hy
  rcases q with⟨f,xs,j,u,e,hlo,hhi,hj,hu,q⟩|⟨f,es,u,e,hu,q⟩
  ·obtain⟨us,m,h1,v1⟩:=list_at S e
   have L:s.heap.IsList a' us:=⟨_,h1,rfl,m,rfl⟩
   obtain⟨w,hw,vr⟩:=v1.get hu
   rw[Array.getElem?_toList]at hw
   have fin:=P u w s H vr (.refl S) q
   rcases seqIndex_cases hj with⟨c1,c2,c3⟩|⟨c1,c2,c3,c4⟩
   ·exact tail_ok hsl L.typeIs slot_list_getitem.lookup (wpAny_getItem_list L c1 (by omega) (by rw[c2];exact hw) fin)
   ·exact tail_ok hsl L.typeIs slot_list_getitem.lookup (wpAny_getItem_list_neg L c1 (by rw[v1.size];exact c2) (by omega) (by rw[v1.size,c3];exact hw) fin)
  ·obtain⟨kvs,D,kr,_⟩:=S.objs _ _ _ e
   obtain⟨w,hw,vr⟩:=kr.find hu
   exact tail_ok hsl D.typeIs slot_dict_getitem.lookup (wpAny_getItem_of (knd:=intKind W.prog W.w) (intKind_is _ _ k t) D.mapOf hw (P u w _ H vr (.tok S _ rfl) q))
 ·rename_i a' k
  simp only[VR]at hx hy
  subst hx;obtain⟨t,rfl⟩:=hy
  obtain⟨f,es,u,e,hu,q⟩:=q
  obtain⟨kvs,D,kr⟩:=S.objs _ _ _ e
  obtain⟨w,hw,vr⟩:=kr.find hu
  exact tail_ok hsl D.typeIs slot_dict_getitem.lookup (wpAny_getItem_of (knd:=strKind W.prog W.w) (strKind_is _ _ k t) D.mapOf hw (P u w _ H vr (.tok S _ rfl) q))
 ·rename_i xs k
  simp only[VR]at hx hy
  obtain⟨a',us,m,rfl,h1,z,v1⟩:=hx;obtain⟨t,rfl⟩:=hy
  obtain⟨j,u,hlo,hhi,hj,hu,q⟩:=q
  obtain⟨w,hw,vr⟩:=v1.get hu
  rw[Array.getElem?_toList]at hw
  have ht:IsT s.heap a' us m:=h1
  exact tail_ok (T:="tuple") hsl ⟨_,h1,rfl⟩ slot_tuple_getitem.lookup (_root_.PySem.P.getItem_tuple ht (by omega) (by omega) (by rw[v1.size];exact hj) hw (P u w s H vr (.refl S) q))
 ·rename_i bs k
  simp only[VR]at hx hy
  obtain⟨t,rfl⟩:=hx;obtain⟨t',rfl⟩:=hy
  obtain⟨h0,hsz,c,hc,q⟩:=q
  have e:bs.toList.toArray=bs:=Array.toArray_toList
  have hlt:k.toNat<bs.size:=(Array.getElem?_eq_some_iff.mp hc).1
  have g:wpAny (model W.prog W.w) A (getItem (.bytes bs.toList.toArray t) (.int k t')) R E s:=by
   refine getItem_bytes (l:=bs.toList) (by simp;unfold cap at hsz;omega) h0 (by simp;omega) ?_
   have:(bs.toList.getD k.toNat 0)=c:=by rw[List.getD_eq_getElem?_getD,Array.getElem?_toList,hc];rfl
   rw[this]
   exact P _ _ _ H (by simp only[VR];exact⟨_,rfl⟩) (.tok S _ rfl) q
  rw[e]at g
  exact tail_ok hsl (typeIs_bytes _ _ _) FB.slot_bytes_getitem.lookup g
 ·exact q.elim
theorem ok_sub {v i:Expr} {pos:Pos} (hsl:isSlice i=false) (h:OkE W n v env ρ H fun x H=>OkE W n i env ρ H fun y H=>GetI x y H Q):OkE W n (.Subscript v i pos) env ρ H Q:=fun A s R E hr S er P=>
 Subscript_ (h A s _ E hr S er fun x u s1 H1 hx a q=>q A s1 _ E hr a.st (er.keep a.kp) fun y j s2 H2 hy b q=>getI_ok hsl b.st (hx.kp0 b.kp) hy q fun v u s' H' x c q=>P v u s' H' x ((a.trans b).trans c) q)
end
end
section
section
variable {W:Wd} {K:Frag} {n:Nat} {env:Env} {ρ:Rho} {H:AH} {Q:AV→AH→Prop}
def OkO (W:Wd) (n:Nat) (e:Option Expr) (env:Env) (ρ:Rho) (H:AH) (Q:AV→AH→Prop):Prop:=
 ∀(A:Around) (s:Shared) (R E:Value→Shared→Prop),Room n A→W.St H s.heap→EnvR W env H s.heap ρ→PostR W H s Q R→wpAny (model W.prog W.w) A (evalPart e env) R E s
theorem okO_none (q:Q .none H):OkO W n none env ρ H Q:=fun A s R E hr S er P=>by rw[evalPart_none];exact wpAny_pure (P .none _ s H (by simp only[VR]) (.refl S) q)
theorem okO_some {e:Expr} (h:OkE W n e env ρ H Q):OkO W n (some e) env ρ H Q:=h
theorem isPart_of {h:Heap} {l:AV} {i:Option Int} {u:Value} (e:endI l=some i) (x:VR H h l u):IsPart u i:=by
 cases l<;>simp only[endI,reduceCtorEq,Option.some.injEq]at e
 ·subst e;simp only[VR]at x;subst x;exact .none
 ·simp only[VR]at x;obtain⟨t,rfl⟩:=x
  split at e
  ·cases e;exact .int _ _
  ·cases e
theorem letTemp {base:Expr} {o r:Value} {A:Around} {s:Shared} {E:Value→Shared→Prop} {R:Unit→Shared→Prop} (h:R () s):wpAny (model W.prog W.w) A (letTemporaryGo base o r) R E s:=wpAny_letTemporaryGo h
theorem subscript_tail {value slice:Expr} {o i:Value} {T id:String} {A:Around} {s:Shared} {R E:Value→Shared→Prop} {ops:List Value} (hT:s.TypeIs o T) (hl:typeLookup (.type T) "__getitem__"=pure (some (.builtin id)))
  (hs:subscripted slice false o i=operate ops (getItem o i)) (h:wpAny (model W.prog W.w) A (getItem o i) R E s):wpAny (model W.prog W.w) A (subscriptTail value slice o i) R E s:=tail_any hT hl h hs
theorem ok_slice {v:Expr} {lo hi:Option Expr} {p pos:Pos} (h:OkE W n v env ρ H fun x H=>OkO W n lo env ρ H fun l H=>OkO W n hi env ρ H fun h H=>∃a f xs i j,x=.ref a∧H a=some (f,.list xs)∧xs.length≤cap ∧
   endI l=some i∧endI h=some j∧∀r,H r=none→Q (.ref r) (H.set r (.list (cut xs i j)))):OkE W n (.Subscript v (.Slice lo hi none p) pos) env ρ H Q:=fun A s R E hr S er P=>by
 refine Subscript_ (h A s _ E hr S er fun x u s1 H1 hx a q=>wpAny_Slice (q A s1 _ E hr a.st (er.keep a.kp) fun l ul s2 H2 hl b q=>q A s2 _ E hr b.st ((er.keep a.kp).keep b.kp) fun m um s3 H3 hm c q=>?_))
 rw[evalPart_none]
 refine wpAny_pure ?_
 obtain⟨a',f,xs,i,j,rfl,e,hlen,e1,e2,q⟩:=q
 simp only[VR]at hx;subst hx
 obtain⟨us,k,h1,v1⟩:=list_at c.st e
 have gr:∀b o,s3.heap.get? b=some o→(s3.heap.push {cls:=.type "slice",data:=.fields #[ul,um,.none]}).get? b=some o:=fun b o e=>Heap.get?_push_of_some _ e
 have d:Aft W H3 s3 H3 {s3 with heap:=s3.heap.push {cls:=.type "slice",data:=.fields #[ul,um,.none]}}:=.grow c.st ⟨rfl,rfl⟩ gr
 have L:(s3.heap.push {cls:=.type "slice",data:=.fields #[ul,um,.none]}).IsList a' us:=⟨_,gr _ _ h1,rfl,k,rfl⟩
 have vc:VRs H3 s3.heap (cut xs i j) (slicePick us i j none).toList:=by
  rw[slicePick_plain]
  unfold cut
  rw[v1.size]
  exact(v1.drop _).take _
 refine subscript_tail (T:="list") L.typeIs slot_list_getitem.lookup rfl (wpAny_getItem_list_slice L (Heap.IsSliceOf.new ..) (isPart_of e1 (hl.kp0 c.kp)) (isPart_of e2 hm) .none (by simp) ?_ (by rw[v1.size];exact cap_le hlen))
 obtain⟨hn,g⟩:=Aft.newList (us:=slicePick us i j none) (k:=0) d.st (vc.keep' fun v u x=>x.kp0 d.kp)
 exact P _ _ _ _ (by simp only[VR]) ((((a.trans b).trans c).trans d).trans g) (q _ hn)
theorem ok_rev {v:Expr} {q1 q2 p pos:Pos} {k:Nat} (h:OkE W n v env ρ H fun x H=>∃l f xs,x=.ref l∧H l=some (f,.list xs)∧xs.length≤cap∧∀r,H r=none→Q (.ref r) (H.set r (.list xs.reverse))) :
  OkE W n (.Subscript v (.Slice none none (some (.UnaryOp .USub (.Constant (.int 1) k q1) q2)) p) pos) env ρ H Q:=fun A s R E hr S er P=>by
 refine Subscript_ (h A s _ E hr S er fun x u s1 H1 hx a q=>wpAny_Slice ?_)
 rw[evalPart_none]
 refine wpAny_pure (wpAny_pure ?_)
 rw[evalPart_some]
 refine wpAny_UnaryOp (wpAny_Constant_int (neg_int ?_))
 obtain⟨a',f,xs,rfl,e,hlen,q⟩:=q
 simp only[VR]at hx;subst hx
 obtain⟨us,m,h1,v1⟩:=list_at a.st e
 generalize hst:(Value.int (-1) (s1.toks+1))=st
 have gr:∀b o,s1.heap.get? b=some o→(s1.heap.push {cls:=.type "slice",data:=.fields #[.none,.none,st]}).get? b=some o:=fun b o e=>Heap.get?_push_of_some _ e
 have d:Aft W H1 s1 H1 {s1 with heap:=s1.heap.push {cls:=.type "slice",data:=.fields #[.none,.none,st]},toks:=s1.toks+1+1}:=.grow a.st ⟨rfl,rfl⟩ gr
 have L:(s1.heap.push {cls:=.type "slice",data:=.fields #[.none,.none,st]}).IsList a' us:=⟨_,gr _ _ h1,rfl,m,rfl⟩
 have vc:VRs H1 s1.heap xs.reverse (slicePick us none none (some (-1))).toList:=by
  rw[krv_pick];exact v1.reverse
 refine subscript_tail (T:="list") L.typeIs slot_list_getitem.lookup rfl (wpAny_getItem_list_slice L (Heap.IsSliceOf.new ..) .none .none (by rw[←hst];exact .int (-1) _) (by simp) ?_ (by rw[v1.size];exact cap_le hlen))
 obtain⟨hn,g⟩:=Aft.newList (us:=slicePick us none none (some (-1))) (k:=0) d.st (vc.keep' fun v u x=>x.kp0 d.kp)
 exact P _ _ _ _ (by simp only[VR]) ((a.trans d).trans g) (q _ hn)
end
end
section
section
variable {W:Wd} {K:Frag} {n:Nat} {env:Env} {ρ:Rho} {H:AH} {Q:AV→AH→Prop}
def OkL (W:Wd) (n:Nat):List Expr→Env→Rho→AH→(List AV→AH→Prop)→Prop
 |[],env,ρ,H,Q=>Q [] H
 |e::es,env,ρ,H,Q=>OkE W n e env ρ H fun v H'=>OkL W n es env ρ H' fun vs H''=>Q (v::vs) H''
theorem OkE.mono {e:Expr} {Q Q':AV→AH→Prop} (h:OkE W n e env ρ H Q) (k:∀v H',Q v H'→Q' v H'):OkE W n e env ρ H Q':=fun A s R E hr S er P=>h A s R E hr S er fun v u s' H' x a q=>P v u s' H' x a (k v H' q)
theorem OkL.es:∀{es:List Expr} {H:AH} {Q:List AV→AH→Prop},noStars es=true→OkL W n es env ρ H Q→OkEs W n es env ρ H Q
 |[],_,_,_,h=>OkEs.nil h
 |e::es,_,_,hst,h=>by
  simp only[noStars,List.all_cons,Bool.and_eq_true,Bool.not_eq_true']at hst
  exact OkEs.cons hst.1 (OkE.mono h fun v H' q=>OkL.es hst.2 q)
def flatKV:List (Option Expr)→List Expr→Option (List Expr)
 |[],[]=>some []
 |some k::ks,e::r=>(flatKV ks r).map fun f=>k::e::f
 |_,_=>none
def pairsOf (env:Env) (pos:Pos):List (Option Expr)→List Expr→List (Sem Value × Sem Value)
 |some k::ks,e::r=>(eval k env,do let x ←eval e env;standAt pos;pure x)::pairsOf env pos ks r
 |_,_=>[]
theorem pairsOf_shape {env:Env} {pos:Pos}:∀{ks:List (Option Expr)} {es:List Expr} {f:List Expr},flatKV ks es=some f→
  (evalEachOpt ks env).zip ((evalEach es env).map fun v=>do let x ←v;standAt pos;pure x)=(pairsOf env pos ks es).map fun p=>(some p.1,p.2)
 |[],[],_,_=>rfl
 |some k::ks,e::r,f,h=>by
  simp only[flatKV,Option.map_eq_some_iff]at h
  obtain⟨f',h',rfl⟩:=h
  have ih:=pairsOf_shape (env:=env) (pos:=pos) h'
  simp only[evalEachOpt,evalOpt,evalEach,List.map_cons,List.zip_cons_cons,pairsOf,ih]
 |[],e::r,_,h=>by simp[flatKV]at h
 |none::ks,es,_,h=>by simp[flatKV]at h
 |some k::ks,[],_,h=>by simp[flatKV]at h
theorem pairsOf_length {env:Env} {pos:Pos}:∀{ks:List (Option Expr)} {es:List Expr} {f:List Expr},flatKV ks es=some f→(pairsOf env pos ks es).length=ks.length
 |[],[],_,_=>rfl
 |some k::ks,e::r,f,h=>by
  simp only[flatKV,Option.map_eq_some_iff]at h
  obtain⟨f',h',rfl⟩:=h
  simp[pairsOf,pairsOf_length h']
 |[],e::r,_,h=>by simp[flatKV]at h
 |none::ks,es,_,h=>by simp[flatKV]at h
 |some k::ks,[],_,h=>by simp[flatKV]at h
theorem evalPairs_ok {pos:Pos}:∀{ks:List (Option Expr)} {es f:List Expr} {H:AH} {Q:List AV→AH→Prop},flatKV ks es=some f→OkL W n f env ρ H Q→
  ∀(A:Around) (s:Shared) (R:List (Value × Value)→Shared→Prop) (E:Value→Shared→Prop),Room n A→W.St H s.heap→EnvR W env H s.heap ρ→
   (∀fs us s' H',VRs H' s'.heap fs (us.flatMap fun p=>[p.1,p.2])→Aft W H s H' s'→Q fs H'→R us s')→wpAny (model W.prog W.w) A (evalPairs (pairsOf env pos ks es)) R E s
 |[],[],f,H,Q,h,q,A,s,R,E,hr,S,er,P=>by
  simp only[flatKV,Option.some.injEq]at h;subst h
  exact evalPairs_nil (P [] [] s H (by simp[VRs]) (.refl S) q)
 |some k::ks,e::r,f,H,Q,h,q,A,s,R,E,hr,S,er,P=>by
  simp only[flatKV,Option.map_eq_some_iff]at h
  obtain⟨f',h',rfl⟩:=h
  simp only[OkL]at q
  refine evalPairs_cons (q A s _ E hr S er fun v u s1 H1 x a q1=>?_)
  refine wpAny_bind (q1 A s1 _ E hr a.st (er.keep a.kp) fun v' u' s2 H2 x' b q2=>wpAny_bind (wpAny_standAt (wpAny_pure ?_)))
  refine evalPairs_ok h' q2 A s2 _ E hr b.st ((er.keep a.kp).keep b.kp) fun fs us s3 H3 y c q3=>P (v::v'::fs) ((u,u')::us) s3 H3 ?_ ((a.trans b).trans c) q3
  simp only[List.flatMap_cons,List.cons_append,List.nil_append,VRs]
  exact⟨u,_,rfl,(x.kp0 b.kp).kp0 c.kp,u',_,rfl,x'.kp0 c.kp,y⟩
 |[],e::r,_,_,_,h,_,_,_,_,_,_,_,_,_=>by simp[flatKV]at h
 |none::ks,es,_,_,_,h,_,_,_,_,_,_,_,_,_=>by simp[flatKV]at h
 |some k::ks,[],_,_,_,h,_,_,_,_,_,_,_,_,_=>by simp[flatKV]at h
theorem nodup_stored {Kt:Type} [DecidableEq Kt] {kvs:List (Kt × Value)} (nd:(kvs.map (·.1)).Nodup) (k:Kt) (u:Value):((PySem.stored kvs k u).map (·.1)).Nodup:=by
 unfold PySem.stored
 by_cases h:kvs.any (fun kv=>decide (kv.1=k))=true
 ·rw[if_pos h,List.map_map]
  have:((fun x:Kt × Value=>x.1) ∘ fun kv=>if kv.1=k then(kv.1,u)else kv)=fun x=>x.1:=by
   funext kv;simp only[Function.comp];split<;>rfl
  rw[this];exact nd
 ·rw[if_neg h,List.map_append,List.nodup_append]
  refine⟨nd,by simp,fun a ha b hb=>?_⟩
  simp only[List.map_cons,List.map_nil,List.mem_singleton]at hb
  subst hb
  rintro rfl
  simp only[List.any_eq_true,decide_eq_true_eq,not_exists,not_and]at h
  obtain⟨kv,hk,e⟩:=List.mem_map.mp ha
  exact h kv hk e
theorem merged_kr {Kt:Type} [DecidableEq Kt] {h:Heap}:∀{es:List (Kt × AV)} {kvs:List (Kt × Value)} {acc:List (Kt × AV)} {acc':List (Kt × Value)},KR H h es kvs→KR H h acc acc'→(acc'.map (·.1)).Nodup→KR H h (es.foldl (fun a p=>putS a p.1 p.2) acc) (merged acc' kvs)
 |[],kvs,acc,acc',x,y,nd=>by simp only[KR]at x;subst x;simpa[merged]using y
 |(k,v)::es,kvs,acc,acc',x,y,nd=>by
  simp only[KR]at x
  obtain⟨u,r,rfl,p,q⟩:=x
  have:=merged_kr q (KR.stored (k:=k) p y nd) (nodup_stored nd k u)
  simpa[merged]using this
theorem dict_ok (G:Gd W K) {Kt:Type} [DecidableEq Kt] {knd:KeyKind W.prog W.w Kt} {mk:List (Kt × AV)→AO} {ks:List (Option Expr)} {es f:List Expr} {pos:Pos} (hf:flatKV ks es=some f) (h0:ks≠[]) (hlen:ks.length≤10)
  (hor:∀(H:AH) (h:Heap) (a:Addr),(a==sysModules)=false→∀es kvs,h.DictOf knd a kvs→KR H h es kvs→OR W.prog W.w H h a (mk es)) (hmk:∀l C dx fs,mk l≠.inst C dx fs)
  (h:OkL W n f env ρ H fun fs H=>∃es:List (Kt × AV),(∀hh us,VRs H hh fs (us.flatMap fun p=>[p.1,p.2])→∃kvs,Carries knd us kvs∧KR H hh es kvs)∧∀r,H r=none→Q (.ref r) (H.set r (mk (es.foldl (fun es p=>putS es p.1 p.2) [])))) :
  OkE W n (.Dict ks es pos) env ρ H Q:=fun A s R E hr S er P=>by
 refine wpAny_Dict_pairs (knd:=knd) (pairsOf_shape hf) (by
  intro e
  have:=pairsOf_length (env:=env) (pos:=pos) hf
  rw[e]at this
  exact h0 (List.length_eq_zero_iff.mp this.symm)) (by rw[pairsOf_length hf];omega) ?_
 have gr:∀b o,s.heap.get? b=some o→(s.heap.push {cls:=.type "dict",data:=.dict #[]}).get? b=some o:=fun b o e=>Heap.get?_push_of_some _ e
 have a:Aft W H s H {s with heap:=s.heap.push {cls:=.type "dict",data:=.dict #[]}}:=.grow S ⟨rfl,rfl⟩ gr
 have hD:=S.none_of_ge (Nat.le_refl s.heap.objs.size)
 have hsys:(s.heap.objs.size==sysModules)=false:=by
  obtain⟨b,o,lt,e⟩:=G.sysm
  have:=Heap.lt_size (S.base _ _ e).1
  exact beq_false_of_ne (Nat.ne_of_gt (Nat.lt_trans lt this))
 have hB:W.B.get? s.heap.objs.size=none:=by
  cases e:W.B.get? s.heap.objs.size with
  |none=>rfl
  |some o=>exact absurd (Heap.lt_size (S.base _ _ e).1) (Nat.lt_irrefl _)
 refine evalPairs_ok hf h A _ _ E hr a.st (er.keep a.kp) fun fs us s1 H1 x b q=>?_
 obtain⟨eo,hcar,q⟩:=q
 obtain⟨kvs,hc,kr⟩:=hcar s1.heap us x
 have g0:(s.heap.push {cls:=.type "dict",data:=.dict #[]}).get? s.heap.objs.size=some {cls:=.type "dict",data:=.dict #[]}:=Heap.get?_push_size _ rfl
 have g1:=b.kp.get g0 hD
 refine⟨kvs,hc,⟨_,#[],0,g1.1,⟨rfl,rfl,rfl⟩,rfl,fun _ he=>by simp at he,.nil,by simp⟩,fun h' hm hs=>?_⟩
 have c:W.St H1 h'∧Kp (fun y=>y=s.heap.objs.size) H1 s1.heap H1 h':=b.st.vars (X:=fun y=>y=s.heap.objs.size) (fun y hy=>by subst hy;exact⟨g1.2,hB⟩)
  (fun y us m e hy=>by subst hy;rw[g1.1]at e;injection e with e;injection e with e;exact dict_ne_tuple e) fun y o e=>by
   by_cases hy:y=s.heap.objs.size
   ·subst hy
    obtain⟨o',ds,ep,e',_⟩:=hm
    exact⟨o',e',fun z=>absurd rfl z⟩
   ·exact⟨o,(hs.2 y hy).trans e,fun _=>rfl⟩
 have so:SeqOut (fun y=>y=s.heap.objs.size) s1.heap:=fun y us m e hy=>by subst hy;rw[g1.1]at e;injection e with e;injection e with e;exact dict_ne_tuple e
 have d:W.St (H1.set s.heap.objs.size (mk (eo.foldl (fun es p=>putS es p.1 p.2) []))) h':=c.1.take g1.2 hB (fun us m e=>by
   obtain⟨o',ds,ep,e',x',_⟩:=hm
   rw[e']at e;cases e;exact dict_ne_tuple x'.1.symm) (fun kv=>hor _ _ _ hsys _ _ hm (by
   have:=merged_kr (kr.keep' fun v u y=>kv v u (y.kp c.2 so)) (acc:=[]) (acc':=[]) (by simp only[KR]) (by simp)
   exact this)) (hmk _)
 refine P (.ref _) _ _ _ (by simp only[VR]) ⟨d,fun y o e=>?_,⟨b.same.os,b.same.gens⟩⟩ (q _ g1.2)
 have hy:y≠s.heap.objs.size:=Nat.ne_of_lt (Heap.lt_size e)
 have e2:=(a.kp.trans b.kp) y o e
 refine⟨fun z=>?_,fun z zz=>?_,let ⟨o',e'⟩:=e2.2.2;⟨o',(hs.2 y hy).trans e'⟩⟩
 ·obtain⟨z',o',e',k⟩:=e2.1 z
  refine⟨(AH.set_ne H1 _ hy).trans z',o',(hs.2 y hy).trans e',k⟩
 ·obtain⟨z',e'⟩:=e2.2.1 z zz
  exact⟨(AH.set_ne H1 _ hy).trans z',(hs.2 y hy).trans e'⟩
theorem ok_dI (G:Gd W K) {ks:List (Option Expr)} {es f:List Expr} {pos:Pos} (hf:flatKV ks es=some f) (h0:ks≠[]) (hlen:ks.length≤10)
  (h:OkL W n f env ρ H fun vs H=>∃ps:List (Int × AV),vs=ps.flatMap (fun p=>[AV.int p.1,p.2])∧ps.length≤10∧∀r,H r=none→Q (.ref r) (H.set r (.dI (ps.foldl (fun es p=>putS es p.1 p.2) [])))):OkE W n (.Dict ks es pos) env ρ H Q:=by
 refine dict_ok G (knd:=intKind W.prog W.w) (mk:=.dI) hf h0 hlen (fun H h a ns es kvs d k=>⟨kvs,d,k,ns⟩) (fun _ _ _ _ h=>by cases h) ?_
 have gen:∀(f:List Expr) (H:AH) (Q Q':List AV→AH→Prop),(∀vs H,Q vs H→Q' vs H)→OkL W n f env ρ H Q→OkL W n f env ρ H Q':=by
  intro f
  induction f with
  |nil=>intro H Q Q' k h;exact k _ _ h
  |cons e f ih=>intro H Q Q' k h;exact OkE.mono h fun v H' q=>ih H' _ _ (fun vs H'' q=>k _ _ q) q
 refine gen f H _ _ (fun vs H q=>?_) h
 obtain⟨ps,rfl,q0,q⟩:=q
 refine⟨ps,fun hh us x=>?_,q⟩
 clear q q0
 induction ps generalizing us with
 |nil=>
  cases us with
  |nil=>exact⟨[],trivial,by simp only[KR]⟩
  |cons p us=>simp[VRs]at x
 |cons p ps ih=>
  cases us with
  |nil=>simp[VRs]at x
  |cons q us=>
   simp only[List.flatMap_cons,List.cons_append,List.nil_append,VRs,VR]at x
   obtain⟨u,r,e1,⟨t,rfl⟩,u',r',rfl,y,z⟩:=x
   injection e1 with e1 e2
   injection e2 with e2 e3
   subst e3
   obtain⟨kvs,c,k⟩:=ih us z
   refine⟨(p.1,q.2)::kvs,⟨by rw[e1];exact intKind_is _ _ _ _,rfl,c⟩,?_⟩
   simp only[KR]
   exact⟨q.2,kvs,rfl,e2▸y,k⟩
theorem flatKV_str:∀{ks:List (Option Expr)} {es:List Expr} {ss:List Str},strKeys ks=some ss→ss.length=es.length→∃f,flatKV ks es=some f∧ks.length=ss.length ∧
  ∀{H:AH} {Q:List AV→AH→Prop},OkL W n es env ρ H (fun vs H=>Q ((ss.zip vs).flatMap fun p=>[AV.str p.1,p.2]) H)→OkL W n f env ρ H Q
 |[],[],ss,h,hl=>by simp only[strKeys,Option.some.injEq]at h;subst h;exact⟨[],rfl,rfl,fun h=>h⟩
 |[],e::es,ss,h,hl=>by simp only[strKeys,Option.some.injEq]at h;subst h;cases hl
 |some (.Constant (.str s) a b)::ks,[],ss,h,hl=>by
  simp only[strKeys,Option.map_eq_some_iff]at h
  obtain⟨s',_,rfl⟩:=h;cases hl
 |some (.Constant (.str s) a b)::ks,e::es,ss,h,hl=>by
  simp only[strKeys,Option.map_eq_some_iff]at h
  obtain⟨s',h',rfl⟩:=h
  obtain⟨f,e1,e2,k⟩:=flatKV_str (es:=es) h' (by simpa using hl)
  refine⟨.Constant (.str s) a b::e::f,by simp[flatKV,e1],by simp[e2],fun {H Q} q=>?_⟩
  simp only[OkL]at q ⊢
  refine ok_k (v:=.str s) rfl (OkE.mono q fun v H' q=>k ?_)
  exact q
 |none::ks,es,ss,h,hl=>by simp[strKeys]at h
 |some (.Constant .none a b)::ks,es,ss,h,hl=>by simp[strKeys]at h
 |some (.Constant (.bool _) a b)::ks,es,ss,h,hl=>by simp[strKeys]at h
 |some (.Constant (.int _) a b)::ks,es,ss,h,hl=>by simp[strKeys]at h
 |some (.Constant (.float _) a b)::ks,es,ss,h,hl=>by simp[strKeys]at h
 |some (.Constant (.complex ..) a b)::ks,es,ss,h,hl=>by simp[strKeys]at h
 |some (.Constant (.bytes _) a b)::ks,es,ss,h,hl=>by simp[strKeys]at h
 |some (.Constant .ellipsis a b)::ks,es,ss,h,hl=>by simp[strKeys]at h
 |some (.Name ..)::ks,es,ss,h,hl=>by simp[strKeys]at h
 |some (.Attribute ..)::ks,es,ss,h,hl=>by simp[strKeys]at h
 |some (.BoolOp ..)::ks,es,ss,h,hl=>by simp[strKeys]at h
 |some (.NamedExpr ..)::ks,es,ss,h,hl=>by simp[strKeys]at h
 |some (.BinOp ..)::ks,es,ss,h,hl=>by simp[strKeys]at h
 |some (.UnaryOp ..)::ks,es,ss,h,hl=>by simp[strKeys]at h
 |some (.Lambda ..)::ks,es,ss,h,hl=>by simp[strKeys]at h
 |some (.IfExp ..)::ks,es,ss,h,hl=>by simp[strKeys]at h
 |some (.Dict ..)::ks,es,ss,h,hl=>by simp[strKeys]at h
 |some (.Set ..)::ks,es,ss,h,hl=>by simp[strKeys]at h
 |some (.ListComp ..)::ks,es,ss,h,hl=>by simp[strKeys]at h
 |some (.SetComp ..)::ks,es,ss,h,hl=>by simp[strKeys]at h
 |some (.DictComp ..)::ks,es,ss,h,hl=>by simp[strKeys]at h
 |some (.GeneratorExp ..)::ks,es,ss,h,hl=>by simp[strKeys]at h
 |some (.Await ..)::ks,es,ss,h,hl=>by simp[strKeys]at h
 |some (.Yield ..)::ks,es,ss,h,hl=>by simp[strKeys]at h
 |some (.YieldFrom ..)::ks,es,ss,h,hl=>by simp[strKeys]at h
 |some (.Compare ..)::ks,es,ss,h,hl=>by simp[strKeys]at h
 |some (.Call ..)::ks,es,ss,h,hl=>by simp[strKeys]at h
 |some (.FormattedValue ..)::ks,es,ss,h,hl=>by simp[strKeys]at h
 |some (.JoinedStr ..)::ks,es,ss,h,hl=>by simp[strKeys]at h
 |some (.Subscript ..)::ks,es,ss,h,hl=>by simp[strKeys]at h
 |some (.Starred ..)::ks,es,ss,h,hl=>by simp[strKeys]at h
 |some (.List ..)::ks,es,ss,h,hl=>by simp[strKeys]at h
 |some (.Tuple ..)::ks,es,ss,h,hl=>by simp[strKeys]at h
 |some (.Slice ..)::ks,es,ss,h,hl=>by simp[strKeys]at h
theorem ok_dS (G:Gd W K) {ks:List (Option Expr)} {es:List Expr} {ss:List Str} {pos:Pos} (hk:strKeys ks=some ss) (h0:ss≠[]) (hl:ss.length=es.length) (hlen:ss.length≤10)
  (h:OkL W n es env ρ H fun vs H=>∀r,H r=none→Q (.ref r) (H.set r (.dS ((ss.zip vs).foldl (fun es p=>putS es p.1 p.2) [])))):OkE W n (.Dict ks es pos) env ρ H Q:=by
 obtain⟨f,e1,e2,k⟩:=flatKV_str (W:=W) (n:=n) (env:=env) (ρ:=ρ) hk hl
 refine dict_ok G (knd:=strKind W.prog W.w) (mk:=.dS) e1 (by intro z;rw[z]at e2;exact h0 (List.length_eq_zero_iff.mp e2.symm)) (by omega) (fun H h a _ es kvs d k=>⟨kvs,d,k⟩) (fun _ _ _ _ h=>by cases h) (k ?_)
 have gen:∀(f:List Expr) (H:AH) (Q Q':List AV→AH→Prop),(∀vs H,Q vs H→Q' vs H)→OkL W n f env ρ H Q→OkL W n f env ρ H Q':=by
  intro f
  induction f with
  |nil=>intro H Q Q' k h;exact k _ _ h
  |cons e f ih=>intro H Q Q' k h;exact OkE.mono h fun v H' q=>ih H' _ _ (fun vs H'' q=>k _ _ q) q
 refine gen es H _ _ (fun vs H q=>?_) h
 refine⟨ss.zip vs,fun hh us x=>?_,q⟩
 generalize ss.zip vs=ps at x
 clear q
 induction ps generalizing us with
 |nil=>
  cases us with
  |nil=>exact⟨[],trivial,by simp only[KR]⟩
  |cons p us=>simp[VRs]at x
 |cons p ps ih=>
  cases us with
  |nil=>simp[VRs]at x
  |cons q us=>
   simp only[List.flatMap_cons,List.cons_append,List.nil_append,VRs,VR]at x
   obtain⟨u,r,e1,⟨t,rfl⟩,u',r',rfl,y,z⟩:=x
   injection e1 with e1 e2
   injection e2 with e2 e3
   subst e3
   obtain⟨kvs,c,k⟩:=ih us z
   refine⟨(p.1,q.2)::kvs,⟨by rw[e1];exact strKind_is _ _ _ _,rfl,c⟩,?_⟩
   simp only[KR]
   exact⟨q.2,kvs,rfl,e2▸y,k⟩
end
end
section
def bmId:BM→String
 |.append=>"list.append"
 |.extend=>"list.extend"
 |.pop=>"list.pop"
 |.index=>"list.index"
 |.get=>"dict.get"
 |.join=>"bytes.join"
def bmName:BM→Str
 |.append=>Str.ofString "append"
 |.extend=>Str.ofString "extend"
 |.pop=>Str.ofString "pop"
 |.index=>Str.ofString "index"
 |.get=>Str.ofString "get"
 |.join=>Str.ofString "join"
theorem bmeth_name {x:Str} {m:BM} (h:bmeth.lookup x=some m):x=bmName m:=by
 have key:∀l:List (Str × BM),(∀p∈l,p.1=bmName p.2)→l.lookup x=some m→x=bmName m:=by
  intro l
  induction l with
  |nil=>intro _ h;simp at h
  |cons p l ih=>
   intro hp h
   obtain⟨y,b⟩:=p
   by_cases hy:x=y
   ·subst hy;rw[lookup_eq]at h;cases h;exact hp _ (.head _)
   ·rw[lookup_ne hy]at h;exact ih (fun q hq=>hp q (.tail _ hq)) h
 exact key bmeth (by intro p hp;simp only[bmeth,List.map_cons,List.map_nil,List.mem_cons,List.not_mem_nil,or_false]at hp;rcases hp with h|h|h|h|h|h<;>subst h<;>rfl) h
theorem slot_bytes_join:Slot "bytes" "join" "bytes.join":=
 .of (owner:="bytes") (n:="join") (by rw[typeLookup_type,builtinLookup_eq_fast];kernel_rfl) (by decide +kernel) (by decide +kernel) (by decide +kernel)
  (by first|exact .inl (by decide +kernel)|exact .inr (by decide +kernel)) (by rw[isSubtype_type];kernel_rfl)
theorem type_bytes_join:typeOf (.builtin "bytes.join")=pure (.type "method_descriptor"):=by show builtinType _=_;rw[builtinType_eq_fast];kernel_rfl
theorem entry_bytes_join:entryFor table "bytes.join"=some Builtin.«bytes.join»:=entryFor_of_tree (by kernel_rfl)
theorem args_bytes_join_2 (a b:Value):argsOk "bytes.join" ⟨[a,b],[]⟩:=by
 unfold argsOk;rw[signature?_of (id:="bytes.join") (n:=['n','i','o','j']) (o:=['s','e','t','y','b']) (by kernel_rfl) FB.owner_bytes];kernel_rfl
section
variable {W:Wd} {K:Frag} {n:Nat} {env:Env} {ρ:Rho} {H:AH} {Q:AV→AH→Prop}
theorem bm_get {A:Around} {s:Shared} {E:Value→Shared→Prop} {m:BM} {v:AV} {u:Value} {pl:Sem Bool} {R:Value × List Value→Shared→Prop} (S:W.St H s.heap) (hx:VR H s.heap v u) (q:BMRec m v H)
  (h:R (.builtin (bmId m),[u]) s):wpAny (model W.prog W.w) A (getMethod u (bmName m) pl) R E s:=by
 have li:∀a f xs,v=.ref a→H a=some (f,.list xs)→s.TypeIs u "list"∧∀b,u=.ref b→∃o,s.heap.get? b=some o∧o.dict=none:=by
  intro a f xs e1 e2
  subst e1;simp only[VR]at hx;subst hx
  obtain⟨us,k,h1,v1⟩:=list_at S e2
  exact⟨⟨_,h1,rfl⟩,fun b e=>by cases e;exact⟨_,h1,rfl⟩⟩
 cases m with
 |append=>obtain⟨a,f,xs,e1,e2⟩:=q;exact getMethod_builtin (li a f xs e1 e2).1 F.plainAttrs_list F.slot_list_append F.type_list_append (li a f xs e1 e2).2 h
 |extend=>obtain⟨a,f,xs,e1,e2⟩:=q;exact getMethod_builtin (li a f xs e1 e2).1 F.plainAttrs_list F.slot_list_extend F.type_list_extend (li a f xs e1 e2).2 h
 |pop=>obtain⟨a,f,xs,e1,e2⟩:=q;exact getMethod_builtin (li a f xs e1 e2).1 F.plainAttrs_list F.slot_list_pop F.type_list_pop (li a f xs e1 e2).2 h
 |index=>obtain⟨a,f,xs,e1,e2⟩:=q;exact getMethod_builtin (li a f xs e1 e2).1 F.plainAttrs_list F.slot_list_index F.type_list_index (li a f xs e1 e2).2 h
 |get=>
  obtain⟨a,f,es,e1,e2⟩:=q
  subst e1;simp only[VR]at hx;subst hx
  obtain⟨kvs,D,kr,_⟩:=S.objs _ _ _ e2
  obtain⟨o,ds,ep,ho,hx,_⟩:=id D
  exact getMethod_builtin D.typeIs F.plainAttrs_dict F.slot_dict_get F.type_dict_get (fun b e=>by cases e;exact⟨o,ho,hx.2.1⟩) h
 |join=>
  obtain⟨b,rfl⟩:=q
  simp only[VR]at hx;obtain⟨t,rfl⟩:=hx
  exact getMethod_builtin (typeIs_bytes _ _ _) FB.plainAttrs_bytes slot_bytes_join type_bytes_join (fun b e=>by cases e) h
theorem aft_upd {s:Shared} {a:Addr} {xs ys:List AV} {us:Array Value} {k:Nat} {f:Array Value→Array Value} (S:W.St H s.heap) (e:H a=some (false,.list xs)) (ho:IsL s.heap a us k)
  (hy:VRs H s.heap ys (f us).toList):Aft W H s (H.set a (.list ys)) {s with heap:=s.heap.update a (Obj.mapSeq f)}:=by
 obtain⟨a1,a2⟩:=S.put (o₁:=.list ys) e (fun _ _ _ z=>by cases z) (fun _ z=>by cases z) (fun b hb=>Heap.get?_update_other s.heap _ (Ne.symm hb)) (ho.update f)
  (fun kv=>⟨_,_,ho.update f,hy.keep' kv⟩)
 exact⟨a1,a2,⟨rfl,rfl⟩⟩
theorem cap_size {m:Nat} (h:m≤cap):m≤sizeLine:=cap_le h
theorem notLong {m:Nat} {b:Bool} (h:m≤cap):¬(b&&Builtin.List.listTooLong m)=true:=by
 have:Builtin.List.listTooLong m=false:=by
  unfold Builtin.List.listTooLong
  have:=cap_le h
  simp;omega
 rw[this];simp
theorem idx_of {xs:List Int} {k:Int} (h:k∈xs):xs.idxOf k<xs.length:=List.idxOf_lt_length_of_mem h
theorem bm_call (G:Gd W K) {A:Around} {s:Shared} {R E:Value→Shared→Prop} {m:BM} {v:AV} {u:Value} {vs:List AV} {us:List Value} (hj:m≠.join)
  (S:W.St H s.heap) (hx:VR H s.heap v u) (hy:VRs H s.heap vs us) (q:BMeth m v vs H Q) (P:PostR W H s Q R):wpAny (model W.prog W.w) A (call (.builtin (bmId m)) (u::us)) R E s:=by
 unfold BMeth at q
 split at q
 ·rename_i a y
  simp only[VR]at hx;subst hx
  simp only[VRs]at hy
  obtain⟨w,r,rfl,hw,rfl⟩:=hy
  obtain⟨xs,e,hl,q⟩:=q
  obtain⟨is,k,h1,v1⟩:=list_at S e
  have sz:=v1.size
  exact call_meets F.slot_list_append ⟨_,h1,rfl⟩ F.entry_list_append (F.args_list_append_2 _ _) (PySem.list_append a is k w (by rw[sz];exact cap_size hl)) ⟨h1,P .none _ _ _ (by simp only[VR]) (aft_upd S e h1 (by
   rw[Array.toList_push];exact v1.snoc hw)) q⟩
 ·rename_i a b
  simp only[VR]at hx;subst hx
  simp only[VRs,VR]at hy
  obtain⟨w,r,rfl,rfl,rfl⟩:=hy
  obtain⟨hab,f,xs,ys,e1,e2,hl,q⟩:=q
  obtain⟨is,k,h1,v1⟩:=list_at S e1
  obtain⟨js,k',h2,v2⟩:=list_at S e2
  have sz1:=v1.size;have sz2:=v2.size
  refine call_meets F.slot_list_extend ⟨_,h1,rfl⟩ F.entry_list_extend (F.args_list_extend_2 _ _) (AutoSeq1.list_extend_list_list_0 a is k b js k' (notLong (by omega)) (by have:=cap_size hl;omega) (by have:=cap_size hl;omega)) ⟨h1,h2,P .none _ _ _ (by simp only[VR]) (aft_upd S e1 h1 (by
   rw[Array.toList_append];exact v1.append v2)) q⟩
 ·rename_i a i
  simp only[VR]at hx;subst hx
  simp only[VRs,VR]at hy
  obtain⟨w,r,rfl,⟨t,rfl⟩,rfl⟩:=hy
  obtain⟨xs,y,e,h0,h62,hl,hu,q⟩:=q
  obtain⟨is,k,h1,v1⟩:=list_at S e
  have sz:=v1.size
  obtain⟨z,hz,vz⟩:=v1.get hu
  rw[Array.getElem?_toList]at hz
  have hlt:i.toNat<is.size:=(Array.getElem?_eq_some_iff.mp hz).1
  refine call_meets F.slot_list_pop ⟨_,h1,rfl⟩ F.entry_list_pop (F.args_list_pop_2 _ _) (MeetsSeq.list_pop_at a is k i t i.toNat z (by unfold Builtin.List.listFitsIndex;simp;omega) (by
   unfold seqIndex?
   have:¬i<0:=by omega
   simp[this];omega) hz (by rw[sz];exact cap_size hl)) ⟨h1,P y _ _ _ ?_ (aft_upd S e h1 ?_) q⟩
  ·have:Kp nX H s.heap (H.set a (.list (xs.eraseIdx i.toNat))) (s.heap.update a (Obj.mapSeq fun xs=>xs.eraseIdxIfInBounds i.toNat)):=(aft_upd (ys:=xs.eraseIdx i.toNat) (f:=fun xs=>xs.eraseIdxIfInBounds i.toNat) S e h1 (by
    rw[Array.toList_eraseIdxIfInBounds];rw[List.eraseIdx_eq_take_drop_succ,List.eraseIdx_eq_take_drop_succ];exact(v1.take _).append (v1.drop _))).kp
   exact vz.kp0 this
  ·rw[Array.toList_eraseIdxIfInBounds];rw[List.eraseIdx_eq_take_drop_succ,List.eraseIdx_eq_take_drop_succ];exact(v1.take _).append (v1.drop _)
 ·rename_i a i
  simp only[VR]at hx;subst hx
  simp only[VRs,VR]at hy
  obtain⟨w,r,rfl,⟨t,rfl⟩,rfl⟩:=hy
  obtain⟨f,xs,e,hm,hcap,q⟩:=q
  obtain⟨is,k,h1,v1⟩:=list_at S e
  have iis:=v1.ints
  have hj:=idx_of hm
  have hlen:xs.length=is.size:=by have:=v1.length;simp at this;exact this.symm
  have at_:∀(j:Nat) (hj:j<is.size),isInt i is[j]=(xs[j]'(by omega)==i):=by
   intro j hj
   obtain⟨w,hw,vw⟩:=v1.get (i:=j) (v:=.int (xs[j]'(by omega))) (by simp[List.getElem?_eq_getElem (show j<xs.length by omega)])
   rw[Array.getElem?_toList,Array.getElem?_eq_getElem hj]at hw
   cases hw
   simp only[VR]at vw
   obtain⟨t',e'⟩:=vw
   rw[e'];rfl
  refine call_meets F.slot_list_index ⟨_,h1,rfl⟩ F.entry_list_index (F.args_list_index_2 _ _) (MeetsSeq.list_index a is k (.int i t) (isInt i) (fun y hy=>eq_isInt i t iis y (Array.mem_toList_iff.mpr hy)) (xs.idxOf i) (by omega) ?_ ?_ ?_) ⟨h1,P _ _ _ _ (by simp only[VR];exact⟨_,rfl⟩) (.tok S _ rfl) q⟩
  ·unfold cap at hcap;omega
  ·rw[at_ _ (by omega)];simp
  ·intro m hm' hlt
   rw[at_ _ hm']
   have:=List.not_of_lt_findIdx (xs:=xs) (p:=(·==i)) (i:=m) hlt
   simpa using this
 ·rename_i a i d
  simp only[VR]at hx;subst hx
  simp only[VRs,VR]at hy
  obtain⟨w,r,rfl,⟨t,rfl⟩,w',r',rfl,hd,rfl⟩:=hy
  obtain⟨es,e,q⟩:=q
  obtain⟨kvs,D,kr,ns⟩:=S.objs _ _ _ e
  refine call_meetsIn F.slot_dict_get D.typeIs F.entry_dict_get (F.args_dict_get_3 _ _ _) (meets_dict_get_default (intKind W.prog W.w) a (intKind_is _ _ i t) ns w') ⟨_,D.mapOf,?_⟩
  cases hl:es.lookup i with
  |none=>rw[kr.miss hl];rw[hl]at q;exact P _ _ _ _ hd (.tok S _ rfl) q
  |some z=>
   obtain⟨w,hw,vw⟩:=kr.find hl
   rw[hw];rw[hl]at q;exact P _ _ _ _ vw (.tok S _ rfl) q
 ·exact absurd rfl hj
 ·exact q.elim
end
end
section
open Builtin in
theorem takeQuiet_eq {id:String} {b:Array UInt8} {t:Tok}:Bytes.takeBufferQuiet? id (.bytes b t) 0=pure (some (b,none)):=by
 have:Bytes.takeBuffer? id (.bytes b t) 0=pure (some (b,none)):=by
  unfold Bytes.takeBuffer?
  rw[KBy.special_eq KBy.look_buffer,KBy.own_buffer]
  simp only[pure_bind]
  have e:(0==Bytes.fullReadOnly)=false:=by decide +kernel
  rw[e]
  have e2:=KBy.buffer_eq (id:=id) (b:=b) (t:=t)
  rw[e2]
  kernel_rfl
 unfold Bytes.takeBufferQuiet?
 rw[this]
 rfl
theorem joinLetGo_ok {M:Model} {A:Around} {E:Value→Shared→Prop} {s:Shared} {Q:Unit→Shared→Prop} (h:Q () s):∀{l:List (Value × Option Value)} {keep:List Value},(∀p∈l,p.2=none)→wpAny M A (Builtin.Bytes.joinLetGo l keep) Q E s
 |[],keep,_=>by unfold Builtin.Bytes.joinLetGo;exact wpAny_pure h
 |(x,none)::r,keep,hp=>by
  unfold Builtin.Bytes.joinLetGo
  refine wpAny_bind (wpAny_letGo ?_)
  exact joinLetGo_ok h fun p hp'=>hp p (.tail _ hp')
 |(x,some w)::r,keep,hp=>by have:=hp _ (.head _);cases this
theorem VRs.bs {H:AH} {h:Heap} {xs:List (Array UInt8)} {us:List Value} (v:VRs H h (xs.map AV.bytes) us):us.length=xs.length∧∀(i:Nat) (b:Array UInt8),xs[i]?=some b→∃t,us[i]?=some (Value.bytes b t):=
 ⟨by simpa using v.length,fun i b e=>by
  obtain⟨u,h1,h2⟩:=v.get (i:=i) (v:=.bytes b) (by simp[e])
  simp only[VR]at h2
  obtain⟨t,rfl⟩:=h2
  exact⟨t,h1⟩⟩
theorem arr1 {β:Type} (us:Array Value) (f:Value→β) (g:β):us.size=1∨Builtin.Bytes.joinM.match_1 (fun _=>β) us f (fun _=>g)=g:=by
 obtain⟨l⟩:=us
 match l with
 |[]=>exact .inr rfl
 |[x]=>exact .inl rfl
 |x::y::r=>exact .inr rfl
theorem wp_arr1 {M:Model} {A:Around} {E:Value→Shared→Prop} {s:Shared} {α:Type} {us:Array Value} {f:Value→Sem α} {g:Sem α} {Q:α→Shared→Prop} (h:us.size≠1) (hg:wpAny M A g Q E s) :
  wpAny M A (Builtin.Bytes.joinM.match_1 (fun _=>Sem α) us f fun _=>g) Q E s:=by
 rcases arr1 us f g with e|e
 ·exact absurd e h
 ·rw[e];exact hg
theorem jf_app (sep a:Array UInt8):∀(r:List (Array UInt8)) (z:Array UInt8),r.foldl (fun o y=>o++sep++y) (a++z)=a++r.foldl (fun o y=>o++sep++y) z
 |[],z=>rfl
 |y::r,z=>by
  simp only[List.foldl_cons]
  rw[←jf_app sep a r,Array.append_assoc,Array.append_assoc,Array.append_assoc]
theorem joinB_fold (sep:Array UInt8):∀(r:List (Array UInt8)) (x:Array UInt8),joinB sep (x::r)=r.foldl (fun o y=>o++sep++y) x
 |[],x=>rfl
 |y::r,x=>by
  rw[joinB,joinB_fold sep r y,List.foldl_cons,jf_app]
theorem joined_tail (sep:Array UInt8):∀(r:List (Array UInt8)) (k:Nat) (acc:Array UInt8),0<k→(r.zipIdx k).foldl (fun out (p:Array UInt8 × Nat)=>(if p.2 > 0 then out++sep else out)++p.1) acc=r.foldl (fun o y=>o++sep++y) acc
 |[],k,acc,_=>rfl
 |y::r,k,acc,hk=>by
  simp only[List.zipIdx_cons,List.foldl_cons]
  rw[if_pos hk,joined_tail sep r (k+1) _ (by omega)]
theorem joined_eq (sep:Array UInt8) (bs:List (Array UInt8)):Builtin.Bytes.joined sep bs=joinB sep bs:=by
 unfold Builtin.Bytes.joined
 cases bs with
 |nil=>rfl
 |cons x r=>
  rw[joinB_fold]
  simp only[List.zipIdx_cons,List.foldl_cons]
  have:=joined_tail sep r 1 x (by omega)
  simpa using this
theorem joinB_size (sep:Array UInt8):∀(bs:List (Array UInt8)),bs.foldl (·+·.size) (sep.size * (bs.length-1))=(joinB sep bs).size
 |[]=>by simp[joinB]
 |[x]=>by simp[joinB]
 |x::y::r=>by
  have ih:=joinB_size sep (y::r)
  have e:∀(l:List (Array UInt8)) (a b:Nat),l.foldl (fun(n:Nat) (x:Array UInt8)=>n+x.size) (a+b)=a+l.foldl (fun(n:Nat) (x:Array UInt8)=>n+x.size) b:=by
   intro l
   induction l with
   |nil=>intro a b;rfl
   |cons z l ih=>intro a b;simp only[List.foldl_cons];rw[Nat.add_assoc,ih]
  rw[joinB,Array.size_append,Array.size_append,←ih]
  simp only[List.foldl_cons,List.length_cons,Nat.add_sub_cancel]
  have h1:sep.size * (r.length+1)+x.size+y.size=(x.size+sep.size)+(sep.size * r.length+y.size):=by rw[Nat.mul_add];omega
  rw[h1,e]
theorem join_ok {prog:Program} {w:World} {A:Around} {s:Shared} {R E:Value→Shared→Prop} {sep:Array UInt8} {t:Tok} {l:Addr} {us:Array Value} {k:Nat} {bs:List (Array UInt8)}
  (h1:IsL s.heap l us k) (hb:us.toList.length=bs.length∧∀(i:Nat) (b:Array UInt8),bs[i]?=some b→∃t,us.toList[i]?=some (Value.bytes b t)) (hfit:(joinB sep bs).size≤cap)
  (hR:∀t k,R (.bytes (joinB sep bs) t) {s with toks:=k}) (hone:∀b t,bs=[b]→R (.bytes b t) s) :
  wpAny (model prog w) A (call (.builtin "bytes.join") [.bytes sep t,.ref l]) R E s:=by
 refine wpAny_call_entry slot_bytes_join (typeIs_bytes _ _ _) entry_bytes_join ?_ (args_bytes_join_2 _ _)
 obtain⟨hp,g,d,tk,os⟩:=s
 show wpAny _ _ (Builtin.Bytes.joinM .bytes ⟨[.bytes sep t,.ref l],[]⟩) _ _ _
 unfold Builtin.Bytes.joinM
 wp_walk using AutoSeq1.wpAny_loadPart' h1
 have hlen:us.size=bs.length:=by rw[←hb.1,Array.length_toList]
 have lp:=@AutoSeq1.wpAny_loadPart'
 by_cases h1b:∃b,bs=[b]
 ·obtain⟨b,rfl⟩:=h1b
  obtain⟨t',e⟩:=hb.2 0 b rfl
  have:us=#[.bytes b t']:=by
   apply Array.ext'
   cases hu:us.toList with
   |nil=>rw[hu]at e;simp at e
   |cons u r=>
    rw[hu]at e hb
    simp at e hb
    rw[e,hb.1]
  subst this
  wp_walk
  exact⟨_,rfl,hone b t' rfl⟩
 ·refine wp_arr1 (fun h=>h1b (List.length_eq_one_iff.mp (by rw[←hlen];exact h))) ?_
  ·dsimp only
   rw[Std.Legacy.Range.forIn_eq_forIn_range']
   refine wpAny_bind (wpAny_forIn_list _ (fun rest b s'=>∃i,rest=List.range' i (us.size-i)∧i≤us.size∧b.1=(bs.take i).toArray∧b.2=(us.toList.take i).map (fun u=>(u,none))∧∃tk',s'=⟨hp,g,d,tk',os⟩) _ ?_ ?_ _ _ ?_)
   ·rintro x rest ⟨b1,b2⟩ s' ⟨i,hr,hi,hb1,hb2,tk',rfl⟩
    have hi':i<us.size:=by
     rcases Nat.lt_or_ge i us.size with h|h
     ·exact h
     ·rw[Nat.sub_eq_zero_of_le h]at hr;cases hr
    obtain⟨m,hm⟩:∃m,us.size-i=m+1:=⟨us.size-i-1,by omega⟩
    rw[hm,List.range'_succ]at hr
    injection hr with hr1 hr2
    subst hr1
    simp only at hb1 hb2
    subst hb1 hb2
    obtain⟨t',e⟩:=hb.2 x (bs[x]'(by omega)) (List.getElem?_eq_getElem _)
    have e2:us.getD x .none=.bytes (bs[x]'(by omega)) t':=by
     rw[Array.getElem?_toList]at e
     simp[Array.getD,hi']
     rw[Array.getElem?_eq_getElem hi']at e
     exact Option.some.inj e
    wp_walk using AutoSeq1.wpAny_loadPart' h1
    rw[if_neg (by
     rw[Bool.or_eq_true]
     rintro(h|h)
     ·cases h
     ·rw[List.any_eq_true]at h
      obtain⟨p,hp1,hp2⟩:=h
      obtain⟨u,hu,rfl⟩:=List.mem_map.mp hp1
      obtain⟨j,hj,rfl⟩:=List.mem_iff_getElem.mp (List.mem_of_mem_take hu)
      obtain⟨t',e'⟩:=hb.2 j (bs[j]'(by rw[←hb.1];exact hj)) (List.getElem?_eq_getElem _)
      rw[List.getElem?_eq_getElem hj]at e'
      rw[Option.some.inj e']at hp2
      cases hp2),e2]
    refine wpAny_bind (wpAny_holding (wpAny_of_eq takeQuiet_eq ?_))
    wp_walk using AutoSeq1.wpAny_loadPart' h1
    refine⟨x+1,by rw[hr2,show us.size-(x+1)=m by omega],by omega,?_,?_,tk',rfl⟩
    ·show(bs.take x).toArray.push _=_
     rw[List.take_add_one,List.getElem?_eq_getElem (by omega)]
     simp
    ·show(us.toList.take x).map _++_=_
     rw[List.take_add_one,e]
     simp
   ·rintro⟨b1,b2⟩ s' ⟨i,hr,hi,hb1,hb2,tk',rfl⟩
    have hi':us.size=i:=by
     cases hm:us.size-i with
     |zero=>omega
     |succ m=>rw[hm,List.range'_succ]at hr;cases hr
    simp only at hb1 hb2
    subst hb1 hb2
    have ebs:bs.take i=bs:=List.take_of_length_le (by omega)
    rw[ebs]
    wp_walk
    rw[if_neg (by
     show ¬Builtin.Bytes.tooLong (Array.foldl (fun x1 x2=>x1+x2.size) (sep.size * (bs.toArray.size-1)) bs.toArray)=true
     rw[KBy.tooLong_not (by
      rw[List.foldl_toArray]
      have:=joinB_size sep bs
      have h2:cap≤16777216:=by decide
      show bs.foldl (fun(n:Nat) (x:Array UInt8)=>n+x.size) (sep.size * (bs.length-1))≤_
      omega)]
     simp)]
    have ej:Builtin.Bytes.joined sep bs=joinB sep bs:=joined_eq sep bs
    refine wpAny_bind (wpAny_mkBytes ?_ (hb:=by show(Builtin.Bytes.joined sep bs).size≤_;rw[ej];exact cap_le hfit))
    refine wpAny_bind (wpAny_holding (wpAny_point ?_))
    refine wpAny_bind (joinLetGo_ok ?_ ?_)
    ·exact wpAny_pure ⟨_,rfl,by have:=hR tk' (tk'+1);rw[←ej]at this;exact this⟩
    ·rintro p hp'
     obtain⟨u,hu,rfl⟩:=List.mem_map.mp hp'
     rfl
   ·exact⟨0,by simp[Std.Legacy.Range.size],Nat.zero_le _,by simp,by simp,tk,rfl⟩
section
variable {W:Wd} {K:Frag} {n:Nat} {env:Env} {ρ:Rho} {H:AH} {Q:AV→AH→Prop}
theorem bm_call' (G:Gd W K) {A:Around} {s:Shared} {R E:Value→Shared→Prop} {m:BM} {v:AV} {u:Value} {vs:List AV} {us:List Value}
  (S:W.St H s.heap) (hx:VR H s.heap v u) (hy:VRs H s.heap vs us) (q:BMeth m v vs H Q) (P:PostR W H s Q R):wpAny (model W.prog W.w) A (call (.builtin (bmId m)) (u::us)) R E s:=by
 by_cases hj:m=.join
 ·subst hj
  unfold BMeth at q
  split at q<;>first|(rename_i h _ _;cases h;done)|(exact q.elim)|skip
  all_goals simp only[reduceCtorEq]at *
  rename_i sep b
  simp only[VR]at hx;obtain⟨t,rfl⟩:=hx
  simp only[VRs,VR]at hy
  obtain⟨w,r,rfl,rfl,rfl⟩:=hy
  obtain⟨f,xs,e,hfit,_,_,q⟩:=q
  obtain⟨us,k,h1,v1⟩:=list_at S e
  refine join_ok h1 v1.bs hfit (fun t k=>P _ _ _ _ (by simp only[VR];exact⟨_,rfl⟩) (.tok S k rfl) q) fun b t e=>?_
  subst e
  exact P _ _ _ _ (by simp only[VR];exact⟨_,rfl⟩) (.refl S) q
 ·exact bm_call G hj S hx hy q P
theorem ok_bm (G:Gd W K) {o:Expr} {name:Str} {apos pos:Pos} {es:List Expr} {m:BM} (hs:notSuper o=true) (hm:bmeth.lookup name=some m) (hst:noStars es=true) (hlen:es.length≤10) (hline:(apos.endLine==pos.line)=true)
  (h:OkE W n o env ρ H fun v H=>BMRec m v H∧OkEs W n es env ρ H fun vs H=>BMeth m v vs H Q) :
  OkE W n (.Call (.Attribute o name apos) es [] pos) env ρ H Q:=fun A s R E hr S er P=>
 eval_Call_meth hs (h A s _ E hr S er fun v u s' H' x a q=>by
  obtain⟨q1,q⟩:=q
  rw[bmeth_name hm]
  refine methodCall_open hst hlen hline fun pl=>bm_get a.st x q1 ?_
  exact callW hst keep_builtin (q pos A s' _ E hr a.st (er.keep a.kp) fun vs us s'' H'' y a' q'=>
   ⟨trivial,bm_call' G a'.st (x.kp0 a'.kp) y q' fun v u s3 H3 x' b' q3=>P v u s3 H3 x' ((a.trans a').trans b') q3⟩))
end
end
section
section
variable {W:Wd} {K:Frag} {n:Nat} {env:Env} {ρ:Rho} {H:AH} {Q:AV→AH→Prop}
theorem Aft.got {s:Shared} {h':Heap} {vs:List AV} {us:Array Value} {k:Nat} (S:W.St H s.heap) (x:VRs H s.heap vs us.toList) (gr:∀a o,s.heap.get? a=some o→h'.get? a=some o)
  (hg:h'.get? s.heap.objs.size=some {cls:=.type "list",data:=.seq us k}):H s.heap.objs.size=none∧Aft W H s (H.set s.heap.objs.size (.list vs)) {s with heap:=h'}:=by
 have hn:=S.none_of_ge (Nat.le_refl s.heap.objs.size)
 have S1:=S.grow gr
 have hB:W.B.get? s.heap.objs.size=none:=by
  cases e:W.B.get? s.heap.objs.size with
  |none=>rfl
  |some o=>exact absurd (Heap.lt_size (S.base _ _ e).1) (Nat.lt_irrefl _)
 have x1:VRs H h' vs us.toList:=x.keep' (VR.keep fun a us m e z=>⟨gr _ _ e,z⟩)
 have S2:=S1.take (o₁:=.list vs) hn hB (fun us m e=>by rw[hg]at e;injection e with e;injection e with e;exact list_ne_tuple e) fun kv=>⟨us,k,hg,x1.keep' kv⟩
 refine⟨hn,S2,fun a o e=>?_,⟨rfl,rfl⟩⟩
 have hne:a≠s.heap.objs.size:=Nat.ne_of_lt (Heap.lt_size e)
 exact⟨fun z=>⟨(AH.set_ne H _ hne).trans z,o,gr _ _ e,fun _=>rfl⟩,fun x z=>⟨(AH.set_ne H _ hne).trans z,gr _ _ e⟩,o,gr _ _ e⟩
theorem ints_arr {us:Array Value} {xs:List Int} (h:IntsAre us.toList xs):∃ys:Array (Int × Tok),us=intItems ys∧ys.toList.map (·.1)=xs:=by
 obtain⟨ys,e⟩:=AllInts.items (vs:=us) (fun v hv=>h.allInts v (by simpa using hv))
 refine⟨ys,e,?_⟩
 rw[←nums_intItems,←e,h.numsOf]
theorem bf_call (G:Gd W K) {A:Around} {s:Shared} {R E:Value→Shared→Prop} {b:BF} {vs:List AV} {us:List Value} (hr:Room n A) (S:W.St H s.heap) (hy:VRs H s.heap vs us) (q:BFun b vs H Q) (P:PostR W H s Q R) :
  wpAny (model W.prog W.w) A (call (bfVal b) us) R E s:=by
 have hh:=hr.2.2
 have tk:∀t h',(∀b o,s.heap.get? b=some o→h'.get? b=some o)→Aft W H s H {s with heap:=h',toks:=t}:=fun t h' k=>.grow S ⟨rfl,rfl⟩ k
 unfold BFun at q
 split at q
 ·rename_i a
  simp only[VRs,VR]at hy;obtain⟨_,_,rfl,rfl,rfl⟩:=hy
  rcases q with⟨f,xs,e,hl,q⟩|⟨es,e,hl,q⟩
  ·obtain⟨is,k,h1,v1⟩:=list_at S e
   have sz:=v1.size
   refine call_len_list ⟨_,h1,rfl,k,rfl⟩ (by unfold cap at hl;omega) (P _ _ _ _ ?_ (tk _ _ fun _ _ e=>e) q)
   simp only[VR];exact⟨_,by rw[sz]⟩
  ·obtain⟨kvs,D,kr,ns⟩:=S.objs _ _ _ e
   have sz:=kr.length
   refine call_len_dict ns D (by unfold cap at hl;omega) (P _ _ _ _ ?_ (tk _ _ fun _ _ e=>e) q)
   simp only[VR];exact⟨_,by rw[sz]⟩
 ·rename_i a b
  simp only[VRs,VR]at hy;obtain⟨_,_,rfl,⟨t,rfl⟩,_,_,rfl,⟨t',rfl⟩,rfl⟩:=hy
  refine min_two_ints hh fun h' tk' hk=>P _ _ _ _ ?_ (tk _ _ hk) q
  simp only[VR];by_cases hc:b<a
  ·rw[if_pos hc,if_pos hc];exact⟨_,rfl⟩
  ·rw[if_neg hc,if_neg hc];exact⟨_,rfl⟩
 ·rename_i a b
  simp only[VRs,VR]at hy;obtain⟨_,_,rfl,⟨t,rfl⟩,_,_,rfl,⟨t',rfl⟩,rfl⟩:=hy
  refine max_two_ints hh fun h' tk' hk=>P _ _ _ _ ?_ (tk _ _ hk) q
  simp only[VR];by_cases hc:a<b
  ·rw[if_pos hc,if_pos (show b > a from hc)];exact⟨_,rfl⟩
  ·rw[if_neg hc,if_neg (show ¬b > a from hc)];exact⟨_,rfl⟩
 ·rename_i a
  simp only[VRs,VR]at hy;obtain⟨_,_,rfl,rfl,rfl⟩:=hy
  obtain⟨f,xs,e,hne,q⟩:=q
  obtain⟨is,k,h1,v1⟩:=list_at S e
  obtain⟨ys,e1,e2⟩:=ints_arr v1.ints
  subst e1 e2
  have hsz:0<ys.size:=by
   rcases Nat.eq_zero_or_pos ys.size with h|h
   ·exact absurd (by simp[Array.eq_empty_of_size_eq_zero h]) hne
   ·exact h
  refine min_intList (xs:=ys) hh ⟨_,h1,rfl,k,rfl⟩ hsz fun v h' tk' hv hk=>?_
  obtain⟨t,rfl⟩:=intItems_at hv
  obtain⟨g1,g2⟩:=argBest_lt (numAt ys) (ys.size-1)
  refine P (.int _) _ _ _ (by simp only[VR];exact⟨_,rfl⟩) (tk _ _ hk) (q _ ?_ fun a ha=>?_)
  ·rw[numAt_eq];exact getD_mem (by rw[List.length_map,Array.length_toList];omega)
  ·obtain⟨j,hj,rfl⟩:=mem_getD ha
   rw[List.length_map,Array.length_toList]at hj
   rw[←numAt_eq];exact g2 j (by omega)
 ·rename_i a
  simp only[VRs,VR]at hy;obtain⟨_,_,rfl,rfl,rfl⟩:=hy
  obtain⟨f,xs,e,q⟩:=q
  obtain⟨is,k,h1,v1⟩:=list_at S e
  obtain⟨ys,e1,e2⟩:=ints_arr v1.ints
  subst e1
  refine sum_intListG (xs:=ys) hh ⟨_,h1,rfl,k,rfl⟩ fun h' tk' t' hk=>P (.int _) _ _ _ ?_ (tk _ _ hk) q
  simp only[VR]
  refine⟨t',?_⟩
  rw[preSum_eq,List.take_of_length_le (by simp),e2]
 ·rename_i a
  simp only[VRs,VR]at hy;obtain⟨_,_,rfl,rfl,rfl⟩:=hy
  obtain⟨f,xs,e,hl,q⟩:=q
  obtain⟨is,k,h1,v1⟩:=list_at S e
  refine call_list_seq a (.inl rfl) h1 rfl rfl (fun h' c' hk hg=>?_) (by rw[v1.size];exact cap_le hl)
  obtain⟨hn,b⟩:=Aft.got S v1 hk hg
  exact P _ _ _ _ (by simp only[VR]) b (q _ hn)
 ·rename_i xs
  simp only[VRs,VR]at hy;obtain⟨_,_,rfl,⟨a,is,k,rfl,h1,hz,v1⟩,rfl⟩:=hy
  obtain⟨hl,q⟩:=q
  refine call_list_seq a (.inr rfl) h1 rfl rfl (fun h' c' hk hg=>?_) (by rw[v1.size];exact cap_le hl)
  obtain⟨hn,b⟩:=Aft.got S v1 hk hg
  exact P _ _ _ _ (by simp only[VR]) b (q _ hn)
 ·rename_i a
  simp only[VRs,VR]at hy;obtain⟨_,_,rfl,rfl,rfl⟩:=hy
  obtain⟨f,xs,e,hb,hl,q⟩:=q
  obtain⟨is,k,h1,v1⟩:=list_at S e
  refine call_bytes_ints (vs:=is.toList) (ns:=xs) ⟨_,h1,rfl,k,rfl⟩ v1.ints hb (by rw[Array.length_toList,v1.size];simpa using cap_le hl) hh fun h' t k' hk=>P _ _ _ _ ?_ (tk _ _ hk) q
  simp only[VR];exact⟨_,rfl⟩
 ·rename_i a
  simp only[VRs,VR]at hy;obtain⟨_,_,rfl,⟨t,rfl⟩,rfl⟩:=hy
  exact call_int_int (P _ _ _ _ (by simp only[VR];exact⟨_,rfl⟩) (.refl S) q)
 ·exact q.elim
theorem ok_bf (G:Gd W K) {x:Str} {p pos:Pos} {es:List Expr} {b:BF} {sc:Names} (ag:Agree env sc) (hg:isGlobal sc x=true) (hf:bfun.lookup x=some b) (hst:noStars es=true)
  (h:OkEs W n es env ρ H fun vs H=>BFun b vs H Q):OkE W n (.Call (.Name x p) es [] pos) env ρ H Q:=fun A s R E hr S er P=>
 eval_Call_Name (builtin_at G ag hg S er (G.bfunOK x b hf) (callW (P:=fun _=>True) hst (by cases b<;>first|exact keep_builtin|exact keep_type) (h pos A s _ E hr S er fun vs us s' H' x a q=>
  ⟨trivial,bf_call G hr a.st x q fun v u s'' H'' x' b q'=>P v u s'' H'' x' (a.trans b) q'⟩)))
end
end
section
section
variable {W:Wd} {K:Frag} {n:Nat} {env:Env} {ρ:Rho} {H:AH} {Q:AH→Prop}
theorem FR.put {H:AH} {h:Heap} {f:Nat} {v:AV} {u:Value} {hsh:Int} {t:Tok} (p:VR H h v u):∀{fs:List (Nat × AV)} {es:List DictEntry},FR H h fs es→FR H h (put fs f v) (putL (nm f) hsh (.str (nm f) t) u es)
 |[],es,x=>by simp only[FR]at x;subst x;simp only[Mine.put,putL,FR];exact⟨_,[],t,rfl,rfl,p,rfl⟩
 |(g,w)::fs,es,x=>by
  simp only[FR]at x
  obtain⟨en,r,t',rfl,hk,p',q⟩:=x
  by_cases hg:g=f
  ·subst hg
   have:en.key.isStr (nm g)=true:=by rw[hk];simp[Value.isStr]
   simp only[Mine.put,if_true,putL,this,FR]
   exact⟨_,r,t',rfl,hk,p,q⟩
  ·have:en.key.isStr (nm f)=false:=by
    rw[hk];simp only[Value.isStr,beq_eq_false_iff_ne];exact fun z=>hg (nm_inj z)
   simp only[Mine.put,if_neg hg,putL,this,Bool.false_eq_true,if_false,FR]
   exact⟨en,_,t',rfl,hk,p',FR.put p q⟩
theorem St.setA {prog:Program} {w:World} {B:Heap} {h:Heap} {a C dx:Addr} {fs:List (Nat × AV)} {es:List DictEntry} {k:Nat} {f:Nat} {v:AV} {u:Value} {hsh:Int} {t:Tok} {m:Nat}
  (S:Mine.St prog w B H h) (e:H a=some (false,.inst C dx fs)) (hD:h.get? dx=some (dictOf es k)) (F:FR H h fs es) (hv:VR H h v u) :
  Mine.St prog w B (H.set a (.inst C dx (Mine.put fs f v))) (h.update dx (Obj.putName (nm f) hsh (.str (nm f) t) u)) ∧
   Kp nX H h (H.set a (.inst C dx (Mine.put fs f v))) (h.update dx (Obj.putName (nm f) hsh (.str (nm f) t) u)):=by
 have hfl:=S.fl _ _ _ _ _ e
 have hda:dx≠a:=fun y=>by rw[y,e]at hfl;cases hfl
 generalize hH':H.set a (.inst C dx (Mine.put fs f v))=H'
 generalize hh':h.update dx (Obj.putName (nm f) hsh (.str (nm f) t) u)=h'
 have ne:∀b,b≠dx→h'.get? b=h.get? b:=fun b hb=>by rw[←hh'];exact Heap.get?_update_other h _ (Ne.symm hb)
 have hD':h'.get? dx=some (dictOf (putL (nm f) hsh (.str (nm f) t) u es) (putN (nm f) es k)):=by
  rw[←hh',Heap.get?_update_self _ hD (by rw[putName_dict];rfl),putName_dict]
 have Ha:H' a=some (false,.inst C dx (Mine.put fs f v)):=by rw[←hH',AH.set_same]
 have Ho:∀b,b≠a→H' b=H b:=fun b hb=>by rw[←hH'];exact AH.set_ne H _ hb
 have kp:Kp nX H h H' h':=fun b ob q=>⟨fun n=>by
   have hb:b≠dx:=fun z=>by rw[z,hfl]at n;cases n
   have hba:b≠a:=fun z=>by rw[z,e]at n;cases n
   exact⟨(Ho b hba).trans n,ob,(ne b hb).trans q,fun _=>rfl⟩,fun x z=>by
   have hb:b≠dx:=fun y=>by rw[y,hfl]at z;cases z
   have hba:b≠a:=fun y=>by rw[y,e]at z;cases z
   exact⟨(Ho b hba).trans z,(ne b hb).trans q⟩,by
   by_cases hb:b=dx
   ·exact⟨_,hb▸hD'⟩
   ·exact⟨ob,(ne b hb).trans q⟩⟩
 have kv:∀v u,VR H h v u→VR H' h' v u:=fun v u=>VR.kp0 kp
 refine⟨⟨fun b g o q=>?_,fun b ob q=>?_,fun b g C' dx' fs' q=>?_⟩,kp⟩
 ·by_cases hba:b=a
  ·subst hba
   rw[Ha]at q;cases q
   obtain⟨h1,h2,_⟩:=S.objs _ _ _ e
   exact⟨(ne b (Ne.symm hda)).trans h1,⟨_,(Ho dx hda).trans hfl⟩,_,_,hD',by simpa using(F.put hv).keep' kv⟩
  ·rw[Ho b hba]at q
   by_cases hbd:b=dx
   ·subst hbd
    rw[hfl]at q;cases q
    exact⟨_,_,_,Ha⟩
   ·refine(S.objs b g o q).keep kv (fun ob z=>(ne b hbd).trans z) (fun C' dx' fs' z=>?_) fun b' z=>?_
    ·subst z
     have e2:=S.fl _ _ _ _ _ q
     have h1:dx'≠dx:=fun y=>by rw[y,hfl]at e2;cases e2;exact hba rfl
     have h2:dx'≠a:=fun y=>by rw[y,e]at e2;cases e2
     exact⟨fun ob z=>(ne dx' h1).trans z,g,(Ho dx' h2).trans e2⟩
    ·subst z
     obtain⟨g',C',fs',e2⟩:=S.objs _ _ _ q
     by_cases hb':b'=a
     ·subst hb'
      rw[e]at e2;cases e2
      exact absurd rfl hbd
     ·exact⟨g',C',fs',(Ho b' hb').trans e2⟩
 ·obtain⟨q1,q2⟩:=S.base b ob q
  have hb:b≠dx:=fun z=>by rw[z]at q2;exact q2 _ hfl
  have hba:b≠a:=fun z=>by rw[z]at q2;exact q2 _ e
  exact⟨(ne b hb).trans q1,fun x=>by rw[Ho b hba];exact q2 x⟩
 ·by_cases hba:b=a
  ·subst hba
   rw[Ha]at q;cases q
   exact(Ho dx hda).trans hfl
  ·rw[Ho b hba]at q
   have e2:=S.fl _ _ _ _ _ q
   have h2:dx'≠a:=fun y=>by rw[y,e]at e2;cases e2
   exact(Ho dx' h2).trans e2
theorem setA_ok (G:Gd W K) {A:Around} {s:Shared} {E:Value→Shared→Prop} {R:Unit→Shared→Prop} {o x:AV} {uo u:Value} {f:Nat} {name:Str} (hf:nm f=name) (S:W.St H s.heap) (ho:VR H s.heap o uo) (hx:VR H s.heap x u)
  (q:SetA o f x H Q) (P:∀s' H',Aft W H s H' s'→Q H'→R () s'):wpAny (model W.prog W.w) A (setAttr uo name u) R E s:=by
 obtain⟨a,C,dx,fs,rfl,e,hfld,hlen,q⟩:=q
 simp only[VR]at ho;subst ho;subst hf
 obtain⟨hp,g,dd,tk,os⟩:=s
 have S':W.St H hp:=S
 obtain⟨es,k,I,F,D⟩:=inst_at S e
 obtain⟨sa1,sa2,sa3⟩:=G.sa C f hfld
 refine set_plain (G.at S) I sa1 ?_
 have ht:takerIn K C (nm f)=some none:=by unfold takerIn;rw[G.fld C f hfld];rfl
 refine osa_open (G.at S') I sa2 ht fun b=>?_
 obtain⟨cd,hc,hd'⟩:=any_some sa3
 obtain⟨hx',hcl,hn,-⟩:=I
 refine wpAny_bind (wpAny_pure (wpAny_bind (wpAny_bind (wpAny_loadPart hx' (wpAny_bind ((looks_clsIn (G.at S') hc).here ?_))))))
 rw[hd']
 refine wpAny_pure (a:=some dx) (wpAny_bind (wpAny_pure (wpAny_bind ?_)))
 unfold nsSet
 refine wpAny_bind (wpAny_bind (wpAny_askSetting (wpAny_pure (wpAny_bind (wpAny_mkText (wpAny_bind (wpAny_loadPart D ?_)))))))
 have c:(!es.any (·.key.isStr (nm f))&&es.any (·.refKey))=false:=by
  have:=F.noref
  rw[Array.any_toList]at this
  rw[this,Bool.and_false]
 dsimp only
 rw[aRefKeyMayBeTheName_at,c]
 have D2:hp.get? dx=some (dictOf es.toList k):=D
 refine wpAny_updatePart D ?_
 have D':∀hsh t,(hp.update dx (Obj.putName (nm f) hsh (.str (nm f) t) u)).get? dx=some (dictOf (putL (nm f) hsh (.str (nm f) t) u es.toList) (putN (nm f) es.toList k)):=fun hsh t=>by
  rw[Heap.get?_update_self _ D2 (by rw[putName_dict];rfl),putName_dict]
 have len:es.toList.length≤100:=by rw[F.length];exact hlen
 have plen:∀(nm:Str) (hsh:Int) (key v:Value) (l:List DictEntry),(putL nm hsh key v l).length≤l.length+1:=by
  intro nm hsh key v l
  induction l with
  |nil=>simp[putL]
  |cons e r ih=>simp only[putL];split<;>simp only[List.length_cons]<;>omega
 refine wpAny_bind (wpAny_lookBehind (D' _ _) (pastItsLine_dict (by rw[List.size_toArray,sizeLine_eq];have:=plen (nm f) (PyData.keyHash W.w.params (nm f)) (.str (nm f) (tk+1)) u es.toList;exact Nat.le_trans this (by omega))) ?_)
 refine wpAny_pure ?_
 obtain⟨a1,a2⟩:=St.setA (m:=0) (f:=f) (hsh:=PyData.keyHash W.w.params (nm f)) (t:=tk+1) S e D2 F hx
 exact P _ _ ⟨a1,a2,⟨rfl,rfl⟩⟩ q
end
end
section
section
variable {W:Wd} {K:Frag} {n:Nat} {env:Env} {ρ:Rho} {H:AH} {Q:AH→Prop}
theorem setItem_list {prog:Program} {w:World} {A:Around} {E:Value→Shared→Prop} {s:Shared} {l:Addr} {items:Array Value} {m:Nat} {k:Int} {t:Tok} {v:Value} {Q:Unit→Shared→Prop} (hl:IsL s.heap l items m)
  (h0:0≤k) (hfit:k<2 ^ 63) (hn:k<items.size) (hQ:Q () {s with heap:=s.heap.update l (Obj.mapSeq (·.setIfInBounds k.toNat v))}) :
  wpAny (model prog w) A (setItem (.ref l) (.int k t) v) Q E s:=by
 unfold setItem
 refine wpAny_holding ?_
 refine wpAny_bind (wpAny_sequenceKey hl.isList.typeIs (by decide) ?_)
 refine wpAny_bind (wpAny_callSpecial?_slot (name:=Str.ofString "__setitem__") hl.isList.typeIs slot_list_setitem
  (wpAny_call_entry slot_list_setitem hl.isList.typeIs entry_list_setitem ?_ (args_list_setitem _ _ _)))
 show wpAny _ _ (Builtin.List.listSubscript? (.int k t) >>= _) _ _ s
 refine wpAny_bind (wpAny_listSubscript_int (fitsIndex_of h0 hfit) ?_)
 clear hfit
 obtain⟨j,rfl⟩:=Int.eq_ofNat_of_zero_le h0
 have hj:j<items.size:=by omega
 have hx':items[j]?=some items[j]:=Array.getElem?_eq_getElem hj
 show wpAny _ _ ((seqItemAt l j >>= fun r=>pure (r.map (j,·))) >>= _) _ _ s
 refine wpAny_bind (wpAny_bind (wpAny_seqItemAt hl rfl (wpAny_pure ?_)))
 rw[hx']
 show wpAny _ _ (setSeqItemAt l j v >>= _) _ _ s
 refine wpAny_bind (wpAny_setSeqItemAt hl rfl ?_)
 first
  |exact wpAny_bind (wpAny_pure (wpAny_pure ⟨.none,rfl,wpAny_pure hQ⟩))
  |exact wpAny_pure ⟨.none,rfl,wpAny_pure hQ⟩
theorem setItem_dict {prog:Program} {w:World} {Kt:Type} [DecidableEq Kt] {knd:KeyKind prog w Kt} {A:Around} {E:Value→Shared→Prop} {s:Shared} {d:Addr} {kvs:List (Kt × Value)} {k:Kt} {key v:Value} {Q:Unit→Shared→Prop}
  (hkey:knd.is k key=true) (hm:s.heap.DictOf knd d kvs) (hsz:kvs.length≤sizeLine)
  (hQ:∀h',h'.DictOf knd d (stored kvs k v)→Heap.SameBut d s.heap h'→Q () {s with heap:=h',toks:=s.toks+1}) :
  wpAny (model prog w) A (setItem (.ref d) key v) Q E s:=by
 unfold setItem
 refine wpAny_holding ?_
 refine wpAny_bind (wpAny_sequenceKey hm.typeIs (by decide) ?_)
 refine wpAny_bind (wpAny_callSpecial?_slot (name:=Str.ofString "__setitem__") hm.typeIs slot_dict_setitem
  (call_meetsIn slot_dict_setitem hm.typeIs entry_dict_setitem (args_dict_setitem _ _ _) (meets_dict_setitem_pairs knd d hkey v) ⟨kvs,hm,hsz,fun h' a b=>wpAny_pure (hQ h' a b)⟩))
theorem DictOf.nodup {prog:Program} {w:World} {Kt:Type} [DecidableEq Kt] {knd:KeyKind prog w Kt} {h:Heap} {d:Addr} {kvs:List (Kt × Value)} (x:h.DictOf knd d kvs):(kvs.map (·.1)).Nodup:=by
 obtain⟨o,es,ep,e,r⟩:=x
 exact r.2.2.2.2
theorem setI_ok {A:Around} {s:Shared} {E:Value→Shared→Prop} {R:Unit→Shared→Prop} {o i x:AV} {uo ui u:Value} (S:W.St H s.heap) (ho:VR H s.heap o uo) (hi:VR H s.heap i ui) (hx:VR H s.heap x u)
  (q:SetI o i x H Q) (P:∀s' H',Aft W H s H' s'→Q H'→R () s'):wpAny (model W.prog W.w) A (setItem uo ui u) R E s:=by
 unfold SetI at q
 split at q
 ·rename_i a k
  simp only[VR]at ho hi
  subst ho;obtain⟨t,rfl⟩:=hi
  rcases q with⟨xs,e,h0,hk,hl,q⟩|⟨es,e,hl,q⟩
  ·obtain⟨us,m,h1,v1⟩:=list_at S e
   have sz:=v1.size
   refine setItem_list (items:=us) (m:=m) h1 h0 (by unfold cap at hl;omega) (by omega) (P _ _ (aft_upd (f:=(·.setIfInBounds k.toNat u)) S e h1 ?_) q)
   rw[Array.toList_setIfInBounds]
   have:∀(xs:List AV) (us:List Value) (j:Nat),VRs H s.heap xs us→VRs H s.heap (xs.set j x) (us.set j u):=by
    intro xs
    induction xs with
    |nil=>intro us j v;simp only[VRs]at v;subst v;simp[VRs]
    |cons y xs ih=>
     intro us j v
     simp only[VRs]at v
     obtain⟨w,r,rfl,p,q⟩:=v
     cases j with
     |zero=>simp only[List.set_cons_zero,VRs];exact⟨u,r,rfl,hx,q⟩
     |succ j=>simp only[List.set_cons_succ,VRs];exact⟨w,_,rfl,p,ih r j q⟩
   exact this _ _ _ v1
  ·obtain⟨kvs,D,kr,ns⟩:=S.objs _ _ _ e
   refine setItem_dict (knd:=intKind W.prog W.w) (intKind_is _ _ k t) D (by rw[kr.length];exact cap_le hl) fun h' D' sb=>?_
   obtain⟨o',ds,ep,e',r'⟩:=id D'
   obtain⟨a1,a2⟩:=S.put (o₁:=.dI (putS es k x)) e (fun _ _ _ z=>by cases z) (fun _ z=>by cases z) (fun b hb=>sb.2 b hb) e'
    (fun kv=>⟨_,D',(kr.stored hx (DictOf.nodup D)).keep' kv,ns⟩)
   exact P _ _ ⟨a1,a2,⟨rfl,rfl⟩⟩ q
 ·rename_i a k
  simp only[VR]at ho hi
  subst ho;obtain⟨t,rfl⟩:=hi
  obtain⟨es,e,hl,q⟩:=q
  obtain⟨kvs,D,kr⟩:=S.objs _ _ _ e
  refine setItem_dict (knd:=strKind W.prog W.w) (strKind_is _ _ k t) D (by rw[kr.length];exact cap_le hl) fun h' D' sb=>?_
  obtain⟨o',ds,ep,e',r'⟩:=id D'
  obtain⟨a1,a2⟩:=S.put (o₁:=.dS (putS es k x)) e (fun _ _ _ z=>by cases z) (fun _ z=>by cases z) (fun b hb=>sb.2 b hb) e'
   (fun kv=>⟨_,D',(kr.stored hx (DictOf.nodup D)).keep' kv⟩)
  exact P _ _ ⟨a1,a2,⟨rfl,rfl⟩⟩ q
 ·exact q.elim
theorem type_slice_ne:(Value.type "slice" != Value.type "slice")=false:=by decide
theorem setItem_slice {prog:Program} {w:World} {A:Around} {E:Value→Shared→Prop} {s:Shared} {l b sl:Addr} {items ys:Array Value} {m m' i j:Nat} {t t':Tok} {Q:Unit→Shared→Prop} (hl:IsL s.heap l items m) (hb:IsL s.heap b ys m')
  (hne:l≠b) (hs:s.heap.IsSliceOf sl (.int (Int.ofNat i) t) (.int (Int.ofNat j) t') .none) (hij:i≤j) (hj:j≤items.size) (hfit:items.size+ys.size≤cap)
  (hQ:Q () {s with heap:=s.heap.update l (Obj.mapSeq fun xs=>xs.extract 0 i++ys++xs.extract j xs.size)}) :
  wpAny (model prog w) A (setItem (.ref l) (.ref sl) (.ref b)) Q E s:=by
 unfold setItem
 refine wpAny_holding ?_
 refine wpAny_bind (wpAny_sequenceKey hl.isList.typeIs (by decide) ?_)
 obtain⟨os,hos,hosc,hosd⟩:=id hs
 have hTs:s.TypeIs (.ref sl) "slice":=⟨os,hos,hosc⟩
 refine wpAny_bind (wpAny_callSpecial?_slot (name:=Str.ofString "__setitem__") hl.isList.typeIs slot_list_setitem
  (wpAny_call_entry slot_list_setitem hl.isList.typeIs entry_list_setitem ?_ (args_list_setitem _ _ _)))
 show wpAny _ _ (Builtin.List.listSubscript? (.ref sl) >>= _) _ _ s
 unfold Builtin.List.listSubscript?
 refine wpAny_bind (wpAny_bind (wpAny_specialOf hTs slice_no_index ?_))
 refine wpAny_pure ?_
 refine wpAny_bind (wpAny_typeOf hTs ?_)
 rw[if_neg (by rw[type_slice_ne];exact Bool.false_ne_true)]
 rw[listSliceParts_eq]
 refine wpAny_bind (wpAny_bind (wpAny_field hos hosd (x:=.none) rfl (wpAny_bind (wpAny_listPart .none ?_))))
 rw[if_neg (show ¬((rawPart none==rawInt 0)=true)from Bool.false_ne_true)]
 refine wpAny_bind (wpAny_field hos hosd (x:=.int (Int.ofNat i) t) rfl (wpAny_bind (wpAny_listPart (.int _ _) ?_)))
 refine wpAny_bind (wpAny_field hos hosd (x:=.int (Int.ofNat j) t') rfl (wpAny_bind (wpAny_listPart (.int _ _) ?_)))
 refine wpAny_pure ?_
 have hab:(l==b)=false:=by simpa using hne
 show wpAny _ _ (if Builtin.List.listSameRef (.ref l) (.ref b)=true then _ else _) _ _ s
 rw[if_neg (by show ¬(l==b)=true;rw[hab];exact Bool.false_ne_true)]
 unfold Builtin.List.listAllItems
 refine wpAny_bind (wpAny_bind (wpAny_typeOf hb.isList.typeIs ?_))
 rw[if_pos (by decide)]
 have li:∀{a:Addr} {xs:Array Value} {c:Nat} {A:Around} {E:Value→Shared→Prop} {R:Array Value→Shared→Prop},IsL s.heap a xs c→R xs s→wpAny (model prog w) A (Builtin.List.listItems (.ref a)) R E s:=by
  intro a xs c A E R h hR
  unfold Builtin.List.listItems seqItems?
  exact wpAny_bind (wpAny_bind (wpAny_load h (wpAny_pure (wpAny_pure hR))))
 refine li hb ?_
 refine wpAny_bind (li hl ?_)
 rw[sliceIndices_raw _ _ _ _ (by simp)]
 refine wpAny_bind (wpAny_pure ?_)
 have e1:sliceBounds (some (Int.ofNat i)) (some (Int.ofNat j)) none items.size=(Int.ofNat i,Int.ofNat j,1):=by
  unfold sliceBounds
  have h1:¬(Int.ofNat i<0):=by show ¬((i:Int)<0);omega
  have h2:¬(Int.ofNat j<0):=by show ¬((j:Int)<0);omega
  have h3:max 0 (min (i:Int) (items.size:Int))=(i:Int):=by omega
  have h4:max 0 (min (j:Int) (items.size:Int))=(j:Int):=by omega
  simp only[Option.getD_none,h1,h2,if_false,show(1:Int) > 0 by decide,if_true]
  exact Prod.ext h3 (Prod.ext h4 rfl)
 rw[e1]
 show wpAny _ _ (if ((1:Int)==1)=true then _ else _) _ _ s
 rw[if_pos (by decide)]
 refine wpAny_bind (wpAny_rule ?_)
 show wpAny _ _ (if Builtin.List.listTooLong (items.size+ys.size)=true then _ else _) _ _ s
 rw[if_neg (by have:=notLong (m:=items.size+ys.size) (b:=true) hfit;simpa using this)]
 show wpAny _ _ (updateSeq l _ >>= _) _ _ s
 have e2:(max (Int.ofNat i) (Int.ofNat j)).toNat=j:=by simp;omega
 have hs2:(items.extract 0 i++ys++items.extract j items.size).size≤sizeLine+1:=by
  have:=cap_le hfit
  simp only[Array.size_append,Array.size_extract];omega
 rw[e2]
 refine wpAny_bind (wpAny_updateSeq hl rfl (hz:=by have:=cap_le hfit;omega) (_hz':=hs2) ?_)
 refine wpAny_bind (wpAny_letGo ?_)
 exact wpAny_pure ⟨_,rfl,wpAny_pure hQ⟩
theorem setCut_ok {A:Around} {s:Shared} {E:Value→Shared→Prop} {R:Unit→Shared→Prop} {o lo hi x:AV} {uo ul uh u:Value} {sl:Addr} (S:W.St H s.heap) (ho:VR H s.heap o uo) (hlo:VR H s.heap lo ul) (hhi:VR H s.heap hi uh) (hx:VR H s.heap x u)
  (hs:s.heap.IsSliceOf sl ul uh .none) (q:SetCut o lo hi x H Q) (P:∀s' H',Aft W H s H' s'→Q H'→R () s'):wpAny (model W.prog W.w) A (setItem uo (.ref sl) u) R E s:=by
 obtain⟨a,b,f,xs,ys,i,j,rfl,rfl,hab,rfl,rfl,e1,e2,hij,hj,hl,q⟩:=q
 simp only[VR]at ho hlo hhi hx
 subst ho hx;obtain⟨t,rfl⟩:=hlo;obtain⟨t',rfl⟩:=hhi
 obtain⟨us,m,h1,v1⟩:=list_at S e1
 obtain⟨vs,m',h2,v2⟩:=list_at S e2
 have sz1:=v1.size;have sz2:=v2.size
 refine setItem_slice (items:=us) (ys:=vs) h1 h2 hab hs hij (by omega) (by omega) (P _ _ (aft_upd S e1 h1 ?_) q)
 rw[Array.toList_append,Array.toList_append,Array.toList_extract,Array.toList_extract]
 have g1:us.toList.extract 0 i=us.toList.take i:=by simp[List.extract_eq_drop_take]
 have g2:us.toList.extract j us.size=us.toList.drop j:=by rw[List.extract_eq_drop_take];exact List.take_of_length_le (by simp)
 rw[g1,g2]
 exact((v1.take i).append v2).append (v1.drop j)
end
end
section
def frm (env:Env):Addr→Prop:=fun a=>a=env.locals∨∃x,env.cells.lookup x=some a
theorem put_eq:∀(ρ:Rho) (x:Nat) (v:AV),(put ρ x v).lookup x=some v
 |[],x,v=>by simp[put]
 |(y,u)::r,x,v=>by
  simp only[put]
  by_cases h:y=x
  ·rw[if_pos h];simp
  ·rw[if_neg h,lookup_ne (Ne.symm h)];exact put_eq r x v
theorem put_ne:∀(ρ:Rho) {x z:Nat} (v:AV),z≠x→(put ρ x v).lookup z=ρ.lookup z
 |[],x,z,v,h=>by simp only[put];rw[lookup_ne h]
 |(y,u)::r,x,z,v,h=>by
  simp only[put]
  by_cases hy:y=x
  ·rw[if_pos hy,lookup_ne h];subst hy;rw[lookup_ne h]
  ·rw[if_neg hy]
   by_cases hz:z=y
   ·subst hz;rw[lookup_eq,lookup_eq]
   ·rw[lookup_ne hz,lookup_ne hz];exact put_ne r v h
structure AftX (X:Addr→Prop) (W:Wd) (H:AH) (s:Shared) (H':AH) (s':Shared):Prop where
 st:W.St H' s'.heap
 kp:Kp X H s.heap H' s'.heap
 same:Same s s'
section
variable {W:Wd} {K:Frag} {n:Nat} {env:Env} {ρ:Rho} {H:AH}
theorem AftX.refl {X:Addr→Prop} {s:Shared} (S:W.St H s.heap):AftX X W H s H s:=⟨S,.refl _ _ _,.refl _⟩
theorem AftX.trans {X:Addr→Prop} {H' H'':AH} {s s' s'':Shared} (x:AftX X W H s H' s') (y:AftX X W H' s' H'' s''):AftX X W H s H'' s'':=⟨y.st,x.kp.trans y.kp,x.same.trans y.same⟩
theorem Aft.x {X:Addr→Prop} {H':AH} {s s':Shared} (a:Aft W H s H' s'):AftX X W H s H' s':=⟨a.st,a.kp.mono fun _ h=>h.elim,a.same⟩
theorem EnvR.congr {env:Env} {H:AH} {h:Heap} {ρ ρ':Rho} (e:EnvR W env H h ρ) (k:∀x v,ρ'.lookup x=some v→ρ.lookup x=some v):EnvR W env H h ρ':=
 ⟨e.kind,e.glob,e.blt,e.loc,e.has,e.cells,e.inj,let ⟨m,a,b⟩:=e.vals;⟨m,a,fun x v q=>b x v (k x v q)⟩⟩
theorem EnvR.seqOut {h:Heap} (e:EnvR W env H h ρ):SeqOut (frm env) h:=by
 intro a us k q z
 rcases z with rfl|⟨x,hx⟩
 ·obtain⟨m,⟨o,es,ep,ho,hd,_⟩,_⟩:=e.vals
  rw[q]at ho;cases ho;cases hd
 ·obtain⟨_,_,_,v,o,ho,hd⟩:=e.cells x a hx
  rw[q]at ho;cases ho;cases hd
theorem EnvR.out {h:Heap} (e:EnvR W env H h ρ):∀a,frm env a→H a=none∧W.B.get? a=none:=by
 rintro a (rfl|⟨x,hx⟩)
 ·exact e.loc
 ·exact⟨(e.cells x a hx).1,(e.cells x a hx).2.1⟩
theorem Kp.soL {h:Heap} (e:EnvR W env H h ρ):SeqOut (fun a=>a=env.locals) h:=fun a us k q z=>e.seqOut a us k q (.inl z)
theorem store_loc {A:Around} {s:Shared} {E:Value→Shared→Prop} {R:Unit→Shared→Prop} {y:Str} {x:Nat} {v:AV} {u:Value} (hy:nm x=y) (hk:env.kindOf y=some .local)
  (S:W.St H s.heap) (er:EnvR W env H s.heap ρ) (hv:VR H s.heap v u)
  (P:∀s',AftX (fun a=>a=env.locals) W H s H s'→EnvR W env H s'.heap (put ρ x v)→R () s'):wpAny (model W.prog W.w) A (storeName env y u) R E s:=by
 subst hy
 obtain⟨m,hn,vals⟩:=er.vals
 have so:=Kp.soL er
 refine wpAny_storeName_local hk hn (fun h' hn' hs=>?_) (by rw[er.kind];rfl)
 obtain⟨oL,hoL⟩:∃o,h'.get? env.locals=some o:=let ⟨o,_,_,q,_⟩:=hn';⟨o,q⟩
 obtain⟨a1,a2⟩:=S.vars (X:=fun a=>a=env.locals) (fun a e=>e▸er.loc) so (fun a o e=>by
  by_cases ha:a=env.locals
  ·exact⟨oL,by rw[ha];exact hoL,fun z=>absurd ha z⟩
  ·exact⟨o,(hs.2 a ha).trans e,fun _=>rfl⟩:∀a o,s.heap.get? a=some o→∃o',h'.get? a=some o'∧(¬a=env.locals→o'=o))
 refine P _ ⟨a1,a2,⟨rfl,rfl⟩⟩ ⟨er.kind,er.glob,er.blt,er.loc,er.has,fun z c q=>?_,er.inj,_,hn',fun z w q=>?_⟩
 ·obtain⟨z1,z2,z3,w,z4⟩:=er.cells z c q
  exact⟨z1,z2,z3,w,z4.sameBut hs z3⟩
 ·by_cases hz:z=x
  ·subst hz
   rw[put_eq]at q;cases q
   exact⟨fun _=>⟨u,if_pos rfl,hv.kp a2 so⟩,fun h=>by rw[hk]at h;rcases h with h|h<;>cases h⟩
  ·rw[put_ne ρ v hz]at q
   refine⟨fun h=>?_,fun h=>?_⟩
   ·obtain⟨w',e1,e2⟩:=(vals z w q).1 h
    exact⟨w',by rw[if_neg (fun e=>hz (nm_inj e))];exact e1,e2.kp a2 so⟩
   ·obtain⟨c,w',e1,e2,e3⟩:=(vals z w q).2 h
    exact⟨c,w',e1,e2.sameBut hs (er.cells _ c e1).2.2.1,e3.kp a2 so⟩
theorem store_ok {A:Around} {s:Shared} {E:Value→Shared→Prop} {R:Unit→Shared→Prop} {y:Str} {x:Nat} {v:AV} {u:Value} (hy:nm x=y) (hk:env.kindOf y=some .local∨env.kindOf y=some .cell)
  (S:W.St H s.heap) (er:EnvR W env H s.heap ρ) (hv:VR H s.heap v u)
  (P:∀s',AftX (frm env) W H s H s'→EnvR W env H s'.heap (put ρ x v)→R () s'):wpAny (model W.prog W.w) A (storeName env y u) R E s:=by
 subst hy
 obtain⟨m,hn,vals⟩:=er.vals
 have so:=er.seqOut
 rcases hk with hk|hk
 ·exact store_loc rfl hk S er hv fun s' a e=>P s' ⟨a.st,a.kp.mono fun b e=>.inl e,a.same⟩ e
 ·obtain⟨c,hc⟩:=er.has _ hk
  obtain⟨c1,c2,c3,v₀,c4⟩:=er.cells _ c hc
  refine wpAny_storeName_cell er.kind hk hc c4 fun h' hn' hs=>?_
  obtain⟨oL,hoL⟩:∃o,h'.get? c=some o:=let ⟨o,q,_⟩:=hn';⟨o,q⟩
  obtain⟨a1,a2⟩:=S.vars er.out so (fun a o e=>by
   by_cases ha:a=c
   ·exact⟨oL,by rw[ha];exact hoL,fun z=>absurd (.inr ⟨_,by rw[ha];exact hc⟩) z⟩
   ·exact⟨o,(hs.2 a ha).trans e,fun _=>rfl⟩:∀a o,s.heap.get? a=some o→∃o',h'.get? a=some o'∧(¬frm env a→o'=o))
  refine P _ ⟨a1,a2,⟨rfl,rfl⟩⟩ ⟨er.kind,er.glob,er.blt,er.loc,er.has,fun z d q=>?_,er.inj,m,hn.sameBut hs (Ne.symm c3),fun z w q=>?_⟩
  ·obtain⟨z1,z2,z3,w,z4⟩:=er.cells z d q
   refine⟨z1,z2,z3,?_⟩
   by_cases hd:d=c
   ·exact⟨_,by rw[hd];exact hn'⟩
   ·exact⟨w,z4.sameBut hs hd⟩
  ·by_cases hz:z=x
   ·subst hz
    rw[put_eq]at q;cases q
    exact⟨fun h=>(by rw[hk]at h;cases h),fun _=>⟨c,u,hc,hn',hv.kp a2 so⟩⟩
   ·rw[put_ne ρ v hz]at q
    refine⟨fun h=>?_,fun h=>?_⟩
    ·obtain⟨w',e1,e2⟩:=(vals z w q).1 h
     exact⟨w',e1,e2.kp a2 so⟩
    ·obtain⟨d,w',e1,e2,e3⟩:=(vals z w q).2 h
     have hd:d≠c:=fun e=>hz (nm_inj (er.inj _ _ c (e▸e1) hc))
     exact⟨d,w',e1,e2.sameBut hs hd,e3.kp a2 so⟩
def OkT (W:Wd) (n:Nat) (t:Expr) (env:Env) (v:AV) (ρ:Rho) (H:AH) (Q:Rho→AH→Prop):Prop:=
 ∀(A:Around) (s:Shared) (u:Value) (R:Unit→Shared→Prop) (E:Value→Shared→Prop),Room n A→W.St H s.heap→EnvR W env H s.heap ρ→VR H s.heap v u→
  (∀s' H' ρ',AftX (frm env) W H s H' s'→EnvR W env H' s'.heap ρ'→Q ρ' H'→R () s')→wpAny (model W.prog W.w) A (assign t env u) R E s
theorem okt_name {y:Str} {pos:Pos} {x:Nat} {v:AV} {Q:Rho→AH→Prop} (hy:nm x=y) (hk:env.kindOf y=some .local∨env.kindOf y=some .cell) (q:Q (put ρ x v) H):OkT W n (.Name y pos) env v ρ H Q:=fun A s u R E hr S er hv P=>
 wpAny_assign_Name (store_ok hy hk S er hv fun s' a e=>P s' H _ a e q)
theorem okt_attr (G:Gd W K) {o:Expr} {a:Str} {pos:Pos} {f:Nat} {v:AV} {Q:Rho→AH→Prop} (hf:nm f=a) (h:OkE W n o env ρ H fun o H=>SetA o f v H (Q ρ)):OkT W n (.Attribute o a pos) env v ρ H Q:=fun A s u R E hr S er hv P=>by
 rw[arm_assign_Attribute]
 refine wpAny_bind (wpAny_holding (h A s _ E hr S er fun ov uo s1 H1 ho b q=>wpAny_bind (wpAny_standAt (wpAny_bind (wpAny_holding ?_)))))
 refine setA_ok G hf b.st ho (hv.kp0 b.kp) q fun s2 H2 c q=>wpAny_release ?_
 exact P s2 H2 ρ (b.trans c).x ((er.keep b.kp).keep c.kp) q
theorem okt_sub {o i:Expr} {pos:Pos} {v:AV} {Q:Rho→AH→Prop} (h:OkE W n o env ρ H fun o H=>OkE W n i env ρ H fun i H=>SetI o i v H (Q ρ)):OkT W n (.Subscript o i pos) env v ρ H Q:=fun A s u R E hr S er hv P=>by
 rw[arm_assign_Subscript]
 refine wpAny_bind (wpAny_holding (h A s _ E hr S er fun ov uo s1 H1 ho b q=>wpAny_bind (wpAny_holding (q A s1 _ E hr b.st (er.keep b.kp) fun iv ui s2 H2 hi c q=>wpAny_bind (wpAny_standAt (wpAny_bind (wpAny_holding ?_)))))))
 refine setI_ok c.st (ho.kp0 c.kp) hi ((hv.kp0 b.kp).kp0 c.kp) q fun s3 H3 d q=>wpAny_release ?_
 exact P s3 H3 ρ ((b.trans c).trans d).x (((er.keep b.kp).keep c.kp).keep d.kp) q
theorem okt_cut {o lo hi:Expr} {p pos:Pos} {v:AV} {Q:Rho→AH→Prop} (h:OkE W n o env ρ H fun o H=>OkE W n lo env ρ H fun l H=>OkE W n hi env ρ H fun h H=>SetCut o l h v H (Q ρ)) :
  OkT W n (.Subscript o (.Slice (some lo) (some hi) none p) pos) env v ρ H Q:=fun A s u R E hr S er hv P=>by
 rw[arm_assign_Subscript]
 refine wpAny_bind (wpAny_holding (h A s _ E hr S er fun ov uo s1 H1 ho b q=>wpAny_bind (wpAny_holding (wpAny_Slice ?_))))
 rw[evalPart_some]
 refine q A s1 _ E hr b.st (er.keep b.kp) fun l ul s2 H2 hl c q=>?_
 rw[evalPart_some]
 refine q A s2 _ E hr c.st ((er.keep b.kp).keep c.kp) fun m um s3 H3 hm d q=>?_
 rw[evalPart_none]
 refine wpAny_pure (wpAny_bind (wpAny_standAt (wpAny_bind (wpAny_holding ?_))))
 have gr:∀b o,s3.heap.get? b=some o→(s3.heap.push {cls:=.type "slice",data:=.fields #[ul,um,.none]}).get? b=some o:=fun b o e=>Heap.get?_push_of_some _ e
 have g:Aft W H3 s3 H3 {s3 with heap:=s3.heap.push {cls:=.type "slice",data:=.fields #[ul,um,.none]}}:=.grow d.st ⟨rfl,rfl⟩ gr
 refine setCut_ok g.st (((ho.kp0 c.kp).kp0 d.kp).kp0 g.kp) ((hl.kp0 d.kp).kp0 g.kp) (hm.kp0 g.kp) ((((hv.kp0 b.kp).kp0 c.kp).kp0 d.kp).kp0 g.kp) (Heap.IsSliceOf.new ..) q fun s4 H4 k q=>wpAny_release ?_
 exact P s4 H4 ρ ((((b.trans c).trans d).trans g).trans k).x (((((er.keep b.kp).keep c.kp).keep d.kp).keep g.kp).keep k.kp) q
end
end
section
def Off (fp:List Addr) (h h':Heap):Prop:=∀b o,b∉fp→h.get? b=some o→h'.get? b=some o
theorem Off.refl (fp:List Addr) (h:Heap):Off fp h h:=fun _ _ _ e=>e
theorem Off.trans {fp:List Addr} {h h' h'':Heap} (x:Off fp h h') (y:Off fp h' h''):Off fp h h'':=fun b o n e=>y b o n (x b o n e)
def Apt (W:Wd) (H:AH) (h:Heap) (fp:List Addr):Prop:=∀a∈fp,W.B.get? a=none∧((H a=none∧∀us n,h.get? a≠some {cls:=.type "tuple",data:=.seq us n})∨H a=some (false,.opq))
def Prs (H:AH) (fp:List Addr) (h':Heap):Prop:=∀a∈fp,H a=some (false,.opq)→∃x y,h'.get? a=some {cls:=.type "tuple",data:=.seq #[x,y]}
section
variable {W:Wd} {K:Frag} {n:Nat} {env:Env} {ρ:Rho} {H:AH} {h h':Heap} {fp:List Addr}
theorem VR.off (ap:Apt W H h fp) (k:Off fp h h'):∀v u,VR H h v u→VR H h' v u:=VR.keep fun a us n e z=>⟨k a _ (fun m=>by
  rcases(ap a m).2 with q|q
  ·exact q.2 us n e
  ·rw[z]at q;cases q) e,z⟩
theorem St.off (S:W.St H h) (ap:Apt W H h fp) (k:Off fp h h') (hp:Prs H fp h'):W.St H h':=by
 have own:∀a f o,H a=some (f,o)→o≠.opq→∀ob,h.get? a=some ob→h'.get? a=some ob:=fun a f o e ho ob q=>k a ob (fun m=>by
  rcases(ap a m).2 with z|z
  ·rw[z.1]at e;cases e
  ·rw[z]at e;cases e;exact ho rfl) q
 refine⟨fun a f o e=>?_,fun a o e=>?_,S.fl⟩
 ·by_cases ho:o=.opq
  ·subst ho
   by_cases m:a∈fp
   ·rcases(ap a m).2 with z|z
    ·rw[z.1]at e;cases e
    ·exact hp a m z
   ·obtain⟨x,y,q⟩:=S.objs _ _ _ e
    exact⟨x,y,k a _ m q⟩
  ·refine(S.objs a f o e).keep (VR.off ap k) (own a f o e ho) (fun C dx fs q=>?_) fun b q=>by subst q;exact S.objs _ _ _ e
   subst q
   have e2:=S.fl _ _ _ _ _ e
   exact⟨own dx _ _ e2 (fun z=>by cases z),f,e2⟩
 ·obtain⟨q1,q2⟩:=S.base a o e
  exact⟨k a o (fun m=>by rw[(ap a m).1]at e;cases e) q1,q2⟩
theorem Kp.off {X:Addr→Prop} {H₀:AH} {h₀:Heap} (x:Kp X H₀ h₀ H h) (k:Off fp h h') (hf:∀a∈fp,h₀.get? a=none):Kp X H₀ h₀ H h':=fun a o e=>⟨fun n=>
 let ⟨n',o',e',q⟩:=(x a o e).1 n
 ⟨n',o',k a o' (fun m=>by rw[hf a m]at e;cases e) e',q⟩,fun z q=>
 let ⟨q',e'⟩:=(x a o e).2.1 z q
 ⟨q',k a o (fun m=>by rw[hf a m]at e;cases e) e'⟩,let ⟨o',e'⟩:=(x a o e).2.2;⟨o',k a o' (fun m=>by rw[hf a m]at e;cases e) e'⟩⟩
theorem EnvR.dom (e:EnvR W env H h ρ):∀a,frm env a→∃o,h.get? a=some o:=by
 rintro a (rfl|⟨x,hx⟩)
 ·obtain⟨m,⟨o,es,ep,ho,_⟩,_⟩:=e.vals;exact⟨o,ho⟩
 ·obtain⟨_,_,_,v,o,ho,hd⟩:=e.cells x a hx;exact⟨o,ho⟩
theorem EnvR.off (e:EnvR W env H h ρ) (ap:Apt W H h fp) (k:Off fp h h') (hd:∀a∈fp,¬frm env a):EnvR W env H h' ρ:=by
 obtain⟨m,hn,hv⟩:=e.vals
 obtain⟨o,es,ep,ho,r⟩:=id hn
 have hl:=k _ _ (fun z=>hd _ z (.inl rfl)) ho
 have hc:∀x c v,env.cells.lookup x=some c→h.IsCell c v→h'.IsCell c v:=fun x c v q ⟨o,ho,hd'⟩=>⟨o,k _ _ (fun z=>hd _ z (.inr ⟨x,q⟩)) ho,hd'⟩
 refine⟨e.kind,e.glob,e.blt,e.loc,e.has,fun x c q=>?_,e.inj,m,⟨o,es,ep,hl,r⟩,fun x v q=>⟨fun z=>?_,fun z=>?_⟩⟩
 ·obtain⟨z1,z2,z3,v,z4⟩:=e.cells x c q
  exact⟨z1,z2,z3,v,hc x c v q z4⟩
 ·obtain⟨u,a,b⟩:=(hv x v q).1 z
  exact⟨u,a,VR.off ap k _ _ b⟩
 ·obtain⟨c,u,a,b,d⟩:=(hv x v q).2 z
  exact⟨c,u,a,hc _ _ _ a b,VR.off ap k _ _ d⟩
def ItAt (ai:AI) (it:Value) (fp:List Addr) (i:Nat) (H:AH) (h:Heap):Prop:=match ai with
 |.seq (.ref a)=>∃I,it=.ref I∧fp=[I]∧H I=none∧h.IsListIter I a i
 |.seq (.tup xs)=>∃I t us m,it=.ref I∧fp=[I]∧H I=none∧h.IsTupleIter I t i∧h.get? t=some {cls:=.type "tuple",data:=.seq us m}∧H t=none∧VRs H h xs us.toList
 |.seq (.bytes b)=>∃I t,it=.ref I∧fp=[I]∧H I=none∧KBw.IsBytesIter h I b t i
 |.enum (.ref a)=>∃e I old,it=.ref e∧fp=[e,I]∧e≠I∧H e=none∧H I=none∧IsEnum h e I i old∧h.IsListIter I a i
 |.zip (.ref a) (.ref b) r=>∃z TI i1 i2,it=.ref z∧fp=[z,i1,i2,r]∧[z,i1,i2,r,TI].Nodup∧H z=none∧H i1=none∧H i2=none∧H TI=none∧IsZip h z TI r .none∧IsPair h TI (.ref i1) (.ref i2)∧h.IsListIter i1 a i∧h.IsListIter i2 b i
 |.range m=>∃I,it=.ref I∧fp=[I]∧H I=none∧IsRangeIter h I i (m-i) 1
 |_=>False
theorem ItAt.apt {ai:AI} {it:Value} {i:Nat} (x:ItAt ai it fp i H h) (hf:∀a∈fp,W.B.get? a=none) (hr:∀v w r,ai=.zip v w r→H r=some (false,.opq)):Apt W H h fp:=by
 intro a ha
 refine⟨hf a ha,?_⟩
 unfold ItAt at x
 split at x
 ·obtain⟨I,_,rfl,hn,o,ho,hc,hd⟩:=x
  obtain rfl:=List.mem_singleton.mp ha
  refine .inl ⟨hn,fun us n e=>?_⟩
  rw[e]at ho;cases ho;cases hd
 ·obtain⟨I,t,vs,m,_,rfl,hn,⟨o,ho,hc,hd⟩,_⟩:=x
  obtain rfl:=List.mem_singleton.mp ha
  refine .inl ⟨hn,fun us n e=>?_⟩
  rw[e]at ho;cases ho;cases hd
 ·obtain⟨I,t,_,rfl,hn,o,ho,hc,hd⟩:=x
  obtain rfl:=List.mem_singleton.mp ha
  refine .inl ⟨hn,fun us n e=>?_⟩
  rw[e]at ho;cases ho;cases hd
 ·obtain⟨e',I,old,_,rfl,_,h1,h2,he,o,ho,hc,hd⟩:=x
  simp only[List.mem_cons,List.not_mem_nil,or_false]at ha
  rcases ha with rfl|rfl
  ·refine .inl ⟨h1,fun us n e=>?_⟩
   unfold IsEnum at he;rw[e]at he;injection he with he;injection he with _ _ he;cases he
  ·refine .inl ⟨h2,fun us n e=>?_⟩
   rw[e]at ho;cases ho;cases hd
 ·obtain⟨z,TI,i1,i2,_,rfl,_,h1,h2,h3,_,hz,_,⟨o,ho,hc,hd⟩,o',ho',hc',hd'⟩:=x
  simp only[List.mem_cons,List.not_mem_nil,or_false]at ha
  rcases ha with rfl|rfl|rfl|rfl
  ·refine .inl ⟨h1,fun us n e=>?_⟩
   unfold IsZip at hz;rw[e]at hz;injection hz with hz;injection hz with _ _ hz;cases hz
  ·refine .inl ⟨h2,fun us n e=>?_⟩
   rw[e]at ho;cases ho;cases hd
  ·refine .inl ⟨h3,fun us n e=>?_⟩
   rw[e]at ho';cases ho';cases hd'
  ·exact .inr (hr _ _ _ rfl)
 ·obtain⟨I,_,rfl,hn,he⟩:=x
  obtain rfl:=List.mem_singleton.mp ha
  refine .inl ⟨hn,fun us n e=>?_⟩
  unfold IsRangeIter at he;rw[e]at he;injection he with he;injection he with _ _ he;cases he
 ·exact x.elim
theorem ItAt.nil {v:AV} {it:Value} {i:Nat} (x:ItAt (.seq v) it fp i H h):∀a∈fp,H a=Option.none:=by
 cases v with
 |ref a=>
  obtain⟨I,_,rfl,hn,_⟩:=x
  intro b hb;obtain rfl:=List.mem_singleton.mp hb;exact hn
 |tup xs=>
  obtain⟨I,t,us,m,_,rfl,hn,_⟩:=x
  intro b hb;obtain rfl:=List.mem_singleton.mp hb;exact hn
 |bytes b=>
  obtain⟨I,t,_,rfl,hn,_⟩:=x
  intro b hb;obtain rfl:=List.mem_singleton.mp hb;exact hn
 |_=>exact x.elim
theorem ItAt.keep {ai:AI} {it:Value} {i:Nat} {X:Addr→Prop} {H':AH} (x:ItAt ai it fp i H h) (k:Kp X H h H' h') (hX:SeqOut X h) (hd:∀a∈fp,¬X a):ItAt ai it fp i H' h':=by
 have one:∀a∈fp,H a=none→∀o,h.get? a=some o→h'.get? a=some o∧H' a=none:=fun a ha hn o e=>k.getX e hn (hd a ha)
 unfold ItAt at x ⊢
 split at x
 ·obtain⟨I,e1,rfl,hn,o,ho,r⟩:=x
  have:=one I (by simp) hn o ho
  exact⟨I,e1,rfl,this.2,o,this.1,r⟩
 ·obtain⟨I,t,vs,m,e1,rfl,hn,⟨o,ho,r⟩,ht,hn',v⟩:=x
  have:=one I (by simp) hn o ho
  have t2:=k.getX ht hn' (hX _ _ _ ht)
  exact⟨I,t,vs,m,e1,rfl,this.2,⟨o,this.1,r⟩,t2.1,t2.2,v.keep' fun v u=>VR.kp k hX⟩
 ·obtain⟨I,t,e1,rfl,hn,o,ho,r⟩:=x
  have:=one I (by simp) hn o ho
  exact⟨I,t,e1,rfl,this.2,o,this.1,r⟩
 ·obtain⟨e',I,old,e1,rfl,ne,h1,h2,he,o,ho,r⟩:=x
  have t1:=one I (by simp) h2 o ho
  have t2:=one e' (by simp) h1 _ he
  exact⟨e',I,old,e1,rfl,ne,t2.2,t1.2,t2.1,o,t1.1,r⟩
 ·obtain⟨z,TI,i1,i2,e1,rfl,nd,h1,h2,h3,h4,hz,hTI,⟨o,ho,r⟩,o',ho',r'⟩:=x
  have t1:=one z (by simp) h1 _ hz
  have t2:=one i1 (by simp) h2 _ ho
  have t3:=one i2 (by simp) h3 _ ho'
  have t4:=k.getX hTI h4 (hX _ _ _ hTI)
  exact⟨z,TI,i1,i2,e1,rfl,nd,t1.2,t2.2,t3.2,t4.2,t1.1,t4.1,⟨o,t2.1,r⟩,o',t3.1,r'⟩
 ·obtain⟨I,e1,rfl,hn,he⟩:=x
  have:=one I (by simp) hn _ he
  exact⟨I,e1,rfl,this.2,this.1⟩
 ·exact x.elim
end
end
section
section
variable {W:Wd} {K:Frag} {n:Nat} {env:Env} {ρ:Rho} {H:AH} {h h':Heap} {fp:List Addr}
theorem curI_ref {a:Addr} {xs:List AV} (e:curI H (.ref a)=some xs):∃f,H a=some (f,.list xs):=by
 unfold curI at e
 dsimp only at e
 cases hh:H a with
 |none=>rw[hh]at e;cases e
 |some p=>
  obtain⟨f,o⟩:=p
  rw[hh]at e
  cases o<;>simp only[reduceCtorEq,Option.some.injEq]at e
  subst e;exact⟨f,rfl⟩
def isTT:Expr→Bool
 |.Tuple ..=>true
 |_=>false
def isNT:Expr→Bool
 |.Name ..=>true
 |_=>false
theorem lotg_name {t:Expr} {it v:Value} (h:isNT t=true):letOwnedTupleGo t it v=pure ():=by
 cases t<;>first|rfl|cases h
theorem lotg_plain {M:Model} {A:Around} {E:Value→Shared→Prop} {s:Shared} {t:Expr} {I:Addr} {v:Value} {o:Obj} {T:String} {Q:Unit→Shared→Prop} (ho:s.heap.get? I=some o) (hc:o.cls=.type T)
  (hT:["enumerate","zip","dict_itemiterator","dict_reverseitemiterator","odict_iterator","itertools.zip_longest","itertools.pairwise"].contains T=false) (h:Q () s):wpAny M A (letOwnedTupleGo t (.ref I) v) Q E s:=by
 have tup:∀(m:Sem Unit),m=(match (Value.ref I,v)with
   |(.ref r,.ref a)=>do
    let o ←load r
    match o.cls,o.data with
    |.type n,.fields vs=>
     if ["enumerate","zip","dict_itemiterator","dict_reverseitemiterator","odict_iterator","itertools.zip_longest","itertools.pairwise"].contains n&&vs[0]?==some (rawInt a)then do
      rule "for.unpacks-the-owned-tuple"
      updateField r 0 .none
     else pure ()
    |_,_=>pure ()
   |_=>pure ())→wpAny M A m Q E s:=by
  rintro m rfl
  cases v<;>first|exact wpAny_pure h|skip
  refine wpAny_bind (wpAny_load ho ?_)
  rw[hc]
  cases o.data<;>first|exact wpAny_pure h|skip
  dsimp only
  rw[hT]
  exact wpAny_pure h
 cases t<;>first|exact wpAny_pure h|exact tup _ rfl
theorem next_ok {ai:AI} {it:Value} {i:Nat} {o:Option AV} {A:Around} {s:Shared} {R:Option Value→Shared→Prop} {E:Value→Shared→Prop} {target:Expr} (hh:A.handled=none) (x:ItAt ai it fp i H s.heap)
  (hfr:∀a∈fp,W.B.get? a=none) (S:W.St H s.heap) (hn:nextI H ai i=some o) (htg:(isNT target=true∧ai.ok1)∨(isTT target=true∧ai.okT))
  (hnone:o=none→∀s1,Off fp s.heap s1.heap→Same s s1→R none s1)
  (hsome:∀v,o=some v→∀u s1,(∀(R':Unit→Shared→Prop) (E':Value→Shared→Prop),(∀s2,ItAt ai it fp (i+1) H s2.heap→VR H s2.heap v u→Off fp s.heap s2.heap→Prs H fp s2.heap→Same s s2→R' () s2)→
   wpAny (model W.prog W.w) A (letOwnedTupleGo target it u) R' E' s1)→R (some u) s1) :
  wpAny (model W.prog W.w) A (pyNext it) R E s:=by
 have noOpq:∀{I:Addr},fp=[I]→H I=none→∀h,Prs H fp h:=fun e1 e2 h a ha q=>by
  subst e1;obtain rfl:=List.mem_singleton.mp ha
  rw[e2]at q;cases q
 have apt:=x.apt hfr
 unfold ItAt at x
 split at x
 ·rename_i a
  obtain⟨I,rfl,rfl,hI,hit⟩:=x
  simp only[nextI,Option.map_eq_some_iff]at hn
  obtain⟨xs,hc,rfl⟩:=hn
  obtain⟨f,e⟩:=curI_ref hc
  obtain⟨us,m,h1,v1⟩:=list_at S e
  have L:s.heap.IsList a us:=⟨_,h1,rfl,m,rfl⟩
  have apt:=apt (by intro _ _ _ h;cases h)
  have off:∀h',(∀b o,b≠I→s.heap.get? b=some o→h'.get? b=some o)→Off [I] s.heap h':=fun h' k b o m e=>k b o (fun z=>m (by rw[z];simp)) e
  cases hx:xs[i]? with
  |none=>
   have:us[i]?=none:=by
    rw[Array.getElem?_eq_none_iff,v1.size];exact List.getElem?_eq_none_iff.mp hx
   exact wpAny_pyNext_list_end hh hit L this fun h' k=>hnone hx _ (off h' k) ⟨rfl,rfl⟩
  |some v=>
   obtain⟨u,hu,vu⟩:=v1.get hx
   rw[Array.getElem?_toList]at hu
   refine wpAny_pyNext_list_item hit L hu fun h' it' sb=>hsome v hx u _ fun R' E' P=>?_
   obtain⟨oI,hoI,hcI,hdI⟩:=id it'
   have k:=off h' sb.extBut
   exact lotg_plain hoI hcI (by decide) (P _ ⟨I,rfl,rfl,hI,it'⟩ (VR.off apt k _ _ vu) k (noOpq rfl hI _) ⟨rfl,rfl⟩)
 ·rename_i xs
  obtain⟨I,t,us,m,rfl,rfl,hI,hit,ht,hnt,vs⟩:=x
  simp only[nextI,curI,Option.map_some,Option.some.injEq]at hn
  subst hn
  have L:s.heap.IsTuple t us:=⟨_,ht,rfl,m,rfl⟩
  have apt:=apt (by intro _ _ _ h;cases h)
  have off:∀h',(∀b o,b≠I→s.heap.get? b=some o→h'.get? b=some o)→Off [I] s.heap h':=fun h' k b o m e=>k b o (fun z=>m (by rw[z];simp)) e
  cases hx:xs[i]? with
  |none=>
   have:us[i]?=none:=by
    rw[Array.getElem?_eq_none_iff,vs.size];exact List.getElem?_eq_none_iff.mp hx
   exact wpAny_pyNext_tuple_end hh hit L this fun h' k=>hnone hx _ (off h' k) ⟨rfl,rfl⟩
  |some v=>
   obtain⟨u,hu,vu⟩:=vs.get hx
   rw[Array.getElem?_toList]at hu
   refine wpAny_pyNext_tuple_item hit L hu fun h' it' sb=>hsome v hx u _ fun R' E' P=>?_
   obtain⟨oI,hoI,hcI,hdI⟩:=id it'
   have k:=off h' sb.extBut
   have htI:t∉[I]:=fun z=>by
    obtain rfl:=List.mem_singleton.mp z
    obtain⟨o,ho,_,hd⟩:=hit
    rw[ht]at ho;cases ho;cases hd
   exact lotg_plain hoI hcI (by decide) (P _ ⟨I,t,us,m,rfl,rfl,hI,it',k _ _ htI ht,hnt,vs.keep' (VR.off apt k)⟩ (VR.off apt k _ _ vu) k (noOpq rfl hI _) ⟨rfl,rfl⟩)
 ·rename_i b
  obtain⟨I,t,rfl,rfl,hI,hit⟩:=x
  simp only[nextI,curI,Option.map_some,Option.some.injEq]at hn
  subst hn
  have off:∀h',(∀b o,b≠I→s.heap.get? b=some o→h'.get? b=some o)→Off [I] s.heap h':=fun h' k b o m e=>k b o (fun z=>m (by rw[z];simp)) e
  cases hb:b[i]? with
  |none=>
   have hx:((bInts b).map AV.int)[i]?=none:=by
    simp only[bInts,List.getElem?_map,Array.getElem?_toList,hb,Option.map_none]
   exact KBw.next_end hh hit hb fun h' k=>hnone hx _ (off h' k) ⟨rfl,rfl⟩
  |some c=>
   have hx:((bInts b).map AV.int)[i]?=some (.int (c.toNat:Int)):=by
    simp only[bInts,List.getElem?_map,Array.getElem?_toList,hb,Option.map_some]
   refine KBw.next_item hit hb fun h' it' sb=>hsome _ hx _ _ fun R' E' P=>?_
   obtain⟨oI,hoI,hcI,hdI⟩:=id it'
   have k:=off h' sb.extBut
   exact lotg_plain hoI hcI (by decide) (P _ ⟨I,t,rfl,rfl,hI,it'⟩ (by simp only[VR];exact⟨_,rfl⟩) k (noOpq rfl hI _) ⟨rfl,rfl⟩)
 ·rename_i a
  obtain⟨e',I,old,rfl,rfl,hne,hE,hI,he,hit⟩:=x
  simp only[nextI,Option.map_eq_some_iff]at hn
  obtain⟨xs,hc,rfl⟩:=hn
  obtain⟨f,e⟩:=curI_ref hc
  obtain⟨us,m,h1,v1⟩:=list_at S e
  have L:s.heap.IsList a us:=⟨_,h1,rfl,m,rfl⟩
  have apt:=apt (by intro _ _ _ h;cases h)
  have htt:isTT target=true:=by rcases htg with⟨_,h⟩|⟨h,_⟩<;>first|exact h|exact h.elim
  cases hx:xs[i]? with
  |none=>
   have:us[i]?=none:=by
    rw[Array.getElem?_eq_none_iff,v1.size];exact List.getElem?_eq_none_iff.mp hx
   exact wpAny_pyNext_enum_end hh he hit L this fun h' k=>hnone (by rw[hx];rfl) _ (fun b o m e=>k b o (fun z=>m (by rw[z];simp)) e) ⟨rfl,rfl⟩
  |some v=>
   obtain⟨u,hu,vu⟩:=v1.get hx
   rw[Array.getElem?_toList]at hu
   refine wpAny_pyNext_enum_item he hit L hu hne fun h' eo it' tp sz k1=>hsome (.tup [.int (Int.ofNat i),v]) (by rw[hx];rfl) _ _ fun R' E' P=>?_
   cases target<;>simp only[isTT,Bool.false_eq_true]at htt
   refine wpAny_letOwnedTupleGo_enum eo fun h2 he2 sb=>?_
   replace sb:Heap.SameBut e' h' h2:=sb
   have k:Off [e',I] s.heap h2:=fun b o m e=>by
    have hb1:b≠e':=fun z=>m (by rw[z];simp)
    exact sb.extBut b o hb1 (k1 b o hb1 (fun z=>m (by rw[z];simp)) e)
   have hen:s.heap.objs.size≠e':=fun z=>Nat.lt_irrefl _ (z▸Heap.lt_size he)
   refine P _ ⟨e',I,u,rfl,rfl,hne,hE,hI,?_,?_⟩ ?_ k (fun a ha q=>?_) ⟨rfl,rfl⟩
   ·have:((i+1:Nat):Int)=(i:Int)+1:=by push_cast;rfl
    rw[this];exact he2
   ·obtain⟨o,ho,r⟩:=it'
    exact⟨o,sb.extBut _ _ (Ne.symm hne) ho,r⟩
   ·simp only[VR,VRs]
    refine⟨s.heap.objs.size,#[.int i s.toks,u],0,rfl,sb.extBut _ _ hen tp,S.none_of_ge (Nat.le_refl _),_,_,rfl,⟨s.toks,rfl⟩,u,[],rfl,VR.off apt k _ _ vu,rfl⟩
   ·simp only[List.mem_cons,List.not_mem_nil,or_false]at ha
    rcases ha with rfl|rfl
    ·rw[hE]at q;cases q
    ·rw[hI]at q;cases q
 ·rename_i a b r
  obtain⟨z,TI,i1,i2,rfl,rfl,nd,hz0,h10,h20,hT0,hz,hTI,hi1,hi2⟩:=x
  have hr:H r=some (false,.opq):=by
   simp only[nextI]at hn
   split at hn
   ·assumption
   ·cases hn
  simp only[nextI,hr]at hn
  simp only[Option.bind_eq_some_iff,Option.map_eq_some_iff]at hn
  obtain⟨xs,hc,ys,hc',rfl⟩:=hn
  obtain⟨f,e⟩:=curI_ref hc
  obtain⟨g,e'⟩:=curI_ref hc'
  obtain⟨us,m,h1,v1⟩:=list_at S e
  obtain⟨vs,m',h2,v2⟩:=list_at S e'
  have apt:=apt (by intro _ _ _ h;cases h;exact hr)
  have htt:isTT target=true:=by rcases htg with⟨_,h⟩|⟨h,_⟩<;>first|exact h|exact h.elim
  obtain⟨px,py,hTO⟩:=S.objs _ _ _ hr
  simp only[List.nodup_cons,List.mem_cons,List.not_mem_nil,or_false,not_or,List.nodup_nil,and_true,not_false_eq_true]at nd
  obtain⟨⟨d1,d2,d3,d4⟩,⟨d5,d6,d7⟩,⟨d8,d9⟩,d10⟩:=nd
  have ownne:∀{c:Addr} {p:Bool × AO} {q:Addr},H c=some p→H q=none→c≠q:=fun h1 h2 z=>by rw[z,h2]at h1;cases h1
  have ra:a≠r:=fun z=>by rw[z,hr]at e;cases e
  have rb:b≠r:=fun z=>by rw[z,hr]at e';cases e'
  have D:ZipApart z TI r i1 i2 a b:=⟨Ne.symm d4,Ne.symm d3,Ne.symm d1,Ne.symm d2,Ne.symm d10,Ne.symm d7,Ne.symm d9,Ne.symm d6,Ne.symm d8,d5,ownne e hz0,ra,ownne e h10,ownne e h20,ownne e' hz0,rb,ownne e' h10,ownne e' h20⟩
  have L1:s.heap.IsList a us:=⟨_,h1,rfl,m,rfl⟩
  have L2:s.heap.IsList b vs:=⟨_,h2,rfl,m',rfl⟩
  by_cases hend:us[i]?=none∨vs[i]?=none
  ·refine wpAny_pyNext_zip_end hh D hz hTI hTO hi1 hi2 L1 L2 hend fun h' k=>hnone ?_ _ (fun c o m e=>k c o (fun z=>m (by rw[z];simp)) (fun z=>m (by rw[z];simp)) (fun z=>m (by rw[z];simp)) (fun z=>m (by rw[z];simp)) e) ⟨rfl,rfl⟩
   rcases hend with h|h
   ·have:xs[i]?=none:=by rw[List.getElem?_eq_none_iff,←v1.size];exact Array.getElem?_eq_none_iff.mp h
    rw[this]
   ·have:ys[i]?=none:=by rw[List.getElem?_eq_none_iff,←v2.size];exact Array.getElem?_eq_none_iff.mp h
    rw[this];cases xs[i]?<;>rfl
  ·simp only[not_or]at hend
   obtain⟨u,hu⟩:=Option.ne_none_iff_exists'.mp hend.1
   obtain⟨w,hw⟩:=Option.ne_none_iff_exists'.mp hend.2
   have lx:i<xs.length:=by rw[←v1.size];exact(Array.getElem?_eq_some_iff.mp hu).1
   have ly:i<ys.length:=by rw[←v2.size];exact(Array.getElem?_eq_some_iff.mp hw).1
   obtain⟨u',hu',vu⟩:=v1.get (List.getElem?_eq_getElem lx)
   obtain⟨w',hw',vw⟩:=v2.get (List.getElem?_eq_getElem ly)
   rw[Array.getElem?_toList,hu]at hu';cases hu'
   rw[Array.getElem?_toList,hw]at hw';cases hw'
   refine wpAny_pyNext_zip_item D hz hTI hTO hi1 hi2 L1 L2 hu hw fun h' z' TO' i1' i2' tp sz k1=>hsome (.tup [xs[i],ys[i]]) (by rw[List.getElem?_eq_getElem lx,List.getElem?_eq_getElem ly]) _ _ fun R' E' P=>?_
   cases target<;>simp only[isTT,Bool.false_eq_true]at htt
   refine wpAny_letOwnedTupleGo_zip z' fun h2' hz2 sb=>?_
   replace sb:Heap.SameBut z h' h2':=sb
   have k:Off [z,i1,i2,r] s.heap h2':=fun c o m e=>by
    have hb1:c≠z:=fun y=>m (by rw[y];simp)
    exact sb.extBut c o hb1 (k1 c o hb1 (fun y=>m (by rw[y];simp)) (fun y=>m (by rw[y];simp)) (fun y=>m (by rw[y];simp)) e)
   have hen:s.heap.objs.size≠z:=fun y=>Nat.lt_irrefl _ (y▸Heap.lt_size hz)
   have nTI:TI∉[z,i1,i2,r]:=by simp only[List.mem_cons,List.not_mem_nil,or_false,not_or];exact⟨Ne.symm d4,Ne.symm d7,Ne.symm d9,Ne.symm d10⟩
   refine P _ ⟨z,TI,i1,i2,rfl,rfl,?_,hz0,h10,h20,hT0,hz2,k _ _ nTI hTI,?_,?_⟩ ?_ k (fun c hc q=>?_) ⟨rfl,rfl⟩
   ·simp only[List.nodup_cons,List.mem_cons,List.not_mem_nil,or_false,not_or,List.nodup_nil,and_true,not_false_eq_true]
    exact⟨⟨d1,d2,d3,d4⟩,⟨d5,d6,d7⟩,⟨d8,d9⟩,d10⟩
   ·obtain⟨o,ho,r⟩:=i1'
    exact⟨o,sb.extBut _ _ (Ne.symm d1) ho,r⟩
   ·obtain⟨o,ho,r⟩:=i2'
    exact⟨o,sb.extBut _ _ (Ne.symm d2) ho,r⟩
   ·simp only[VR,VRs]
    exact⟨s.heap.objs.size,#[u,w],0,rfl,sb.extBut _ _ hen tp,S.none_of_ge (Nat.le_refl _),u,[w],rfl,VR.off apt k _ _ vu,w,[],rfl,VR.off apt k _ _ vw,rfl⟩
   ·by_cases hcr:c=r
    ·subst hcr
     exact⟨u,w,sb.extBut _ _ (Ne.symm d3) TO'⟩
    ·simp only[List.mem_cons,List.not_mem_nil,or_false]at hc
     rcases hc with rfl|rfl|rfl|rfl
     ·rw[hz0]at q;cases q
     ·rw[h10]at q;cases q
     ·rw[h20]at q;cases q
     ·exact absurd rfl hcr
 ·rename_i m
  obtain⟨I,rfl,rfl,hI,hit⟩:=x
  simp only[nextI,Option.some.injEq]at hn
  subst hn
  have off:∀h',(∀b o,b≠I→s.heap.get? b=some o→h'.get? b=some o)→Off [I] s.heap h':=fun h' k b o m e=>k b o (fun z=>m (by rw[z];simp)) e
  by_cases hlt:(i:Int)<m
  ·refine wpAny_pyNext_range_item hit (by omega) fun h' it' sb=>hsome (.int (Int.ofNat i)) (if_pos hlt) _ _ fun R' E' P=>?_
   have k:=off h' sb.extBut
   refine lotg_plain (T:="range_iterator") it' rfl (by decide) (P _ ⟨I,rfl,rfl,hI,?_⟩ (by simp only[VR];exact⟨_,rfl⟩) k (noOpq rfl hI _) ⟨rfl,rfl⟩)
   have e1:((i+1:Nat):Int)=(i:Int)+1:=by push_cast;rfl
   rw[e1,show m-((i:Int)+1)=m-i-1 by omega];exact it'
  ·exact wpAny_pyNext_range_end hh hit (by omega) fun h' k=>hnone (if_neg hlt) _ (off h' k) ⟨rfl,rfl⟩
 ·exact x.elim
end
end
section
section
variable {W:Wd} {K:Frag} {n:Nat} {env:Env} {ρ:Rho} {H:AH} {h h':Heap} {fp:List Addr}
theorem St.reserve (S:W.St H h) (gr:∀a o,h.get? a=some o→h'.get? a=some o) {r:Addr} (hr:h.objs.size≤r) (hp:∃x y,h'.get? r=some {cls:=.type "tuple",data:=.seq #[x,y]}) :
  H r=none∧W.St (H.set r .opq) h'∧Kp nX H h (H.set r .opq) h':=by
 have hn:=S.none_of_ge hr
 have ne:∀a o,h.get? a=some o→a≠r:=fun a o e z=>by subst z;exact absurd (Heap.lt_size e) (Nat.not_lt.mpr hr)
 have kv:∀v u,VR H h v u→VR (H.set r .opq) h' v u:=VR.keep fun a us k e z=>⟨gr _ _ e,(AH.set_ne H _ (ne a _ e)).trans z⟩
 refine⟨hn,⟨fun a f o e=>?_,fun a o e=>?_,fun a f C dx fs e=>?_⟩,fun a o e=>⟨fun z=>⟨(AH.set_ne H _ (ne a o e)).trans z,o,gr _ _ e,fun _=>rfl⟩,fun x z=>⟨(AH.set_ne H _ (ne a o e)).trans z,gr _ _ e⟩,o,gr _ _ e⟩⟩
 ·by_cases har:a=r
  ·subst har;rw[AH.set_same]at e;cases e;exact hp
  ·rw[AH.set_ne H _ har]at e
   refine(S.objs a f o e).keep kv (gr a) (fun C dx fs z=>?_) fun b z=>?_
   ·subst z
    obtain⟨_,⟨g,e2⟩,_⟩:=S.objs _ _ _ e
    have hd:dx≠r:=fun y=>by rw[y,hn]at e2;cases e2
    exact⟨gr dx,g,(AH.set_ne H _ hd).trans e2⟩
   ·subst z
    obtain⟨g,C,fs,e2⟩:=S.objs _ _ _ e
    have hb:b≠r:=fun y=>by rw[y,hn]at e2;cases e2
    exact⟨g,C,fs,(AH.set_ne H _ hb).trans e2⟩
 ·obtain⟨q1,q2⟩:=S.base a o e
  exact⟨gr _ _ q1,fun x=>by rw[AH.set_ne H _ (ne a o q1)];exact q2 x⟩
 ·by_cases har:a=r
  ·subst har;rw[AH.set_same]at e;cases e
  ·rw[AH.set_ne H _ har]at e
   have e2:=S.fl _ _ _ _ _ e
   have hd:dx≠r:=fun y=>by rw[y,hn]at e2;cases e2
   exact(AH.set_ne H _ hd).trans e2
def OkSr (W:Wd) (n:Nat) (iter:Expr) (env:Env) (ρ:Rho) (H:AH) (Q:AI→AH→Prop):Prop:=
 ∀(A:Around) (s:Shared) (R E:Value→Shared→Prop),Room n A→W.St H s.heap→EnvR W env H s.heap ρ→
  (∀it ai fp s1 H1 s2 H2,Aft W H s H1 s1→Aft W H1 s1 H2 s2→ItAt ai it fp 0 H2 s2.heap→(∀a∈fp,s1.heap.get? a=none)→Q ai H2→R it s2)→
  wpAny (model W.prog W.w) A (eval iter env) (fun x s₁=>wpAny (model W.prog W.w) A (pyIter x) R E s₁) E s
theorem fresh_at {h:Heap} {a:Addr} (ha:h.objs.size≤a):h.get? a=none:=by
 cases e:h.get? a with
 |none=>rfl
 |some o=>exact absurd (Heap.lt_size e) (Nat.not_lt.mpr ha)
theorem pyIter_seq {v:AV} {u:Value} {A:Around} {s:Shared} {R E:Value→Shared→Prop} (S:W.St H s.heap) (hx:VR H s.heap v u) (hok:∃o,nextI H (.seq v) 0=some o)
  (P:∀it fp s2,Aft W H s H s2→ItAt (.seq v) it fp 0 H s2.heap→(∀a∈fp,s.heap.get? a=none)→R it s2):wpAny (model W.prog W.w) A (pyIter u) R E s:=by
 obtain⟨o,ho⟩:=hok
 simp only[nextI,Option.map_eq_some_iff]at ho
 obtain⟨xs,hc,_⟩:=ho
 have nf:=fresh_at (Nat.le_refl s.heap.objs.size)
 have hn:=S.none_of_ge (Nat.le_refl s.heap.objs.size)
 cases v with
 |ref a=>
  obtain⟨f,e⟩:=curI_ref hc
  simp only[VR]at hx;subst hx
  obtain⟨us,m,h1,v1⟩:=list_at S e
  refine wpAny_pyIter_list (items:=us) ⟨_,h1,rfl,m,rfl⟩ (P _ [s.heap.objs.size] _ (.grow S ⟨rfl,rfl⟩ fun b o e=>Heap.get?_push_of_some _ e) ⟨_,rfl,rfl,hn,_,Heap.get?_push_size _ rfl,rfl,rfl⟩ (by simpa using nf))
 |tup ys=>
  simp only[VR]at hx
  obtain⟨t,us,m,rfl,ht,hz,vs⟩:=hx
  have gr:∀b o,s.heap.get? b=some o→(s.heap.push {cls:=.type "tuple_iterator",data:=.fields #[.ref t,.int 0 0]}).get? b=some o:=fun b o e=>Heap.get?_push_of_some _ e
  refine wpAny_pyIter_tuple (items:=us) ⟨_,ht,rfl,m,rfl⟩ (P _ [s.heap.objs.size] _ (.grow S ⟨rfl,rfl⟩ gr) ⟨_,t,us,m,rfl,rfl,hn,⟨_,Heap.get?_push_size _ rfl,rfl,rfl⟩,gr _ _ ht,hz,vs.keep' (VR.keep fun a us n e z=>⟨gr _ _ e,z⟩)⟩ (by simpa using nf))
 |bytes b=>
  simp only[VR]at hx
  obtain⟨t,rfl⟩:=hx
  refine KBw.pyIter_bytes (P _ [s.heap.objs.size] _ (.grow S ⟨rfl,rfl⟩ fun b o e=>Heap.get?_push_of_some _ e) ⟨_,t,rfl,rfl,hn,_,Heap.get?_push_size _ rfl,rfl,rfl⟩ (by simpa using nf))
 |_=>simp[curI]at hc
theorem oksr_one {e:Expr} {Q:AI→AH→Prop} (h:OkE W n e env ρ H fun v H=>(∃o,nextI H (.seq v) 0=some o)∧Q (.seq v) H):OkSr W n e env ρ H Q:=fun A s R E hr S er P=>
 h A s _ E hr S er fun v u s1 H1 hx a q=>pyIter_seq a.st hx q.1 fun it fp s2 b x hf=>P it (.seq v) fp s1 H1 s2 H1 a b x hf q.2
theorem oksr_enum (G:Gd W K) {p pos:Pos} {e:Expr} {sc:Names} {Q:AI→AH→Prop} (ag:Agree env sc) (hg:isGlobal sc sEnum=true) (hst:isStar e=false)
  (h:OkE W n e env ρ H fun v H=>(∃o,nextI H (.enum v) 0=some o)∧(∃a,v=.ref a)∧Q (.enum v) H):OkSr W n (.Call (.Name sEnum p) [e] [] pos) env ρ H Q:=fun A s R E hr S er P=>by
 refine eval_Call_Name (builtin_at G ag hg S er G.enumOK (callW (P:=fun _=>True) (by simp[noStars,hst]) keep_type (OkEs.cons hst (Q:=fun vs H=>∃v,vs=[v]∧(∃o,nextI H (.enum v) 0=some o)∧(∃a,v=.ref a)∧Q (.enum v) H)
  (OkE.mono h fun v H' q=>OkEs.nil ⟨v,rfl,q⟩) pos A s _ E hr S er fun vs us s1 H1 x a q=>⟨trivial,?_⟩)))
 obtain⟨v,rfl,⟨o,ho⟩,⟨l,rfl⟩,q⟩:=q
 simp only[VRs,VR]at x
 obtain⟨_,_,rfl,rfl,rfl⟩:=x
 simp only[nextI,Option.map_eq_some_iff]at ho
 obtain⟨xs,hc,_⟩:=ho
 obtain⟨f,e⟩:=curI_ref hc
 obtain⟨us,m,h1,v1⟩:=list_at a.st e
 refine call_enumerate_list (items:=us) ⟨_,h1,rfl,m,rfl⟩ fun h' he hit sz k=>wpAny_pyIter_enum he ?_
 have hn:=a.st.none_of_ge (Nat.le_refl s1.heap.objs.size)
 have hn':=a.st.none_of_ge (Nat.le_succ s1.heap.objs.size)
 refine P _ (.enum (.ref l)) [s1.heap.objs.size+1,s1.heap.objs.size] s1 H1 _ H1 a (.grow a.st ⟨rfl,rfl⟩ k) ⟨_,_,_,rfl,rfl,Nat.succ_ne_self _,hn',hn,he,hit⟩ (fun b hb=>?_) q
 simp only[List.mem_cons,List.not_mem_nil,or_false]at hb
 rcases hb with rfl|rfl<;>exact fresh_at (by omega)
theorem oksr_range (G:Gd W K) {p pos:Pos} {e:Expr} {sc:Names} {Q:AI→AH→Prop} (ag:Agree env sc) (hg:isGlobal sc sRange=true) (hst:isStar e=false)
  (h:OkE W n e env ρ H fun v H=>∃i,v=.int i∧0≤i∧i≤1000000∧Q (.range i) H):OkSr W n (.Call (.Name sRange p) [e] [] pos) env ρ H Q:=fun A s R E hr S er P=>by
 refine eval_Call_Name (builtin_at G ag hg S er G.rangeOK (callW (P:=fun _=>True) (by simp[noStars,hst]) keep_type (OkEs.cons hst (Q:=fun vs H=>∃i,vs=[.int i]∧0≤i∧i≤1000000∧Q (.range i) H)
  (OkE.mono h fun v H' q=>OkEs.nil (by obtain⟨i,rfl,q⟩:=q;exact⟨i,rfl,q⟩)) pos A s _ E hr S er fun vs us s1 H1 x a q=>⟨trivial,?_⟩)))
 obtain⟨i,rfl,h0,h1,q⟩:=q
 simp only[VRs,VR]at x
 obtain⟨_,_,rfl,⟨t,rfl⟩,rfl⟩:=x
 refine call_range_1 ?_
 refine wpAny_pyIter_range (IsRange.new ..) (small_one (by omega) (by omega) (by omega) (by omega)) ?_
 have gr:∀b o,s1.heap.get? b=some o→((s1.heap.push {cls:=.type "range",data:=.fields #[.int 0 s1.toks,.int i t,.int 1 (s1.toks+1)]}).push {cls:=.type "range_iterator",data:=.fields #[rawInt 0,rawInt (Builtin.Range.rangeSize 0 i 1),rawInt 1]}).get? b=some o:=fun b o e=>Heap.get?_push_of_some _ (Heap.get?_push_of_some _ e)
 have sz:s1.heap.objs.size≤(s1.heap.push {cls:=.type "range",data:=.fields #[.int 0 s1.toks,.int i t,.int 1 (s1.toks+1)]}).objs.size:=by rw[Heap.size_push];omega
 refine P _ (.range i) [_] s1 H1 _ H1 a (.grow a.st ⟨rfl,rfl⟩ gr) ⟨_,rfl,rfl,a.st.none_of_ge sz,?_⟩ (fun b hb=>?_) q
 ·have e:Builtin.Range.rangeSize 0 i 1=i-((0:Nat):Int):=by
   rw[rangeSize_one];split<;>simp<;>omega
  rw[←e]
  exact Heap.get?_push_size _ rfl
 ·obtain rfl:=List.mem_singleton.mp hb
  exact fresh_at sz
theorem oksr_zip (G:Gd W K) {p pos:Pos} {e g:Expr} {sc:Names} {Q:AI→AH→Prop} (ag:Agree env sc) (hg:isGlobal sc sZip=true) (hst:isStar e=false) (hst':isStar g=false)
  (h:OkE W n e env ρ H fun v H=>OkE W n g env ρ H fun u H=>(∃a b f f' xs ys,v=.ref a∧u=.ref b∧H a=some (f,.list xs)∧H b=some (f',.list ys))∧∀r,H r=none→Q (.zip v u r) (H.set r .opq)):OkSr W n (.Call (.Name sZip p) [e,g] [] pos) env ρ H Q:=fun A s R E hr S er P=>by
 refine eval_Call_Name (builtin_at G ag hg S er G.zipOK (callW (P:=fun _=>True) (by simp[noStars,hst,hst']) keep_type (OkEs.cons hst (Q:=fun vs H=>∃v u,vs=[v,u]∧(∃a b f f' xs ys,v=.ref a∧u=.ref b∧H a=some (f,.list xs)∧H b=some (f',.list ys))∧∀r,H r=none→Q (.zip v u r) (H.set r .opq))
  (OkE.mono h fun v H' q=>OkEs.cons hst' (OkE.mono q fun u H'' q=>OkEs.nil ⟨v,u,rfl,q⟩)) pos A s _ E hr S er fun vs us s1 H1 x a q=>⟨trivial,?_⟩)))
 obtain⟨v,u,rfl,⟨l,l',f,f',xs,ys,rfl,rfl,e1,e2⟩,q⟩:=q
 simp only[VRs,VR]at x
 obtain⟨_,_,rfl,rfl,_,_,rfl,rfl,rfl⟩:=x
 obtain⟨us,m,h1,v1⟩:=list_at a.st e1
 obtain⟨vs,m',h2,v2⟩:=list_at a.st e2
 refine call_zip_2 (xs:=us) (ys:=vs) ⟨_,h1,rfl,m,rfl⟩ ⟨_,h2,rfl,m',rfl⟩ fun h' hz hTI hTO i1 i2 sz k=>wpAny_pyIter_zip hz ?_
 have nn:∀j,H1 (s1.heap.objs.size+j)=none:=fun j=>a.st.none_of_ge (by omega)
 obtain⟨hn,S',kp⟩:=St.reserve a.st k (r:=s1.heap.objs.size+3) (by omega) ⟨_,_,hTO⟩
 have st:∀j,j≠3→H1.set (s1.heap.objs.size+3) .opq (s1.heap.objs.size+j)=none:=fun j hj=>(AH.set_ne H1 _ (fun z=>hj (Nat.add_left_cancel z))).trans (nn j)
 refine P _ (.zip (.ref l) (.ref l') (s1.heap.objs.size+3)) [s1.heap.objs.size+4,s1.heap.objs.size,s1.heap.objs.size+1,s1.heap.objs.size+3] s1 H1 _ _ a ⟨S',kp,⟨rfl,rfl⟩⟩
  ⟨_,s1.heap.objs.size+2,s1.heap.objs.size,s1.heap.objs.size+1,rfl,rfl,?_,st 4 (by decide),st 0 (by decide),st 1 (by decide),st 2 (by decide),hz,hTI,i1,i2⟩ (fun b hb=>?_) (q _ hn)
 ·simp only[List.nodup_cons,List.mem_cons,List.not_mem_nil,or_false,not_or,List.nodup_nil,and_true,not_false_eq_true]
  have k1:∀i j:Nat,i≠j→¬(s1.heap.objs.size+i=s1.heap.objs.size+j):=fun i j h z=>h (Nat.add_left_cancel z)
  exact⟨⟨k1 4 0 (by decide),k1 4 1 (by decide),k1 4 3 (by decide),k1 4 2 (by decide)⟩,⟨k1 0 1 (by decide),k1 0 3 (by decide),k1 0 2 (by decide)⟩,⟨k1 1 3 (by decide),k1 1 2 (by decide)⟩,k1 3 2 (by decide)⟩
 ·simp only[List.mem_cons,List.not_mem_nil,or_false]at hb
  rcases hb with rfl|rfl|rfl|rfl<;>exact fresh_at (by omega)
end
end
section
def clOf (env:Env):List (Str × NameKind)→List (Str × Addr)→List (Str × Addr)
 |[],acc=>acc
 |(n,k)::r,acc=>clOf env r (if k==.free then(n,(env.cells.lookup n).getD 0)::acc else acc)
theorem closureFor_eq {scope:Scope} {env:Env} (h:∀p∈scope.names,p.2=.free→∃c,env.cells.lookup p.1=some c):closureFor scope env=pure (clOf env scope.names []):=by
 simp only[closureFor]
 have key:∀(l:List (Str × NameKind)) (acc:List (Str × Addr)),(∀p∈l,p.2=.free→∃c,env.cells.lookup p.1=some c)→
   (forIn l acc (fun x r=>if (x.2==NameKind.free)=true then do let a ←cellOf env x.1;pure (ForInStep.yield ((x.1,a)::r))else pure (ForInStep.yield r)):Sem (List (Str × Addr)))=pure (clOf env l acc):=by
  intro l
  induction l with
  |nil=>intro acc _;rfl
  |cons p l ih=>
   intro acc hp
   obtain⟨n,k⟩:=p
   simp only[List.forIn_cons,clOf]
   by_cases hk:(k==NameKind.free)=true
   ·obtain⟨c,hc⟩:=hp (n,k) (.head _) (by simpa using hk)
    have e:cellOf env n=pure c:=by unfold cellOf;rw[hc]
    simp only[hk,if_true,e,hc,Option.getD_some,pure_bind]
    exact ih _ fun p hp'=>hp p (.tail _ hp')
   ·simp only[hk,if_false,Bool.false_eq_true,pure_bind]
    exact ih _ fun p hp'=>hp p (.tail _ hp')
 have:=key scope.names [] h
 first|rw[this];rfl|simp only[this];rfl
theorem clOf_lookup (env:Env) (y:Str):∀(l:List (Str × NameKind)) (acc:List (Str × Addr)) (c:Addr),(∀p∈l,p.2=.free→∃c,env.cells.lookup p.1=some c)→(∀c,acc.lookup y=some c→env.cells.lookup y=some c)→(clOf env l acc).lookup y=some c→env.cells.lookup y=some c
 |[],acc,c,_,ha,h=>ha c h
 |(n,k)::r,acc,c,hp,ha,h=>by
  simp only[clOf]at h
  refine clOf_lookup env y r _ c (fun p hp'=>hp p (.tail _ hp')) (fun c' hc=>?_) h
  by_cases hk:(k==NameKind.free)=true
  ·rw[if_pos hk]at hc
   by_cases hn:y=n
   ·subst hn
    obtain⟨d,hd⟩:=hp (y,k) (.head _) (by simpa using hk)
    simp only[List.lookup_cons,beq_self_eq_true,Option.some.injEq]at hc
    rw[hd]at hc ⊢;simpa using hc
   ·rw[List.lookup_cons,beq_eq_false_iff_ne.mpr hn]at hc;exact ha c' hc
  ·rw[if_neg hk]at hc;exact ha c' hc
theorem clOf_has (env:Env) (y:Str) (c:Addr) (hc:env.cells.lookup y=some c):∀(l:List (Str × NameKind)) (acc:List (Str × Addr)),((y,.free)∈l∨acc.lookup y=some c)→(clOf env l acc).lookup y=some c
 |[],acc,h=>by
  rcases h with h|h
  ·cases h
  ·exact h
 |(n,k)::r,acc,h=>by
  simp only[clOf]
  refine clOf_has env y c hc r _ ?_
  by_cases hk:(k==NameKind.free)=true
  ·rw[if_pos hk]
   by_cases hn:y=n
   ·subst hn;exact .inr (by rw[List.lookup_cons,beq_self_eq_true,hc];rfl)
   ·rcases h with h|h
    ·rcases List.mem_cons.mp h with e|h
     ·injection e with e;exact absurd e hn
     ·exact .inl h
    ·exact .inr (by rw[List.lookup_cons,beq_eq_false_iff_ne.mpr hn];exact h)
  ·rw[if_neg hk]
   rcases h with h|h
   ·rcases List.mem_cons.mp h with e|h
    ·injection e with e1 e2;subst e2;exact absurd rfl hk
    ·exact .inl h
   ·exact .inr h
theorem lookup_relabel {env:Env} {y:Str}:∀(names:List (Str × NameKind)),
  (names.map fun(n,k)=>if (k==NameKind.free&&env.scope.kind==.function&&env.kindOf n==some .cell)then(n,NameKind.cell)else(n,k)).lookup y =
   (names.lookup y).map fun k=>if (k==NameKind.free&&env.scope.kind==.function&&env.kindOf y==some .cell)then .cell else k
 |[]=>rfl
 |(n,k)::r=>by
  have ih:=lookup_relabel (env:=env) (y:=y) r
  rw[List.map_cons]
  by_cases hy:y=n
  ·subst hy
   by_cases hc:(k==NameKind.free&&env.scope.kind==.function&&env.kindOf y==some .cell)=true
   ·simp only[hc,if_true,List.lookup_cons,beq_self_eq_true,Option.map_some]
   ·simp only[hc,List.lookup_cons,beq_self_eq_true,Option.map_some,Bool.false_eq_true,if_false]
  ·have hy':(y==n)=false:=beq_eq_false_iff_ne.mpr hy
   by_cases hc:(k==NameKind.free&&env.scope.kind==.function&&env.kindOf n==some .cell)=true
   ·simp only[hc,if_true,List.lookup_cons,hy'];exact ih
   ·simp only[hc,List.lookup_cons,hy',Bool.false_eq_true,if_false];exact ih
theorem nm_ne_dot (y:Nat):nm y≠Str.ofString ".0":=by
 have h1:Str.ofString ".0"∉NS:=by decide +kernel
 unfold nm
 by_cases hy:y<NS.length
 ·rw[List.getElem?_eq_getElem hy]
  intro e
  exact h1 (e▸List.getElem_mem hy)
 ·rw[List.getElem?_eq_none (Nat.le_of_not_lt hy)]
  intro e
  have:(Str.ofString ".0").cps=#[0,y]:=by rw[←e];rfl
  have e2:(Str.ofString ".0").cps=#[46,48]:=by decide +kernel
  rw[e2]at this
  simp at this
structure CompOk (sc:Names) (scope:Scope) (x:Str):Prop where
 kind:scope.kind=.function
 loc:scope.names.lookup x=some .local
 all:∀p∈scope.names,((p.2=.local∧(p.1=x∨p.1=Str.ofString ".0"))∨p.2=.globalImplicit∨(p.2=.free∧sc.lookup p.1=some .cell))∧scope.names.lookup p.1=some p.2
theorem compOk_iff {sc:Names} {scope:Scope} {x:Str} (h:compOk sc scope x=true):CompOk sc scope x:=by
 simp only[compOk,Bool.and_eq_true,beq_iff_eq,List.all_eq_true,Bool.or_eq_true]at h
 refine⟨h.1.1.1,h.1.1.2,fun p hp=>?_⟩
 obtain⟨h1,h2⟩:=h.2 p hp
 refine⟨?_,h2⟩
 rcases h1 with(h1|h1)|h1
 ·exact .inl h1
 ·exact .inr (.inl h1)
 ·exact .inr (.inr h1)
theorem mem_of_lookup {α β:Type} [BEq α] [LawfulBEq α] {y:α} {k:β}:∀{l:List (α × β)},l.lookup y=some k→(y,k)∈l
 |(n,b)::r,h=>by
  by_cases hy:y=n
  ·subst hy;rw[List.lookup_cons,beq_self_eq_true]at h;cases h;exact .head _
  ·rw[List.lookup_cons,beq_eq_false_iff_ne.mpr hy]at h;exact .tail _ (mem_of_lookup h)
section
variable {W:Wd} {K:Frag} {n:Nat} {env:Env} {ρ:Rho} {H:AH} {h h':Heap} {fp:List Addr} {sc:Names} {scope:Scope} {x:Str}
theorem CompOk.agree (C:CompOk sc scope x) (ag:Agree env sc) (er:EnvR W env H h ρ) (cl:List (Str × Addr)) (L:Addr):Agree (compEnvC scope cl L env) scope.names:=by
 intro y k hk
 have e:(compEnvC scope cl L env).kindOf y=(scope.names.lookup y).map fun k=>if (k==NameKind.free&&env.scope.kind==.function&&env.kindOf y==some .cell)then .cell else k:=lookup_relabel scope.names
 rw[hk]at e
 cases k with
 |«local»=>exact e
 |cell=>
  have:=(C.all _ (mem_of_lookup hk)).1
  rcases this with⟨h,_⟩|h|⟨h,_⟩<;>cases h
 |free=>
  have:=(C.all _ (mem_of_lookup hk)).1
  rcases this with⟨h,_⟩|h|⟨_,h⟩
  ·cases h
  ·cases h
  ·rw[e,er.kind,ag y _ h]
   exact .inl rfl
 |globalImplicit=>exact e
 |_=>trivial
theorem CompOk.free (C:CompOk sc scope x) (ag:Agree env sc) (er:EnvR W env H h ρ):∀p∈scope.names,p.2=.free→env.kindOf p.1=some .cell∧∃c,env.cells.lookup p.1=some c:=fun p hp hf=>by
 rcases(C.all p hp).1 with⟨h,_⟩|h|⟨_,h⟩
 ·rw[h]at hf;cases hf
 ·rw[h]at hf;cases hf
 ·exact⟨ag _ _ h,er.has _ (ag _ _ h)⟩
theorem lookup_filter {xi y:Nat} {v:AV}:∀{ρ:Rho},(ρ.filter fun p=>p.1 != xi).lookup y=some v→y≠xi∧ρ.lookup y=some v
 |[],h=>by simp at h
 |(z,w)::r,h=>by
  by_cases hz:z=xi
  ·rw[List.filter_cons_of_neg (by simpa using hz)]at h
   obtain⟨h1,h2⟩:=lookup_filter h
   exact⟨h1,by rw[lookup_ne (by rw[hz];exact h1)];exact h2⟩
  ·rw[List.filter_cons_of_pos (by simpa using hz)]at h
   by_cases hy:y=z
   ·subst hy;rw[lookup_eq]at h ⊢;exact⟨hz,h⟩
   ·rw[lookup_ne hy]at h ⊢;exact lookup_filter h
theorem filter_lookup {xi y:Nat} {v:AV} (hy:y≠xi):∀{ρ:Rho},ρ.lookup y=some v→(ρ.filter fun p=>p.1 != xi).lookup y=some v
 |[],h=>by simp at h
 |(z,w)::r,h=>by
  by_cases hyz:y=z
  ·subst hyz
   rw[List.filter_cons_of_pos (by simpa using hy),lookup_eq];rw[lookup_eq]at h;exact h
  ·rw[lookup_ne hyz]at h
   by_cases hz:z=xi
   ·rw[List.filter_cons_of_neg (by simpa using hz)];exact filter_lookup hy h
   ·rw[List.filter_cons_of_pos (by simpa using hz),lookup_ne hyz];exact filter_lookup hy h
theorem CompOk.envR (C:CompOk sc scope x) (ag:Agree env sc) {xi:Nat} (hx:nm xi=x) (er:EnvR W env H h ρ) {L:Addr} (hL:H L=none∧W.B.get? L=none) (hne:¬frm env L) {m:Str→Option Value} (hn:h.Ns L m) :
  EnvR W (compEnvC scope (clOf env scope.names []) L env) H h (ρ.filter fun p=>p.1 != xi):=by
 have fr:=fun p hp hf=>C.free ag er p hp hf
 have hfr:∀p∈scope.names,p.2=.free→∃c,env.cells.lookup p.1=some c:=fun p hp hf=>(fr p hp hf).2
 have cl1:∀y c,(clOf env scope.names []).lookup y=some c→env.cells.lookup y=some c:=fun y c=>clOf_lookup env y scope.names [] c hfr (by intro c h;cases h)
 have kd:∀y,(compEnvC scope (clOf env scope.names []) L env).kindOf y=(scope.names.lookup y).map fun k=>if (k==NameKind.free&&env.scope.kind==.function&&env.kindOf y==some .cell)then .cell else k:=fun y=>lookup_relabel scope.names
 have back:∀y,((compEnvC scope (clOf env scope.names []) L env).kindOf y=some .cell∨(compEnvC scope (clOf env scope.names []) L env).kindOf y=some .free)→(y,NameKind.free)∈scope.names:=by
  intro y hy
  rw[kd]at hy
  cases hk:scope.names.lookup y with
  |none=>rw[hk]at hy;rcases hy with h|h<;>cases h
  |some k=>
   rw[hk]at hy
   have mem:=mem_of_lookup hk
   rcases(C.all _ mem).1 with⟨h,_⟩|h|⟨h,_⟩
   ·dsimp only at h;subst h;rcases hy with h|h<;>cases h
   ·dsimp only at h;subst h;rcases hy with h|h<;>cases h
   ·dsimp only at h;subst h;exact mem
 refine⟨C.kind,er.glob,er.blt,hL,fun y hy=>?_,fun y c hc=>?_,fun y z c h1 h2=>er.inj y z c (cl1 _ _ h1) (cl1 _ _ h2),m,hn,fun y v hv=>⟨fun hk=>?_,fun hk=>?_⟩⟩
 ·have mem:=back y (.inl hy)
  obtain⟨c,hc⟩:=hfr _ mem rfl
  exact⟨c,clOf_has env y c hc _ _ (.inl mem)⟩
 ·obtain⟨z1,z2,z3,v,z4⟩:=er.cells y c (cl1 y c hc)
  exact⟨z1,z2,fun e=>hne (by have e:c=L:=e;rw[←e];exact .inr ⟨y,cl1 y c hc⟩),v,z4⟩
 ·exfalso
  obtain⟨hxi,hl⟩:=lookup_filter hv
  rw[kd]at hk
  cases hk':scope.names.lookup (nm y)with
  |none=>rw[hk']at hk;cases hk
  |some k=>
   rw[hk']at hk
   rcases(C.all _ (mem_of_lookup hk')).1 with⟨h1,h2|h2⟩|h1|⟨h1,_⟩
   ·rw[←hx]at h2;exact hxi (nm_inj h2)
   ·exact nm_ne_dot y h2
   ·dsimp only at h1;subst h1;cases hk
   ·dsimp only at h1;subst h1
    simp only[Option.map_some,Option.some.injEq]at hk
    split at hk<;>cases hk
 ·obtain⟨hxi,hl⟩:=lookup_filter hv
  have mem:=back _ hk
  obtain⟨kc,c,hc⟩:=fr _ mem rfl
  obtain⟨m',_,vals⟩:=er.vals
  obtain⟨c',u,h1,h2,h3⟩:=(vals y v hl).2 (.inl kc)
  exact⟨c',u,clOf_has env _ c' h1 _ _ (.inl mem),h2,h3⟩
end
end
section
section
variable {W:Wd} {K:Frag} {n:Nat} {env:Env} {ρ:Rho} {H:AH} {h h':Heap} {fp:List Addr} {sc:Names} {scope:Scope} {x:Str}
def OkTs (W:Wd) (n:Nat) (ifs:List Expr) (env:Env) (ρ:Rho) (H:AH) (Q:Bool→AH→Prop):Prop:=
 ∀(A:Around) (s:Shared) (R:Bool→Shared→Prop) (E:Value→Shared→Prop),Room n A→W.St H s.heap→EnvR W env H s.heap ρ→(∀t s' H',Aft W H s H' s'→Q t H'→R t s')→
  wpAny (model W.prog W.w) A (forIn ifs true fun c r=>if r=true then do let ok ←isTrue c env (eval c env);pure (ForInStep.yield ok)else pure (ForInStep.yield r)) R E s
theorem okts_nil {Q:Bool→AH→Prop} (q:Q true H):OkTs W n [] env ρ H Q:=fun A s R E hr S er P=>wpAny_tests_nil (P true s H (.refl S) q)
theorem okts_one {c:Expr} {Q:Bool→AH→Prop} (h:OkC W n c env ρ H Q):OkTs W n [c] env ρ H Q:=fun A s R E hr S er P=>wpAny_tests_one (h A s R E hr S er P)
structure Gath (W:Wd) (H₀:AH) (sb:Shared) (D C:Addr) (out:List AV) (H':AH) (s':Shared):Prop where
 st:W.St H' s'.heap
 kp:Kp nX H₀ sb.heap H' s'.heap
 same:Same sb s'
 list:∃us c,s'.heap.get? D=some {cls:=.type "list",data:=.seq us c}∧VRs H' s'.heap out us.toList
 hD:H' D=none∧W.B.get? D=none∧sb.heap.get? D=none
 hC:H' C=none∧W.B.get? C=none∧sb.heap.get? C=none
 hDC:D≠C
 ns:∃m,s'.heap.Ns C m
theorem Gath.done {H₀ H':AH} {sb s':Shared} {D C:Addr} {out:List AV} (g:Gath W H₀ sb D C out H' s') (k:∀b o,b≠C→s'.heap.get? b=some o→h'.get? b=some o) :
  Aft W H₀ sb (H'.set D (.list out)) {s' with heap:=h'}:=by
 obtain⟨us,c,hD,v⟩:=g.list
 have off:Off [C] s'.heap h':=fun b o m e=>k b o (fun z=>m (by rw[z];simp)) e
 have apt:Apt W H' s'.heap [C]:=fun a ha=>by
  obtain rfl:=List.mem_singleton.mp ha
  refine⟨g.hC.2.1,.inl ⟨g.hC.1,fun us n e=>?_⟩⟩
  obtain⟨m,o,es,ep,ho,hd,_⟩:=g.ns
  rw[e]at ho;cases ho;cases hd
 have prs:Prs H' [C] h':=fun a ha q=>by obtain rfl:=List.mem_singleton.mp ha;rw[g.hC.1]at q;cases q
 have S1:=g.st.off apt off prs
 have kp1:=g.kp.off off (by simpa using g.hC.2.2)
 have hD':h'.get? D=some {cls:=.type "list",data:=.seq us c}:=k _ _ g.hDC hD
 have v1:VRs H' h' out us.toList:=v.keep' (VR.off apt off)
 have S2:=S1.take (o₁:=.list out) g.hD.1 g.hD.2.1 (fun us n e=>by rw[hD']at e;injection e with e;injection e with e;exact list_ne_tuple e) fun kv=>⟨us,c,hD',v1.keep' kv⟩
 refine⟨S2,fun a o e=>?_,⟨g.same.os,g.same.gens⟩⟩
 have hne:a≠D:=fun z=>by rw[z,g.hD.2.2]at e;cases e
 refine⟨fun z=>?_,fun x z=>?_,(kp1 a o e).2.2⟩
 ·obtain⟨z',q⟩:=(kp1 a o e).1 z
  exact⟨(AH.set_ne H' _ hne).trans z',q⟩
 ·obtain⟨z',q⟩:=(kp1 a o e).2.1 x z
  exact⟨(AH.set_ne H' _ hne).trans z',q⟩
theorem ItAt.dom {v:AV} {it:Value} {i:Nat} (x:ItAt (.seq v) it fp i H h):∀a∈fp,∃o,h.get? a=some o:=by
 cases v with
 |ref a=>
  obtain⟨I,_,rfl,_,o,ho,_⟩:=x
  intro b hb;obtain rfl:=List.mem_singleton.mp hb;exact⟨o,ho⟩
 |tup xs=>
  obtain⟨I,t,us,m,_,rfl,_,⟨o,ho,_⟩,_⟩:=x
  intro b hb;obtain rfl:=List.mem_singleton.mp hb;exact⟨o,ho⟩
 |bytes b=>
  obtain⟨I,t,_,rfl,_,o,ho,_⟩:=x
  intro b hb;obtain rfl:=List.mem_singleton.mp hb;exact⟨o,ho⟩
 |_=>exact x.elim
theorem ItAt.offD {v:AV} {it:Value} {i:Nat} {D:Addr} (x:ItAt (.seq v) it fp i H h) (hD:D∉fp) (ap:Apt W H h [D]) (k:Off [D] h h'):ItAt (.seq v) it fp i H h':=by
 have one:∀a∈fp,∀o,h.get? a=some o→h'.get? a=some o:=fun a ha o e=>k a o (fun z=>hD (List.mem_singleton.mp z▸ha)) e
 cases v with
 |ref a=>
  obtain⟨I,e1,rfl,hn,o,ho,r⟩:=x
  exact⟨I,e1,rfl,hn,o,one I (by simp) o ho,r⟩
 |tup xs=>
  obtain⟨I,t,us,m,e1,rfl,hn,⟨o,ho,r⟩,ht,hnt,vs⟩:=x
  refine⟨I,t,us,m,e1,rfl,hn,⟨o,one I (by simp) o ho,r⟩,k t _ (fun z=>?_) ht,hnt,vs.keep' (VR.off ap k)⟩
  obtain rfl:=List.mem_singleton.mp z
  rcases(ap t (by simp)).2 with q|q
  ·exact q.2 _ _ ht
  ·rw[hnt]at q;cases q
 |bytes b=>
  obtain⟨I,t,e1,rfl,hn,o,ho,r⟩:=x
  exact⟨I,t,e1,rfl,hn,o,one I (by simp) o ho,r⟩
 |_=>exact x.elim
theorem pyIter_again {v:AV} {it:Value} {i:Nat} {A:Around} {s:Shared} {R E:Value→Shared→Prop} (x:ItAt (.seq v) it fp i H s.heap) (h:R it s):wpAny (model W.prog W.w) A (pyIter it) R E s:=by
 cases v with
 |ref a=>
  obtain⟨I,rfl,rfl,hn,hit⟩:=x
  exact wpAny_pyIter_listiter hit h
 |tup xs=>
  obtain⟨I,t,us,m,rfl,rfl,hn,⟨o,ho,hc,hd⟩,_⟩:=x
  have hT:s.TypeIs (.ref I) "tuple_iterator":=⟨o,ho,hc⟩
  refine wpAny_pyIter_slot hT F.slot_tuple_iterator_iter (wpAny_call_entry F.slot_tuple_iterator_iter hT F.entry_tuple_iterator_iter ?_ (F.args_tuple_iterator_iter_1 _))
  show wpAny _ _ (ret (.ref I)) _ _ s
  exact wpAny_pure ⟨_,rfl,"tuple_iterator",_,hT,F.slot_tuple_iterator_next.lookup,h⟩
 |bytes b=>
  obtain⟨I,t,rfl,rfl,hn,hit⟩:=x
  exact KBw.pyIter_self hit h
 |_=>exact x.elim
theorem wp_unit {M:Model} {A:Around} {E:Value→Shared→Prop} {s:Shared} {α:Type} {t:Expr} {it u:Value} {m:Sem α} {Q:α→Shared→Prop} (ht:isNT t=true) (h:wpAny M A (letOwnedTupleGo t it u >>= fun _=>m) Q E s):wpAny M A m Q E s:=by
 rw[lotg_name ht]at h;exact h
theorem comp_core {elt iter:Expr} {px pos:Pos} {ifs:List Expr} {A:Around} {E:Value→Shared→Prop} {RR:Value→Addr→Result→Shared→Prop} {v:AV} {it:Value} {H₀ H₁:AH} {sb s₁:Shared} {xi N:Nat} {I:Nat→List AV→AH→Prop} {Q:AV→AH→Prop}
  (hr:Room n A) (C:CompOk sc scope x) (ag:Agree env sc) (hx:nm xi=x) (Sb:W.St H₀ sb.heap) (er:EnvR W env H₀ sb.heap ρ) (a:Aft W H₀ sb H₁ s₁) (hit:ItAt (.seq v) it fp 0 H₁ s₁.heap) (hfp:∀a∈fp,sb.heap.get? a=none)
  (hok:AI.ok1 (.seq v)) (hN:N≤cap) (h0:I 0 [] H₁)
  (step:∀L i out H,I i out H→i≤N∧out.length≤i∧∃o,nextI H (.seq v) i=some o∧match o with
   |none=>∀r,H r=none→Q (.ref r) (H.set r (.list out))
   |some u=>OkTs W n ifs (compEnvC scope (clOf env scope.names []) L env) ((xi,u)::ρ) H fun t H=>(t=true→OkE W n elt (compEnvC scope (clOf env scope.names []) L env) ((xi,u)::ρ) H fun y H=>I (i+1) (out++[y]) H)∧(t=false→I (i+1) out H))
  (hRR:∀D L out H' s',Gath W H₀ sb D L out H' s'→Q (.ref D) (H'.set D (.list out))→RR (.ref D) L (.ok .next) s') :
  wpAny (model W.prog W.w) A (newList []) (fun acc s₃=>wpAny (model W.prog W.w) A (newFunctionEnv scope env.globals (clOf env scope.names []) [] env.qual none .none (some env)) (fun cenv s₄=>
   codeAny (model W.prog W.w) A (.compStart (.ListComp elt [⟨.Name x px,iter,ifs,0⟩] scope pos) 0 it acc {cenv with scope:=relabel scope env}) (RR acc cenv.locals) s₄) E s₃) E s₁:=by
 have hcell:∀y∈scope.names,y.2≠.cell:=fun y hy h=>by rcases(C.all y hy).1 with⟨z,_⟩|z|⟨z,_⟩<;>rw[h]at z<;>cases z
 refine wpAny_newObj_type (hd:=by size_fits) (wpAny_newFunctionEnv hcell (by intro y hy;simp at hy) (fun h₁ hns₁ hsb₁=>?_) C.kind)
 dsimp only at hns₁ hsb₁ ⊢
 generalize hH2:s₁.heap.push {cls:=.type "list",dict:=none,data:=.seq ([]:List Value).toArray}=H2 at hns₁ hsb₁ ⊢
 have hC2:H2.objs.size=s₁.heap.objs.size+1:=by rw[←hH2,Heap.size_push]
 generalize hLe:H2.objs.size=L at hns₁ hsb₁ hC2 ⊢
 generalize hDe:s₁.heap.objs.size=D at hC2 ⊢
 have hDL:D≠L:=by rw[hC2];exact Nat.ne_of_lt (Nat.lt_succ_self _)
 have lt1:∀b o,s₁.heap.get? b=some o→b<D:=fun b o e=>hDe▸Heap.lt_size e
 have old:∀b o,s₁.heap.get? b=some o→h₁.get? b=some o:=fun b o e=>
  hsb₁.extBut b o (by have:=lt1 b o e;rw[hC2];exact Nat.ne_of_lt (Nat.lt_succ_of_lt this)) (Heap.get?_push_of_some _ (hH2▸Heap.get?_push_of_some _ e))
 have hacc:h₁.get? D=some {cls:=.type "list",data:=.seq #[]}:=hsb₁.extBut _ _ hDL (Heap.get?_push_of_some _ (hH2▸hDe▸Heap.get?_push_size _ rfl))
 have fresh:∀b,D≤b→sb.heap.get? b=none∧H₁ b=none∧W.B.get? b=none:=by
  intro b hb
  have h1:s₁.heap.get? b=none:=fresh_at (by rw[hDe];exact hb)
  have h2:H₁ b=none:=a.st.none_of_ge (by rw[hDe];exact hb)
  have h3:W.B.get? b=none:=by
   cases e:W.B.get? b with
   |none=>rfl
   |some o=>have:=(a.st.base _ _ e).1;rw[h1]at this;cases this
  refine⟨?_,h2,h3⟩
  cases e:sb.heap.get? b with
  |none=>rfl
  |some o=>obtain⟨o',e3⟩:=(a.kp b o e).2.2;rw[h1]at e3;cases e3
 obtain⟨fD1,fD2,fD3⟩:=fresh D (Nat.le_refl _)
 obtain⟨fL1,fL2,fL3⟩:=fresh L (by rw[hC2];exact Nat.le_succ _)
 have a1:Aft W H₁ s₁ H₁ {s₁ with heap:=h₁,toks:=s₁.toks+([]:List (Str × Value)).length}:=.grow a.st ⟨rfl,rfl⟩ old
 have frmIn:∀b,frm env b→∃o,sb.heap.get? b=some o:=er.dom
 have hneL:¬frm env L:=fun z=>by obtain⟨o,e⟩:=frmIn L z;rw[fL1]at e;cases e
 have fpD:D∉fp:=fun z=>by obtain⟨o,e⟩:=hit.dom _ z;exact Nat.lt_irrefl _ (lt1 _ _ e)
 have fpL:L∉fp:=fun z=>by obtain⟨o,e⟩:=hit.dom _ z;have:=lt1 _ _ e;rw[hC2]at this;exact Nat.lt_irrefl _ (Nat.lt_of_succ_lt this)
 have er1:EnvR W env H₁ h₁ ρ:=(er.keep a.kp).keep a1.kp
 have erC:=C.envR ag hx er1 (L:=L) ⟨fL2,fL3⟩ hneL hns₁
 have hfrC:∀b,frm (compEnvC scope (clOf env scope.names []) L env) b→b=L∨frm env b:=by
  rintro b (rfl|⟨y,hy⟩)
  ·exact .inl rfl
  ·have hfr:∀p∈scope.names,p.2=.free→∃c,env.cells.lookup p.1=some c:=fun p hp hf=>(C.free ag er p hp hf).2
   exact .inr (.inr ⟨y,clOf_lookup env y scope.names [] b hfr (by intro c h;cases h) hy⟩)
 have fpC:∀b∈fp,¬frm (compEnvC scope (clOf env scope.names []) L env) b:=fun b hb z=>by
  rcases hfrC b z with rfl|z
  ·exact fpL hb
  ·obtain⟨o,e⟩:=frmIn b z;rw[hfp b hb]at e;cases e
 have DC:¬frm (compEnvC scope (clOf env scope.names []) L env) D:=fun z=>by
  rcases hfrC D z with z|z
  ·exact hDL z
  ·obtain⟨o,e⟩:=frmIn D z;rw[fD1]at e;cases e
 have fpB:∀b∈fp,W.B.get? b=none:=fun b hb=>by
  cases e:W.B.get? b with
  |none=>rfl
  |some o=>have:=(Sb.base _ _ e).1;rw[hfp b hb]at this;cases this
 have notzip:∀v' w r,AI.seq v=AI.zip v' w r→H₁ r=some (false,AO.opq):=fun _ _ _ h=>by cases h
 have it1:ItAt (.seq v) it fp 0 H₁ h₁:=hit.keep a1.kp (seqOut_nX _) (fun _ _=>id)
 have loop:codeAny (model W.prog W.w) A (.compLoop (.ListComp elt [⟨.Name x px,iter,ifs,0⟩] scope pos) 0 it (.ref D) (compEnvC scope (clOf env scope.names []) L env)) (RR (.ref D) L) {s₁ with heap:=h₁,toks:=s₁.toks+([]:List (Str × Value)).length}:=by
  refine codeAny_compLoop_tests (fun k s'=>∃i out H',k=N+1-i∧i≤N∧out.length≤i∧I i out H'∧Gath W H₀ sb D L out H' s'∧ItAt (.seq v) it fp i H' s'.heap ∧
   EnvR W (compEnvC scope (clOf env scope.names []) L env) H' s'.heap (ρ.filter fun p=>p.1 != xi)) ?_ (N+1) ⟨0,[],H₁,rfl,Nat.zero_le _,Nat.le_refl _,h0,
    ⟨a1.st,a.kp.trans a1.kp,a.same.trans a1.same,⟨#[],0,hacc,by simp only[VRs]⟩,⟨fD2,fD3,fD1⟩,⟨fL2,fL3,fL1⟩,hDL,_,hns₁⟩,it1,erC⟩
  rintro k s' ⟨i,out,H',rfl,hi,hlen,hI,g,it',erc⟩
  obtain⟨hi',hlen',o,hn,st⟩:=step L i out H' hI
  refine next_ok hr.2.2 it' fpB g.st hn (.inl ⟨rfl,hok⟩) (target:=.Name x px) (fun e s2 off sm=>?_) fun u e w s2 hP=>?_
  ·subst e
   have apt:Apt W H' s'.heap fp:=it'.apt fpB (fun _ _ _ h=>by cases h)
   have prs:Prs H' fp s2.heap:=fun b hb q=>by
    rcases(apt b hb).2 with z|z
    ·rw[z.1]at q;cases q
    ·exfalso
     have:=it'.nil b hb
     rw[this]at q;cases q
   obtain⟨us,c,hD,vs⟩:=g.list
   obtain⟨m,⟨oC,es,ep,hoC,rC⟩⟩:=g.ns
   exact hRR D L out H' s2 ⟨g.st.off apt off prs,g.kp.off off hfp,g.same.trans sm,⟨us,c,off _ _ fpD hD,vs.keep' (VR.off apt off)⟩,g.hD,g.hC,hDL,m,oC,es,ep,off _ _ fpL hoC,rC⟩ (st D g.hD.1)
  ·subst e
   refine wp_unit rfl (wpAny_bind (hP _ _ fun s3 it3 vw off prs sm=>?_))
   have apt:Apt W H' s'.heap fp:=it'.apt fpB (fun _ _ _ h=>by cases h)
   have S3:=g.st.off apt off prs
   have er3:=erc.off apt off fpC
   obtain⟨us,c,hD,vs⟩:=g.list
   have hD3:=off _ _ fpD hD
   have vs3:=vs.keep' (VR.off apt off)
   have kp3:=g.kp.off off hfp
   have kl:(compEnvC scope (clOf env scope.names []) L env).kindOf x=some .local:=(CompOk.agree C ag er1 (clOf env scope.names []) L) x _ C.loc
   refine wpAny_assign_Name (store_loc (x:=xi) (v:=u) hx kl S3 er3 vw fun s4 a4 er4=>?_)
   have so:=Kp.soL er3
   have hL:∀b,(fun a=>a=(compEnvC scope (clOf env scope.names []) L env).locals) b→b=L:=fun b e=>e
   have hl2:∀y v',((xi,u)::ρ).lookup y=some v'→(put (ρ.filter fun p=>p.1 != xi) xi u).lookup y=some v':=fun y v' e=>by
    by_cases hy:y=xi
    ·subst hy;rw[lookup_eq]at e;rw[put_eq];exact e
    ·rw[lookup_ne hy]at e;rw[put_ne _ _ hy];exact filter_lookup hy e
   have hl3:∀y v',(ρ.filter fun p=>p.1 != xi).lookup y=some v'→(put (ρ.filter fun p=>p.1 != xi) xi u).lookup y=some v':=fun y v' e=>by
    rw[put_ne _ _ (lookup_filter e).1];exact e
   have it4:=it3.keep a4.kp so (fun b hb z=>fpL (by have:b=L:=z;rw[←this];exact hb))
   have hD4:=a4.kp.getX hD3 g.hD.1 (fun z=>hDL z)
   have vs4:=vs3.keep' fun v u=>VR.kp a4.kp so
   have kp4:Kp nX H₀ sb.heap H' s4.heap:=fun b o e=>by
    have hb:b≠L:=fun z=>by rw[z,fL1]at e;cases e
    refine⟨fun z=>?_,fun x z=>?_,?_⟩
    ·obtain⟨z',o',e',q⟩:=(kp3 b o e).1 z
     obtain⟨q1,q2⟩:=a4.kp.getX e' z' hb
     exact⟨z',o',q1,q⟩
    ·obtain⟨z',e'⟩:=(kp3 b o e).2.1 x z
     exact⟨((a4.kp b o e').2.1 x z').1,((a4.kp b o e').2.1 x z').2⟩
    ·obtain⟨o',e'⟩:=(kp3 b o e).2.2
     exact(a4.kp b o' e').2.2
   refine st A s4 _ _ hr a4.st (er4.congr hl2) fun t s5 H5 a5 q5=>?_
   have it5:=it4.keep a5.kp (seqOut_nX _) (fun _ _=>id)
   have hD5:=a5.kp.get hD4.1 g.hD.1
   have vs5:=vs4.keep' fun v u=>VR.kp0 a5.kp
   have er5:=er4.keep a5.kp
   have hL5:H5 L=none:=er5.loc.1
   cases t with
   |false=>
    obtain⟨m,hm,_⟩:=er5.vals
    exact⟨N+1-(i+1),by omega,i+1,out,H5,rfl,(step L _ _ _ (q5.2 rfl)).1,(step L _ _ _ (q5.2 rfl)).2.1,q5.2 rfl,
     ⟨a5.st,kp4.trans a5.kp,((g.same.trans sm).trans a4.same).trans a5.same,⟨us,c,hD5.1,vs5⟩,⟨hD5.2,g.hD.2⟩,⟨hL5,g.hC.2⟩,hDL,m,hm⟩,it5,er5.congr hl3⟩
   |true=>
    refine q5.1 rfl A s5 _ _ hr a5.st (er5.congr hl2) fun y w5 s6 H6 vy a6 q6=>?_
    have it6:=it5.keep a6.kp (seqOut_nX _) (fun _ _=>id)
    have hD6:=a6.kp.get hD5.1 hD5.2
    have vs6:=vs5.keep' fun v u=>VR.kp0 a6.kp
    have er6:=er5.keep a6.kp
    have len:us.size≤sizeLine:=by
     have:=vs6.size;have h2:=cap_le hN;omega
    refine append_at hD6.1 (fun h7 sb7 hD7=>?_) len
    have sq:=q6
    have apD:Apt W H6 s6.heap [D]:=fun b hb=>by
     obtain rfl:=List.mem_singleton.mp hb
     refine⟨g.hD.2.1,.inl ⟨hD6.2,fun us' n' e=>?_⟩⟩
     rw[hD6.1]at e;injection e with e;injection e with e;exact list_ne_tuple e
    have offD:Off [D] s6.heap h7:=fun b o hm e=>(sb7.2 b (fun z=>hm (by rw[z];simp))).trans e
    have prD:Prs H6 [D] h7:=fun b hb q=>by obtain rfl:=List.mem_singleton.mp hb;rw[hD6.2]at q;cases q
    have it7:ItAt (.seq v) it fp (i+1) H6 h7:=it6.offD fpD apD offD
    have er7:=er6.off apD offD (fun b hb z=>by obtain rfl:=List.mem_singleton.mp hb;exact DC z)
    obtain⟨m,hm,_⟩:=er7.vals
    obtain⟨s1,s2',_⟩:=step L _ _ _ q6
    exact⟨N+1-(i+1),by omega,i+1,out++[y],H6,rfl,s1,s2',q6,
     ⟨a6.st.off apD offD prD,((kp4.trans a5.kp).trans a6.kp).off offD (by simpa using fD1),by
      have:=(((g.same.trans sm).trans a4.same).trans a5.same).trans a6.same
      exact⟨this.os,this.gens⟩,
      ⟨us.push w5,c+1,hD7,by rw[Array.toList_push];exact(vs6.keep' (VR.off apD offD)).snoc (VR.off apD offD _ _ vy)⟩,⟨hD6.2,g.hD.2⟩,⟨er7.loc.1,g.hC.2⟩,hDL,m,hm⟩,it7,er7.congr hl3⟩
 exact codeAny_compStart_list loop (pyIter_again (s:={s₁ with heap:=h₁,toks:=s₁.toks+([]:List (Str × Value)).length}) it1 loop)
end
end
section
section
variable {W:Wd} {K:Frag} {n:Nat} {env:Env} {ρ:Rho} {H:AH} {h h':Heap} {fp:List Addr} {sc:Names} {scope:Scope} {x:Str}
theorem opq_of {ai:AI} {i:Nat} {o:Option AV} (hn:nextI H ai i=some o):∀v w r,ai=.zip v w r→H r=some (false,.opq):=by
 rintro v w r rfl
 simp only[nextI]at hn
 split at hn
 ·assumption
 ·cases hn
structure OutR (H:AH) (h:Heap) (fp:List Addr) (H':AH) (h':Heap):Prop where
 vr:∀v u,VR H h v u→VR H' h' v u
 eq:∀a,a∉fp→H' a=H a
 none:∀a,H a=none→H' a=none
theorem out_ok {ai:AI} {it:Value} {i:Nat} {o:Option AV} (x:ItAt ai it fp i H h) (hn:nextI H ai i=some o) (hfr:∀a∈fp,W.B.get? a=none) (S:W.St H h) (off:Off fp h h'):W.St (outI ai H) h'∧OutR H h fp (outI ai H) h':=by
 have apt:=x.apt hfr (opq_of hn)
 have other:outI ai H=H→(∀a∈fp,H a≠some (false,.opq))→W.St (outI ai H) h'∧OutR H h fp (outI ai H) h':=fun e ho=>by
  rw[e]
  exact⟨S.off apt off fun a ha q=>absurd q (ho a ha),VR.off apt off,fun _ _=>rfl,fun _ h=>h⟩
 cases ai with
 |seq v=>exact other rfl fun a ha q=>by rw[x.nil a ha]at q;cases q
 |enum v=>
  refine other rfl fun a ha q=>?_
  cases v<;>first|exact x.elim|skip
  obtain⟨e,I,old,_,rfl,_,h1,h2,_⟩:=x
  simp only[List.mem_cons,List.not_mem_nil,or_false]at ha
  rcases ha with rfl|rfl
  ·rw[h1]at q;cases q
  ·rw[h2]at q;cases q
 |range m=>
  refine other rfl fun a ha q=>?_
  obtain⟨I,_,rfl,h1,_⟩:=x
  obtain rfl:=List.mem_singleton.mp ha
  rw[h1]at q;cases q
 |zip v w r=>
  have hr:=opq_of hn _ _ _ rfl
  have rfp:r∈fp:=by
   cases v<;>cases w<;>first|exact x.elim|skip
   obtain⟨z,TI,i1,i2,_,rfl,_⟩:=x
   simp
  have onl:∀a∈fp,a=r∨H a=none:=by
   cases v<;>cases w<;>first|exact x.elim|skip
   obtain⟨z,TI,i1,i2,_,rfl,_,h1,h2,h3,_⟩:=x
   intro a ha
   simp only[List.mem_cons,List.not_mem_nil,or_false]at ha
   rcases ha with rfl|rfl|rfl|rfl
   ·exact .inr h1
   ·exact .inr h2
   ·exact .inr h3
   ·exact .inl rfl
  show W.St (H.del r) h'∧OutR H h fp (H.del r) h'
  have dne:∀a,a≠r→H.del r a=H a:=fun a ha=>if_neg ha
  have deq:H.del r r=none:=if_pos rfl
  have dnn:∀a,H a=none→H.del r a=none:=fun a ha=>by
   by_cases e:a=r
   ·rw[e];exact deq
   ·rw[dne a e];exact ha
  have vr:∀v u,VR H h v u→VR (H.del r) h' v u:=VR.keep fun a us n e z=>by
   refine⟨off a _ (fun m=>?_) e,dnn a z⟩
   rcases(apt a m).2 with q|q
   ·exact q.2 us n e
   ·rw[z]at q;cases q
  have own:∀a f o,H a=some (f,o)→o≠.opq→a∉fp:=fun a f o e ho m=>by
   rcases onl a m with rfl|q
   ·rw[hr]at e;cases e;exact ho rfl
   ·rw[q]at e;cases e
  refine⟨⟨fun a f o e=>?_,fun a o e=>?_,fun a f C dx fs e=>?_⟩,vr,fun a ha=>dne a (fun z=>ha (z▸rfp)),dnn⟩
  ·have har:a≠r:=fun z=>by rw[z,deq]at e;cases e
   rw[dne a har]at e
   by_cases ho:o=.opq
   ·subst ho
    obtain⟨p,q,e'⟩:=S.objs _ _ _ e
    refine⟨p,q,off a _ (fun m=>?_) e'⟩
    rcases onl a m with z|z
    ·exact har z
    ·rw[z]at e;cases e
   ·refine(S.objs a f o e).keep vr (fun ob q=>off a ob (own a f o e ho) q) (fun C dx fs q=>?_) fun b q=>?_
    ·subst q
     have e2:=S.fl _ _ _ _ _ e
     have hd:dx≠r:=fun z=>by rw[z,hr]at e2;cases e2
     exact⟨fun ob q=>off dx ob (own dx _ _ e2 (fun z=>by cases z)) q,f,(dne dx hd).trans e2⟩
    ·subst q
     obtain⟨g,C,fs,e2⟩:=S.objs _ _ _ e
     have hb:b≠r:=fun z=>by rw[z,hr]at e2;cases e2
     exact⟨g,C,fs,(dne b hb).trans e2⟩
  ·obtain⟨q1,q2⟩:=S.base a o e
   refine⟨off a o (fun m=>by rw[hfr a m]at e;cases e) q1,fun x z=>?_⟩
   by_cases har:a=r
   ·rw[har,deq]at z;cases z
   ·rw[dne a har]at z;exact q2 x z
  ·have har:a≠r:=fun z=>by rw[z,deq]at e;cases e
   rw[dne a har]at e
   have e2:=S.fl _ _ _ _ _ e
   have hd:dx≠r:=fun z=>by rw[z,hr]at e2;cases e2
   exact(dne dx hd).trans e2
theorem Kp.out {X:Addr→Prop} {H₀ H':AH} {h₀:Heap} (x:Kp X H₀ h₀ H h) (q:OutR H h fp H' h') (k:Off fp h h') (hf:∀a∈fp,h₀.get? a=none):Kp X H₀ h₀ H' h':=fun a o e=>by
 have hm:a∉fp:=fun m=>by rw[hf a m]at e;cases e
 refine⟨fun z=>?_,fun y z=>?_,?_⟩
 ·obtain⟨z',o',e',r⟩:=(x a o e).1 z
  exact⟨q.none a z',o',k a o' hm e',r⟩
 ·obtain⟨z',e'⟩:=(x a o e).2.1 y z
  exact⟨(q.eq a hm).trans z',k a o hm e'⟩
 ·obtain⟨o',e'⟩:=(x a o e).2.2
  exact⟨o',k a o' hm e'⟩
theorem EnvR.out' {H':AH} (e:EnvR W env H h ρ) (q:OutR H h fp H' h') (k:Off fp h h') (hd:∀a∈fp,¬frm env a):EnvR W env H' h' ρ:=by
 obtain⟨m,hn,hv⟩:=e.vals
 obtain⟨o,es,ep,ho,r⟩:=id hn
 have hl:=k _ _ (fun z=>hd _ z (.inl rfl)) ho
 have hc:∀x c v,env.cells.lookup x=some c→h.IsCell c v→h'.IsCell c v:=fun x c v q ⟨o,ho,hd'⟩=>⟨o,k _ _ (fun z=>hd _ z (.inr ⟨x,q⟩)) ho,hd'⟩
 refine⟨e.kind,e.glob,e.blt,⟨q.none _ e.loc.1,e.loc.2⟩,e.has,fun x c hx=>?_,e.inj,m,⟨o,es,ep,hl,r⟩,fun x v hx=>⟨fun z=>?_,fun z=>?_⟩⟩
 ·obtain⟨z1,z2,z3,v,z4⟩:=e.cells x c hx
  exact⟨q.none _ z1,z2,z3,v,hc x c v hx z4⟩
 ·obtain⟨u,a,b⟩:=(hv x v hx).1 z
  exact⟨u,a,q.vr _ _ b⟩
 ·obtain⟨c,u,a,b,d⟩:=(hv x v hx).2 z
  exact⟨c,u,a,hc _ _ _ a b,q.vr _ _ d⟩
def notSet:Expr→Bool
 |.Set ..=>false
 |_=>true
theorem folded_plain {e:Expr} {env:Env} (h:notSet e=true):∀x,foldedSetIterable e env x=pure x:=by
 intro x
 cases e<;>first|rfl|cases h
def CompStep (W:Wd) (n:Nat) (elt:Expr) (ifs:List Expr) (scope:Scope) (env:Env) (xi N:Nat) (ρ:Rho) (v:AV) (I:Nat→List AV→AH→Prop) (Q:AV→AH→Prop):Prop:=
 ∀L i out H,I i out H→i≤N∧out.length≤i∧∃o,nextI H (.seq v) i=some o∧match o with
   |none=>∀r,H r=none→Q (.ref r) (H.set r (.list out))
   |some u=>OkTs W n ifs (compEnvC scope (clOf env scope.names []) L env) ((xi,u)::ρ) H fun t H=>(t=true→OkE W n elt (compEnvC scope (clOf env scope.names []) L env) ((xi,u)::ρ) H fun y H=>I (i+1) (out++[y]) H)∧(t=false→I (i+1) out H)
theorem CompOk.hn (C:CompOk sc scope x):∀y∈scope.names,y.2=.local→scope.names.lookup y.1=some .local:=fun y hy h=>by have:=(C.all y hy).2;rw[h]at this;exact this
theorem ok_comp {elt iter:Expr} {px pos:Pos} {ifs:List Expr} {xi:Nat} {Q:AV→AH→Prop} (C:CompOk sc scope x) (ag:Agree env sc) (hx:nm xi=x) (hset:notSet iter=true)
  (h:OkE W n iter env ρ H fun v H₁=>AI.ok1 (.seq v)∧∃(I:Nat→List AV→AH→Prop) (N:Nat),N≤cap∧I 0 [] H₁∧CompStep W n elt ifs scope env xi N ρ v I Q) :
  OkE W n (.ListComp elt [⟨.Name x px,iter,ifs,0⟩] scope pos) env ρ H Q:=fun A s R E hr S er P=>by
 have hfr:∀p∈scope.names,p.2=.free→∃c,env.cells.lookup p.1=some c:=fun p hp hf=>(C.free ag er p hp hf).2
 rw[eval_ListComp]
 refine wpAny_comprehension_free (use:=none) rfl (folded_plain hset) (closureFor_eq hfr) C.kind C.hn (h A s _ E hr S er fun v u sb H₀ hv a q=>?_)
 obtain⟨hok,I,N,hN,h0,step⟩:=q
 refine pyIter_seq a.st hv (let ⟨_,_,o,q,_⟩:=step 0 0 [] H₀ h0;⟨o,q⟩) fun it fp s1 b hit hfp=>?_
 refine comp_core hr C ag hx a.st (er.keep a.kp) b hit hfp hok hN h0 step (RR:=fun acc L=>compPost (model W.prog W.w) A E none R acc L) fun D L out H' s' g q=>?_
 obtain⟨m,hm⟩:=g.ns
 refine⟨m,hm,fun h' sb'=>?_⟩
 exact P _ _ _ _ (by simp only[VR]) (a.trans (g.done sb'.extBut)) q
end
end
section
section
variable {W:Wd} {K:Frag} {n:Nat} {env:Env} {ρ:Rho} {H:AH} {h h':Heap} {fp:List Addr} {sc:Names} {scope:Scope} {x:Str} {Q:Rho→AH→Prop} {Rt:AV→AH→Prop}
def OkS (W:Wd) (n:Nat) (st:Stmt) (env:Env) (ρ:Rho) (H:AH) (Q:Rho→AH→Prop) (Rt:AV→AH→Prop):Prop:=
 ∀(A:Around) (s:Shared) (R:Flow→Shared→Prop) (E:Value→Shared→Prop),Room n A→W.St H s.heap→EnvR W env H s.heap ρ→
  (∀s' H' ρ',AftX (frm env) W H s H' s'→EnvR W env H' s'.heap ρ'→Q ρ' H'→R .next s')→
  (∀v u s' H',VR H' s'.heap v u→AftX (frm env) W H s H' s'→Rt v H'→R (.ret u) s')→wpAny (model W.prog W.w) A (exec st env) R E s
def OkB (W:Wd) (n:Nat) (b:List Stmt) (env:Env) (ρ:Rho) (H:AH) (Q:Rho→AH→Prop) (Rt:AV→AH→Prop):Prop:=
 ∀(A:Around) (s:Shared) (R:Flow→Shared→Prop) (E:Value→Shared→Prop),Room n A→W.St H s.heap→EnvR W env H s.heap ρ→
  (∀s' H' ρ',AftX (frm env) W H s H' s'→EnvR W env H' s'.heap ρ'→Q ρ' H'→R .next s')→
  (∀v u s' H',VR H' s'.heap v u→AftX (frm env) W H s H' s'→Rt v H'→R (.ret u) s')→wpAny (model W.prog W.w) A (execs b env) R E s
theorem okb_nil (q:Q ρ H):OkB W n [] env ρ H Q Rt:=fun A s R E hr S er P P'=>wpAny_execs_nil (P s H ρ (.refl S) er q)
theorem okb_cons {st:Stmt} {b:List Stmt} (h:OkS W n st env ρ H (fun ρ H=>OkB W n b env ρ H Q Rt) Rt):OkB W n (st::b) env ρ H Q Rt:=fun A s R E hr S er P P'=>
 wpAny_execs_cons (h A s _ E hr S er (fun s1 H1 ρ1 a er1 q=>q A s1 _ E hr a.st er1 (fun s' H' ρ' b er' q'=>P s' H' ρ' (a.trans b) er' q') fun v u s' H' x b q'=>P' v u s' H' x (a.trans b) q') P')
def plainT:Expr→Bool
 |.Name ..|.Attribute ..|.Subscript ..=>true
 |_=>false
theorem oks_assign1 {t e:Expr} {pos:Pos} (hs:swapsWith e (some t) pos.line env=pure false) (ht:plainT t=true) (h:OkE W n e env ρ H fun v H=>OkT W n t env v ρ H Q):OkS W n (.Assign [t] e pos) env ρ H Q Rt:=fun A s R E hr S er P P'=>by
 have e1:exec (.Assign [t] e pos) env=(do
   standAt pos
   if ←swapsWith e (some t) pos.line env then do
    evalThenUse e env fun v=>assignAll v ((assignEach [t] env).map (·.2))
    pure .next
   else do
    let v ←eval e env
    assign t env v
    pure .next):=by cases t<;>first|rfl|cases ht
 rw[e1,hs]
 refine wpAny_bind (wpAny_standAt (wpAny_bind (wpAny_pure ?_)))
 refine wpAny_bind (h A s _ E hr S er fun v u s1 H1 hx a q=>wpAny_bind ?_)
 exact q A s1 u _ E hr a.st (er.keep a.kp) hx fun s2 H2 ρ2 b er2 q2=>wpAny_pure (P s2 H2 ρ2 (a.x.trans b) er2 q2)
theorem swaps_plain {e t:Expr} {l:Nat} (h:isComp e=false):swapsWith e (some t) l env=pure false:=by
 cases e<;>first|rfl|cases h
theorem swaps_other {e t:Expr} {l:Nat} (h:match t with|.Name ..=>False|_=>True):swapsWith e (some t) l env=pure false:=by
 cases t<;>first|(exact h.elim)|(cases e<;>rfl)
theorem swaps_name {e:Expr} {y:Str} {p:Pos} {l:Nat}:∃b,swapsWith e (some (.Name y p)) l env=pure b:=by
 cases e<;>exact⟨_,rfl⟩
theorem oks_used {elt iter:Expr} {px py pos spos:Pos} {ifs:List Expr} {xi yi:Nat} {y:Str} (hsw:swapsWith (.ListComp elt [⟨.Name x px,iter,ifs,0⟩] scope pos) (some (.Name y py)) spos.line env=pure true)
  (C:CompOk sc scope x) (ag:Agree env sc) (hx:nm xi=x) (hy:nm yi=y) (hk:env.kindOf y=some .local∨env.kindOf y=some .cell) (hset:notSet iter=true)
  (h:OkE W n iter env ρ H fun v H₁=>AI.ok1 (.seq v)∧∃(I:Nat→List AV→AH→Prop) (N:Nat),N≤cap∧I 0 [] H₁∧CompStep W n elt ifs scope env xi N ρ v I fun u H=>Q (put ρ yi u) H) :
  OkS W n (.Assign [.Name y py] (.ListComp elt [⟨.Name x px,iter,ifs,0⟩] scope pos) spos) env ρ H Q Rt:=fun A s R E hr S er P P'=>by
 have hfr:∀p∈scope.names,p.2=.free→∃c,env.cells.lookup p.1=some c:=fun p hp hf=>(C.free ag er p hp hf).2
 rw[exec_Assign_Name_used _ _ _ _ hsw]
 refine wpAny_bind (wpAny_standAt (wpAny_bind ?_))
 show wpAny _ A (do let _ ←comprehension (.ListComp elt [⟨.Name x px,iter,ifs,0⟩] scope pos) scope env _ (newList []) false (eval iter env) (some (assign (.Name y py) env))) _ _ s
 refine wpAny_bind (wpAny_mono (wpAny_comprehension_free (use:=some (assign (.Name y py) env)) (Q:=fun _ s'=>R .next s') rfl (folded_plain hset) (closureFor_eq hfr) C.kind C.hn (h A s _ E hr S er fun v u sb H₀ hv a q=>?_))
  (fun _ s' hq=>wpAny_pure (wpAny_pure hq)) fun _ _ e=>e)
 obtain⟨hok,I,N,hN,h0,step⟩:=q
 refine pyIter_seq a.st hv (let ⟨_,_,o,q,_⟩:=step 0 0 [] H₀ h0;⟨o,q⟩) fun it fp s1 b hit hfp=>?_
 refine comp_core (Q:=fun u H=>Q (put ρ yi u) H) hr C ag hx a.st (er.keep a.kp) b hit hfp hok hN h0 step (RR:=fun acc L=>compPost (model W.prog W.w) A E (some (assign (.Name y py) env)) (fun _ s'=>R .next s') acc L) fun D L out H' s' g q=>?_
 obtain⟨m,hm⟩:=g.ns
 have gd:=g.done (h':=s'.heap) fun b o _ e=>e
 have er1:EnvR W env (H'.set D (.list out)) s'.heap ρ:=(er.keep a.kp).keep gd.kp
 show wpAny _ A (assign (.Name y py) env (.ref D)) _ _ _
 refine wpAny_assign_Name (store_ok (v:=.ref D) hy hk gd.st er1 (by simp only[VR]) fun s2 a2 er2=>?_)
 have hLf:¬frm env L:=fun z=>by
  obtain⟨o,e⟩:=(er.keep a.kp).dom L z
  rw[g.hC.2.2]at e;cases e
 have hL2:(H'.set D (.list out)) L=none:=(AH.set_ne H' _ (Ne.symm g.hDC)).trans g.hC.1
 obtain⟨o,es,ep,ho,r⟩:=hm
 have hoL:=a2.kp.getX ho hL2 hLf
 refine⟨m,⟨o,es,ep,hoL.1,r⟩,fun h' sb'=>?_⟩
 have off:Off [L] s2.heap h':=fun b o m e=>(sb'.2 b (fun z=>m (by rw[z];simp))).trans e
 have apt:Apt W (H'.set D (.list out)) s2.heap [L]:=fun b hb=>by
  obtain rfl:=List.mem_singleton.mp hb
  refine⟨g.hC.2.1,.inl ⟨hL2,fun us n e=>?_⟩⟩
  rw[hoL.1]at e
  have hd:=r.1
  injection e with e;rw[e]at hd;cases hd
 have prs:Prs (H'.set D (.list out)) [L] h':=fun b hb q=>by obtain rfl:=List.mem_singleton.mp hb;rw[hL2]at q;cases q
 have kpAll:Kp (frm env) H₀ sb.heap (H'.set D (.list out)) h':=((gd.kp.mono fun _ h=>h.elim).trans a2.kp).off off (by simpa using g.hC.2.2)
 refine P _ _ _ ⟨a2.st.off apt off prs,(a.kp.mono fun _ h=>h.elim).trans kpAll,?_⟩ (er2.off apt off fun b hb z=>by obtain rfl:=List.mem_singleton.mp hb;exact hLf z) q
 have:=(a.same.trans gd.same).trans a2.same
 exact⟨this.os,this.gens⟩
theorem oks_if {c:Expr} {a b:List Stmt} {pos:Pos} (h:OkC W n c env ρ H fun t H=>(t=true→OkB W n a env ρ H Q Rt)∧(t=false→OkB W n b env ρ H Q Rt)):OkS W n (.If c a b pos) env ρ H Q Rt:=fun A s R E hr S er P P'=>
 wpAny_If (h A s _ E hr S er fun t s1 H1 x q=>by
  cases t with
  |true=>exact q.1 rfl A s1 _ E hr x.st (er.keep x.kp) (fun s' H' ρ' b e q=>P s' H' ρ' (x.x.trans b) e q) fun v u s' H' y b q=>P' v u s' H' y (x.x.trans b) q
  |false=>exact q.2 rfl A s1 _ E hr x.st (er.keep x.kp) (fun s' H' ρ' b e q=>P s' H' ρ' (x.x.trans b) e q) fun v u s' H' y b q=>P' v u s' H' y (x.x.trans b) q)
theorem oks_ret {e:Expr} {pos:Pos} (h:OkE W n e env ρ H Rt):OkS W n (.Return (some e) pos) env ρ H Q Rt:=fun A s R E hr S er P P'=>
 wpAny_Return_some (h A s _ E hr S er fun v u s' H' x a q=>P' v u s' H' x a.x q)
theorem oks_ret0 {pos:Pos} (q:Rt .none H):OkS W n (.Return none pos) env ρ H Q Rt:=fun A s R E hr S er P P'=>wpAny_Return_none (P' .none _ s H (by simp only[VR]) (.refl S) q)
theorem oks_pass {pos:Pos} (q:Q ρ H):OkS W n (.Pass pos) env ρ H Q Rt:=fun A s R E hr S er P P'=>by
 rw[arm_exec_Pass]
 exact wpAny_bind (wpAny_standAt (wpAny_pure (P s H ρ (.refl S) er q)))
theorem oks_expr {f:Expr} {as:List Expr} {ks:List Keyword} {p pos:Pos} (h:OkE W n (.Call f as ks p) env ρ H fun _ H=>Q ρ H):OkS W n (.Expr (.Call f as ks p) pos) env ρ H Q Rt:=fun A s R E hr S er P P'=>
 wpAny_Expr_any (h A s _ E hr S er fun v u s' H' x a q=>P s' H' ρ a.x (er.keep a.kp) q) (by simp[interactive,er.kind]) rfl
theorem oks_while {c:Expr} {b:List Stmt} {pos:Pos} (I:Nat→Rho→AH→Prop) (m:Nat) (h0:I m ρ H)
  (h:∀m ρ H,I m ρ H→OkC W n c env ρ H fun t H=>(t=false→Q ρ H)∧(t=true→OkB W n b env ρ H (fun ρ H=>∃m',m'<m∧I m' ρ H) Rt)):OkS W n (.While c b [] pos) env ρ H Q Rt:=fun A s R E hr S er P P'=>by
 refine wpAny_While (codeAny_whileLoop (fun k s'=>∃H' ρ',I k ρ' H'∧AftX (frm env) W H s H' s'∧EnvR W env H' s'.heap ρ') ?_ m ⟨H,ρ,h0,.refl S,er⟩)
 rintro k s' ⟨H',ρ',hI,a,er'⟩
 refine h k ρ' H' hI A s' _ _ hr a.st er' fun t s1 H1 x q=>?_
 cases t with
 |true=>
  refine q.2 rfl A s1 _ _ hr x.st (er'.keep x.kp) (fun s2 H2 ρ2 y e2 q2=>?_) fun v u s2 H2 vr y q2=>?_
  ·obtain⟨m',hm,hI'⟩:=q2
   exact⟨m',hm,H2,ρ2,hI',(a.trans x.x).trans y,e2⟩
  ·exact P' v u s2 H2 vr ((a.trans x.x).trans y) q2
 |false=>exact wpAny_execs_nil (P s1 H1 ρ' (a.trans x.x) (er'.keep x.kp) (q.1 rfl))
theorem load_ok {A:Around} {s:Shared} {E:Value→Shared→Prop} {R:Value→Shared→Prop} {y:Str} {xi:Nat} {v:AV} (hy:nm xi=y) (hk:env.kindOf y=some .local∨env.kindOf y=some .cell) (er:EnvR W env H s.heap ρ) (hv:ρ.lookup xi=some v)
  (P:∀u,VR H s.heap v u→R u s):wpAny (model W.prog W.w) A (loadName env y) R E s:=by
 subst hy
 obtain⟨m,hn,vals⟩:=er.vals
 have r:=vals xi v hv
 rcases hk with z|z
 ·obtain⟨u,a,d⟩:=r.1 z
  exact wpAny_loadName_local er.kind z hn a (P u d)
 ·obtain⟨c,u,a,b,d⟩:=r.2 (.inl z)
  exact wpAny_loadName_cell er.kind z a b (P u d)
theorem oks_aug {y:Str} {p pos:Pos} {o:Operator} {op:Op} {e:Expr} {xi:Nat} {i:Int} (hy:nm xi=y) (hk:env.kindOf y=some .local∨env.kindOf y=some .cell) (ho:(o=.Add∧op=.add)∨(o=.Sub∧op=.sub)) (hv:ρ.lookup xi=some (.int i))
  (h:OkE W n e env ρ H fun v H=>∃j,v=.int j∧Q (put ρ xi (.int (augI op i j))) H):OkS W n (.AugAssign (.Name y p) o e pos) env ρ H Q Rt:=fun A s R E hr S er P P'=>by
 refine wpAny_AugAssign_Name (load_ok hy hk er hv fun u hu=>h A s _ E hr S er fun v w s1 H1 hw a q=>?_)
 obtain⟨j,rfl,q⟩:=q
 simp only[VR]at hu hw
 obtain⟨t,rfl⟩:=hu
 obtain⟨t',rfl⟩:=hw
 have fin:∀r,wpAny (model W.prog W.w) A (storeName env y (.int (augI op i j) r)) (fun _=>R .next) E {s1 with toks:=s1.toks+1}:=fun r=>by
  have tk:Aft W H1 s1 H1 {s1 with toks:=s1.toks+1}:=.tok a.st _ rfl
  refine store_ok (v:=.int (augI op i j)) hy hk tk.st ((er.keep a.kp).keep tk.kp) (by simp only[VR];exact⟨r,rfl⟩) fun s2 a2 er2=>P s2 H1 _ ((a.trans tk).x.trans a2) er2 q
 rcases ho with⟨rfl,rfl⟩|⟨rfl,rfl⟩
 ·exact AutoIntOps.iadd_0 (fin _)
 ·exact AutoIntOps.isub_0 (fin _)
end
end
section
section
variable {W:Wd} {K:Frag} {n:Nat} {env:Env} {ρ:Rho} {H:AH} {h h':Heap} {fp:List Addr} {sc:Names} {scope:Scope} {x:Str} {Q:Rho→AH→Prop} {Rt:AV→AH→Prop}
def OkTL (W:Wd) (n:Nat):List Expr→Env→List AV→Rho→AH→(Rho→AH→Prop)→Prop
 |[],_,[],ρ,H,Q=>Q ρ H
 |t::ts,env,v::vs,ρ,H,Q=>OkT W n t env v ρ H fun ρ H=>OkTL W n ts env vs ρ H Q
 |_,_,_,_,_,_=>False
theorem assignEach_cons {t:Expr} {ts:List Expr} {env:Env} (h:isStar t=false):assignEach (t::ts) env=(false,assign t env)::assignEach ts env:=by
 cases t<;>first|rfl|cases h
theorem assignEach_len {env:Env}:∀{ts:List Expr},(assignEach ts env).length=ts.length
 |[]=>rfl
 |t::ts=>by
  have ih:=assignEach_len (env:=env) (ts:=ts)
  cases t<;>simp[assignEach,ih]
theorem assignEach_star {env:Env}:∀{ts:List Expr},noStars ts=true→(assignEach ts env).findIdx? (·.1)=none
 |[],_=>rfl
 |t::ts,h=>by
  simp only[noStars,List.all_cons,Bool.and_eq_true,Bool.not_eq_true']at h
  rw[assignEach_cons h.1,List.findIdx?_cons,assignEach_star h.2]
  rfl
theorem targets_ok:∀{ts:List Expr} {vs:List AV} {us:List Value} {ρ:Rho} {H:AH} {A:Around} {s:Shared} {R:Unit→Shared→Prop} {E:Value→Shared→Prop},noStars ts=true→Room n A→W.St H s.heap→EnvR W env H s.heap ρ→VRs H s.heap vs us→OkTL W n ts env vs ρ H Q→
  (∀s' H' ρ',AftX (frm env) W H s H' s'→EnvR W env H' s'.heap ρ'→Q ρ' H'→R () s')→wpAny (model W.prog W.w) A (assignInOrder ((assignEach ts env).map (·.2)) us) R E s
 |[],[],us,ρ,H,A,s,R,E,hst,hr,S,er,hv,q,P=>by
  simp only[VRs]at hv;subst hv
  exact assignInOrder_nil (P s H ρ (.refl S) er q)
 |t::ts,v::vs,us,ρ,H,A,s,R,E,hst,hr,S,er,hv,q,P=>by
  simp only[noStars,List.all_cons,Bool.and_eq_true,Bool.not_eq_true']at hst
  simp only[VRs]at hv
  obtain⟨u,r,rfl,hu,hrs⟩:=hv
  rw[assignEach_cons hst.1]
  refine assignInOrder_cons (q A s u _ E hr S er hu fun s1 H1 ρ1 a er1 q1=>?_)
  exact targets_ok hst.2 hr a.st er1 (hrs.keep' fun v u=>VR.kp a.kp er.seqOut) q1 fun s' H' ρ' b e q=>P s' H' ρ' (a.trans b) e q
 |[],v::vs,_,_,_,_,_,_,_,_,_,_,_,_,q,_=>q.elim
 |t::ts,[],_,_,_,_,_,_,_,_,_,_,_,_,q,_=>q.elim
theorem OkTL.len:∀{ts:List Expr} {vs:List AV} {ρ:Rho} {H:AH} {Q:Rho→AH→Prop},OkTL W n ts env vs ρ H Q→True:=fun _=>trivial
theorem okt_tuple {ts:List Expr} {k:Nat} {pos:Pos} {vs:List AV} (hst:noStars ts=true) (hl:ts.length=vs.length) (h:OkTL W n ts env vs ρ H Q):OkT W n (.Tuple ts k pos) env (.tup vs) ρ H Q:=fun A s u R E hr S er hv P=>by
 simp only[VR]at hv
 obtain⟨a,us,m,rfl,ht,hz,v⟩:=hv
 refine wpAny_assign_Tuple hr.2.2 ⟨_,ht,rfl,m,rfl⟩ (by rw[assignEach_len,hl,←v.size]) (assignEach_star hst) fun h' he=>?_
 have gr:∀b o,s.heap.get? b=some o→h'.get? b=some o:=fun b o e=>he b o (fun z=>by rw[z]at e;exact Nat.lt_irrefl _ (Heap.lt_size e)) e
 have g:Aft W H s H {s with heap:=h'}:=.grow S ⟨rfl,rfl⟩ gr
 exact targets_ok hst hr g.st (er.keep g.kp) (v.keep' fun v u x=>x.kp0 g.kp) h fun s' H' ρ' b e q=>P s' H' ρ' (g.x.trans b) e q
theorem swapped_none {ts:List Expr} {k:Nat} {pos:Pos} {e:Expr} (ht:∀t∈ts,match t with|.Name ..=>False|_=>True):swappedStores [.Tuple ts k pos] e env=pure none:=by
 cases ts with
 |nil=>cases e<;>first|rfl|(unfold swappedStores;rfl)
 |cons t ts=>
  have key:∀l:List Expr,(∀t∈l,match t with|.Name ..=>False|_=>True)→∀(f:Str→Pos→Option Str),(l.filterMap fun|.Name id pos=>f id pos|_=>none)=[]:=by
   intro l
   induction l with
   |nil=>intro _ _;rfl
   |cons y l ih=>
    intro h f
    have h1:=h y (.head _)
    have h2:=ih (fun t ht=>h t (.tail _ ht)) f
    cases y<;>first|exact h1.elim|(simp only[List.filterMap_cons];exact h2)
  cases e<;>first|rfl|skip
  rename_i vs k' p'
  unfold swappedStores
  dsimp only
  split
  ·rfl
  ·split
   ·rfl
   ·have e0:=key (t::ts) ht (fun id pos=>if (env.kindOf id==some NameKind.local&&pos.line==((t::ts).head?.map (·.pos.line)).getD 0)=true then some id else none)
    have:((t::ts).filterMap fun
      |.Name id pos=>if (env.kindOf id==some NameKind.local&&pos.line==((t::ts).head?.map (·.pos.line)).getD 0)=true then some id else none
      |_=>none)=[]:=e0
    exact if_pos ((congrArg (fun l:List Str=>(l.length != (t::ts).length||l.eraseDups.length != l.length)) this).trans rfl)
end
end
section
def putsL:Rho→List Nat→List AV→Rho
 |ρ,x::xs,v::vs=>putsL (put ρ x v) xs vs
 |ρ,_,_=>ρ
theorem putsL_lookup:∀{xs:List Nat} {vs:List AV} {ρ:Rho} {z:Nat},xs.Nodup→xs.length=vs.length→(putsL ρ xs vs).lookup z=((xs.zip vs).lookup z).or (ρ.lookup z)
 |[],[],ρ,z,_,_=>rfl
 |x::xs,v::vs,ρ,z,nd,hl=>by
  rw[List.nodup_cons]at nd
  have ih:=putsL_lookup (ρ:=put ρ x v) (z:=z) nd.2 (by simpa using hl)
  show(putsL (put ρ x v) xs vs).lookup z=_
  rw[ih,List.zip_cons_cons]
  by_cases hz:z=x
  ·subst hz
   have hnone:(xs.zip vs).lookup z=none:=by
    cases e:(xs.zip vs).lookup z with
    |none=>rfl
    |some w=>exact absurd (List.of_mem_zip (mem_of_lookup e)).1 nd.1
   rw[hnone,lookup_eq,put_eq];rfl
  ·rw[lookup_ne hz,put_ne _ _ hz]
 |[],_::_,_,_,_,hl=>by cases hl
 |_::_,[],_,_,_,hl=>by cases hl
theorem lookup_mem {z:Nat} {v:AV}:∀{l:List (Nat × AV)},(l.map (·.1)).Nodup→(z,v)∈l→l.lookup z=some v
 |(y,w)::r,nd,hm=>by
  rw[List.map_cons,List.nodup_cons]at nd
  rcases List.mem_cons.mp hm with e|hm
  ·cases e;exact lookup_eq
  ·rw[lookup_ne (fun e=>nd.1 (by rw[←e];exact List.mem_map.mpr ⟨_,hm,rfl⟩))];exact lookup_mem nd.2 hm
theorem lookup_rev {z:Nat} {l:List (Nat × AV)} (nd:(l.map (·.1)).Nodup):l.reverse.lookup z=l.lookup z:=by
 have nd':(l.reverse.map (·.1)).Nodup:=by rw[List.map_reverse];exact(List.reverse_perm _).nodup_iff.mpr nd
 cases e:l.lookup z with
 |some v=>exact lookup_mem nd' (List.mem_reverse.mpr (mem_of_lookup e))
 |none=>
  cases e':l.reverse.lookup z with
  |none=>rfl
  |some v=>rw[lookup_mem nd (List.mem_reverse.mp (mem_of_lookup e'))]at e;cases e
theorem zip_keys:∀{xs:List Nat} {vs:List AV},xs.length=vs.length→(xs.zip vs).map (·.1)=xs
 |[],[],_=>rfl
 |x::xs,v::vs,h=>by simp[zip_keys (xs:=xs) (vs:=vs) (by simpa using h)]
 |[],_::_,h=>by cases h
 |_::_,[],h=>by cases h
theorem putsL_rev {xs:List Nat} {vs:List AV} {ρ:Rho} {z:Nat} (nd:xs.Nodup) (hl:xs.length=vs.length):(putsL ρ xs vs).lookup z=(putsL ρ xs.reverse vs.reverse).lookup z:=by
 rw[putsL_lookup nd hl,putsL_lookup ((List.reverse_perm _).nodup_iff.mpr nd) (by simpa using hl)]
 have:xs.reverse.zip vs.reverse=(xs.zip vs).reverse:=by
  rw[List.zip_eq_zipWith,List.zip_eq_zipWith];exact(List.reverse_zipWith hl).symm
 rw[this,lookup_rev (by rw[zip_keys hl];exact nd)]
inductive NamesAre (sc:Names):List Expr→List Nat→Prop
 |nil:NamesAre sc [] []
 |cons {x:Nat} {p:Pos} {ts:List Expr} {xs:List Nat}:(sc.lookup (nm x)=some .local∨sc.lookup (nm x)=some .cell)→NamesAre sc ts xs→NamesAre sc (.Name (nm x) p::ts) (x::xs)
theorem names_of {sc:Names}:∀{ts:List Expr} {xs:List Nat},nameCodes sc ts=some xs→NamesAre sc ts xs
 |[],xs,h=>by simp only[nameCodes,Option.some.injEq]at h;subst h;exact .nil
 |.Name y p::ts,xs,h=>by
  simp only[nameCodes]at h
  split at h
  ·rename_i hk
   simp only[Option.bind_eq_some_iff,Option.map_eq_some_iff]at h
   obtain⟨i,hi,r,hr,rfl⟩:=h
   have e:=nm_codeOf hi
   subst e
   refine .cons ?_ (names_of hr)
   simpa using hk
  ·cases h
 |.Constant ..::ts,xs,h|.Attribute ..::ts,xs,h|.BoolOp ..::ts,xs,h|.NamedExpr ..::ts,xs,h|.BinOp ..::ts,xs,h|.UnaryOp ..::ts,xs,h|.Lambda ..::ts,xs,h|.IfExp ..::ts,xs,h|.Dict ..::ts,xs,h|.Set ..::ts,xs,h|.ListComp ..::ts,xs,h|.SetComp ..::ts,xs,h|.DictComp ..::ts,xs,h
 |.GeneratorExp ..::ts,xs,h|.Await ..::ts,xs,h|.Yield ..::ts,xs,h|.YieldFrom ..::ts,xs,h|.Compare ..::ts,xs,h|.Call ..::ts,xs,h|.FormattedValue ..::ts,xs,h|.JoinedStr ..::ts,xs,h|.Subscript ..::ts,xs,h|.Starred ..::ts,xs,h|.List ..::ts,xs,h|.Tuple ..::ts,xs,h|.Slice ..::ts,xs,h=>by simp[nameCodes]at h
theorem NamesAre.len {sc:Names}:∀{ts:List Expr} {xs:List Nat},NamesAre sc ts xs→ts.length=xs.length
 |_,_,.nil=>rfl
 |_,_,.cons _ h=>by simp[h.len]
theorem NamesAre.stars {sc:Names}:∀{ts:List Expr} {xs:List Nat},NamesAre sc ts xs→noStars ts=true
 |_,_,.nil=>rfl
 |_,_,.cons _ h=>by simp only[noStars,List.all_cons,Bool.and_eq_true];exact⟨rfl,h.stars⟩
theorem NamesAre.pick {sc:Names} {f:Str→Pos→Bool}:∀{ts:List Expr} {xs:List Nat},NamesAre sc ts xs→
  (ts.filterMap fun|.Name id pos=>if f id pos=true then some id else none|_=>none).length≤xs.length ∧
   ((ts.filterMap fun|.Name id pos=>if f id pos=true then some id else none|_=>none).length=xs.length→(ts.filterMap fun|.Name id pos=>if f id pos=true then some id else none|_=>none)=xs.map nm∧∀x∈xs,∃p,f (nm x) p=true)
 |_,_,.nil=>⟨Nat.le_refl _,fun _=>⟨rfl,fun _ h=>by cases h⟩⟩
 |_,_,.cons (x:=x) (p:=p) (ts:=ts) (xs:=xs) _ h=>by
  obtain⟨h1,h2⟩:=h.pick (f:=f)
  by_cases hf:f (nm x) p=true
  ·simp only[List.filterMap_cons,hf,if_true,List.length_cons,List.map_cons]
   refine⟨Nat.succ_le_succ h1,fun e=>?_⟩
   obtain⟨e1,e2⟩:=h2 (Nat.succ.inj e)
   exact⟨by rw[e1],fun y hy=>by
    rcases List.mem_cons.mp hy with rfl|hy
    ·exact⟨p,hf⟩
    ·exact e2 y hy⟩
  ·simp only[List.filterMap_cons,hf,Bool.false_eq_true,if_false,List.length_cons]
   exact⟨Nat.le_succ_of_le h1,fun e=>absurd e (Nat.ne_of_lt (Nat.lt_succ_of_le h1))⟩
section
variable {W:Wd} {K:Frag} {n:Nat} {env:Env} {ρ:Rho} {H:AH} {h h':Heap} {fp:List Addr} {sc:Names} {scope:Scope} {x:Str} {Q:Rho→AH→Prop} {Rt:AV→AH→Prop}
theorem swapped_names {ts:List Expr} {xs:List Nat} {k:Nat} {pos:Pos} {e:Expr} (hN:NamesAre sc ts xs) (hc:constTuple e=false) :
  swappedStores [.Tuple ts k pos] e env=pure none∨(swappedStores [.Tuple ts k pos] e env=pure (some (xs.map nm))∧∀x∈xs,env.kindOf (nm x)=some .local):=by
 cases e<;>first|exact .inl rfl|skip
 rename_i vs k' p'
 have hc':vs.all (constantsAlone 8)=false:=hc
 obtain⟨h1,h2⟩:=hN.pick (f:=fun id pos=>env.kindOf id==some NameKind.local&&pos.line==(ts.head?.map (·.pos.line)).getD 0)
 unfold swappedStores
 dsimp only
 split
 ·exact .inl rfl
 ·split
  ·exact .inl rfl
  ·by_cases hl:(ts.filterMap fun
     |.Name id pos=>if (env.kindOf id==some NameKind.local&&pos.line==(ts.head?.map (·.pos.line)).getD 0)=true then some id else none
     |_=>none).length=xs.length
   ·obtain⟨e1,e2⟩:=h2 hl
    have loc:∀x∈xs,env.kindOf (nm x)=some .local:=fun x hx=>by
     obtain⟨p,hp⟩:=e2 x hx
     simp only[Bool.and_eq_true,beq_iff_eq]at hp
     exact hp.1
    by_cases hd:(xs.map nm).eraseDups.length != (xs.map nm).length
    ·refine .inl (if_pos ?_)
     refine(congrArg (fun l:List Str=>(l.length != ts.length||l.eraseDups.length != l.length)) e1).trans ?_
     show((xs.map nm).length != ts.length||(xs.map nm).eraseDups.length != (xs.map nm).length)=true
     rw[hd,Bool.or_true]
    ·have hd':((xs.map nm).length != ts.length||(xs.map nm).eraseDups.length != (xs.map nm).length)=false:=by
      rw[Bool.not_eq_true]at hd
      rw[hd,hN.len];simp
     have c1:=(congrArg (fun l:List Str=>(l.length != ts.length||l.eraseDups.length != l.length)) e1).trans hd'
     split
     ·rename_i hz
      exact Bool.noConfusion (Eq.trans (Eq.symm hz) c1)
     ·split
      ·exact .inl rfl
      ·rw[hc']
       refine .inr ⟨?_,loc⟩
       exact congrArg (fun l=>(pure (some l):Sem (Option (List Str)))) e1
   ·refine .inl (if_pos ?_)
    have:((ts.filterMap fun
     |.Name id pos=>if (env.kindOf id==some NameKind.local&&pos.line==(ts.head?.map (·.pos.line)).getD 0)=true then some id else none
     |_=>none).length != ts.length)=true:=by rw[hN.len];simpa using hl
    exact Bool.or_eq_true_iff.mpr (.inl this)
theorem stores_ok:∀{xs:List Nat} {vs:List AV} {us:List Value} {ρ:Rho} {A:Around} {s:Shared} {R:Unit→Shared→Prop} {E:Value→Shared→Prop},(∀x∈xs,env.kindOf (nm x)=some .local∨env.kindOf (nm x)=some .cell)→xs.length=vs.length→W.St H s.heap→EnvR W env H s.heap ρ→VRs H s.heap vs us→
  (∀s',AftX (frm env) W H s H s'→EnvR W env H s'.heap (putsL ρ xs vs)→R () s')→wpAny (model W.prog W.w) A (assignInOrder (xs.map fun x=>bindName env (nm x)) us) R E s
 |[],[],us,ρ,A,s,R,E,_,_,S,er,hv,P=>by
  simp only[VRs]at hv;subst hv
  exact assignInOrder_nil (P s (.refl S) er)
 |x::xs,v::vs,us,ρ,A,s,R,E,hk,hl,S,er,hv,P=>by
  simp only[VRs]at hv
  obtain⟨u,r,rfl,hu,hr⟩:=hv
  refine assignInOrder_cons (wpAny_bindName (store_ok (x:=x) rfl (hk x (.head _)) S er hu fun s1 a er1=>?_))
  exact stores_ok (fun y hy=>hk y (.tail _ hy)) (by simpa using hl) a.st er1 (hr.keep' fun v u=>VR.kp a.kp er.seqOut) fun s' b e=>P s' (a.trans b) e
 |[],_::_,_,_,_,_,_,_,_,hl,_,_,_,_=>by cases hl
 |_::_,[],_,_,_,_,_,_,_,hl,_,_,_,_=>by cases hl
theorem okTL_names:∀{ts:List Expr} {xs:List Nat} {vs:List AV} {ρ:Rho},NamesAre sc ts xs→Agree env sc→xs.length=vs.length→Q (putsL ρ xs vs) H→OkTL W n ts env vs ρ H Q
 |_,_,[],ρ,.nil,ag,hl,q=>q
 |_,_,v::vs,ρ,.cons (x:=x) hk h,ag,hl,q=>okt_name rfl (hk.imp (ag _ _) (ag _ _)) (okTL_names h ag (by simpa using hl) q)
 |_,_,_::_,ρ,.nil,ag,hl,q=>by cases hl
 |_,_,[],ρ,.cons _ _,ag,hl,q=>by cases hl
theorem NamesAre.kinds {ts:List Expr} {xs:List Nat} (h:NamesAre sc ts xs) (ag:Agree env sc):∀x∈xs,env.kindOf (nm x)=some .local∨env.kindOf (nm x)=some .cell:=by
 induction h with
 |nil=>intro _ h;cases h
 |cons hk _ ih=>
  intro y hy
  rcases List.mem_cons.mp hy with rfl|hy
  ·exact hk.imp (ag _ _) (ag _ _)
  ·exact ih y hy
theorem exec_tuple {ts:List Expr} {k:Nat} {tp pos:Pos} {e:Expr} {A:Around} {s:Shared} {R:Flow→Shared→Prop} {E:Value→Shared→Prop}
  (h:wpAny (model W.prog W.w) A (do let v ←eval e env;assignStores env v (←swappedStores [.Tuple ts k tp] e env) [assign (.Tuple ts k tp) env]) R E s):wpAny (model W.prog W.w) A (exec (.Assign [.Tuple ts k tp] e pos) env) R E s:=by
 rw[arm_exec_Assign]
 refine wpAny_bind (wpAny_standAt ?_)
 have e0:swapsWith e (some (.Tuple ts k tp)) pos.line env=pure false:=by cases e<;>rfl
 have:swapsWithSole [.Tuple ts k tp] e pos.line env=pure false:=e0
 rw[this]
 exact wpAny_bind (wpAny_pure h)
theorem oks_assignN {ts:List Expr} {xs:List Nat} {k:Nat} {tp pos:Pos} {e:Expr} (hN:NamesAre sc ts xs) (ag:Agree env sc) (nd:xs.Nodup) (hc:constTuple e=false)
  (h:OkE W n e env ρ H fun v H=>∃vs,v=.tup vs∧xs.length=vs.length∧Q (putsL ρ xs vs) H):OkS W n (.Assign [.Tuple ts k tp] e pos) env ρ H Q Rt:=fun A s R E hr S er P P'=>by
 refine exec_tuple (wpAny_bind (h A s _ E hr S er fun v u s1 H1 hx a q=>?_))
 obtain⟨vs,rfl,hl,q⟩:=q
 rcases swapped_names (env:=env) (k:=k) (pos:=tp) hN hc with e0|⟨e0,loc⟩
 ·rw[e0]
  refine wpAny_bind (wpAny_pure (wpAny_bind ?_))
  exact okt_tuple hN.stars (hN.len.trans hl) (okTL_names hN ag hl q) A s1 u _ E hr a.st (er.keep a.kp) hx fun s' H' ρ' b e q=>wpAny_pure (P s' H' ρ' (a.x.trans b) e q)
 ·rw[e0]
  refine wpAny_bind (wpAny_pure (wpAny_bind (wpAny_rule (wpAny_bind ?_))))
  simp only[VR]at hx
  obtain⟨t,us,m,rfl,ht,hz,v⟩:=hx
  have sz:(xs.map nm).length=us.size:=by rw[List.length_map,hl,v.size]
  rw[sz]
  refine wpAny_unpackItems_tuple hr.2.2 ⟨_,ht,rfl,m,rfl⟩ fun h' he=>wpAny_bind ?_
  have gr:∀b o,s1.heap.get? b=some o→h'.get? b=some o:=fun b o e=>he b o (fun z=>by rw[z]at e;exact Nat.lt_irrefl _ (Heap.lt_size e)) e
  have g:Aft W H1 s1 H1 {s1 with heap:=h'}:=.grow a.st ⟨rfl,rfl⟩ gr
  have e2:((xs.map nm).reverse.map fun n=>bindName env n)=xs.reverse.map fun x=>bindName env (nm x):=by rw[←List.map_reverse,List.map_map];rfl
  rw[e2]
  refine stores_ok (xs:=xs.reverse) (vs:=vs.reverse) (fun x hx=>.inl (loc x (List.mem_reverse.mp hx))) (by simpa using hl) g.st ((er.keep a.kp).keep g.kp) ((v.keep' fun v u x=>x.kp0 g.kp).reverse) fun s' b e=>wpAny_pure ?_
  exact P s' H1 _ ((a.trans g).x.trans b) (e.congr fun x v q=>by rw[←putsL_rev nd hl];exact q) q
theorem oks_assignO {ts:List Expr} {k:Nat} {tp pos:Pos} {e:Expr} (ht:∀t∈ts,match t with|.Name ..=>False|_=>True) (hst:noStars ts=true)
  (h:OkE W n e env ρ H fun v H=>∃vs,v=.tup vs∧ts.length=vs.length∧OkTL W n ts env vs ρ H Q):OkS W n (.Assign [.Tuple ts k tp] e pos) env ρ H Q Rt:=fun A s R E hr S er P P'=>by
 refine exec_tuple (wpAny_bind (h A s _ E hr S er fun v u s1 H1 hx a q=>?_))
 obtain⟨vs,rfl,hl,q⟩:=q
 rw[swapped_none ht]
 refine wpAny_bind (wpAny_pure (wpAny_bind ?_))
 exact okt_tuple hst hl q A s1 u _ E hr a.st (er.keep a.kp) hx fun s' H' ρ' b e q=>wpAny_pure (P s' H' ρ' (a.x.trans b) e q)
end
end
section
section
variable {W:Wd} {K:Frag} {n:Nat} {env:Env} {ρ:Rho} {H:AH} {h h':Heap} {fp:List Addr} {sc:Names} {scope:Scope} {x:Str} {Q:Rho→AH→Prop} {Rt:AV→AH→Prop}
theorem oks_for {target iter:Expr} {body:List Stmt} {pos:Pos} (hset:notSet iter=true)
  (h:OkSr W n iter env ρ H fun ai H₁=>((isNT target=true∧ai.ok1)∨(isTT target=true∧ai.okT))∧∃(I:Nat→Rho→AH→Prop) (N:Nat),I 0 ρ H₁∧∀i ρ H,I i ρ H→i≤N∧∃o,nextI H ai i=some o∧match o with
   |none=>Q ρ (outI ai H)
   |some v=>OkT W n target env v ρ H fun ρ H=>OkB W n body env ρ H (I (i+1)) Rt):OkS W n (.For target iter body [] pos) env ρ H Q Rt:=fun A s R E hr S er P P'=>by
 refine wpAny_For (h A s _ E hr S er fun it ai fp s1 H1 s2 H2 a b hit hfp q=>?_) (folded_plain hset)
 obtain⟨htg,I,N,h0,step⟩:=q
 have er1:=er.keep a.kp
 have fpF:∀c∈fp,¬frm env c:=fun c hc z=>by obtain⟨o,e⟩:=er1.dom c z;rw[hfp c hc]at e;cases e
 have fpB:∀c∈fp,W.B.get? c=none:=fun c hc=>by
  cases e:W.B.get? c with
  |none=>rfl
  |some o=>have:=(a.st.base _ _ e).1;rw[hfp c hc]at this;cases this
 refine codeAny_forLoop_any (fun k s'=>∃i ρ' H',k=N+1-i∧I i ρ' H'∧W.St H' s'.heap∧Kp (frm env) H1 s1.heap H' s'.heap∧Same s1 s'∧ItAt ai it fp i H' s'.heap∧EnvR W env H' s'.heap ρ') ?_ (N+1)
  ⟨0,ρ,H2,rfl,h0,b.st,b.kp.mono fun _ h=>h.elim,b.same,hit,er1.keep b.kp⟩
 rintro k s' ⟨i,ρ',H',rfl,hI,S',kp,sm,it',er'⟩
 obtain⟨hi,o,hn,st⟩:=step i ρ' H' hI
 refine next_ok hr.2.2 it' fpB S' hn htg (fun e s3 off sm3=>?_) fun v e u s3 hP=>?_
 ·subst e
  obtain⟨S3,out⟩:=out_ok it' hn fpB S' off
  refine wpAny_execs_nil (P s3 _ ρ' ⟨S3,(a.kp.mono fun _ h=>h.elim).trans (kp.out out off hfp),(a.same.trans sm).trans sm3⟩ (er'.out' out off fpF) st)
 ·subst e
  refine hP _ _ fun s4 it4 vw off prs sm4=>?_
  have apt:Apt W H' s'.heap fp:=it'.apt fpB (opq_of hn)
  have S4:=S'.off apt off prs
  have er4:=er'.off apt off fpF
  have kp4:=kp.off off hfp
  refine st A s4 u _ _ hr S4 er4 vw fun s5 H5 ρ5 a5 er5 q5=>?_
  have it5:=it4.keep a5.kp er4.seqOut fpF
  refine q5 A s5 _ _ hr a5.st er5 (fun s6 H6 ρ6 a6 er6 q6=>?_) fun v u s6 H6 vr a6 q6=>?_
  ·obtain⟨hi6,_⟩:=step (i+1) ρ6 H6 q6
   exact⟨N+1-(i+1),by omega,i+1,ρ6,H6,rfl,q6,a6.st,(kp4.trans a5.kp).trans a6.kp,((sm.trans sm4).trans a5.same).trans a6.same,it5.keep a6.kp er5.seqOut fpF,er6⟩
  ·exact P' v u s6 H6 vr ⟨a6.st,((a.kp.mono fun _ h=>h.elim).trans ((kp4.trans a5.kp).trans a6.kp)),(a.same.trans (((sm.trans sm4).trans a5.same).trans a6.same))⟩ q6
theorem putAll_eq:∀{xs:List Nat} {vs:List AV} {ρ ρ':Rho},putAll ρ xs vs=some ρ'→xs.length=vs.length∧ρ'=putsL ρ xs vs
 |[],[],ρ,ρ',h=>by simp only[putAll,Option.some.injEq]at h;exact⟨rfl,h.symm⟩
 |x::xs,v::vs,ρ,ρ',h=>by
  simp only[putAll]at h
  obtain⟨h1,h2⟩:=putAll_eq h
  exact⟨by simp[h1],h2⟩
 |[],_::_,_,_,h=>by simp[putAll]at h
 |_::_,[],_,_,h=>by simp[putAll]at h
theorem oks_for1 {y:Str} {p pos:Pos} {xi:Nat} {iter:Expr} {body:List Stmt} (hset:notSet iter=true) (hy:nm xi=y) (hk:env.kindOf y=some .local∨env.kindOf y=some .cell)
  (h:OkSr W n iter env ρ H fun ai H₁=>ai.ok1∧∃(I:Nat→Rho→AH→Prop) (N:Nat),I 0 ρ H₁∧∀i ρ H,I i ρ H→i≤N∧∃o,nextI H ai i=some o∧match o with
   |none=>Q ρ (outI ai H)
   |some v=>OkB W n body env (put ρ xi v) H (I (i+1)) Rt):OkS W n (.For (.Name y p) iter body [] pos) env ρ H Q Rt:=
 oks_for hset fun A s R E hr S er P=>h A s R E hr S er fun it ai fp s1 H1 s2 H2 a b hit hfp q=>P it ai fp s1 H1 s2 H2 a b hit hfp (by
  obtain⟨q1,I,N,h0,st⟩:=q
  refine⟨.inl ⟨rfl,q1⟩,I,N,h0,fun i ρ H hI=>?_⟩
  obtain⟨hi,o,hn,r⟩:=st i ρ H hI
  refine⟨hi,o,hn,?_⟩
  cases o with
  |none=>exact r
  |some v=>exact okt_name hy hk r)
theorem oks_forT {ts:List Expr} {xs:List Nat} {k:Nat} {tp pos:Pos} {iter:Expr} {body:List Stmt} (hset:notSet iter=true) (hN:NamesAre sc ts xs) (ag:Agree env sc)
  (h:OkSr W n iter env ρ H fun ai H₁=>ai.okT∧∃(I:Nat→Rho→AH→Prop) (N:Nat),I 0 ρ H₁∧∀i ρ H,I i ρ H→i≤N∧∃o,nextI H ai i=some o∧match o with
   |none=>Q ρ (outI ai H)
   |some v=>∃vs ρ',v=.tup vs∧putAll ρ xs vs=some ρ'∧OkB W n body env ρ' H (I (i+1)) Rt):OkS W n (.For (.Tuple ts k tp) iter body [] pos) env ρ H Q Rt:=
 oks_for hset fun A s R E hr S er P=>h A s R E hr S er fun it ai fp s1 H1 s2 H2 a b hit hfp q=>P it ai fp s1 H1 s2 H2 a b hit hfp (by
  obtain⟨q1,I,N,h0,st⟩:=q
  refine⟨.inr ⟨rfl,q1⟩,I,N,h0,fun i ρ H hI=>?_⟩
  obtain⟨hi,o,hn,r⟩:=st i ρ H hI
  refine⟨hi,o,hn,?_⟩
  cases o with
  |none=>exact r
  |some v=>
   obtain⟨vs,ρ',rfl,hp,q⟩:=r
   obtain⟨hl,rfl⟩:=putAll_eq hp
   exact okt_tuple hN.stars (hN.len.trans hl) (okTL_names hN ag hl q))
end
end
section
section
variable {W:Wd} {K:Frag} {n:Nat}
theorem OkC.mono {e:Expr} {env:Env} {ρ:Rho} {H:AH} {Q Q':Bool→AH→Prop} (h:OkC W n e env ρ H Q) (k:∀t H',Q t H'→Q' t H'):OkC W n e env ρ H Q':=fun A s R E hr S er P=>h A s R E hr S er fun t s' H' a q=>P t s' H' a (k t H' q)
theorem compE_notSet {d:Nat} {sc:Names} {e:Expr} {c:CE} (h:compE d sc e=some c):notSet e=true:=by
 cases d with
 |zero=>simp[compE]at h
 |succ d=>cases e<;>first|rfl|(simp[compE]at h)
theorem compAll_stars {f:Expr→Option CE}:∀{es:List Expr} {cs:List CE},compAll f es=some cs→noStars es=true
 |[],_,_=>rfl
 |e::r,cs,h=>by
  simp only[compAll]at h
  split at h
  ·cases h
  ·rename_i hs
   simp only[Option.bind_eq_some_iff,Option.map_eq_some_iff]at h
   obtain⟨c,h1,cs',h2,rfl⟩:=h
   simp only[noStars,List.all_cons,Bool.and_eq_true,Bool.not_eq_true']
   exact⟨by simpa using hs,compAll_stars h2⟩
theorem sound_L {env:Env} {ρ:Rho} {f:Expr→Option CE} (ih:∀e c H Q,f e=some c→wpE W n c ρ H Q→OkE W n e env ρ H Q):∀{es:List Expr} {cs:List CE} {H:AH} {Q:List AV→AH→Prop},compAll f es=some cs→wpEs W n cs ρ H Q→OkL W n es env ρ H Q
 |[],_,H,Q,h,q=>by simp only[compAll,Option.some.injEq]at h;subst h;simpa only[wpEs,OkL]using q
 |e::r,cs,H,Q,h,q=>by
  simp only[compAll]at h
  split at h
  ·cases h
  ·simp only[Option.bind_eq_some_iff,Option.map_eq_some_iff]at h
   obtain⟨c,h1,cs',h2,rfl⟩:=h
   simp only[wpEs]at q
   exact OkE.mono (ih e c H _ h1 q) fun v H' q'=>sound_L ih h2 q'
theorem sound_Es {env:Env} {ρ:Rho} {f:Expr→Option CE} (ih:∀e c H Q,f e=some c→wpE W n c ρ H Q→OkE W n e env ρ H Q) {es:List Expr} {cs:List CE} {H:AH} {Q:List AV→AH→Prop} (h:compAll f es=some cs) (q:wpEs W n cs ρ H Q):OkEs W n es env ρ H Q:=
 OkL.es (compAll_stars h) (sound_L ih h q)
theorem sound_KV {env:Env} {ρ:Rho} {f:Expr→Option CE} (ih:∀e c H Q,f e=some c→wpE W n c ρ H Q→OkE W n e env ρ H Q):∀{ks:List (Option Expr)} {es:List Expr} {cs:List CE},compKV f ks es=some cs→∃fl,flatKV ks es=some fl∧∀(H:AH) (Q:List AV→AH→Prop),wpEs W n cs ρ H Q→OkL W n fl env ρ H Q
 |[],[],cs,h=>by simp only[compKV,Option.some.injEq]at h;subst h;exact⟨[],rfl,fun H Q q=>by simpa only[wpEs,OkL]using q⟩
 |some k::ks,e::r,cs,h=>by
  simp only[compKV,Option.bind_eq_some_iff,Option.map_eq_some_iff]at h
  obtain⟨c,h1,c',h2,cs',h3,rfl⟩:=h
  obtain⟨fl,e1,q1⟩:=sound_KV ih h3
  refine⟨k::e::fl,by simp[flatKV,e1],fun H Q q=>?_⟩
  simp only[wpEs]at q
  exact OkE.mono (ih k c H _ h1 q) fun v H' q'=>OkE.mono (ih e c' H' _ h2 q') fun v' H'' q''=>q1 H'' _ q''
 |[],_::_,cs,h=>by simp[compKV]at h
 |none::_,_,cs,h=>by simp[compKV]at h
 |some _::_,[],cs,h=>by simp[compKV]at h
theorem sound_O {env:Env} {ρ:Rho} {f:Expr→Option CE} (ih:∀e c H Q,f e=some c→wpE W n c ρ H Q→OkE W n e env ρ H Q) {o:Option Expr} {c:CE} {H:AH} {Q:AV→AH→Prop} (h:compO f o=some c) (q:wpE W n c ρ H Q):OkO W n o env ρ H Q:=by
 cases o with
 |none=>simp only[compO,Option.some.injEq]at h;subst h;simp only[wpE]at q;exact okO_none q
 |some e=>exact okO_some (ih e c H Q h q)
theorem glob_of {sc:Names} {y:Str} (hl:sc.lookup y=some .globalImplicit) (hd:¬(y==Str.ofString "__debug__")=true):isGlobal sc y=true:=by
 simp only[isGlobal,Bool.and_eq_true,beq_iff_eq,bne_iff_ne]
 exact⟨hl,by simpa using hd⟩
theorem CompOk.agree' {env:Env} {sc:Names} {scope:Scope} {x:Str} (C:CompOk sc scope x) (ag:Agree env sc) (hk:env.scope.kind=.function) (cl:List (Str × Addr)) (L:Addr):Agree (compEnvC scope cl L env) scope.names:=by
 intro y k hk'
 have e:(compEnvC scope cl L env).kindOf y=(scope.names.lookup y).map fun k=>if (k==NameKind.free&&env.scope.kind==.function&&env.kindOf y==some .cell)then .cell else k:=lookup_relabel scope.names
 rw[hk']at e
 cases k with
 |«local»=>exact e
 |cell=>
  have:=(C.all _ (mem_of_lookup hk')).1
  rcases this with⟨h,_⟩|h|⟨h,_⟩<;>cases h
 |free=>
  have:=(C.all _ (mem_of_lookup hk')).1
  rcases this with⟨h,_⟩|h|⟨_,h⟩
  ·cases h
  ·cases h
  ·rw[e,hk,ag y _ h]
   exact .inl rfl
 |globalImplicit=>exact e
 |_=>trivial
theorem and1 {env:Env} {ρ:Rho} {H:AH} {e:Expr} {pos:Pos} {Q:Bool→AH→Prop} (h:OkC W n e env ρ H Q):OkC W n (.BoolOp .And [e] pos) env ρ H Q:=
 okc_and (OkC.mono h fun t H r=>⟨fun ht=>ht▸r,fun ht=>okc_and0 (ht▸r)⟩)
theorem or1 {env:Env} {ρ:Rho} {H:AH} {e:Expr} {pos:Pos} {Q:Bool→AH→Prop} (h:OkC W n e env ρ H Q):OkC W n (.BoolOp .Or [e] pos) env ρ H Q:=
 okc_or (OkC.mono h fun t H r=>⟨fun ht=>ht▸r,fun ht=>okc_or0 (ht▸r)⟩)
theorem sound (G:Gd W K):∀d,
  (∀sc e c env ρ H (Q:AV→AH→Prop),compE d sc e=some c→env.scope.kind=.function→Agree env sc→wpE W n c ρ H Q→OkE W n e env ρ H Q) ∧
  (∀sc e c env ρ H (Q:Bool→AH→Prop),compE d sc e=some c→env.scope.kind=.function→Agree env sc→wpE W n c ρ H (fun v H=>∃t,v=.bool t∧Q t H)→OkC W n e env ρ H Q)
 |0=>⟨fun _ _ _ _ _ _ _ h=>by simp[compE]at h,fun _ _ _ _ _ _ _ h=>by simp[compE]at h⟩
 |d+1=>by
  obtain⟨ihE,ihC⟩:=sound G d
  have main:∀sc e c env ρ H (Q:AV→AH→Prop),compE (d+1) sc e=some c→env.scope.kind=.function→Agree env sc→wpE W n c ρ H Q→OkE W n e env ρ H Q:=by
   intro sc e c env ρ H Q h hk ag q
   have ih:∀e c H Q,compE d sc e=some c→wpE W n c ρ H Q→OkE W n e env ρ H Q:=fun e c H Q h q=>ihE sc e c env ρ H Q h hk ag q
   have ic:∀e c H (Q:Bool→AH→Prop),compE d sc e=some c→wpE W n c ρ H (fun v H=>∃t,v=.bool t∧Q t H)→OkC W n e env ρ H Q:=fun e c H Q h q=>ihC sc e c env ρ H Q h hk ag q
   unfold compE at h
   split at h
   ·
    split at h<;>first|(cases h;done)|skip
    all_goals
     simp only[Option.some.injEq]at h;subst h
     simp only[wpE]at q
     exact ok_k rfl q
   ·
    split at h
    ·cases h
    ·rename_i hdb
     have hd:∀y:Str,¬(y==Str.ofString "__debug__")=true→(y==("__debug__":Str))=false:=fun y h=>by simpa using h
     split at h
     ·simp only[Option.map_eq_some_iff]at h
      obtain⟨i,hi,rfl⟩:=h
      simp only[wpE]at q
      obtain⟨v,hv,q⟩:=q
      rename_i hl
      exact ok_loc ag (nm_codeOf hi) (.inl hl) (hd _ hdb) hv q
     ·simp only[Option.map_eq_some_iff]at h
      obtain⟨i,hi,rfl⟩:=h
      simp only[wpE]at q
      obtain⟨v,hv,q⟩:=q
      rename_i hl
      exact ok_loc ag (nm_codeOf hi) (.inr (.inl hl)) (hd _ hdb) hv q
     ·rename_i hl
      split at h
      ·cases h
      ·rename_i hcd
       simp only[Option.map_eq_some_iff]at h
       obtain⟨i,hi,rfl⟩:=h
       simp only[wpE]at q
       obtain⟨v,hv,q⟩:=q
       exact ok_loc ag (nm_codeOf hi) (.inr (.inr ⟨hl,by simpa using hcd⟩)) (hd _ hdb) hv q
     ·rename_i hl
      have hg:=glob_of hl hdb
      split at h
      ·rename_i i hi
       simp only[Option.some.injEq]at h;subst h
       simp only[wpE]at q
       obtain⟨t,ht⟩:=G.gintOK _ _ hi
       exact fun A s R E hr S er P=>global_at G ag hg S er ht (P _ _ _ _ (by simp only[VR];exact⟨t,rfl⟩) (.refl S) q)
      ·split at h
       ·rename_i hx
        simp only[Option.some.injEq]at h;subst h
        simp only[wpE]at q
        obtain⟨t,ht⟩:=G.hexOK
        have:=beq_iff_eq.mp hx
        subst this
        exact fun A s R E hr S er P=>global_at G ag hg S er ht (P _ _ _ _ (by simp only[VR];exact⟨t,rfl⟩) (.refl S) q)
       ·cases h
     ·cases h
   ·
    split at h
    ·cases h
    ·rename_i hns
     simp only[Option.bind_eq_some_iff,Option.map_eq_some_iff]at h
     obtain⟨c1,h1,i,hi,rfl⟩:=h
     simp only[wpE]at q
     exact ok_attr G (by simpa using hns) (nm_codeOf hi) (ih _ _ _ _ h1 q)
   ·
    simp only[Option.bind_eq_some_iff,Option.map_eq_some_iff]at h
    obtain⟨c1,h1,c2,h2,rfl⟩:=h
    split at q
    ·simp only[wpE]at q
     exact ok_and (OkE.mono (ih _ _ _ _ h1 q) fun v H' r=>by obtain⟨t,e,r1,r2⟩:=r;exact⟨t,e,r1,fun ht=>ih _ _ _ _ h2 (r2 ht)⟩)
    ·simp only[wpE]at q
     exact ok_or (OkE.mono (ih _ _ _ _ h1 q) fun v H' r=>by obtain⟨t,e,r1,r2⟩:=r;exact⟨t,e,r1,fun ht=>ih _ _ _ _ h2 (r2 ht)⟩)
   ·
    simp only[Option.bind_eq_some_iff,Option.map_eq_some_iff]at h
    obtain⟨c1,h1,c2,h2,c3,h3,rfl⟩:=h
    split at q
    ·simp only[wpE]at q
     exact ok_and3 (OkE.mono (ih _ _ _ _ h1 q) fun v H' r=>by
      obtain⟨t,e,r1,r2⟩:=r
      exact⟨t,e,r1,fun ht=>ok_and (OkE.mono (ih _ _ _ _ h2 (r2 ht)) fun v H' r=>by obtain⟨t,e,r1,r2⟩:=r;exact⟨t,e,r1,fun ht=>ih _ _ _ _ h3 (r2 ht)⟩)⟩)
    ·simp only[wpE]at q
     exact ok_or3 (OkE.mono (ih _ _ _ _ h1 q) fun v H' r=>by
      obtain⟨t,e,r1,r2⟩:=r
      exact⟨t,e,r1,fun ht=>ok_or (OkE.mono (ih _ _ _ _ h2 (r2 ht)) fun v H' r=>by obtain⟨t,e,r1,r2⟩:=r;exact⟨t,e,r1,fun ht=>ih _ _ _ _ h3 (r2 ht)⟩)⟩)
   ·
    simp only[Option.bind_eq_some_iff,Option.map_eq_some_iff]at h
    obtain⟨o,ho,c1,h1,c2,h2,rfl⟩:=h
    simp only[wpE]at q
    exact ok_bin ho (OkE.mono (ih _ _ _ _ h1 q) fun v H' r=>ih _ _ _ _ h2 r)
   ·
    simp only[Option.map_eq_some_iff]at h
    obtain⟨c1,h1,rfl⟩:=h
    simp only[wpE]at q
    exact ok_not (ih _ _ _ _ h1 q)
   ·
    simp only[Option.map_eq_some_iff]at h
    obtain⟨c1,h1,rfl⟩:=h
    simp only[wpE]at q
    exact ok_neg (ih _ _ _ _ h1 q)
   ·
    simp only[Option.bind_eq_some_iff,Option.map_eq_some_iff]at h
    obtain⟨c1,h1,c2,h2,c3,h3,rfl⟩:=h
    simp only[wpE]at q
    exact ok_ite (OkC.mono (ic _ _ _ _ h1 q) fun t H' r=>⟨fun ht=>ih _ _ _ _ h2 (r.1 ht),fun ht=>ih _ _ _ _ h3 (r.2 ht)⟩)
   ·
    split at h
    ·cases h
    ·rename_i hm
     simp only[Option.bind_eq_some_iff,Option.map_eq_some_iff]at h
     obtain⟨o,ho,c1,h1,c2,h2,rfl⟩:=h
     simp only[wpE]at q
     exact ok_cmp ho (by simpa using hm) (OkE.mono (ih _ _ _ _ h1 q) fun v H' r=>ih _ _ _ _ h2 r)
   ·
    simp only[Option.map_eq_some_iff]at h
    obtain⟨cs,h1,rfl⟩:=h
    simp only[wpE]at q
    exact ok_list (sound_Es ih h1 q)
   ·
    simp only[Option.map_eq_some_iff]at h
    obtain⟨cs,h1,rfl⟩:=h
    simp only[wpE]at q
    exact ok_tup (sound_Es ih h1 q)
   ·
    split at h
    ·rename_i ss hss
     split at h
     ·cases h
     ·rename_i hne
      split at h
      ·rename_i hl
       simp only[Option.map_eq_some_iff]at h
       obtain⟨cs,h1,rfl⟩:=h
       simp only[wpE]at q
       simp only[Bool.and_eq_true,beq_iff_eq,decide_eq_true_eq]at hl
       refine ok_dS G hss (fun z=>hne (by rw[z];rfl)) hl.1 hl.2 ?_
       have:=sound_L ih h1 q
       have gen:∀(f:List Expr) (H:AH) (Q Q':List AV→AH→Prop),(∀vs H,Q vs H→Q' vs H)→OkL W n f env ρ H Q→OkL W n f env ρ H Q':=by
        intro f
        induction f with
        |nil=>intro H Q Q' k h;exact k _ _ h
        |cons e f ih=>intro H Q Q' k h;exact OkE.mono h fun v H' q=>ih H' _ _ (fun vs H'' q=>k _ _ q) q
       exact gen _ _ _ _ (fun vs H q=>q.2.2) this
      ·cases h
    ·rename_i hss
     split at h
     ·rename_i hl
      simp only[Option.map_eq_some_iff]at h
      obtain⟨cs,h1,rfl⟩:=h
      simp only[wpE]at q
      simp only[Bool.and_eq_true,beq_iff_eq,decide_eq_true_eq]at hl
      obtain⟨fl,e1,q1⟩:=sound_KV ih h1
      exact ok_dI G e1 (fun z=>by rw[z]at hss;cases hss) hl.2 (q1 _ _ q)
     ·cases h
   ·
    simp only[Option.bind_eq_some_iff,Option.map_eq_some_iff]at h
    obtain⟨c1,h1,c2,h2,c3,h3,rfl⟩:=h
    simp only[wpE]at q
    exact ok_slice (OkE.mono (ih _ _ _ _ h1 q) fun v H' r=>by
     intro A s R E hr S er P
     exact sound_O ih h2 r A s R E hr S er fun v u s' H' x a q=>P v u s' H' x a (sound_O ih h3 q))
   ·
    simp only[Option.map_eq_some_iff]at h
    obtain⟨c1,h1,rfl⟩:=h
    simp only[wpE]at q
    exact ok_rev (ih _ _ _ _ h1 q)
   ·
    split at h
    ·cases h
    ·rename_i hsl
     simp only[Option.bind_eq_some_iff,Option.map_eq_some_iff]at h
     obtain⟨c1,h1,c2,h2,rfl⟩:=h
     simp only[wpE]at q
     exact ok_sub (by simpa using hsl) (OkE.mono (ih _ _ _ _ h1 q) fun v H' r=>ih _ _ _ _ h2 r)
   ·
    split at h
    ·rename_i hco
     have C:=compOk_iff hco
     simp only[Option.bind_eq_some_iff]at h
     obtain⟨c1,h1,c2,h2,i,hi,h⟩:=h
     have agc:=C.agree' ag hk
     split at h
     ·simp only[Option.some.injEq]at h;subst h
      simp only[wpE]at q
      refine ok_comp C ag (nm_codeOf hi) (compE_notSet h1) (OkE.mono (ih _ _ _ _ h1 q) fun v H' r=>?_)
      obtain⟨r1,I,N,hN,h0,r2⟩:=r
      refine⟨r1,I,N,hN,h0,fun L i' out H hI=>?_⟩
      obtain⟨q1,q2,o,hn,q3⟩:=r2 i' out H hI
      refine⟨q1,q2,o,hn,?_⟩
      cases o with
      |none=>exact q3
      |some u=>
       obtain⟨t,ht,q4,q5⟩:=q3
       cases ht
       exact okts_nil ⟨fun _=>ihE _ _ _ _ _ _ _ h2 C.kind (agc _ L) (q4 rfl),fun z=>by cases z⟩
     ·simp only[Option.map_eq_some_iff]at h
      obtain⟨c3,h3,rfl⟩:=h
      simp only[wpE]at q
      refine ok_comp C ag (nm_codeOf hi) (compE_notSet h1) (OkE.mono (ih _ _ _ _ h1 q) fun v H' r=>?_)
      obtain⟨r1,I,N,hN,h0,r2⟩:=r
      refine⟨r1,I,N,hN,h0,fun L i' out H hI=>?_⟩
      obtain⟨q1,q2,o,hn,q3⟩:=r2 i' out H hI
      refine⟨q1,q2,o,hn,?_⟩
      cases o with
      |none=>exact q3
      |some u=>
       refine okts_one (OkC.mono (ihC _ _ _ _ _ _ _ h3 C.kind (agc _ L) q3) fun t H'' r=>⟨fun ht=>ihE _ _ _ _ _ _ _ h2 C.kind (agc _ L) (r.1 ht),r.2⟩)
     ·cases h
    ·cases h
   ·
    split at h
    ·rename_i hg
     simp only[Option.bind_eq_some_iff]at h
     obtain⟨cs,h1,h⟩:=h
     split at h
     ·rename_i a hf
      simp only[Option.some.injEq]at h;subst h
      simp only[wpE]at q
      exact ok_call G ag hg hf (compAll_stars h1) (sound_Es ih h1 q)
     ·rename_i a hf1 hf
      simp only[Option.some.injEq]at h;subst h
      simp only[wpE]at q
      exact ok_new G ag hg hf (compAll_stars h1) (sound_Es ih h1 q)
     ·rename_i a hf1 hf2 hf
      simp only[Option.some.injEq]at h;subst h
      simp only[wpE]at q
      exact ok_bf G ag hg hf (compAll_stars h1) (sound_Es ih h1 q)
     ·cases h
    ·cases h
   ·
    split at h
    ·rename_i hc
     simp only[Bool.and_eq_true,decide_eq_true_eq]at hc
     simp only[Option.bind_eq_some_iff]at h
     obtain⟨c1,h1,cs,h2,h⟩:=h
     split at h
     ·rename_i b hb
      simp only[Option.some.injEq]at h;subst h
      simp only[wpE]at q
      exact ok_bm G hc.2 hb (compAll_stars h2) hc.1.1 hc.1.2 (OkE.mono (ih _ _ _ _ h1 q) fun v H' r=>⟨r.1,sound_Es ih h2 r.2⟩)
     ·simp only[Option.map_eq_some_iff]at h
      obtain⟨i,hi,rfl⟩:=h
      simp only[wpE]at q
      exact ok_meth G hc.2 (nm_codeOf hi) (compAll_stars h2) hc.1.1 hc.1.2 (OkE.mono (ih _ _ _ _ h1 q) fun v H' r=>by
       obtain⟨a,f,C,dx,fs,g,e1,e2,e3,e4,r⟩:=r
       exact⟨a,f,C,dx,fs,g,e1,e2,e3,e4,sound_Es ih h2 r⟩)
    ·cases h
   ·cases h
  refine⟨main,fun sc e c env ρ H Q h hk ag q=>?_⟩
  have ic:∀e c H (Q:Bool→AH→Prop),compE d sc e=some c→wpE W n c ρ H (fun v H=>∃t,v=.bool t∧Q t H)→OkC W n e env ρ H Q:=fun e c H Q h q=>ihC sc e c env ρ H Q h hk ag q
  have ih:∀e c H Q,compE d sc e=some c→wpE W n c ρ H Q→OkE W n e env ρ H Q:=fun e c H Q h q=>ihE sc e c env ρ H Q h hk ag q
  by_cases hp:(match e with|.UnaryOp .Not ..|.BoolOp ..|.IfExp ..|.Compare ..=>False|_=>True)
  ·exact okc_plain hp (main sc e c env ρ H _ h hk ag q)
  ·unfold compE at h
   split at h<;>first|(exact absurd trivial hp)|skip
   ·
    simp only[Option.bind_eq_some_iff,Option.map_eq_some_iff]at h
    obtain⟨c1,h1,c2,h2,rfl⟩:=h
    split at q
    ·simp only[wpE]at q
     exact okc_and (OkC.mono (ic _ _ _ _ h1 q) fun t H' r=>⟨fun ht=>by obtain⟨t',e,r'⟩:=r.1 ht;cases e;exact r',fun ht=>and1 (ic _ _ _ _ h2 (r.2 ht))⟩)
    ·simp only[wpE]at q
     exact okc_or (OkC.mono (ic _ _ _ _ h1 q) fun t H' r=>⟨fun ht=>by obtain⟨t',e,r'⟩:=r.1 ht;cases e;exact r',fun ht=>or1 (ic _ _ _ _ h2 (r.2 ht))⟩)
   ·
    simp only[Option.bind_eq_some_iff,Option.map_eq_some_iff]at h
    obtain⟨c1,h1,c2,h2,c3,h3,rfl⟩:=h
    split at q
    ·simp only[wpE]at q
     exact okc_and (OkC.mono (ic _ _ _ _ h1 q) fun t H' r=>⟨fun ht=>by obtain⟨t',e,r'⟩:=r.1 ht;cases e;exact r',fun ht=>
      okc_and (OkC.mono (ic _ _ _ _ h2 (r.2 ht)) fun t H' r=>⟨fun ht=>by obtain⟨t',e,r'⟩:=r.1 ht;cases e;exact r',fun ht=>and1 (ic _ _ _ _ h3 (r.2 ht))⟩)⟩)
    ·simp only[wpE]at q
     exact okc_or (OkC.mono (ic _ _ _ _ h1 q) fun t H' r=>⟨fun ht=>by obtain⟨t',e,r'⟩:=r.1 ht;cases e;exact r',fun ht=>
      okc_or (OkC.mono (ic _ _ _ _ h2 (r.2 ht)) fun t H' r=>⟨fun ht=>by obtain⟨t',e,r'⟩:=r.1 ht;cases e;exact r',fun ht=>or1 (ic _ _ _ _ h3 (r.2 ht))⟩)⟩)
   ·
    simp only[Option.map_eq_some_iff]at h
    obtain⟨c1,h1,rfl⟩:=h
    simp only[wpE]at q
    refine okc_not (ic _ _ _ (fun t H=>Q (!t) H) h1 (cast (congrArg (wpE W n c1 ρ H) (funext fun v=>funext fun H'=>propext ⟨fun r=>?_,fun r=>?_⟩)) q))
    ·obtain⟨t,e,t',e',r⟩:=r
     cases e';exact⟨t,e,r⟩
    ·obtain⟨t,e,r⟩:=r
     exact⟨t,e,_,rfl,r⟩
   ·
    simp only[Option.bind_eq_some_iff,Option.map_eq_some_iff]at h
    obtain⟨c1,h1,c2,h2,c3,h3,rfl⟩:=h
    simp only[wpE]at q
    exact okc_ite (OkC.mono (ic _ _ _ _ h1 q) fun t H' r=>⟨fun ht=>ic _ _ _ _ h2 (r.1 ht),fun ht=>ic _ _ _ _ h3 (r.2 ht)⟩)
   ·
    split at h
    ·cases h
    ·rename_i hm
     simp only[Option.bind_eq_some_iff,Option.map_eq_some_iff]at h
     obtain⟨o,ho,c1,h1,c2,h2,rfl⟩:=h
     simp only[wpE]at q
     exact okc_cmp ho (by simpa using hm) (OkE.mono (ih _ _ _ _ h1 q) fun v H' r=>ih _ _ _ _ h2 r)
   ·cases h
end
end
section
section
variable {W:Wd} {K:Frag} {n:Nat} {env:Env} {ρ:Rho} {H:AH} {sc:Names} {Q:Rho→AH→Prop} {Rt:AV→AH→Prop}
theorem sE (G:Gd W K) {d:Nat} {e:Expr} {c:CE} {Q:AV→AH→Prop} (h:compE d sc e=some c) (hk:env.scope.kind=.function) (ag:Agree env sc) (q:wpE W n c ρ H Q):OkE W n e env ρ H Q:=
 (sound G d).1 sc e c env ρ H Q h hk ag q
theorem sC (G:Gd W K) {d:Nat} {e:Expr} {c:CE} {Q:Bool→AH→Prop} (h:compE d sc e=some c) (hk:env.scope.kind=.function) (ag:Agree env sc) (q:wpE W n c ρ H (fun v H=>∃t,v=.bool t∧Q t H)):OkC W n e env ρ H Q:=
 (sound G d).2 sc e c env ρ H Q h hk ag q
theorem OkE.room {e:Expr} {Q:AV→AH→Prop} (h:OkE W n e env ρ H Q):OkE W n e env ρ H fun v H=>(∃r,H r=none)∧Q v H:=fun A s R E hr S er P=>
 h A s R E hr S er fun v u s' H' x a q=>P v u s' H' x a ⟨⟨_,a.st.none_of_ge (Nat.le_refl _)⟩,q⟩
theorem okT_sound (G:Gd W K) {t:Expr} {tg:Tg} {v:AV} (h:compT sc t=some tg) (hk:env.scope.kind=.function) (ag:Agree env sc) (q:wpT W n tg v ρ H Q):OkT W n t env v ρ H Q:=by
 unfold compT at h
 split at h
 ·split at h
  ·rename_i hl
   simp only[Option.map_eq_some_iff]at h
   obtain⟨i,hi,rfl⟩:=h
   simp only[wpT]at q
   refine okt_name (nm_codeOf hi) ?_ q
   simp only[Bool.or_eq_true,beq_iff_eq]at hl
   exact hl.imp (ag _ _) (ag _ _)
  ·cases h
 ·simp only[Option.bind_eq_some_iff,Option.map_eq_some_iff]at h
  obtain⟨c,h1,i,hi,rfl⟩:=h
  simp only[wpT]at q
  exact okt_attr G (nm_codeOf hi) (sE G h1 hk ag q)
 ·simp only[Option.bind_eq_some_iff,Option.map_eq_some_iff]at h
  obtain⟨c,h1,c2,h2,c3,h3,rfl⟩:=h
  simp only[wpT]at q
  exact okt_cut (OkE.mono (sE G h1 hk ag q) fun v H' r=>OkE.mono (sE G h2 hk ag r) fun v H' r=>sE G h3 hk ag r)
 ·split at h
  ·cases h
  ·rename_i hsl
   simp only[Option.bind_eq_some_iff,Option.map_eq_some_iff]at h
   obtain⟨c,h1,c2,h2,rfl⟩:=h
   simp only[wpT]at q
   exact okt_sub (OkE.mono (sE G h1 hk ag q) fun v H' r=>sE G h2 hk ag r)
 ·cases h
theorem compT_star {t:Expr} {tg:Tg} (h:compT sc t=some tg):isStar t=false:=by
 cases t<;>first|rfl|(simp[compT]at h)
theorem compTs_stars:∀{ts:List Expr} {tgs:List Tg},compTs sc ts=some tgs→noStars ts=true
 |[],_,_=>rfl
 |t::ts,tgs,h=>by
  simp only[compTs,Option.bind_eq_some_iff,Option.map_eq_some_iff]at h
  obtain⟨c,h1,r,h2,rfl⟩:=h
  simp only[noStars,List.all_cons,Bool.and_eq_true,Bool.not_eq_true']
  exact⟨compT_star h1,compTs_stars h2⟩
theorem okTL_sound (G:Gd W K) (hk:env.scope.kind=.function) (ag:Agree env sc):∀{ts:List Expr} {tgs:List Tg} {vs:List AV} {ρ:Rho} {H:AH},compTs sc ts=some tgs→wpTs W n tgs vs ρ H Q→OkTL W n ts env vs ρ H Q
 |[],tgs,vs,ρ,H,h,q=>by
  simp only[compTs,Option.some.injEq]at h;subst h
  cases vs with
  |nil=>simpa only[wpTs,OkTL]using q
  |cons v vs=>simp only[wpTs]at q
 |t::ts,tgs,vs,ρ,H,h,q=>by
  simp only[compTs,Option.bind_eq_some_iff,Option.map_eq_some_iff]at h
  obtain⟨c,h1,r,h2,rfl⟩:=h
  cases vs with
  |nil=>simp only[wpTs]at q
  |cons v vs=>
   simp only[wpTs]at q
   have:=okT_sound G h1 hk ag q
   exact fun A s u R E hr S er hv P=>this A s u R E hr S er hv fun s' H' ρ' a e q'=>P s' H' ρ' a e (okTL_sound G hk ag h2 q')
theorem compTs_len:∀{ts:List Expr} {tgs:List Tg},compTs sc ts=some tgs→ts.length=tgs.length
 |[],_,h=>by simp only[compTs,Option.some.injEq]at h;subst h;rfl
 |t::ts,tgs,h=>by
  simp only[compTs,Option.bind_eq_some_iff,Option.map_eq_some_iff]at h
  obtain⟨c,h1,r,h2,rfl⟩:=h
  simp[compTs_len h2]
theorem wpTs_names:∀{xs:List Nat} {vs:List AV} {ρ:Rho},wpTs W n (xs.map .name) vs ρ H Q→xs.length=vs.length∧Q (putsL ρ xs vs) H
 |[],[],ρ,q=>by simp only[List.map_nil,wpTs]at q;exact⟨rfl,q⟩
 |x::xs,v::vs,ρ,q=>by
  simp only[List.map_cons,wpTs,wpT]at q
  obtain⟨h1,h2⟩:=wpTs_names q
  exact⟨by simp[h1],h2⟩
 |[],_::_,_,q=>by simp only[List.map_nil,wpTs]at q
 |_::_,[],_,q=>by simp only[List.map_cons,wpTs]at q
theorem comp_list {d:Nat} {e:Expr} {c:CE} (h:compE d sc e=some c) (hc:isComp e=true):∃elt gens scope p,e=.ListComp elt gens scope p:=by
 cases d with
 |zero=>simp[compE]at h
 |succ d=>
  cases e<;>first|(cases hc;done)|exact⟨_,_,_,_,rfl⟩|(exact absurd h (by unfold compE;exact fun z=>by cases z))
theorem comp_inv {d:Nat} {elt:Expr} {gens:List Comprehension} {scope:Scope} {pos:Pos} {c:CE} (h:compE d sc (.ListComp elt gens scope pos)=some c) :
  ∃d' x px iter ifs i c1 c2,d=d'+1∧gens=[⟨.Name x px,iter,ifs,0⟩]∧compOk sc scope x=true∧compE d' sc iter=some c1∧compE d' scope.names elt=some c2∧codeOf x=some i ∧
   ((ifs=[]∧c=.comp c2 i c1 (.k (.bool true)))∨∃t c3,ifs=[t]∧compE d' scope.names t=some c3∧c=.comp c2 i c1 c3):=by
 cases d with
 |zero=>simp[compE]at h
 |succ d=>
  unfold compE at h
  split at h<;>first|(rename_i e;cases e;done)|skip
  all_goals first|(rename_i h1 h2;cases h1;done)|skip
  all_goals first|(cases h;done)|skip
  all_goals first
   |(rename_i elt' x px iter ifs scope' p' e1
     cases e1
     split at h
     ·rename_i hco
      simp only[Option.bind_eq_some_iff]at h
      obtain⟨c1,h1,c2,h2,i,hi,h⟩:=h
      refine⟨d,x,px,iter,ifs,i,c1,c2,rfl,rfl,hco,h1,h2,hi,?_⟩
      split at h
      ·simp only[Option.some.injEq]at h;exact .inl ⟨rfl,h.symm⟩
      ·simp only[Option.map_eq_some_iff]at h
       obtain⟨c3,h3,rfl⟩:=h
       exact .inr ⟨_,c3,rfl,h3,rfl⟩
      ·cases h
     ·cases h)
   |skip
theorem comp_step (G:Gd W K) {d:Nat} {scope:Scope} {x:Str} {elt:Expr} {ifs:List Expr} {i:Nat} {c2:CE} {cond:CE} {Qv:AV→AH→Prop} {v:AV} {I:Nat→List AV→AH→Prop} {N:Nat}
  (C:CompOk sc scope x) (ag:Agree env sc) (hk:env.scope.kind=.function) (h2:compE d scope.names elt=some c2) (hifs:(ifs=[]∧cond=.k (.bool true))∨∃t,ifs=[t]∧compE d scope.names t=some cond)
  (q:∀j out H,I j out H→j≤N∧out.length≤j∧∃o,nextI H (.seq v) j=some o∧match o with
    |none=>∀r,H r=none→Qv (.ref r) (H.set r (.list out))
    |some u=>wpE W n cond ((i,u)::ρ) H fun y H=>∃t,y=.bool t∧(t=true→wpE W n c2 ((i,u)::ρ) H fun y H=>I (j+1) (out++[y]) H)∧(t=false→I (j+1) out H)) :
  CompStep W n elt ifs scope env i N ρ v I Qv:=by
 have agc:=C.agree' ag hk
 intro L j out H hI
 obtain⟨q1,q2,o,hn,q3⟩:=q j out H hI
 refine⟨q1,q2,o,hn,?_⟩
 cases o with
 |none=>exact q3
 |some u=>
  rcases hifs with⟨rfl,rfl⟩|⟨t,rfl,h3⟩
  ·simp only[wpE]at q3
   obtain⟨t,ht,q4,q5⟩:=q3
   cases ht
   exact okts_nil ⟨fun _=>sE G h2 C.kind (agc _ L) (q4 rfl),fun z=>by cases z⟩
  ·exact okts_one (OkC.mono (sC G h3 C.kind (agc _ L) q3) fun t H'' r=>⟨fun ht=>sE G h2 C.kind (agc _ L) (r.1 ht),r.2⟩)
theorem oks_assign_sound (G:Gd W K) {t e:Expr} {tg:Tg} {c:CE} {pos:Pos} (ht:compT sc t=some tg) (he:compE 30 sc e=some c) (hk:env.scope.kind=.function) (ag:Agree env sc)
  (q:wpE W n c ρ H fun v H=>wpT W n tg v ρ H Q):OkS W n (.Assign [t] e pos) env ρ H Q Rt:=by
 have hp:plainT t=true:=by
  cases t<;>first|rfl|(simp[compT]at ht)
 have plain:swapsWith e (some t) pos.line env=pure false→OkS W n (.Assign [t] e pos) env ρ H Q Rt:=fun hs=>
  oks_assign1 hs hp (OkE.mono (sE G he hk ag q) fun v H' r=>okT_sound G ht hk ag r)
 cases t<;>first|(exact plain (swaps_other trivial))|skip
 rename_i y py
 by_cases hc:isComp e=false
 ·exact plain (swaps_plain hc)
 ·obtain⟨elt,gens,scope,p,rfl⟩:=comp_list he (by simpa using hc)
  obtain⟨b,hb⟩:=swaps_name (env:=env) (e:=.ListComp elt gens scope p) (y:=y) (p:=py) (l:=pos.line)
  cases b with
  |false=>exact plain hb
  |true=>
   obtain⟨d',x,px,iter,ifs,i,c1,c2,hd,rfl,hco,h1,h2,hi,hor⟩:=comp_inv he
   have C:=compOk_iff hco
   have hc:∃c3,c=.comp c2 i c1 c3∧((ifs=[]∧c3=.k (.bool true))∨∃t,ifs=[t]∧compE d' scope.names t=some c3):=by
    rcases hor with⟨r1,r2⟩|⟨t,c3,r1,r2,r3⟩
    ·exact⟨_,r2,.inl ⟨r1,rfl⟩⟩
    ·exact⟨c3,r3,.inr ⟨t,r1,r2⟩⟩
   obtain⟨c3,rfl,hifs⟩:=hc
   have ht:(if sc.lookup y==some .local||sc.lookup y==some .cell then(codeOf y).map Tg.name else none)=some tg:=ht
   split at ht
   ·rename_i hl
    simp only[Option.map_eq_some_iff]at ht
    obtain⟨yi,hyi,rfl⟩:=ht
    simp only[Bool.or_eq_true,beq_iff_eq]at hl
    simp only[wpE]at q
    refine oks_used hb C ag (nm_codeOf hi) (nm_codeOf hyi) (hl.imp (ag _ _) (ag _ _)) (compE_notSet h1) (OkE.mono (sE G h1 hk ag q) fun v H' r=>?_)
    obtain⟨r1,I,N,hN,h0,r2⟩:=r
    refine⟨r1,I,N,hN,h0,?_⟩
    refine comp_step G C ag hk h2 hifs fun j out H hI=>?_
    obtain⟨q1,q2,o,hn,q3⟩:=r2 j out H hI
    refine⟨q1,q2,o,hn,?_⟩
    cases o with
    |none=>exact fun r hr=>q3 r hr
    |some u=>exact q3
   ·cases ht
end
end
section
section
variable {W:Wd} {K:Frag} {n:Nat} {env:Env} {ρ:Rho} {H:AH} {sc:Names} {Q:Rho→AH→Prop} {Rt:AV→AH→Prop}
theorem OkSr.mono {e:Expr} {Q Q':AI→AH→Prop} (h:OkSr W n e env ρ H Q) (k:∀v H',Q v H'→Q' v H'):OkSr W n e env ρ H Q':=fun A s R E hr S er P=>
 h A s R E hr S er fun it ai fp s1 H1 s2 H2 a b c d q=>P it ai fp s1 H1 s2 H2 a b c d (k _ _ q)
theorem compE_call0 {d:Nat} {f:Str} {as:List Expr} {p pos p' pos':Pos}:compE d sc (.Call (.Name f p) as [] pos)=compE d sc (.Call (.Name f p') as [] pos'):=by
 cases d with
 |zero=>rfl
 |succ d=>rfl
theorem sr_one (G:Gd W K) {e:Expr} {c:CE} {Q:AI→AH→Prop} (h:compE 30 sc e=some c) (hk:env.scope.kind=.function) (ag:Agree env sc)
  (q:wpSr W n (.one c) ρ H Q) (k:∀ai H,Q ai H→∃o,nextI H ai 0=some o):OkSr W n e env ρ H Q:=by
 simp only[wpSr]at q
 exact oksr_one (OkE.mono (sE G h hk ag q) fun v H' r=>⟨k _ _ r,r⟩)
theorem isGl {f:Str} {s:Str} (h:(f==s&&isGlobal sc f)=true):f=s∧isGlobal sc s=true:=by
 simp only[Bool.and_eq_true,beq_iff_eq]at h
 obtain⟨rfl,h⟩:=h
 exact⟨rfl,h⟩
theorem zip_facts {r l m:Addr} {H:AH} {v u:AV} {o:Option AV} (h:nextI (H.set r .opq) (.zip (.ref l) (.ref m) r) 0=some o):∃f f' xs ys,H l=some (f,.list xs)∧H m=some (f',.list ys):=by
 simp only[nextI,AH.set_same]at h
 simp only[Option.bind_eq_some_iff,Option.map_eq_some_iff]at h
 obtain⟨xs,h1,ys,h2,_⟩:=h
 obtain⟨f,e1⟩:=curI_ref h1
 obtain⟨f',e2⟩:=curI_ref h2
 have g:∀a f xs,(H.set r .opq) a=some (f,.list xs)→H a=some (f,.list xs):=fun a f xs e=>by
  by_cases ha:a=r
  ·rw[ha,AH.set_same]at e;cases e
  ·rwa [AH.set_ne H _ ha]at e
 exact⟨f,f',xs,ys,g _ _ _ e1,g _ _ _ e2⟩
theorem sr_sound (G:Gd W K) {e:Expr} {sr:Sr} {Q:AI→AH→Prop} (h:compSr sc e=some sr) (hk:env.scope.kind=.function) (ag:Agree env sc)
  (q:wpSr W n sr ρ H Q) (k:∀ai H,Q ai H→(∃o,nextI H ai 0=some o)∧(ai.ok1∨ai.okT)):OkSr W n e env ρ H Q:=by
 have one:∀{c:CE},compE 30 sc e=some c→sr=.one c→OkSr W n e env ρ H Q:=fun h1 h2=>by
  subst h2
  exact sr_one G h1 hk ag q fun ai H z=>(k ai H z).1
 unfold compSr at h
 split at h
 ·split at h
  ·rename_i hg
   obtain⟨rfl,hg⟩:=isGl hg
   split at h
   ·cases h
   ·rename_i hst
    simp only[Option.map_eq_some_iff]at h
    obtain⟨c,h1,rfl⟩:=h
    simp only[wpSr]at q
    refine oksr_enum G ag hg (by simpa using hst) (OkE.mono (sE G h1 hk ag q) fun v H' r=>⟨(k _ _ r).1,?_,r⟩)
    rcases(k _ _ r).2 with z|z
    ·exact z.elim
    ·cases v<;>first|exact⟨_,rfl⟩|exact z.elim
  ·split at h
   ·rename_i hg
    obtain⟨rfl,hg⟩:=isGl hg
    split at h
    ·cases h
    ·rename_i hst
     simp only[Option.map_eq_some_iff]at h
     obtain⟨c,h1,rfl⟩:=h
     simp only[wpSr]at q
     refine oksr_range G ag hg (by simpa using hst) (OkE.mono (sE G h1 hk ag q) fun v H' r=>?_)
     obtain⟨i,rfl,q⟩:=r
     rcases(k _ _ q).2 with z|z
     ·exact⟨i,rfl,z.1,z.2,q⟩
     ·exact z.elim
   ·simp only[Option.map_eq_some_iff]at h
    obtain⟨c,h1,rfl⟩:=h
    exact one (compE_call0.trans h1) rfl
 ·split at h
  ·rename_i hg
   obtain⟨rfl,hg⟩:=isGl hg
   split at h
   ·cases h
   ·rename_i hst
    simp only[Bool.or_eq_true,not_or,Bool.not_eq_true]at hst
    simp only[Option.bind_eq_some_iff,Option.map_eq_some_iff]at h
    obtain⟨c,h1,c2,h2,rfl⟩:=h
    simp only[wpSr]at q
    refine oksr_zip G ag hg hst.1 hst.2 (OkE.mono (sE G h1 hk ag q) fun v H' r=>OkE.mono (OkE.room (sE G h2 hk ag r)) fun u H'' r=>?_)
    obtain⟨⟨r0,hr0⟩,r⟩:=r
    obtain⟨⟨o,ho⟩,hz⟩:=k _ _ (r r0 hr0)
    have hz:AI.okT (.zip v u r0):=hz.elim (fun z=>z.elim) id
    have:∃l m,v=.ref l∧u=.ref m:=by
     cases v<;>cases u<;>first|exact⟨_,_,rfl,rfl⟩|exact hz.elim
    obtain⟨l,m,rfl,rfl⟩:=this
    obtain⟨f,f',xs,ys,e1,e2⟩:=zip_facts (v:=.none) (u:=.none) ho
    exact⟨⟨l,m,f,f',xs,ys,rfl,rfl,e1,e2⟩,r⟩
  ·cases h
 all_goals first
  |(simp only[Option.map_eq_some_iff]at h
    obtain⟨c,h1,rfl⟩:=h
    exact one h1 rfl)
  |cases h
theorem compSr_notSet {e:Expr} {sr:Sr} (h:compSr sc e=some sr):notSet e=true:=by
 cases e<;>first|rfl|(simp[compSr]at h)
theorem sound_S (G:Gd W K) (hk:env.scope.kind=.function) (ag:Agree env sc):∀d,∀st c (ρ:Rho) (H:AH) (Q:Rho→AH→Prop) (Rt:AV→AH→Prop),compS d sc st=some c→wpS W n c ρ H Q Rt→OkS W n st env ρ H Q Rt
 |0=>fun _ _ _ _ _ _ h=>by simp[compS]at h
 |d+1=>by
  have ih:=sound_S G hk ag d
  have ihB:∀b cs (ρ:Rho) (H:AH) (Q:Rho→AH→Prop) (Rt:AV→AH→Prop),compSs (compS d sc) b=some cs→wpB W n cs ρ H Q Rt→OkB W n b env ρ H Q Rt:=by
   intro b
   induction b with
   |nil=>
    intro cs ρ H Q Rt h q
    simp only[compSs,Option.some.injEq]at h;subst h
    simp only[wpB]at q
    exact okb_nil q
   |cons s b ihb=>
    intro cs ρ H Q Rt h q
    simp only[compSs,Option.bind_eq_some_iff,Option.map_eq_some_iff]at h
    obtain⟨c,h1,r,h2,rfl⟩:=h
    simp only[wpB]at q
    have:=ih s c ρ H _ Rt h1 q
    exact okb_cons fun A s R E hr S er P P'=>this A s R E hr S er (fun s' H' ρ' a e q'=>P s' H' ρ' a e (ihb r ρ' H' Q Rt h2 q')) P'
  intro st c ρ H Q Rt h q
  unfold compS at h
  split at h
  ·
   split at h
   ·cases h
   ·rename_i hc
    simp only[Bool.or_eq_true,not_or,Bool.not_eq_true]at hc
    split at h
    ·simp only[Option.bind_eq_some_iff]at h
     obtain⟨xs,h1,h⟩:=h
     split at h
     ·rename_i nd
      simp only[Option.map_eq_some_iff]at h
      obtain⟨c,h2,rfl⟩:=h
      simp only[wpS]at q
      refine oks_assignN (names_of h1) ag (by simpa using nd) hc.2 (OkE.mono (sE G h2 hk ag q) fun v H' r=>?_)
      obtain⟨vs,rfl,_,r⟩:=r
      obtain⟨r1,r2⟩:=wpTs_names r
      exact⟨vs,rfl,r1,r2⟩
     ·cases h
    ·split at h
     ·cases h
     ·rename_i hn
      simp only[Option.bind_eq_some_iff,Option.map_eq_some_iff]at h
      obtain⟨xs,h1,c,h2,rfl⟩:=h
      simp only[wpS]at q
      refine oks_assignO (fun t ht=>?_) (compTs_stars h1) (OkE.mono (sE G h2 hk ag q) fun v H' r=>?_)
      ·simp only[List.any_eq_true,not_exists,not_and,Bool.not_eq_true]at hn
       have:=hn t ht
       cases t<;>first|trivial|(cases this)
      ·obtain⟨vs,rfl,hl,r⟩:=r
       exact⟨vs,rfl,(compTs_len h1).trans hl,okTL_sound G hk ag h1 r⟩
  ·
   simp only[Option.bind_eq_some_iff,Option.map_eq_some_iff]at h
   obtain⟨t,h1,c,h2,rfl⟩:=h
   simp only[wpS]at q
   exact oks_assign_sound G h1 h2 hk ag q
  ·
   split at h
   ·rename_i hl
    simp only[Option.bind_eq_some_iff]at h
    obtain⟨i,hi,c,h2,h⟩:=h
    simp only[Bool.or_eq_true,beq_iff_eq]at hl
    split at h<;>first|(cases h;done)|skip
    all_goals
     simp only[Option.some.injEq]at h;subst h
     simp only[wpS]at q
     obtain⟨j,hj,q⟩:=q
     exact oks_aug (nm_codeOf hi) (hl.imp (ag _ _) (ag _ _)) (by simp) hj (sE G h2 hk ag q)
   ·cases h
  ·simp only[Option.map_eq_some_iff]at h
   obtain⟨c,h2,rfl⟩:=h
   simp only[wpS]at q
   exact oks_expr (sE G h2 hk ag q)
  ·simp only[Option.bind_eq_some_iff,Option.map_eq_some_iff]at h
   obtain⟨c,h1,x,h2,y,h3,rfl⟩:=h
   simp only[wpS]at q
   refine oks_if (OkC.mono (sC G h1 hk ag (Q:=fun t H=>(t=true→wpB W n x ρ H Q Rt)∧(t=false→wpB W n y ρ H Q Rt)) q) fun t H' r=>⟨fun ht=>ihB _ _ _ _ _ _ h2 (r.1 ht),fun ht=>ihB _ _ _ _ _ _ h3 (r.2 ht)⟩)
  ·simp only[Option.bind_eq_some_iff,Option.map_eq_some_iff]at h
   obtain⟨c,h1,x,h2,rfl⟩:=h
   simp only[wpS]at q
   obtain⟨I,m,h0,q⟩:=q
   refine oks_while I m h0 fun m ρ H hI=>OkC.mono (sC G h1 hk ag (Q:=fun t H=>(t=false→Q ρ H)∧(t=true→wpB W n x ρ H (fun ρ H=>∃m',m'<m∧I m' ρ H) Rt)) (q m ρ H hI)) fun t H' r=>⟨r.1,fun ht=>ihB _ _ _ _ _ _ h2 (r.2 ht)⟩
  ·split at h
   ·rename_i hl
    simp only[Option.bind_eq_some_iff,Option.map_eq_some_iff]at h
    obtain⟨i,hi,s,h1,y,h2,rfl⟩:=h
    simp only[Bool.or_eq_true,beq_iff_eq]at hl
    simp only[wpS]at q
    refine oks_for1 (compSr_notSet h1) (nm_codeOf hi) (hl.imp (ag _ _) (ag _ _)) (OkSr.mono (sr_sound G h1 hk ag q fun ai H r=>?_) fun ai H r=>?_)
    ·obtain⟨r1,I,N,h0,r2⟩:=r
     obtain⟨_,o,ho,_⟩:=r2 0 _ _ h0
     exact⟨⟨o,ho⟩,.inl r1⟩
    ·obtain⟨r1,I,N,h0,r2⟩:=r
     refine⟨r1,I,N,h0,fun i ρ H hI=>?_⟩
     obtain⟨q1,o,ho,q2⟩:=r2 i ρ H hI
     refine⟨q1,o,ho,?_⟩
     cases o with
     |none=>exact q2
     |some v=>exact ihB _ _ _ _ _ _ h2 q2
   ·cases h
  ·simp only[Option.bind_eq_some_iff,Option.map_eq_some_iff]at h
   obtain⟨xs,h0,s,h1,y,h2,rfl⟩:=h
   simp only[wpS]at q
   refine oks_forT (compSr_notSet h1) (names_of h0) ag (OkSr.mono (sr_sound G h1 hk ag q fun ai H r=>?_) fun ai H r=>?_)
   ·obtain⟨r1,I,N,h0,r2⟩:=r
    obtain⟨_,o,ho,_⟩:=r2 0 _ _ h0
    exact⟨⟨o,ho⟩,.inr r1⟩
   ·obtain⟨r1,I,N,h0,r2⟩:=r
    refine⟨r1,I,N,h0,fun i ρ H hI=>?_⟩
    obtain⟨q1,o,ho,q2⟩:=r2 i ρ H hI
    refine⟨q1,o,ho,?_⟩
    cases o with
    |none=>exact q2
    |some v=>
     obtain⟨vs,ρ',e1,e2,q2⟩:=q2
     exact⟨vs,ρ',e1,e2,ihB _ _ _ _ _ _ h2 q2⟩
  ·simp only[Option.some.injEq]at h;subst h
   simp only[wpS]at q
   exact oks_ret0 q
  ·simp only[Option.map_eq_some_iff]at h
   obtain⟨c,h1,rfl⟩:=h
   simp only[wpS]at q
   exact oks_ret (sE G h1 hk ag q)
  ·simp only[Option.some.injEq]at h;subst h
   simp only[wpS]at q
   exact oks_pass q
  ·cases h
end
end
section
def frz (P:Addr→Bool) (H:AH):AH:=fun a=>if P a then(H a).map fun p=>(true,p.2)else H a
theorem frz_none {P:Addr→Bool} {H:AH} {a:Addr} (h:H a=none):frz P H a=none:=by unfold frz;split<;>simp[h]
theorem frz_some {P:Addr→Bool} {H:AH} {a:Addr} {f:Bool} {o:AO} (h:H a=some (f,o)):frz P H a=some (P a||f,o):=by
 unfold frz;cases P a<;>simp[h]
theorem frz_in {P:Addr→Bool} {H:AH} {a:Addr} {f:Bool} {o:AO} (hP:P a=true) (h:H a=some (f,o)):frz P H a=some (true,o):=by
 rw[frz_some h,hP];rfl
theorem frz_out {P:Addr→Bool} {H:AH} {a:Addr} (hP:P a=false):frz P H a=H a:=by unfold frz;simp[hP]
theorem frz_true {P:Addr→Bool} {H:AH} {a:Addr} {o:AO} (h:H a=some (true,o)):frz P H a=some (true,o):=by
 rw[frz_some h,Bool.or_true]
theorem frz_none_iff {P:Addr→Bool} {H:AH} {a:Addr}:frz P H a=none↔H a=none:=by
 unfold frz;split<;>simp
theorem frz_back {P:Addr→Bool} {H:AH} {a:Addr} {f:Bool} {o:AO} (h:frz P H a=some (f,o)):∃g,H a=some (g,o):=by
 unfold frz at h
 split at h
 ·cases e:H a with
  |none=>rw[e]at h;cases h
  |some p=>rw[e]at h;obtain⟨g,o'⟩:=p;simp only[Option.map_some,Option.some.injEq,Prod.mk.injEq]at h;exact⟨g,by rw[h.2]⟩
 ·exact⟨f,h⟩
def Whole (P:Addr→Bool) (H:AH):Prop:=∀a f C dx fs,H a=some (f,.inst C dx fs)→P a=P dx
section
variable {W:Wd} {K:Frag} {n:Nat} {H:AH} {h:Heap} {P:Addr→Bool}
theorem St.frz (S:W.St H h) (w:Whole P H):W.St (frz P H) h:=by
 have kv:∀v u,VR H h v u→VR (Mine.frz P H) h v u:=VR.keep fun a us n e z=>⟨e,frz_none z⟩
 refine⟨fun a f o e=>?_,fun a o e=>⟨(S.base a o e).1,fun x z=>?_⟩,fun a f C dx fs e=>?_⟩
 ·obtain⟨g,e1⟩:=frz_back e
  refine(S.objs a g o e1).keep kv (fun ob q=>q) (fun C dx fs q=>?_) fun b q=>?_
  ·subst q
   obtain⟨_,⟨g',e2⟩,_⟩:=S.objs _ _ _ e1
   exact⟨fun ob q=>q,_,frz_some e2⟩
  ·subst q
   obtain⟨g',C,fs,e2⟩:=S.objs _ _ _ e1
   exact⟨_,C,fs,frz_some e2⟩
 ·obtain⟨g,e1⟩:=frz_back z
  rw[frz_some e1]at z
  have hg:g=false:=by cases g;rfl;rw[Bool.or_true]at z;cases z
  rw[hg]at e1
  exact(S.base a o e).2 _ e1
 ·obtain⟨g,e1⟩:=frz_back e
  rw[frz_some e1]at e
  have e2:=S.fl _ _ _ _ _ e1
  rw[frz_some e2,←w _ _ _ _ _ e1]
  cases e;rfl
theorem Aft.frz {s:Shared} (S:W.St H s.heap) (w:Whole P H):Aft W H s (frz P H) s:=
 ⟨St.frz S w,fun a o e=>⟨fun z=>⟨frz_none z,o,e,fun _=>rfl⟩,fun x z=>⟨frz_true z,e⟩,o,e⟩,⟨rfl,rfl⟩⟩
theorem CallF.frz {f:Addr} {vs:List AV} {Q:AV→AH→Prop} (h:CallF W f vs n H fun v H'=>∃P,Whole P H'∧Q v (frz P H')):CallF W f vs n H Q:=fun A s us R hr S V Pq=>
 h A s us R hr S V fun v u s' H' x a q=>by
  obtain⟨P,w,q⟩:=q
  exact Pq v u s' _ (VR.keep (fun a us n e z=>⟨e,frz_none z⟩) v u x) (a.trans (Aft.frz a.st w)) q
def fnOk (K:Frag) (f:Addr):Option (FuncData × List Nat × List CS):=(fnAt K f).bind fun fd=>
 if fd.globals==mainGlobals&&fd.builtins==builtinsNs&&fd.closure.isEmpty&&fd.scope.kind==.function&&!fd.scope.isCoroutine&&!fd.scope.isGenerator&&codeIn K fd.code fd.qualname then
  (argCodes fd.params.args).bind fun xs=>(bodyOf fd).bind fun b=>
   if decide xs.Nodup&&(xs.all fun x=>fd.scope.names.lookup (nm x)==some .local||(fd.scope.names.lookup (nm x)==some .cell&&((cellsFrom 0 fd.scope.names []).lookup (nm x)).isSome)) &&
    (fd.scope.names.all fun p=>p.2 != .cell||((cellsFrom 0 fd.scope.names []).lookup p.1).isSome)&&decide ((cellsFrom 0 fd.scope.names []).map (·.1)).Nodup then some (fd,xs,b)else none
 else none
theorem cellsFrom_isSome {x:Str}:∀(names:List (Str × NameKind)) (n m:Nat) (acc acc':List (Str × Addr)),(acc.lookup x).isSome=(acc'.lookup x).isSome→((cellsFrom n names acc).lookup x).isSome=((cellsFrom m names acc').lookup x).isSome
 |[],n,m,acc,acc',h=>h
 |(y,k)::r,n,m,acc,acc',h=>by
  unfold cellsFrom
  split
  ·refine cellsFrom_isSome r _ _ _ _ ?_
   by_cases hy:x=y
   ·subst hy;rw[lookup_eq,lookup_eq];rfl
   ·rw[lookup_ne hy,lookup_ne hy];exact h
  ·exact cellsFrom_isSome r _ _ _ _ h
theorem bindL_eq {kindOf:Str→Option NameKind} {y:Str}:∀{xs:List Nat} {us:List Value} {m:Str→Option Value},xs.length=us.length→xs.Nodup→kindOf y=some .local→∀{x:Nat} {u:Value},y=nm x→(xs.zip us).lookup x=some u→bindL kindOf ((xs.map nm).zip us) m y=some u:=by
 intro xs
 have keep:∀(xs:List Nat) (us:List Value) (m:Str→Option Value),y∉xs.map nm→bindL kindOf ((xs.map nm).zip us) m y=m y:=by
  intro xs
  induction xs with
  |nil=>intro us m _;rfl
  |cons x xs ih=>
   intro us m hy
   cases us with
   |nil=>rfl
   |cons u us=>
    simp only[List.map_cons,List.mem_cons,not_or]at hy
    simp only[List.map_cons,List.zip_cons_cons,bindL]
    rw[ih us _ hy.2]
    split
    ·exact if_neg hy.1
    ·rfl
 induction xs with
 |nil=>intro us m _ _ _ x u _ h;simp at h
 |cons z xs ih=>
  intro us m hl nd hk x u hy h
  cases us with
  |nil=>simp at hl
  |cons w us=>
   rw[List.nodup_cons]at nd
   simp only[List.map_cons,List.zip_cons_cons,bindL]
   by_cases hx:x=z
   ·subst hx
    rw[List.zip_cons_cons,lookup_eq]at h
    cases h
    rw[keep xs us _ (fun hm=>by
     rw[hy]at hm
     obtain⟨x',h1,h2⟩:=List.mem_map.mp hm
     exact nd.1 (nm_inj h2▸h1))]
    subst hy
    rw[if_pos hk]
    simp
   ·rw[List.zip_cons_cons,lookup_ne hx]at h
    exact ih (by simpa using hl) nd.2 hk hy h
theorem bindC_eq {kindOf:Str→Option NameKind} {y:Str}:∀{xs:List Nat} {us:List Value} {m:Str→Option Value},xs.length=us.length→xs.Nodup→kindOf y=some .cell→∀{x:Nat} {u:Value},y=nm x→(xs.zip us).lookup x=some u→bindC kindOf ((xs.map nm).zip us) m y=some u:=by
 intro xs
 have keep:∀(xs:List Nat) (us:List Value) (m:Str→Option Value),y∉xs.map nm→bindC kindOf ((xs.map nm).zip us) m y=m y:=by
  intro xs
  induction xs with
  |nil=>intro us m _;rfl
  |cons x xs ih=>
   intro us m hy
   cases us with
   |nil=>rfl
   |cons u us=>
    simp only[List.map_cons,List.mem_cons,not_or]at hy
    simp only[List.map_cons,List.zip_cons_cons,bindC]
    rw[ih us _ hy.2]
    split
    ·rfl
    ·exact if_neg hy.1
 induction xs with
 |nil=>intro us m _ _ _ x u _ h;simp at h
 |cons z xs ih=>
  intro us m hl nd hk x u hy h
  cases us with
  |nil=>simp at hl
  |cons w us=>
   rw[List.nodup_cons]at nd
   simp only[List.map_cons,List.zip_cons_cons,bindC]
   by_cases hx:x=z
   ·subst hx
    rw[List.zip_cons_cons,lookup_eq]at h
    cases h
    rw[keep xs us _ (fun hm=>by
     rw[hy]at hm
     obtain⟨x',h1,h2⟩:=List.mem_map.mp hm
     exact nd.1 (nm_inj h2▸h1))]
    subst hy
    rw[if_neg (by rw[hk];decide)]
    simp
   ·rw[List.zip_cons_cons,lookup_ne hx]at h
    exact ih (by simpa using hl) nd.2 hk hy h
theorem zip_VRs {H:AH} {h:Heap}:∀{xs:List Nat} {vs:List AV} {us:List Value} {x:Nat} {v:AV},VRs H h vs us→(xs.zip vs).lookup x=some v→∃u,(xs.zip us).lookup x=some u∧VR H h v u
 |[],_,_,_,_,_,e=>by simp at e
 |_::_,[],_,_,_,_,e=>by simp at e
 |y::xs,v'::vs,us,x,v,hv,e=>by
  simp only[VRs]at hv
  obtain⟨u,r,rfl,p,q⟩:=hv
  by_cases hx:x=y
  ·subst hx
   rw[List.zip_cons_cons,lookup_eq]at e;cases e
   exact⟨u,by rw[List.zip_cons_cons,lookup_eq],p⟩
  ·rw[List.zip_cons_cons,lookup_ne hx]at e
   obtain⟨u',h1,h2⟩:=zip_VRs q e
   exact⟨u',by rw[List.zip_cons_cons,lookup_ne hx];exact h1,h2⟩
def Binds (K:Frag) (fd:FuncData) (xs:List Nat) (k:Nat) (ds:List Value):Prop:=∀S (us:List Value),us.length=k→peek K S (bindArgs fd ⟨us,[]⟩)=some ((xs.map nm).zip (us++ds))
theorem callF_of (G:Gd W K) {f:Addr} {fd:FuncData} {xs:List Nat} {b:List CS} {vs ws:List AV} {ds:List Value} {Q:AV→AH→Prop} (hf:fnOk K f=some (fd,xs,b)) (hb:Binds K fd xs vs.length ds)
  (hd:∀h,W.St H h→VRs H h ws ds) (hl:xs.length=vs.length+ws.length) (h:wpB W n b (xs.zip (vs++ws)) H (fun _ H=>Q .none H) Q):CallF W f vs (n+1) H Q:=by
 intro A s us R hr S hv P
 simp only[fnOk,Option.bind_eq_some_iff]at hf
 obtain⟨fd',hfd,hf⟩:=hf
 split at hf
 ·rename_i hc
  simp only[Bool.and_eq_true,beq_iff_eq,Bool.not_eq_true',List.isEmpty_iff]at hc
  obtain⟨⟨⟨⟨⟨⟨c1,c2⟩,c3⟩,c4⟩,c5⟩,c6⟩,c7⟩:=hc
  obtain⟨xs',hxs,b',hb',hf⟩:=(by simpa only[Option.bind_eq_some_iff]using hf:∃xs',argCodes fd'.params.args=some xs'∧∃b',bodyOf fd'=some b'∧_)
  split at hf
  ·rename_i hn
   simp only[Option.some.injEq,Prod.mk.injEq]at hf
   obtain⟨rfl,rfl,rfl⟩:=hf
   simp only[Bool.and_eq_true,decide_eq_true_eq,List.all_eq_true,Bool.or_eq_true,beq_iff_eq,bne_iff_ne]at hn
   obtain⟨⟨⟨n1,n2⟩,n3⟩,n4⟩:=hn
   unfold fnAt at hfd
   split at hfd
   ·rename_i oc od fdx osl ho
    simp only[Option.some.injEq]at hfd
    subst hfd
    have X:=G.at S
    obtain⟨p,loose,mg,mb,T⟩:=G.topAt S
    unfold bodyOf at hb'
    split at hb'
    ·rename_i body hbody
     refine codeAny_call_function (by have:=hr.1;rw[show recursionLimit=1000 from rfl];omega) (X _ _ ho) rfl c5 c6 hbody (codeRec_of X c7) ?_
     have bt:BindsTo s fdx ⟨us,[]⟩ ((xs'.map nm).zip (us++ds)):=kp_binds X fun Sx=>hb Sx us hv.length
     refine bt _ _ _ _ ?_
     rw[c3]
     have dv:=hd _ S
     have avs:VRs H s.heap (vs++ws) (us++ds):=hv.append dv
     have ulen:xs'.length=(us++ds).length:=by rw[List.length_append,hv.length,dv.length];exact hl
     have celS:∀x n,((cellsFrom n fdx.scope.names []).lookup x).isSome=((cellsFrom 0 fdx.scope.names []).lookup x).isSome:=fun x n=>cellsFrom_isSome _ _ _ _ _ rfl
     refine wpAny_newFunctionEnv_cells c4 (fun y hy=>?_) fun env he s' IC=>?_
     ·have hm:=(List.of_mem_zip (a:=y.1) (b:=y.2) hy).1
      obtain⟨x,hx,e⟩:=List.mem_map.mp hm
      rw[←e]
      rcases n2 x hx with z|z
      ·exact .inl z
      ·exact .inr ⟨z.1,(celS _ _).trans z.2⟩
     have hsame:=IC.toInCall.same
     have hkeep:=IC.toInCall.keep
     have hfresh:=IC.toInCall.fresh
     refine⟨T.nolimit.keeps hkeep,codeAny_func ?_⟩
     have gr:Aft W H s H s':=.grow S (by obtain⟨h',tk,rfl⟩:=hsame;exact⟨rfl,rfl⟩) hkeep
     have frq:∀a,frm env a→s.heap.objs.size≤a:=fun a ha=>by
      rcases ha with rfl|⟨x,hx⟩
      ·exact hfresh
      ·exact Nat.le_of_lt (Nat.lt_of_le_of_lt hfresh (IC.above x a (mem_of_lookup hx)))
     have nB:∀a,s.heap.objs.size≤a→H a=none∧W.B.get? a=none:=fun a ha=>⟨S.none_of_ge ha,by
      cases e:W.B.get? a with
      |none=>rfl
      |some o=>exact absurd (Heap.lt_size (S.base _ _ e).1) (Nat.not_lt.mpr ha)⟩
     have ek:∀y,env.kindOf y=fdx.scope.names.lookup y:=fun y=>by rw[he];rfl
     have er:EnvR W env H s'.heap (xs'.zip (vs++ws)):=by
      refine⟨by rw[he];exact c4,by rw[he];exact c1,by rw[he];exact c2,nB _ hfresh,fun y hy=>?_,fun y c hc=>?_,fun y z c h1 h2=>?_,_,IC.toInCall.ns,fun x v hx=>⟨fun hk=>?_,fun hk=>?_⟩⟩
      ·rw[ek]at hy
       rcases n3 _ (mem_of_lookup hy)with z|z
       ·exact absurd rfl z
       ·have:env.cells=cellsFrom (s.heap.objs.size+1) fdx.scope.names []:=by rw[he];rfl
        rw[this]
        exact Option.isSome_iff_exists.mp ((celS _ _).trans z)
      ·have ha:=IC.above y c (mem_of_lookup hc)
       obtain⟨q1,q2⟩:=nB c (Nat.le_of_lt (Nat.lt_of_le_of_lt hfresh ha))
       exact⟨q1,q2,Nat.ne_of_gt ha,_,IC.cell y c hc⟩
      ·exact name_of_addr IC.apart (mem_of_lookup h1) (mem_of_lookup h2)
      ·obtain⟨u,h1,h2⟩:=zip_VRs avs hx
       exact⟨u,bindL_eq ulen n1 hk rfl h1,h2.kp0 gr.kp⟩
      ·obtain⟨u,h1,h2⟩:=zip_VRs avs hx
       have hxm:x∈xs':=(List.of_mem_zip (mem_of_lookup hx)).1
       have hkc:env.kindOf (nm x)=some .cell:=by
        rcases n2 x hxm with z|z
        ·rw[ek]at hk;rcases hk with hk|hk<;>(rw[z]at hk;cases hk)
        ·rw[ek];exact z.1
       have hcs:(env.cells.lookup (nm x)).isSome=true:=by
        rcases n2 x hxm with z|z
        ·rw[ek]at hkc;rw[z]at hkc;cases hkc
        ·have:env.cells=cellsFrom (s.heap.objs.size+1) fdx.scope.names []:=by rw[he];rfl
         rw[this];exact(celS _ _).trans z.2
       obtain⟨c,hc⟩:=Option.isSome_iff_exists.mp hcs
       refine⟨c,u,hc,?_,h2.kp0 gr.kp⟩
       have:=IC.cell _ _ hc
       rwa [bindC_eq ulen n1 hkc rfl h1]at this
     have ag:Agree env fdx.scope.names:=fun y k hk=>by
      have:env.kindOf y=some k:=by rw[ek];exact hk
      cases k<;>first|exact this|exact .inr this|trivial
     have okb:OkB W n body env (xs'.zip (vs++ws)) H (fun _ H=>Q .none H) Q:=by
      have key:∀(body:List Stmt) (cs:List CS) (ρ:Rho) (H:AH) (Q':Rho→AH→Prop),compSs (compS 30 fdx.scope.names) body=some cs→wpB W n cs ρ H Q' Q→OkB W n body env ρ H Q' Q:=by
       intro body
       induction body with
       |nil=>
        intro cs ρ H Q' h q
        simp only[compSs,Option.some.injEq]at h;subst h
        simp only[wpB]at q
        exact okb_nil q
       |cons st body ih=>
        intro cs ρ H Q' h q
        simp only[compSs,Option.bind_eq_some_iff,Option.map_eq_some_iff]at h
        obtain⟨c,h1,r,h2,rfl⟩:=h
        simp only[wpB]at q
        have:=sound_S G er.kind ag 30 st c ρ H _ Q h1 q
        exact okb_cons fun A s R E hr S er P P'=>this A s R E hr S er (fun s' H' ρ' a e q'=>P s' H' ρ' a e (ih r ρ' H' Q' h2 q')) P'
      exact key _ _ _ _ _ hb' h
     have fin:∀v u s2 H2,VR H2 s2.heap v u→AftX (frm env) W H s' H2 s2→Q v H2→R (.ok (.ret u)) s2:=fun v u s2 H2 hvr a q=>by
      refine P v u s2 H2 hvr ⟨a.st,fun x o e=>?_,gr.same.trans a.same⟩ q
      have e':=hkeep x o e
      have hx:¬frm env x:=fun z=>absurd (frq x z) (Nat.not_le.mpr (Heap.lt_size e))
      obtain⟨k1,k2,k3⟩:=a.kp x o e'
      exact⟨fun z=>let ⟨z1,o',z2,z3⟩:=k1 z;⟨z1,o',z2,fun _=>z3 hx⟩,k2,k3⟩
     refine okb (A.deeper env) s' _ _ ⟨?_,?_,?_⟩ gr.st er (fun s2 H2 ρ2 a e q=>?_) fun v u s2 H2 hvr a q=>?_
     ·have:=hr.1;show A.depth+1+_<_;omega
     ·have:=hr.2.1;show A.units+3+_+_<_;omega
     ·exact hr.2.2
     ·exact fin .none .none s2 H2 (by simp only[VR]) a q
     ·exact fin v u s2 H2 hvr a q
    ·cases hb'
   ·cases hfd
  ·cases hf
 ·cases hf
end
end
section
def x28:List Nat:=[7]
def b28:List CS:=[
 .assign (.name 23) (.ite (.cmp .ge (.loc 7) (.k (.int (0)))) (.loc 7) (.neg (.loc 7))),
 .assign (.name 24) (.list [(.bin .add (.k (.int (48))) (.bin .mod (.loc 23) (.k (.int (10)))))]),
 .assign (.name 23) (.bin .fdiv (.loc 23) (.k (.int (10)))),
 .wh (.cmp .gt (.loc 23) (.k (.int (0)))) [
  .expr (.bm .append (.loc 24) [(.bin .add (.k (.int (48))) (.bin .mod (.loc 23) (.k (.int (10)))))]),
  .assign (.name 23) (.bin .fdiv (.loc 23) (.k (.int (10))))],
 .ite (.cmp .lt (.loc 7) (.k (.int (0)))) [
  .expr (.bm .append (.loc 24) [(.k (.int (45)))])] [
],
 .ret (some (.bf .bytes [(.rev (.loc 24))]))]
def x56:List Nat:=[6,1,2]
def b56:List CS:=[
 .ret (some (.new 45 [(.k (.str (Str.ofString "pane"))),(.loc 1),(.loc 2),(.k (.int (0))),(.k (.int (0))),(.list []),(.loc 6)]))]
def x61:List Nat:=[25]
def b61:List CS:=[
 .assign (.name 5) (.comp (.call 61 [(.loc 26)]) 26 (.attr (.loc 25) 5) (.k (.bool true))),
 .ret (some (.new 45 [(.attr (.loc 25) 0),(.attr (.loc 25) 1),(.attr (.loc 25) 2),(.attr (.loc 25) 3),(.attr (.loc 25) 4),(.loc 5),(.attr (.loc 25) 6)]))]
def x68:List Nat:=[25]
def b68:List CS:=[
 .ite (.cmp .eq (.attr (.loc 25) 0) (.k (.str (Str.ofString "pane")))) [
  .ret (some (.list [(.loc 25)]))] [
],
 .assign (.name 24) (.list []),
 .for1 26 (.one (.attr (.loc 25) 5)) [
  .expr (.bm .extend (.loc 24) [(.call 68 [(.loc 26)])])],
 .ret (some (.loc 24))]
def x73:List Nat:=[25]
def b73:List CS:=[
 .ret (some (.comp (.attr (.loc 36) 6) 36 (.call 68 [(.loc 25)]) (.k (.bool true))))]
def x80:List Nat:=[25,6]
def b80:List CS:=[
 .ite (.cmp .eq (.attr (.loc 25) 0) (.k (.str (Str.ofString "pane")))) [
  .ret (some (.ite (.cmp .eq (.attr (.loc 25) 6) (.loc 6)) (.list [(.loc 25)]) (.k .none)))] [
],
 .for1 26 (.one (.attr (.loc 25) 5)) [
  .assign (.name 24) (.call 80 [(.loc 26),(.loc 6)]),
  .ite (.cmp .isNot (.loc 24) (.k .none)) [
   .ret (some (.bin .add (.list [(.loc 25)]) (.loc 24)))] [
]],
 .ret (some (.k .none))]
def x87:List Nat:=[27]
def b87:List CS:=[
 .ret (some (.ite (.loc 27) (.k (.str (Str.ofString "row"))) (.k (.str (Str.ofString "column")))))]
def x94:List Nat:=[25,27]
def b94:List CS:=[
 .ret (some (.ite (.loc 27) (.attr (.loc 25) 1) (.attr (.loc 25) 2)))]
def x101:List Nat:=[25,27,28]
def b101:List CS:=[
 .ite (.loc 27) [
  .assign (.attr (.loc 25) 1) (.loc 28)] [
  .assign (.attr (.loc 25) 2) (.loc 28)]]
def x108:List Nat:=[5,25]
def b108:List CS:=[
 .forT [41,26] (.enum (.loc 5)) [
  .ite (.cmp .is (.loc 26) (.loc 25)) [
   .ret (some (.loc 41))] [
]],
 .ret (some (.k .none))]
def x113:List Nat:=[25,27]
def b113:List CS:=[
 .ite (.cmp .eq (.attr (.loc 25) 0) (.k (.str (Str.ofString "pane")))) [
  .ret (some (.bin .sub (.call 94 [(.loc 25),(.loc 27)]) (.k (.int (1)))))] [
],
 .assign (.name 29) (.comp (.call 113 [(.loc 26),(.loc 27)]) 26 (.attr (.loc 25) 5) (.k (.bool true))),
 .ret (some (.ite (.cmp .eq (.attr (.loc 25) 0) (.call 87 [(.loc 27)])) (.bf .sum [(.loc 29)]) (.bf .min [(.loc 29)])))]
def x120:List Nat:=[25,27,30]
def b120:List CS:=[
 .expr (.call 101 [(.loc 25),(.loc 27),(.bin .add (.call 94 [(.loc 25),(.loc 27)]) (.loc 30))]),
 .ite (.cmp .ne (.attr (.loc 25) 0) (.call 87 [(.loc 27)])) [
  .for1 26 (.one (.attr (.loc 25) 5)) [
   .expr (.call 120 [(.loc 26),(.loc 27),(.loc 30)])],
  .ret none] [
],
 .wh (.cmp .ne (.loc 30) (.k (.int (0)))) [
  .for1 26 (.one (.attr (.loc 25) 5)) [
   .ite (.cmp .gt (.loc 30) (.k (.int (0)))) [
    .expr (.call 120 [(.loc 26),(.loc 27),(.k (.int (1)))]),
    .aug 30 .sub (.k (.int (1)))] [
    .ite (.and (.cmp .lt (.loc 30) (.k (.int (0)))) (.cmp .gt (.call 113 [(.loc 26),(.loc 27)]) (.k (.int (0))))) [
     .expr (.call 120 [(.loc 26),(.loc 27),(.neg (.k (.int (1))))]),
     .aug 30 .add (.k (.int (1)))] [
]]]]]
def x127:List Nat:=[25,3,4]
def b127:List CS:=[
 .assignT [(.attr (.loc 25) 3),(.attr (.loc 25) 4)] (.tup [(.loc 3),(.loc 4)]),
 .for1 26 (.one (.attr (.loc 25) 5)) [
  .expr (.call 127 [(.loc 26),(.loc 3),(.loc 4)]),
  .ite (.cmp .eq (.attr (.loc 25) 0) (.k (.str (Str.ofString "row")))) [
   .aug 3 .add (.bin .add (.attr (.loc 26) 1) (.k (.int (1))))] [
   .aug 4 .add (.bin .add (.attr (.loc 26) 2) (.k (.int (1))))]],
 .ret (some (.loc 25))]
def x134:List Nat:=[31,32]
def b134:List CS:=[
 .ite (.cmp .eq (.bf .len [(.loc 31)]) (.k (.int (1)))) [
  .ret (some (.loc 32))] [
],
 .assign (.name 5) (.attr (.sub (.loc 31) (.neg (.k (.int (2))))) 5),
 .assign (.sub (.loc 5) (.call 108 [(.loc 5),(.sub (.loc 31) (.neg (.k (.int (1)))))])) (.loc 32),
 .ret (some (.sub (.loc 31) (.k (.int (0)))))]
def x142:List Nat:=[33,6,32,27,34,35]
def b142:List CS:=[
 .assign (.name 31) (.call 80 [(.call 61 [(.loc 33)]),(.loc 6)]),
 .ite (.or (.cmp .is (.loc 31) (.k .none)) (.cmp .isIn (.loc 32) (.call 73 [(.loc 33)]))) [
  .ret (some (.k .none))] [
],
 .assign (.name 36) (.sub (.loc 31) (.neg (.k (.int (1))))),
 .assign (.name 28) (.call 94 [(.loc 36),(.loc 27)]),
 .ite (.cmp .lt (.loc 28) (.bin .add (.bin .mul (.k (.int (2))) (.k (.int (1)))) (.k (.int (1))))) [
  .ret (some (.k .none))] [
],
 .assign (.name 37) (.ite (.cmp .is (.loc 34) (.k .none)) (.bin .sub (.bin .fdiv (.bin .add (.loc 28) (.k (.int (1)))) (.k (.int (2)))) (.k (.int (1)))) (.loc 34)),
 .assign (.name 38) (.bf .max [(.k (.int (1))),(.bf .min [(.loc 37),(.bin .sub (.bin .sub (.loc 28) (.k (.int (1)))) (.k (.int (1))))])]),
 .assign (.name 39) (.new 45 [(.k (.str (Str.ofString "pane"))),(.attr (.loc 36) 1),(.attr (.loc 36) 2),(.k (.int (0))),(.k (.int (0))),(.list []),(.loc 32)]),
 .expr (.call 101 [(.loc 39),(.loc 27),(.loc 38)]),
 .assign (.name 40) (.ite (.loc 35) (.list [(.loc 39),(.loc 36)]) (.list [(.loc 36),(.loc 39)])),
 .assignT [(.name 0),(.name 42)] (.tup [(.call 87 [(.loc 27)]),(.sub (.loc 31) (.k (.int (0))))]),
 .ite (.and (.cmp .gt (.bf .len [(.loc 31)]) (.k (.int (1)))) (.cmp .eq (.attr (.sub (.loc 31) (.neg (.k (.int (2))))) 0) (.loc 0))) [
  .assign (.name 41) (.call 108 [(.attr (.sub (.loc 31) (.neg (.k (.int (2))))) 5),(.loc 36)]),
  .assign (.cut (.attr (.sub (.loc 31) (.neg (.k (.int (2))))) 5) (.loc 41) (.bin .add (.loc 41) (.k (.int (1))))) (.loc 40)] [
  .ite (.cmp .gt (.bf .len [(.loc 31)]) (.k (.int (50)))) [
   .ret (some (.k .none))] [
   .assign (.name 42) (.call 134 [(.loc 31),(.new 45 [(.loc 0),(.attr (.loc 36) 1),(.attr (.loc 36) 2),(.k (.int (0))),(.k (.int (0))),(.loc 40),(.k .none)])])]],
 .expr (.call 101 [(.loc 36),(.loc 27),(.bin .sub (.bin .sub (.loc 28) (.k (.int (1)))) (.loc 38))]),
 .ret (some (.call 127 [(.loc 42),(.k (.int (0))),(.k (.int (0)))]))]
def x149:List Nat:=[5,0]
def b149:List CS:=[
 .assign (.name 24) (.list []),
 .for1 26 (.one (.loc 5)) [
  .expr (.bm .extend (.loc 24) [(.ite (.cmp .eq (.attr (.loc 26) 0) (.loc 0)) (.attr (.loc 26) 5) (.list [(.loc 26)]))])],
 .ret (some (.loc 24))]
def x156:List Nat:=[33,6]
def b156:List CS:=[
 .assign (.name 31) (.call 80 [(.call 61 [(.loc 33)]),(.loc 6)]),
 .ite (.or (.cmp .is (.loc 31) (.k .none)) (.cmp .eq (.bf .len [(.loc 31)]) (.k (.int (1))))) [
  .ret (some (.k .none))] [
],
 .assignT [(.name 36),(.name 72)] (.tup [(.sub (.loc 31) (.neg (.k (.int (1))))),(.sub (.loc 31) (.neg (.k (.int (2)))))]),
 .assign (.name 27) (.cmp .eq (.attr (.loc 72) 0) (.k (.str (Str.ofString "row")))),
 .assign (.name 41) (.call 108 [(.attr (.loc 72) 5),(.loc 36)]),
 .expr (.bm .pop (.attr (.loc 72) 5) [(.loc 41)]),
 .expr (.call 120 [(.sub (.attr (.loc 72) 5) (.bf .max [(.k (.int (0))),(.bin .sub (.loc 41) (.k (.int (1))))])),(.loc 27),(.bin .add (.call 94 [(.loc 36),(.loc 27)]) (.k (.int (1))))]),
 .ite (.cmp .gt (.bf .len [(.attr (.loc 72) 5)]) (.k (.int (1)))) [
  .ret (some (.call 127 [(.sub (.loc 31) (.k (.int (0)))),(.k (.int (0))),(.k (.int (0)))]))] [
],
 .assign (.name 42) (.call 134 [(.slice (.loc 31) (.k .none) (.neg (.k (.int (1))))),(.sub (.attr (.loc 72) 5) (.k (.int (0))))]),
 .ite (.cmp .gt (.bf .len [(.loc 31)]) (.k (.int (2)))) [
  .assign (.attr (.sub (.loc 31) (.neg (.k (.int (3))))) 5) (.call 149 [(.attr (.sub (.loc 31) (.neg (.k (.int (3))))) 5),(.attr (.sub (.loc 31) (.neg (.k (.int (3))))) 0)])] [
],
 .ret (some (.call 127 [(.loc 42),(.k (.int (0))),(.k (.int (0)))]))]
def x163:List Nat:=[33,1,2]
def b163:List CS:=[
 .assign (.name 24) (.call 61 [(.loc 33)]),
 .forT [27,28] (.one (.tup [(.tup [(.k (.bool true)),(.loc 1)]),(.tup [(.k (.bool false)),(.loc 2)])])) [
  .assign (.name 30) (.bf .max [(.bin .sub (.loc 28) (.call 94 [(.loc 24),(.loc 27)])),(.neg (.call 113 [(.loc 24),(.loc 27)]))]),
  .expr (.call 120 [(.loc 24),(.loc 27),(.loc 30)])],
 .ret (some (.call 127 [(.loc 24),(.k (.int (0))),(.k (.int (0)))]))]
def x170:List Nat:=[33,43]
def b170:List CS:=[
 .assign (.name 24) (.call 61 [(.loc 33)]),
 .forT [36,6] (.zip (.call 68 [(.loc 24)]) (.loc 43)) [
  .assign (.attr (.loc 36) 6) (.loc 6)],
 .ret (some (.loc 24))]
def x175:List Nat:=[33,44,39]
def b175:List CS:=[
 .assign (.name 16) (.call 73 [(.loc 33)]),
 .ite (.or (.cmp .notIn (.loc 44) (.loc 16)) (.cmp .notIn (.loc 39) (.loc 16))) [
  .ret (some (.k .none))] [
],
 .assign (.name 45) (.dI [(.loc 44),(.loc 39),(.loc 39),(.loc 44)]),
 .ret (some (.call 170 [(.loc 33),(.comp (.bm .get (.loc 45) [(.loc 6),(.loc 6)]) 6 (.loc 16) (.k (.bool true)))]))]
def x183:List Nat:=[33,46]
def b183:List CS:=[
 .assign (.name 16) (.call 73 [(.loc 33)]),
 .ret (some (.call 170 [(.loc 33),(.ite (.loc 46) (.bin .add (.slice (.loc 16) (.k (.int (1))) (.k .none)) (.slice (.loc 16) (.k .none) (.k (.int (1))))) (.bin .add (.slice (.loc 16) (.neg (.k (.int (1)))) (.k .none)) (.slice (.loc 16) (.k .none) (.neg (.k (.int (1)))))))]))]
def x190:List Nat:=[47]
def b190:List CS:=[
 .assign (.name 24) (.k (.int (0))),
 .for1 48 (.one (.loc 47)) [
  .assign (.name 24) (.bin .band (.bin .add (.bin .add (.bin .shr (.loc 24) (.k (.int (1)))) (.bin .shl (.bin .band (.loc 24) (.k (.int (1)))) (.k (.int (15))))) (.loc 48)) (.k (.int (65535))))],
 .ret (some (.loc 24))]
def x195:List Nat:=[7]
def b195:List CS:=[
 .ret (some (.bf .bytes [(.comp (.sub (.k (.bytes #[48,49,50,51,52,53,54,55,56,57,97,98,99,100,101,102])) (.bin .band (.bin .shr (.loc 7) (.loc 81)) (.k (.int (15))))) 81 (.tup [(.k (.int (12))),(.k (.int (8))),(.k (.int (4))),(.k (.int (0)))]) (.k (.bool true)))]))]
def x200:List Nat:=[25]
def b200:List CS:=[
 .assign (.name 49) (.bin .add (.bin .add (.call 28 [(.attr (.loc 25) 1)]) (.k (.bytes #[120]))) (.call 28 [(.attr (.loc 25) 2)])),
 .assign (.name 50) (.bm .join (.k (.bytes #[44])) [(.list [(.loc 49),(.call 28 [(.attr (.loc 25) 3)]),(.call 28 [(.attr (.loc 25) 4)])])]),
 .ite (.cmp .eq (.attr (.loc 25) 0) (.k (.str (Str.ofString "pane")))) [
  .ret (some (.bin .add (.bin .add (.loc 50) (.k (.bytes #[44]))) (.call 28 [(.attr (.loc 25) 6)])))] [
],
 .assign (.name 51) (.bm .join (.k (.bytes #[44])) [(.comp (.call 200 [(.loc 26)]) 26 (.attr (.loc 25) 5) (.k (.bool true)))]),
 .ret (some (.ite (.cmp .eq (.attr (.loc 25) 0) (.k (.str (Str.ofString "row")))) (.bin .add (.bin .add (.bin .add (.loc 50) (.k (.bytes #[123]))) (.loc 51)) (.k (.bytes #[125]))) (.bin .add (.bin .add (.bin .add (.loc 50) (.k (.bytes #[91]))) (.loc 51)) (.k (.bytes #[93])))))]
def x207:List Nat:=[33]
def b207:List CS:=[
 .assign (.name 24) (.call 200 [(.loc 33)]),
 .ret (some (.bin .add (.bin .add (.call 195 [(.call 190 [(.loc 24)])]) (.k (.bytes #[44]))) (.loc 24)))]
def x250:List Nat:=[16,7]
def b250:List CS:=[
 .for1 6 (.one (.loc 16)) [
  .ite (.cmp .eq (.attr (.loc 6) 7) (.loc 7)) [
   .ret (some (.loc 6))] [
]],
 .ret (some (.k .none))]
def x431:List Nat:=[52,6,7,15]
def b431:List CS:=[
 .assignT [(.name 1),(.name 2)] (.tup [(.attr (.loc 52) 1),(.attr (.loc 52) 2)]),
 .ite (.not (.meth (.loc 52) 91 [(.loc 6)])) [
  .ret (some (.k .none))] [
],
 .ret (some (.new 420 [(.loc 7),(.loc 15),(.loc 6),(.loc 1),(.loc 2)]))]
def x439:List Nat:=[53,6,54,55,27,34,35,56]
def b439:List CS:=[
 .ite (.or (.not (.meth (.loc 53) 85 [(.loc 6)])) (.or (.not (.meth (.loc 54) 85 [(.loc 55)])) (.cmp .is (.loc 6) (.loc 55)))) [
  .ret (some (.k (.bool false)))] [
],
 .assign (.name 19) (.attr (.loc 54) 19),
 .ite (.cmp .is (.loc 53) (.loc 54)) [
  .assign (.name 19) (.call 156 [(.loc 19),(.attr (.loc 6) 7)])] [
],
 .assign (.name 24) (.call 142 [(.loc 19),(.attr (.loc 55) 7),(.attr (.loc 6) 7),(.loc 27),(.loc 34),(.loc 35)]),
 .ite (.cmp .is (.loc 24) (.k .none)) [
  .ret (some (.k (.bool false)))] [
],
 .ite (.cmp .isNot (.loc 53) (.loc 54)) [
  .expr (.meth (.loc 53) 91 [(.loc 6)])] [
],
 .expr (.meth (.loc 54) 84 [(.loc 24),(.list [(.loc 6)])]),
 .ite (.loc 56) [
  .expr (.meth (.loc 54) 86 [(.loc 6)])] [
],
 .ret (some (.k (.bool true)))]
def x444:List Nat:=[44,6,39,57]
def b444:List CS:=[
 .ite (.or (.not (.meth (.loc 44) 85 [(.loc 6)])) (.not (.meth (.loc 39) 85 [(.loc 57)]))) [
  .ret (some (.k (.bool false)))] [
],
 .ite (.cmp .is (.loc 44) (.loc 39)) [
  .ret (some (.meth (.loc 44) 93 [(.loc 6),(.loc 57)]))] [
],
 .forT [52,75,32] (.one (.tup [(.tup [(.loc 44),(.loc 6),(.loc 57)]),(.tup [(.loc 39),(.loc 57),(.loc 6)])])) [
  .assign (.name 43) (.comp (.ite (.cmp .eq (.loc 7) (.attr (.loc 75) 7)) (.attr (.loc 32) 7) (.loc 7)) 7 (.call 73 [(.attr (.loc 52) 19)]) (.k (.bool true))),
  .ite (.cmp .is (.attr (.loc 52) 17) (.loc 75)) [
   .assign (.attr (.loc 52) 17) (.loc 32)] [
],
  .ite (.cmp .is (.attr (.loc 52) 18) (.loc 75)) [
   .assign (.attr (.loc 52) 18) (.loc 32)] [
],
  .expr (.meth (.loc 52) 84 [(.call 170 [(.attr (.loc 52) 19),(.loc 43)]),(.list [(.loc 32)])])],
 .ret (some (.k (.bool true)))]
def x449:List Nat:=[58]
def b449:List CS:=[
 .ret (some (.dS [(Str.ofString "cells"),(Str.ofString "at")] [(.comp (.bin .mod (.bf .int [(.loc 25)]) (.k (.int (1000003)))) 25 (.slice (.loc 58) (.k .none) (.k (.int (120)))) (.k (.bool true))),(.k (.int (0)))]))]
def x456:List Nat:=[59,38]
def b456:List CS:=[
 .assign (.name 41) (.sub (.loc 59) (.k (.str (Str.ofString "at")))),
 .assign (.sub (.loc 59) (.k (.str (Str.ofString "at")))) (.bin .add (.loc 41) (.k (.int (1)))),
 .ret (some (.ite (.cmp .lt (.loc 41) (.bf .len [(.sub (.loc 59) (.k (.str (Str.ofString "cells"))))])) (.bin .mod (.sub (.sub (.loc 59) (.k (.str (Str.ofString "cells")))) (.loc 41)) (.loc 38)) (.bin .mod (.bin .add (.bin .mul (.k (.int (5))) (.loc 41)) (.bin .fdiv (.loc 41) (.k (.int (3))))) (.loc 38))))]
def x463:List Nat:=[7,60,6,1,2]
def b463:List CS:=[
 .ret (some (.dS [(Str.ofString "number"),(Str.ofString "real"),(Str.ofString "layout"),(Str.ofString "active"),(Str.ofString "last"),(Str.ofString "zoom")] [(.loc 7),(.loc 60),(.call 56 [(.loc 6),(.loc 1),(.loc 2)]),(.loc 6),(.k .none),(.k (.bool false))]))]
def x470:List Nat:=[59,61]
def b470:List CS:=[
 .assign (.name 62) (.call 73 [(.sub (.loc 61) (.k (.str (Str.ofString "layout"))))]),
 .ret (some (.sub (.bin .add (.bin .add (.loc 62) (.loc 62)) (.list [(.k (.int (90)))])) (.call 456 [(.loc 59),(.bin .add (.bin .mul (.k (.int (2))) (.bf .len [(.loc 62)])) (.k (.int (1))))])))]
def x477:List Nat:=[61,6]
def b477:List CS:=[
 .ite (.cmp .notIn (.loc 6) (.call 73 [(.sub (.loc 61) (.k (.str (Str.ofString "layout"))))])) [
  .ret (some (.k (.bool false)))] [
],
 .ite (.cmp .ne (.loc 6) (.sub (.loc 61) (.k (.str (Str.ofString "active"))))) [
  .assignT [(.sub (.loc 61) (.k (.str (Str.ofString "active")))),(.sub (.loc 61) (.k (.str (Str.ofString "last")))),(.sub (.loc 61) (.k (.str (Str.ofString "zoom"))))] (.tup [(.loc 6),(.sub (.loc 61) (.k (.str (Str.ofString "active")))),(.k (.bool false))])] [
],
 .ret (some (.k (.bool true)))]
def x482:List Nat:=[61,6]
def b482:List CS:=[
 .assign (.name 62) (.call 73 [(.sub (.loc 61) (.k (.str (Str.ofString "layout"))))]),
 .ite (.or (.cmp .notIn (.loc 6) (.loc 62)) (.cmp .eq (.bf .len [(.loc 62)]) (.k (.int (1))))) [
  .ret (some (.k (.bool false)))] [
],
 .assignT [(.name 41),(.name 76)] (.tup [(.bm .index (.loc 62) [(.loc 6)]),(.comp (.loc 44) 44 (.loc 62) (.cmp .ne (.loc 44) (.loc 6)))]),
 .assignT [(.sub (.loc 61) (.k (.str (Str.ofString "layout")))),(.sub (.loc 61) (.k (.str (Str.ofString "zoom"))))] (.tup [(.call 156 [(.sub (.loc 61) (.k (.str (Str.ofString "layout")))),(.loc 6)]),(.k (.bool false))]),
 .ite (.cmp .eq (.sub (.loc 61) (.k (.str (Str.ofString "last")))) (.loc 6)) [
  .assign (.sub (.loc 61) (.k (.str (Str.ofString "last")))) (.k .none)] [
],
 .ite (.cmp .eq (.sub (.loc 61) (.k (.str (Str.ofString "active")))) (.loc 6)) [
  .assignT [(.sub (.loc 61) (.k (.str (Str.ofString "active")))),(.sub (.loc 61) (.k (.str (Str.ofString "last"))))] (.tup [(.ite (.cmp .is (.sub (.loc 61) (.k (.str (Str.ofString "last")))) (.k .none)) (.sub (.loc 76) (.bf .max [(.bin .sub (.loc 41) (.k (.int (1)))),(.k (.int (0)))])) (.sub (.loc 61) (.k (.str (Str.ofString "last"))))),(.k .none)])] [
],
 .ret (some (.k (.bool true)))]
def x489:List Nat:=[61,19,6]
def b489:List CS:=[
 .ite (.cmp .is (.loc 19) (.k .none)) [
  .ret (some (.k (.bool false)))] [
],
 .assignT [(.sub (.loc 61) (.k (.str (Str.ofString "layout")))),(.sub (.loc 61) (.k (.str (Str.ofString "zoom"))))] (.tup [(.loc 19),(.k (.bool false))]),
 .ite (.cmp .ne (.sub (.loc 61) (.k (.str (Str.ofString "active")))) (.loc 6)) [
  .assignT [(.sub (.loc 61) (.k (.str (Str.ofString "active")))),(.sub (.loc 61) (.k (.str (Str.ofString "last"))))] (.tup [(.loc 6),(.sub (.loc 61) (.k (.str (Str.ofString "active"))))])] [
],
 .ret (some (.k (.bool true)))]
def x496:List Nat:=[59,63,61]
def b496:List CS:=[
 .assignT [(.name 55),(.name 32),(.name 27)] (.tup [(.call 470 [(.loc 59),(.loc 61)]),(.bf .len [(.sub (.loc 63) (.k (.str (Str.ofString "panes"))))]),(.cmp .eq (.call 456 [(.loc 59),(.k (.int (2)))]) (.k (.int (0))))]),
 .assignT [(.name 34),(.name 35),(.name 56)] (.tup [(.sub (.tup [(.k .none),(.k .none),(.k (.int (1))),(.k (.int (3)))]) (.call 456 [(.loc 59),(.k (.int (4)))])),(.cmp .eq (.call 456 [(.loc 59),(.k (.int (2)))]) (.k (.int (1)))),(.cmp .lt (.call 456 [(.loc 59),(.k (.int (3)))]) (.k (.int (2))))]),
 .assign (.sub (.sub (.loc 63) (.k (.str (Str.ofString "panes")))) (.loc 32)) (.new 239 [(.loc 32)]),
 .assign (.name 64) (.meth (.sub (.loc 61) (.k (.str (Str.ofString "real")))) 90 [(.sub (.sub (.loc 63) (.k (.str (Str.ofString "panes")))) (.loc 55)),(.sub (.sub (.loc 63) (.k (.str (Str.ofString "panes")))) (.loc 32)),(.loc 27),(.loc 34),(.loc 35),(.loc 56)]),
 .assign (.name 19) (.call 142 [(.sub (.loc 61) (.k (.str (Str.ofString "layout")))),(.loc 55),(.loc 32),(.loc 27),(.loc 34),(.loc 35)]),
 .ret (some (.tup [(.loc 64),(.call 489 [(.loc 61),(.loc 19),(.ite (.loc 56) (.loc 32) (.sub (.loc 61) (.k (.str (Str.ofString "active")))))])]))]
def x503:List Nat:=[59,63,61,65]
def b503:List CS:=[
 .assignT [(.name 6),(.name 55),(.name 27)] (.tup [(.call 470 [(.loc 59),(.loc 61)]),(.call 470 [(.loc 59),(.loc 65)]),(.cmp .eq (.call 456 [(.loc 59),(.k (.int (2)))]) (.k (.int (0))))]),
 .assignT [(.name 34),(.name 35)] (.tup [(.sub (.tup [(.k .none),(.k (.int (2)))]) (.call 456 [(.loc 59),(.k (.int (2)))])),(.cmp .eq (.call 456 [(.loc 59),(.k (.int (2)))]) (.k (.int (1))))]),
 .assignT [(.name 77),(.name 78)] (.tup [(.call 73 [(.sub (.loc 61) (.k (.str (Str.ofString "layout"))))]),(.call 73 [(.sub (.loc 65) (.k (.str (Str.ofString "layout"))))])]),
 .ite (.and (.cmp .isNot (.loc 61) (.loc 65)) (.cmp .eq (.bf .len [(.loc 77)]) (.k (.int (1))))) [
  .ret (some (.tup [(.k (.bool true)),(.k (.bool true))]))] [
],
 .assign (.name 66) (.tup [(.sub (.sub (.loc 63) (.k (.str (Str.ofString "panes")))) (.loc 6)),(.sub (.sub (.loc 63) (.k (.str (Str.ofString "panes")))) (.loc 55))]),
 .assign (.name 64) (.call 439 [(.sub (.loc 61) (.k (.str (Str.ofString "real")))),(.sub (.loc 66) (.k (.int (0)))),(.sub (.loc 65) (.k (.str (Str.ofString "real")))),(.sub (.loc 66) (.k (.int (1)))),(.loc 27),(.loc 34),(.loc 35)]),
 .ite (.or (.cmp .eq (.loc 6) (.loc 55)) (.or (.cmp .notIn (.loc 6) (.loc 77)) (.cmp .notIn (.loc 55) (.loc 78)))) [
  .ret (some (.tup [(.loc 64),(.k (.bool false))]))] [
],
 .assign (.name 67) (.ite (.cmp .is (.loc 61) (.loc 65)) (.call 156 [(.sub (.loc 61) (.k (.str (Str.ofString "layout")))),(.loc 6)]) (.sub (.loc 65) (.k (.str (Str.ofString "layout"))))),
 .assign (.name 19) (.call 142 [(.loc 67),(.loc 55),(.loc 6),(.loc 27),(.loc 34),(.loc 35)]),
 .ite (.and (.cmp .isNot (.loc 19) (.k .none)) (.cmp .isNot (.loc 61) (.loc 65))) [
  .expr (.call 482 [(.loc 61),(.loc 6)])] [
],
 .ret (some (.tup [(.loc 64),(.call 489 [(.loc 65),(.loc 19),(.loc 6)])]))]
def x510:List Nat:=[61,44,39]
def b510:List CS:=[
 .assign (.name 62) (.call 73 [(.sub (.loc 61) (.k (.str (Str.ofString "layout"))))]),
 .ite (.or (.cmp .notIn (.loc 44) (.loc 62)) (.cmp .notIn (.loc 39) (.loc 62))) [
  .ret (some (.k (.bool false)))] [
],
 .assignT [(.sub (.loc 61) (.k (.str (Str.ofString "layout")))),(.sub (.loc 61) (.k (.str (Str.ofString "zoom"))))] (.tup [(.call 175 [(.sub (.loc 61) (.k (.str (Str.ofString "layout")))),(.loc 44),(.loc 39)]),(.k (.bool false))]),
 .ret (some (.k (.bool true)))]
def x515:List Nat:=[61,6,57]
def b515:List CS:=[
 .assign (.name 62) (.comp (.ite (.cmp .eq (.loc 44) (.loc 6)) (.loc 57) (.loc 44)) 44 (.call 73 [(.sub (.loc 61) (.k (.str (Str.ofString "layout"))))]) (.k (.bool true))),
 .assignT [(.sub (.loc 61) (.k (.str (Str.ofString "layout")))),(.sub (.loc 61) (.k (.str (Str.ofString "zoom"))))] (.tup [(.call 170 [(.sub (.loc 61) (.k (.str (Str.ofString "layout")))),(.loc 62)]),(.k (.bool false))]),
 .assign (.sub (.loc 61) (.k (.str (Str.ofString "active")))) (.ite (.cmp .eq (.sub (.loc 61) (.k (.str (Str.ofString "active")))) (.loc 6)) (.loc 57) (.sub (.loc 61) (.k (.str (Str.ofString "active"))))),
 .assign (.sub (.loc 61) (.k (.str (Str.ofString "last")))) (.ite (.cmp .eq (.sub (.loc 61) (.k (.str (Str.ofString "last")))) (.loc 6)) (.loc 57) (.sub (.loc 61) (.k (.str (Str.ofString "last")))))]
def x522:List Nat:=[59,63,61,65]
def b522:List CS:=[
 .assignT [(.name 6),(.name 57)] (.tup [(.call 470 [(.loc 59),(.loc 61)]),(.call 470 [(.loc 59),(.loc 65)])]),
 .assign (.name 64) (.call 444 [(.sub (.loc 61) (.k (.str (Str.ofString "real")))),(.sub (.sub (.loc 63) (.k (.str (Str.ofString "panes")))) (.loc 6)),(.sub (.loc 65) (.k (.str (Str.ofString "real")))),(.sub (.sub (.loc 63) (.k (.str (Str.ofString "panes")))) (.loc 57))]),
 .ite (.cmp .is (.loc 61) (.loc 65)) [
  .ret (some (.tup [(.loc 64),(.call 510 [(.loc 61),(.loc 6),(.loc 57)])]))] [
],
 .ite (.or (.cmp .notIn (.loc 6) (.call 73 [(.sub (.loc 61) (.k (.str (Str.ofString "layout"))))])) (.cmp .notIn (.loc 57) (.call 73 [(.sub (.loc 65) (.k (.str (Str.ofString "layout"))))]))) [
  .ret (some (.tup [(.loc 64),(.k (.bool false))]))] [
],
 .expr (.call 515 [(.loc 61),(.loc 6),(.loc 57)]),
 .expr (.call 515 [(.loc 65),(.loc 57),(.loc 6)]),
 .ret (some (.tup [(.loc 64),(.k (.bool true))]))]
def x529:List Nat:=[59,63,61]
def b529:List CS:=[
 .assignT [(.name 6),(.name 7)] (.tup [(.call 470 [(.loc 59),(.loc 61)]),(.bf .len [(.sub (.loc 63) (.k (.str (Str.ofString "windows"))))])]),
 .assignT [(.name 60),(.name 34)] (.tup [(.call 431 [(.sub (.loc 61) (.k (.str (Str.ofString "real")))),(.sub (.sub (.loc 63) (.k (.str (Str.ofString "panes")))) (.loc 6)),(.loc 7),(.k (.bytes #[110]))]),(.sub (.loc 61) (.k (.str (Str.ofString "layout"))))]),
 .ite (.not (.call 482 [(.loc 61),(.loc 6)])) [
  .ret (some (.tup [(.cmp .is (.loc 60) (.k .none)),(.k (.bool true))]))] [
],
 .expr (.bm .append (.sub (.loc 63) (.k (.str (Str.ofString "windows")))) [(.call 463 [(.loc 7),(.loc 60),(.loc 6),(.attr (.loc 34) 1),(.attr (.loc 34) 2)])]),
 .ret (some (.tup [(.cmp .is (.loc 60) (.k .none)),(.k (.bool false))]))]
def x536:List Nat:=[59,61]
def b536:List CS:=[
 .assignT [(.name 46),(.name 41)] (.tup [(.cmp .eq (.call 456 [(.loc 59),(.k (.int (2)))]) (.k (.int (1)))),(.bm .index (.call 73 [(.sub (.loc 61) (.k (.str (Str.ofString "layout"))))]) [(.sub (.loc 61) (.k (.str (Str.ofString "active"))))])]),
 .assign (.name 64) (.meth (.sub (.loc 61) (.k (.str (Str.ofString "real")))) 94 [(.loc 46)]),
 .assignT [(.sub (.loc 61) (.k (.str (Str.ofString "layout")))),(.sub (.loc 61) (.k (.str (Str.ofString "zoom"))))] (.tup [(.call 183 [(.sub (.loc 61) (.k (.str (Str.ofString "layout")))),(.loc 46)]),(.k (.bool false))]),
 .expr (.call 477 [(.loc 61),(.sub (.call 73 [(.sub (.loc 61) (.k (.str (Str.ofString "layout"))))]) (.loc 41))]),
 .ret (some (.tup [(.loc 64),(.k .none)]))]
def x543:List Nat:=[59,63,61,68]
def b543:List CS:=[
 .assignT [(.name 60),(.name 62)] (.tup [(.sub (.loc 61) (.k (.str (Str.ofString "real")))),(.call 73 [(.sub (.loc 61) (.k (.str (Str.ofString "layout"))))])]),
 .ite (.cmp .eq (.loc 68) (.k (.int (2)))) [
  .assign (.name 6) (.call 470 [(.loc 59),(.loc 61)]),
  .ret (some (.tup [(.meth (.loc 60) 91 [(.sub (.sub (.loc 63) (.k (.str (Str.ofString "panes")))) (.loc 6))]),(.call 482 [(.loc 61),(.loc 6)])]))] [
],
 .ite (.cmp .eq (.loc 68) (.k (.int (3)))) [
  .assign (.name 6) (.call 470 [(.loc 59),(.loc 61)]),
  .ret (some (.tup [(.meth (.loc 60) 86 [(.sub (.sub (.loc 63) (.k (.str (Str.ofString "panes")))) (.loc 6))]),(.call 477 [(.loc 61),(.loc 6)])]))] [
],
 .ite (.cmp .eq (.loc 68) (.k (.int (4)))) [
  .ret (some (.tup [(.meth (.loc 60) 87 []),(.and (.cmp .isNot (.sub (.loc 61) (.k (.str (Str.ofString "last")))) (.k .none)) (.call 477 [(.loc 61),(.sub (.loc 61) (.k (.str (Str.ofString "last"))))]))]))] [
],
 .ite (.cmp .eq (.loc 68) (.k (.int (5)))) [
  .assign (.sub (.loc 61) (.k (.str (Str.ofString "zoom")))) (.and (.cmp .gt (.bf .len [(.loc 62)]) (.k (.int (1)))) (.not (.sub (.loc 61) (.k (.str (Str.ofString "zoom")))))),
  .ret (some (.tup [(.meth (.loc 60) 89 []),(.sub (.loc 61) (.k (.str (Str.ofString "zoom"))))]))] [
],
 .ite (.cmp .eq (.loc 68) (.k (.int (6)))) [
  .assignT [(.name 44),(.name 39)] (.tup [(.call 470 [(.loc 59),(.loc 61)]),(.call 470 [(.loc 59),(.loc 61)])]),
  .ret (some (.tup [(.meth (.loc 60) 93 [(.sub (.sub (.loc 63) (.k (.str (Str.ofString "panes")))) (.loc 44)),(.sub (.sub (.loc 63) (.k (.str (Str.ofString "panes")))) (.loc 39))]),(.call 510 [(.loc 61),(.loc 44),(.loc 39)])]))] [
],
 .ite (.cmp .eq (.loc 68) (.k (.int (7)))) [
  .assign (.name 38) (.bin .sub (.call 456 [(.loc 59),(.k (.int (9)))]) (.k (.int (4)))),
  .assign (.name 64) (.meth (.loc 60) 88 [(.loc 38)]),
  .ret (some (.tup [(.loc 64),(.call 477 [(.loc 61),(.sub (.loc 62) (.bin .mod (.bin .add (.bm .index (.loc 62) [(.sub (.loc 61) (.k (.str (Str.ofString "active"))))]) (.loc 38)) (.bf .len [(.loc 62)])))])]))] [
],
 .assignT [(.name 1),(.name 2)] (.tup [(.bin .add (.k (.int (4))) (.call 456 [(.loc 59),(.k (.int (30)))])),(.bin .add (.k (.int (3))) (.call 456 [(.loc 59),(.k (.int (12)))]))]),
 .assign (.sub (.loc 61) (.k (.str (Str.ofString "layout")))) (.call 163 [(.sub (.loc 61) (.k (.str (Str.ofString "layout")))),(.loc 1),(.loc 2)]),
 .ret (some (.tup [(.meth (.loc 60) 92 [(.loc 1),(.loc 2)]),(.k .none)]))]
def x550:List Nat:=[59,63]
def b550:List CS:=[
 .assign (.name 69) (.sub (.loc 63) (.k (.str (Str.ofString "windows")))),
 .assignT [(.name 61),(.name 65)] (.tup [(.sub (.loc 69) (.call 456 [(.loc 59),(.bf .len [(.loc 69)])])),(.sub (.loc 69) (.call 456 [(.loc 59),(.bf .len [(.loc 69)])]))]),
 .assign (.name 68) (.call 456 [(.loc 59),(.k (.int (13)))]),
 .ite (.cmp .lt (.loc 68) (.k (.int (2)))) [
  .ret (some (.call 496 [(.loc 59),(.loc 63),(.loc 61)]))] [
],
 .ite (.cmp .eq (.loc 68) (.k (.int (8)))) [
  .ret (some (.call 536 [(.loc 59),(.loc 61)]))] [
],
 .ite (.cmp .eq (.loc 68) (.k (.int (9)))) [
  .ret (some (.call 503 [(.loc 59),(.loc 63),(.loc 61),(.loc 65)]))] [
],
 .ite (.cmp .eq (.loc 68) (.k (.int (10)))) [
  .ret (some (.call 522 [(.loc 59),(.loc 63),(.loc 61),(.loc 65)]))] [
],
 .ite (.and (.cmp .eq (.loc 68) (.k (.int (11)))) (.cmp .lt (.bf .len [(.loc 69)]) (.k (.int (3))))) [
  .ret (some (.call 529 [(.loc 59),(.loc 63),(.loc 61)]))] [
],
 .ret (some (.call 543 [(.loc 59),(.loc 63),(.loc 61),(.loc 68)]))]
def x555:List Nat:=[63]
def b555:List CS:=[
 .for1 61 (.one (.sub (.loc 63) (.k (.str (Str.ofString "windows"))))) [
  .assignT [(.name 60),(.name 19)] (.tup [(.sub (.loc 61) (.k (.str (Str.ofString "real")))),(.sub (.loc 61) (.k (.str (Str.ofString "layout"))))]),
  .assign (.name 18) (.ite (.cmp .is (.attr (.loc 60) 18) (.k .none)) (.k .none) (.attr (.attr (.loc 60) 18) 7)),
  .ite (.cmp .ne (.tup [(.attr (.attr (.loc 60) 17) 7),(.loc 18),(.attr (.loc 60) 20)]) (.tup [(.sub (.loc 61) (.k (.str (Str.ofString "active")))),(.sub (.loc 61) (.k (.str (Str.ofString "last")))),(.sub (.loc 61) (.k (.str (Str.ofString "zoom"))))])) [
   .ret (some (.k (.bool false)))] [
],
  .ite (.or (.cmp .ne (.call 207 [(.attr (.loc 60) 19)]) (.call 207 [(.loc 19)])) (.cmp .ne (.attr (.loc 60) 7) (.sub (.loc 61) (.k (.str (Str.ofString "number")))))) [
   .ret (some (.k (.bool false)))] [
],
  .ite (.cmp .ne (.comp (.attr (.loc 6) 7) 6 (.attr (.loc 60) 16) (.k (.bool true))) (.call 73 [(.loc 19)])) [
   .ret (some (.k (.bool false)))] [
],
  .for1 36 (.one (.call 68 [(.loc 19)])) [
   .assign (.name 79) (.ite (.and (.sub (.loc 61) (.k (.str (Str.ofString "zoom")))) (.cmp .eq (.attr (.loc 36) 6) (.sub (.loc 61) (.k (.str (Str.ofString "active")))))) (.loc 19) (.loc 36)),
   .ite (.cmp .ne (.tup [(.attr (.sub (.sub (.loc 63) (.k (.str (Str.ofString "panes")))) (.attr (.loc 36) 6)) 9),(.attr (.sub (.sub (.loc 63) (.k (.str (Str.ofString "panes")))) (.attr (.loc 36) 6)) 10)]) (.tup [(.attr (.loc 79) 2),(.attr (.loc 79) 1)])) [
    .ret (some (.k (.bool false)))] [
]]],
 .ret (some (.k (.bool true)))]
def x229:List Nat:=[71,9,10]
def b229:List CS:=[
 .ite (.cmp .eq (.tup [(.loc 9),(.loc 10)]) (.tup [(.attr (.loc 71) 9),(.attr (.loc 71) 10)])) [
  .ret (some (.k (.bool false)))] [
],
 .assignT [(.attr (.loc 71) 9),(.attr (.loc 71) 10)] (.tup [(.loc 9),(.loc 10)]),
 .ite (.cmp .isNot (.attr (.loc 71) 8) (.k .none)) [
  .expr (.meth (.attr (.loc 71) 8) 92 [(.loc 9),(.loc 10)])] [
],
 .ret (some (.k (.bool true)))]
def x287:List Nat:=[71]
def b287:List CS:=[
 .for1 36 (.one (.call 68 [(.attr (.loc 71) 19)])) [
  .assign (.name 6) (.call 250 [(.attr (.loc 71) 16),(.attr (.loc 36) 6)]),
  .ite (.and (.attr (.loc 71) 20) (.cmp .is (.loc 6) (.attr (.loc 71) 17))) [
   .expr (.meth (.loc 6) 82 [(.attr (.attr (.loc 71) 19) 2),(.attr (.attr (.loc 71) 19) 1)])] [
   .expr (.meth (.loc 6) 82 [(.attr (.loc 36) 2),(.attr (.loc 36) 1)])]]]
def x294:List Nat:=[71,19,73]
def b294:List CS:=[
 .assign (.name 74) (.bin .add (.attr (.loc 71) 16) (.bf .list [(.loc 73)])),
 .assign (.attr (.loc 71) 19) (.loc 19),
 .assign (.attr (.loc 71) 16) (.comp (.call 250 [(.loc 74),(.loc 7)]) 7 (.call 73 [(.loc 19)]) (.k (.bool true))),
 .assign (.attr (.loc 71) 20) (.k (.bool false)),
 .expr (.meth (.loc 71) 83 [])]
def x301:List Nat:=[71,6]
def b301:List CS:=[
 .ret (some (.cmp .is (.call 250 [(.attr (.loc 71) 16),(.attr (.loc 6) 7)]) (.loc 6)))]
def x308:List Nat:=[71,6]
def b308:List CS:=[
 .ite (.not (.meth (.loc 71) 85 [(.loc 6)])) [
  .ret (some (.k (.bool false)))] [
],
 .ite (.cmp .isNot (.loc 6) (.attr (.loc 71) 17)) [
  .assign (.attr (.loc 71) 18) (.attr (.loc 71) 17),
  .assign (.attr (.loc 71) 17) (.loc 6),
  .ite (.attr (.loc 71) 20) [
   .assign (.attr (.loc 71) 20) (.k (.bool false)),
   .expr (.meth (.loc 71) 83 [])] [
]] [
],
 .ret (some (.k (.bool true)))]
def x315:List Nat:=[71]
def b315:List CS:=[
 .ret (some (.and (.cmp .isNot (.attr (.loc 71) 18) (.k .none)) (.meth (.loc 71) 86 [(.attr (.loc 71) 18)])))]
def x330:List Nat:=[71,38]
def b330:List CS:=[
 .assign (.name 41) (.bm .index (.call 73 [(.attr (.loc 71) 19)]) [(.attr (.attr (.loc 71) 17) 7)]),
 .ret (some (.meth (.loc 71) 86 [(.sub (.attr (.loc 71) 16) (.bin .mod (.bin .add (.loc 41) (.loc 38)) (.bf .len [(.attr (.loc 71) 16)])))]))]
def x337:List Nat:=[71]
def b337:List CS:=[
 .assign (.attr (.loc 71) 20) (.and (.not (.attr (.loc 71) 20)) (.cmp .gt (.bf .len [(.attr (.loc 71) 16)]) (.k (.int (1))))),
 .expr (.meth (.loc 71) 83 []),
 .ret (some (.attr (.loc 71) 20))]
def x345:List Nat:=[71,6,32,27,34,35,56]
def b345:List CS:=[
 .assign (.name 24) (.call 142 [(.attr (.loc 71) 19),(.attr (.loc 6) 7),(.attr (.loc 32) 7),(.loc 27),(.loc 34),(.loc 35)]),
 .ite (.cmp .is (.loc 24) (.k .none)) [
  .ret (some (.k (.bool false)))] [
],
 .expr (.meth (.loc 71) 84 [(.loc 24),(.list [(.loc 32)])]),
 .ite (.loc 56) [
  .expr (.meth (.loc 71) 86 [(.loc 32)])] [
],
 .ret (some (.k (.bool true)))]
def x352:List Nat:=[71,6]
def b352:List CS:=[
 .assign (.name 24) (.ite (.meth (.loc 71) 85 [(.loc 6)]) (.call 156 [(.attr (.loc 71) 19),(.attr (.loc 6) 7)]) (.k .none)),
 .ite (.cmp .is (.loc 24) (.k .none)) [
  .ret (some (.k (.bool false)))] [
],
 .assign (.name 41) (.bm .index (.call 73 [(.attr (.loc 71) 19)]) [(.attr (.loc 6) 7)]),
 .expr (.meth (.loc 71) 84 [(.loc 24)]),
 .ite (.cmp .is (.attr (.loc 71) 18) (.loc 6)) [
  .assign (.attr (.loc 71) 18) (.k .none)] [
],
 .ite (.cmp .is (.attr (.loc 71) 17) (.loc 6)) [
  .assign (.attr (.loc 71) 17) (.ite (.cmp .is (.attr (.loc 71) 18) (.k .none)) (.sub (.attr (.loc 71) 16) (.bf .max [(.k (.int (0))),(.bin .sub (.loc 41) (.k (.int (1))))])) (.attr (.loc 71) 18)),
  .assign (.attr (.loc 71) 18) (.k .none)] [
],
 .ret (some (.k (.bool true)))]
def x359:List Nat:=[71,1,2]
def b359:List CS:=[
 .assign (.attr (.loc 71) 19) (.call 163 [(.attr (.loc 71) 19),(.loc 1),(.loc 2)]),
 .expr (.meth (.loc 71) 83 [])]
def x380:List Nat:=[71,44,39]
def b380:List CS:=[
 .assign (.name 24) (.call 175 [(.attr (.loc 71) 19),(.attr (.loc 44) 7),(.attr (.loc 39) 7)]),
 .ite (.cmp .isNot (.loc 24) (.k .none)) [
  .expr (.meth (.loc 71) 84 [(.loc 24)])] [
],
 .ret (some (.cmp .isNot (.loc 24) (.k .none)))]
def x388:List Nat:=[71,46]
def b388:List CS:=[
 .assign (.name 41) (.bm .index (.call 73 [(.attr (.loc 71) 19)]) [(.attr (.attr (.loc 71) 17) 7)]),
 .expr (.meth (.loc 71) 84 [(.call 183 [(.attr (.loc 71) 19),(.loc 46)])]),
 .expr (.meth (.loc 71) 86 [(.sub (.attr (.loc 71) 16) (.loc 41))])]
def x42:List Nat:=[71,0,1,2,3,4,5,6]
def b42:List CS:=[
 .assign (.attr (.loc 71) 0) (.loc 0),
 .assign (.attr (.loc 71) 1) (.loc 1),
 .assign (.attr (.loc 71) 2) (.loc 2),
 .assign (.attr (.loc 71) 3) (.loc 3),
 .assign (.attr (.loc 71) 4) (.loc 4),
 .assign (.attr (.loc 71) 5) (.loc 5),
 .assign (.attr (.loc 71) 6) (.loc 6)]
def x222:List Nat:=[71,7,8]
def b222:List CS:=[
 .assign (.attr (.loc 71) 7) (.loc 7),
 .assign (.attr (.loc 71) 8) (.loc 8),
 .assign (.attr (.loc 71) 9) (.k (.int (0))),
 .assign (.attr (.loc 71) 10) (.k (.int (0))),
 .assign (.attr (.loc 71) 11) (.k (.int (0))),
 .assign (.attr (.loc 71) 12) (.k (.bytes #[])),
 .assign (.attr (.loc 71) 13) (.k (.bool false)),
 .assign (.attr (.loc 71) 14) (.k .none)]
def x264:List Nat:=[71,7,15,6,1,2]
def b264:List CS:=[
 .assign (.attr (.loc 71) 7) (.loc 7),
 .assign (.attr (.loc 71) 15) (.loc 15),
 .assign (.attr (.loc 71) 16) (.list [(.loc 6)]),
 .assign (.attr (.loc 71) 17) (.loc 6),
 .assign (.attr (.loc 71) 18) (.k .none),
 .assign (.attr (.loc 71) 19) (.call 56 [(.attr (.loc 6) 7),(.loc 1),(.loc 2)]),
 .assign (.attr (.loc 71) 20) (.k (.bool false)),
 .assign (.attr (.loc 71) 21) (.k (.bool false)),
 .assign (.attr (.loc 71) 22) (.k (.bool false)),
 .assign (.attr (.loc 71) 14) (.k .none),
 .expr (.meth (.loc 71) 83 [])]
def x271:List Nat:=[71]
def b271:List CS:=[
 .ret (some (.attr (.attr (.loc 71) 19) 1))]
def x279:List Nat:=[71]
def b279:List CS:=[
 .ret (some (.attr (.attr (.loc 71) 19) 2))]
def x562:List Nat:=[58]
def b562:List CS:=[
 .assign (.name 59) (.call 449 [(.loc 58)]),
 .assignT [(.name 1),(.name 2)] (.tup [(.bin .add (.k (.int (24))) (.call 456 [(.loc 59),(.k (.int (12)))])),(.bin .add (.k (.int (8))) (.call 456 [(.loc 59),(.k (.int (6)))]))]),
 .assign (.name 63) (.dS [(Str.ofString "panes"),(Str.ofString "windows")] [(.dI [(.k (.int (0))),(.new 239 [(.k (.int (0)))]),(.k (.int (90))),(.new 239 [(.k (.int (90)))])]),(.list [])]),
 .expr (.bm .append (.sub (.loc 63) (.k (.str (Str.ofString "windows")))) [(.call 463 [(.k (.int (0))),(.new 420 [(.k (.int (0))),(.k (.bytes #[119])),(.sub (.sub (.loc 63) (.k (.str (Str.ofString "panes")))) (.k (.int (0)))),(.loc 1),(.loc 2)]),(.k (.int (0))),(.loc 1),(.loc 2)])]),
 .ite (.not (.call 555 [(.loc 63)])) [
  .ret (some (.k (.bool false)))] [
],
 .for1 70 (.range (.bin .add (.k (.int (4))) (.call 456 [(.loc 59),(.k (.int (6)))]))) [
  .assignT [(.name 64),(.name 80)] (.call 550 [(.loc 59),(.loc 63)]),
  .ite (.or (.cmp .isNot (.loc 64) (.loc 80)) (.not (.call 555 [(.loc 63)]))) [
   .ret (some (.k (.bool false)))] [
]],
 .ret (some (.k (.bool true)))]
end
section
noncomputable abbrev KK:Params→Frag:=hd.heap_39
def fnX (K:Frag) (f:Addr):Option (List Nat × List CS):=(fnOk K f).map (·.2)
theorem of_all {α:Type} {β:Type} [BEq α] [LawfulBEq α] {l:List (α × β)} {c:α × β→Bool} (h:l.all c=true) {x:α} {a:β} (hx:l.lookup x=some a):c (x,a)=true:=by
 rw[List.all_eq_true]at h
 induction l with
 |nil=>simp at hx
 |cons p r ih=>
  obtain⟨y,b⟩:=p
  by_cases e:x=y
  ·subst e;rw[lookup_eq]at hx;cases hx;exact h _ (.head _)
  ·rw[lookup_ne e]at hx;exact ih (fun z hz=>h z (.tail _ hz)) hx
theorem field_mem {C:Addr} {f:Nat} (h:isField C f=true):∃fs,(C,fs)∈ftab∧f∈fs:=by
 unfold isField at h
 cases e:ftab.lookup C with
 |none=>rw[e]at h;simp at h
 |some fs=>rw[e]at h;exact⟨fs,mem_of_lookup e,by simpa using h⟩
def fAll:List (Addr × Nat):=ftab.flatMap fun p=>p.2.map fun f=>(p.1,f)
theorem of_fAll {c:Addr × Nat→Bool} (h:fAll.all c=true) {C:Addr} {f:Nat} (hf:isField C f=true):c (C,f)=true:=by
 obtain⟨fs,h1,h2⟩:=field_mem hf
 rw[List.all_eq_true]at h
 exact h _ (List.mem_flatMap.mpr ⟨_,h1,List.mem_map.mpr ⟨f,h2,rfl⟩⟩)
section
variable (P:Params)
theorem k_gfun:gfun.all (fun p=>nsIn (KK P) mainGlobals p.1==some (some (.ref p.2))&&keepIn (KK P) (.ref p.2))=true:=by kernel_rfl
theorem k_gcls:gcls.all (fun p=>nsIn (KK P) mainGlobals p.1==some (some (.ref p.2))&&keepIn (KK P) (.ref p.2))=true:=by kernel_rfl
theorem k_gint:gint.all (fun p=>match nsIn (KK P) mainGlobals p.1 with|some (some (.int i _))=>decide (i=p.2)|_=>false)=true:=by kernel_rfl
theorem k_hex:(match nsIn (KK P) mainGlobals sHex with|some (some (.bytes b _))=>decide (b=hexB)|_=>false)=true:=by kernel_rfl
theorem k_bfun:bfun.all (fun p=>nsIn (KK P) mainGlobals p.1==some none&&bootBuiltins p.1==some (bfVal p.2)&&p.1 != Str.ofString "__name__")=true:=by kernel_rfl
theorem k_enum:(nsIn (KK P) mainGlobals sEnum==some none&&bootBuiltins sEnum==some (.type "enumerate")&&sEnum != Str.ofString "__name__")=true:=by kernel_rfl
theorem k_zip:(nsIn (KK P) mainGlobals sZip==some none&&bootBuiltins sZip==some (.type "zip")&&sZip != Str.ofString "__name__")=true:=by kernel_rfl
theorem k_range:(nsIn (KK P) mainGlobals sRange==some none&&bootBuiltins sRange==some (.type "range")&&sRange != Str.ofString "__name__")=true:=by kernel_rfl
theorem k_fld:fAll.all (fun p=>findIn (KK P) (.ref p.1) "__getattribute__"==some (some (.builtin "object.__getattribute__"))&&findIn (KK P) (.ref p.1) (nm p.2)==some none&&findIn (KK P) (.ref p.1) "__setattr__"==some (some (.builtin "object.__setattr__"))&&plainOver (KK P) p.1&&(clsIn (KK P) p.1).any (·.hasDict)&&copiedNames.contains (nm p.2)==false)=true:=by kernel_rfl
theorem k_met:mtab.all (fun p=>findIn (KK P) (.ref p.1.1) (nm p.1.2)==some (some (.ref p.2))&&isFn (KK P) (.ref p.2)&&keepIn (KK P) (.ref p.2)&&plainGet (KK P) p.1.1 (nm p.1.2))=true:=by kernel_rfl
theorem k_ini:itab.all (fun p=>makesIn (KK P) p.1&&findIn (KK P) (.ref p.1) "__init__"==some (some (.ref p.2))&&isFn (KK P) (.ref p.2))=true:=by kernel_rfl
theorem k_prp:ptab.all (fun p=>match findIn (KK P) (.ref p.1.1) (nm p.1.2)with
  |some (some (.ref q))=>(match recIn (KK P) q "property" with
   |some (.ref g::_)=>decide (g=p.2)&&specialIn (KK P) (.ref q) "__get__"==some (some (.builtin "property.__get__"))&&takesIn (KK P) (.ref q)==some true&&plainGet (KK P) p.1.1 (nm p.1.2)&&(clsIn (KK P) p.1.1).isSome
   |_=>false)
  |_=>false)=true:=by kernel_rfl
end
theorem gd_of {W:Wd} (kin:(KK W.w.params).In W.B) (sysm:∃a o,sysModules<a∧W.B.get? a=some o) (top:∃p loose mg mb,TopRead p loose mg mb W.B):Gd W (KK W.w.params):=by
 refine⟨kin,sysm,top,fun x a h=>?_,fun x a h=>?_,fun x i h=>?_,?_,fun x b h=>?_,?_,?_,?_,fun C f h=>?_,fun C f h=>?_,fun C f h=>?_,fun C f h=>?_,fun C m g h=>?_,fun C g h=>?_,fun C f g h=>?_⟩
 ·have:=of_all (k_gfun W.w.params) h;simpa using this
 ·have:=of_all (k_gcls W.w.params) h;simpa using this
 ·have:=of_all (k_gint W.w.params) h
  dsimp only at this
  split at this
  ·rename_i j t e;exact⟨t,by rw[e,of_decide_eq_true this]⟩
  ·cases this
 ·have:=k_hex W.w.params
  split at this
  ·rename_i j t e;exact⟨t,by rw[e,of_decide_eq_true this]⟩
  ·cases this
 ·have:=of_all (k_bfun W.w.params) h
  simp only[Bool.and_eq_true,beq_iff_eq,bne_iff_ne]at this
  exact⟨this.1.1,this.1.2,this.2⟩
 ·have:=k_enum W.w.params
  simp only[Bool.and_eq_true,beq_iff_eq,bne_iff_ne]at this
  exact⟨this.1.1,this.1.2,this.2⟩
 ·have:=k_zip W.w.params
  simp only[Bool.and_eq_true,beq_iff_eq,bne_iff_ne]at this
  exact⟨this.1.1,this.1.2,this.2⟩
 ·have:=k_range W.w.params
  simp only[Bool.and_eq_true,beq_iff_eq,bne_iff_ne]at this
  exact⟨this.1.1,this.1.2,this.2⟩
 all_goals first
  |(have:=of_fAll (k_fld W.w.params) h
    simp only[Bool.and_eq_true,beq_iff_eq]at this
    obtain⟨⟨⟨⟨⟨h1,h2⟩,h3⟩,h4⟩,h5⟩,h6⟩:=this
    first|exact h1|exact h2|exact⟨h3,h4,h5⟩|exact h6)
  |skip
 ·have:=of_all (k_met W.w.params) h
  simp only[Bool.and_eq_true,beq_iff_eq]at this
  exact⟨this.1.1.1,this.1.1.2,this.1.2,this.2⟩
 ·have:=of_all (k_ini W.w.params) h
  simp only[Bool.and_eq_true,beq_iff_eq]at this
  exact⟨this.1.1,this.1.2,this.2⟩
 ·have:=of_all (k_prp W.w.params) h
  dsimp only at this
  split at this
  ·rename_i q e
   split at this
   ·rename_i g' rest e2
    simp only[Bool.and_eq_true,beq_iff_eq,decide_eq_true_eq]at this
    obtain⟨⟨⟨⟨rfl,h2⟩,h3⟩,h4⟩,h5⟩:=this
    exact⟨q,rest,e,e2,h2,h3,h4,h5⟩
   ·cases this
  ·cases this
def FnAt (K:Frag) (f:Addr) (xs:List Nat) (b:List CS):Prop:=fnX K f=some (xs,b)
def BindAt (K:Frag) (f:Addr) (xs:List Nat) (k:Nat) (ds:List Value):Prop:=∀S (us:List Value),us.length=k→(fnAt K f).bind (fun fd=>peek K S (bindArgs fd ⟨us,[]⟩))=some ((xs.map nm).zip (us++ds))
section
variable {W:Wd} {n:Nat} {H:AH}
theorem enter {K:Frag} (G:Gd W K) {f:Addr} {xs:List Nat} {b:List CS} {vs ws:List AV} {ds:List Value} {Q:AV→AH→Prop} (hf:FnAt K f xs b) (hb:BindAt K f xs vs.length ds)
  (hd:∀h,W.St H h→VRs H h ws ds) (hl:xs.length=vs.length+ws.length) (h:wpB W n b (xs.zip (vs++ws)) H (fun _ H=>Q .none H) Q):CallF W f vs (n+1) H Q:=by
 unfold FnAt fnX at hf
 simp only[Option.map_eq_some_iff]at hf
 obtain⟨⟨fd,xs',b'⟩,hf,he⟩:=hf
 cases he
 refine callF_of G hf (fun S us hu=>?_) hd hl h
 have:=hb S us hu
 have hfd:fnAt K f=some fd:=by
  unfold fnOk at hf
  simp only[Option.bind_eq_some_iff]at hf
  obtain⟨fd',h1,h2⟩:=hf
  split at h2
  ·simp only[Option.bind_eq_some_iff]at h2
   obtain⟨_,_,_,_,h2⟩:=h2
   split at h2
   ·simp only[Option.some.injEq,Prod.mk.injEq]at h2;rw[h1,h2.1]
   ·cases h2
  ·cases h2
 rw[hfd]at this
 exact this
end
end
section
section
variable (P:Params)
theorem fnAll:[(fnX (KK P) 28),(fnX (KK P) 56),(fnX (KK P) 61),(fnX (KK P) 68),(fnX (KK P) 73),(fnX (KK P) 80),(fnX (KK P) 87),(fnX (KK P) 94),(fnX (KK P) 101),(fnX (KK P) 108),(fnX (KK P) 113),(fnX (KK P) 120),(fnX (KK P) 127),(fnX (KK P) 134),(fnX (KK P) 142),(fnX (KK P) 149),(fnX (KK P) 156),(fnX (KK P) 163),(fnX (KK P) 170),(fnX (KK P) 175),(fnX (KK P) 183),(fnX (KK P) 190),(fnX (KK P) 195),(fnX (KK P) 200),(fnX (KK P) 207),(fnX (KK P) 250),(fnX (KK P) 431),(fnX (KK P) 439),(fnX (KK P) 444),(fnX (KK P) 449),(fnX (KK P) 456),(fnX (KK P) 463),(fnX (KK P) 470),(fnX (KK P) 477),(fnX (KK P) 482),(fnX (KK P) 489),(fnX (KK P) 496),(fnX (KK P) 503),(fnX (KK P) 510),(fnX (KK P) 515),(fnX (KK P) 522),(fnX (KK P) 529),(fnX (KK P) 536),(fnX (KK P) 543),(fnX (KK P) 550),(fnX (KK P) 555),(fnX (KK P) 229),(fnX (KK P) 287),(fnX (KK P) 294),(fnX (KK P) 301),(fnX (KK P) 308),(fnX (KK P) 315),(fnX (KK P) 330),(fnX (KK P) 337),(fnX (KK P) 345),(fnX (KK P) 352),(fnX (KK P) 359),(fnX (KK P) 380),(fnX (KK P) 388),(fnX (KK P) 42),(fnX (KK P) 222),(fnX (KK P) 264),(fnX (KK P) 271),(fnX (KK P) 279),(fnX (KK P) 562)]=[some (x28,b28),some (x56,b56),some (x61,b61),some (x68,b68),some (x73,b73),some (x80,b80),some (x87,b87),some (x94,b94),some (x101,b101),some (x108,b108),some (x113,b113),some (x120,b120),some (x127,b127),some (x134,b134),some (x142,b142),some (x149,b149),some (x156,b156),some (x163,b163),some (x170,b170),some (x175,b175),some (x183,b183),some (x190,b190),some (x195,b195),some (x200,b200),some (x207,b207),some (x250,b250),some (x431,b431),some (x439,b439),some (x444,b444),some (x449,b449),some (x456,b456),some (x463,b463),some (x470,b470),some (x477,b477),some (x482,b482),some (x489,b489),some (x496,b496),some (x503,b503),some (x510,b510),some (x515,b515),some (x522,b522),some (x529,b529),some (x536,b536),some (x543,b543),some (x550,b550),some (x555,b555),some (x229,b229),some (x287,b287),some (x294,b294),some (x301,b301),some (x308,b308),some (x315,b315),some (x330,b330),some (x337,b337),some (x345,b345),some (x352,b352),some (x359,b359),some (x380,b380),some (x388,b388),some (x42,b42),some (x222,b222),some (x264,b264),some (x271,b271),some (x279,b279),some (x562,b562)]:=by kernel_rfl
theorem f28:FnAt (KK P) 28 x28 b28:=Option.some.inj (congrArg (·[0]?) (fnAll P))
theorem f56:FnAt (KK P) 56 x56 b56:=Option.some.inj (congrArg (·[1]?) (fnAll P))
theorem f61:FnAt (KK P) 61 x61 b61:=Option.some.inj (congrArg (·[2]?) (fnAll P))
theorem f68:FnAt (KK P) 68 x68 b68:=Option.some.inj (congrArg (·[3]?) (fnAll P))
theorem f73:FnAt (KK P) 73 x73 b73:=Option.some.inj (congrArg (·[4]?) (fnAll P))
theorem f80:FnAt (KK P) 80 x80 b80:=Option.some.inj (congrArg (·[5]?) (fnAll P))
theorem f87:FnAt (KK P) 87 x87 b87:=Option.some.inj (congrArg (·[6]?) (fnAll P))
theorem f94:FnAt (KK P) 94 x94 b94:=Option.some.inj (congrArg (·[7]?) (fnAll P))
theorem f101:FnAt (KK P) 101 x101 b101:=Option.some.inj (congrArg (·[8]?) (fnAll P))
theorem f108:FnAt (KK P) 108 x108 b108:=Option.some.inj (congrArg (·[9]?) (fnAll P))
theorem f113:FnAt (KK P) 113 x113 b113:=Option.some.inj (congrArg (·[10]?) (fnAll P))
theorem f120:FnAt (KK P) 120 x120 b120:=Option.some.inj (congrArg (·[11]?) (fnAll P))
theorem f127:FnAt (KK P) 127 x127 b127:=Option.some.inj (congrArg (·[12]?) (fnAll P))
theorem f134:FnAt (KK P) 134 x134 b134:=Option.some.inj (congrArg (·[13]?) (fnAll P))
theorem f142:FnAt (KK P) 142 x142 b142:=Option.some.inj (congrArg (·[14]?) (fnAll P))
theorem f149:FnAt (KK P) 149 x149 b149:=Option.some.inj (congrArg (·[15]?) (fnAll P))
theorem f156:FnAt (KK P) 156 x156 b156:=Option.some.inj (congrArg (·[16]?) (fnAll P))
theorem f163:FnAt (KK P) 163 x163 b163:=Option.some.inj (congrArg (·[17]?) (fnAll P))
theorem f170:FnAt (KK P) 170 x170 b170:=Option.some.inj (congrArg (·[18]?) (fnAll P))
theorem f175:FnAt (KK P) 175 x175 b175:=Option.some.inj (congrArg (·[19]?) (fnAll P))
theorem f183:FnAt (KK P) 183 x183 b183:=Option.some.inj (congrArg (·[20]?) (fnAll P))
theorem f190:FnAt (KK P) 190 x190 b190:=Option.some.inj (congrArg (·[21]?) (fnAll P))
theorem f195:FnAt (KK P) 195 x195 b195:=Option.some.inj (congrArg (·[22]?) (fnAll P))
theorem f200:FnAt (KK P) 200 x200 b200:=Option.some.inj (congrArg (·[23]?) (fnAll P))
theorem f207:FnAt (KK P) 207 x207 b207:=Option.some.inj (congrArg (·[24]?) (fnAll P))
theorem f250:FnAt (KK P) 250 x250 b250:=Option.some.inj (congrArg (·[25]?) (fnAll P))
theorem f431:FnAt (KK P) 431 x431 b431:=Option.some.inj (congrArg (·[26]?) (fnAll P))
theorem f439:FnAt (KK P) 439 x439 b439:=Option.some.inj (congrArg (·[27]?) (fnAll P))
theorem f444:FnAt (KK P) 444 x444 b444:=Option.some.inj (congrArg (·[28]?) (fnAll P))
theorem f449:FnAt (KK P) 449 x449 b449:=Option.some.inj (congrArg (·[29]?) (fnAll P))
theorem f456:FnAt (KK P) 456 x456 b456:=Option.some.inj (congrArg (·[30]?) (fnAll P))
theorem f463:FnAt (KK P) 463 x463 b463:=Option.some.inj (congrArg (·[31]?) (fnAll P))
theorem f470:FnAt (KK P) 470 x470 b470:=Option.some.inj (congrArg (·[32]?) (fnAll P))
theorem f477:FnAt (KK P) 477 x477 b477:=Option.some.inj (congrArg (·[33]?) (fnAll P))
theorem f482:FnAt (KK P) 482 x482 b482:=Option.some.inj (congrArg (·[34]?) (fnAll P))
theorem f489:FnAt (KK P) 489 x489 b489:=Option.some.inj (congrArg (·[35]?) (fnAll P))
theorem f496:FnAt (KK P) 496 x496 b496:=Option.some.inj (congrArg (·[36]?) (fnAll P))
theorem f503:FnAt (KK P) 503 x503 b503:=Option.some.inj (congrArg (·[37]?) (fnAll P))
theorem f510:FnAt (KK P) 510 x510 b510:=Option.some.inj (congrArg (·[38]?) (fnAll P))
theorem f515:FnAt (KK P) 515 x515 b515:=Option.some.inj (congrArg (·[39]?) (fnAll P))
theorem f522:FnAt (KK P) 522 x522 b522:=Option.some.inj (congrArg (·[40]?) (fnAll P))
theorem f529:FnAt (KK P) 529 x529 b529:=Option.some.inj (congrArg (·[41]?) (fnAll P))
theorem f536:FnAt (KK P) 536 x536 b536:=Option.some.inj (congrArg (·[42]?) (fnAll P))
theorem f543:FnAt (KK P) 543 x543 b543:=Option.some.inj (congrArg (·[43]?) (fnAll P))
theorem f550:FnAt (KK P) 550 x550 b550:=Option.some.inj (congrArg (·[44]?) (fnAll P))
theorem f555:FnAt (KK P) 555 x555 b555:=Option.some.inj (congrArg (·[45]?) (fnAll P))
theorem f229:FnAt (KK P) 229 x229 b229:=Option.some.inj (congrArg (·[46]?) (fnAll P))
theorem f287:FnAt (KK P) 287 x287 b287:=Option.some.inj (congrArg (·[47]?) (fnAll P))
theorem f294:FnAt (KK P) 294 x294 b294:=Option.some.inj (congrArg (·[48]?) (fnAll P))
theorem f301:FnAt (KK P) 301 x301 b301:=Option.some.inj (congrArg (·[49]?) (fnAll P))
theorem f308:FnAt (KK P) 308 x308 b308:=Option.some.inj (congrArg (·[50]?) (fnAll P))
theorem f315:FnAt (KK P) 315 x315 b315:=Option.some.inj (congrArg (·[51]?) (fnAll P))
theorem f330:FnAt (KK P) 330 x330 b330:=Option.some.inj (congrArg (·[52]?) (fnAll P))
theorem f337:FnAt (KK P) 337 x337 b337:=Option.some.inj (congrArg (·[53]?) (fnAll P))
theorem f345:FnAt (KK P) 345 x345 b345:=Option.some.inj (congrArg (·[54]?) (fnAll P))
theorem f352:FnAt (KK P) 352 x352 b352:=Option.some.inj (congrArg (·[55]?) (fnAll P))
theorem f359:FnAt (KK P) 359 x359 b359:=Option.some.inj (congrArg (·[56]?) (fnAll P))
theorem f380:FnAt (KK P) 380 x380 b380:=Option.some.inj (congrArg (·[57]?) (fnAll P))
theorem f388:FnAt (KK P) 388 x388 b388:=Option.some.inj (congrArg (·[58]?) (fnAll P))
theorem f42:FnAt (KK P) 42 x42 b42:=Option.some.inj (congrArg (·[59]?) (fnAll P))
theorem f222:FnAt (KK P) 222 x222 b222:=Option.some.inj (congrArg (·[60]?) (fnAll P))
theorem f264:FnAt (KK P) 264 x264 b264:=Option.some.inj (congrArg (·[61]?) (fnAll P))
theorem f271:FnAt (KK P) 271 x271 b271:=Option.some.inj (congrArg (·[62]?) (fnAll P))
theorem f279:FnAt (KK P) 279 x279 b279:=Option.some.inj (congrArg (·[63]?) (fnAll P))
theorem f562:FnAt (KK P) 562 x562 b562:=Option.some.inj (congrArg (·[64]?) (fnAll P))
theorem hb28:BindAt (KK P) 28 x28 1 []:=fun S us h=>match us,h with
 |[u0],_=>(by kernel_rfl:(fnAt (KK P) 28).bind (fun fd=>peek (KK P) S (bindArgs fd ⟨[u0],[]⟩))=some ((x28.map nm).zip ([u0]++[])))
theorem hb56:BindAt (KK P) 56 x56 3 []:=fun S us h=>match us,h with
 |[u0,u1,u2],_=>(by kernel_rfl:(fnAt (KK P) 56).bind (fun fd=>peek (KK P) S (bindArgs fd ⟨[u0,u1,u2],[]⟩))=some ((x56.map nm).zip ([u0,u1,u2]++[])))
theorem hb61:BindAt (KK P) 61 x61 1 []:=fun S us h=>match us,h with
 |[u0],_=>(by kernel_rfl:(fnAt (KK P) 61).bind (fun fd=>peek (KK P) S (bindArgs fd ⟨[u0],[]⟩))=some ((x61.map nm).zip ([u0]++[])))
theorem hb68:BindAt (KK P) 68 x68 1 []:=fun S us h=>match us,h with
 |[u0],_=>(by kernel_rfl:(fnAt (KK P) 68).bind (fun fd=>peek (KK P) S (bindArgs fd ⟨[u0],[]⟩))=some ((x68.map nm).zip ([u0]++[])))
theorem hb73:BindAt (KK P) 73 x73 1 []:=fun S us h=>match us,h with
 |[u0],_=>(by kernel_rfl:(fnAt (KK P) 73).bind (fun fd=>peek (KK P) S (bindArgs fd ⟨[u0],[]⟩))=some ((x73.map nm).zip ([u0]++[])))
theorem hb80:BindAt (KK P) 80 x80 2 []:=fun S us h=>match us,h with
 |[u0,u1],_=>(by kernel_rfl:(fnAt (KK P) 80).bind (fun fd=>peek (KK P) S (bindArgs fd ⟨[u0,u1],[]⟩))=some ((x80.map nm).zip ([u0,u1]++[])))
theorem hb87:BindAt (KK P) 87 x87 1 []:=fun S us h=>match us,h with
 |[u0],_=>(by kernel_rfl:(fnAt (KK P) 87).bind (fun fd=>peek (KK P) S (bindArgs fd ⟨[u0],[]⟩))=some ((x87.map nm).zip ([u0]++[])))
theorem hb94:BindAt (KK P) 94 x94 2 []:=fun S us h=>match us,h with
 |[u0,u1],_=>(by kernel_rfl:(fnAt (KK P) 94).bind (fun fd=>peek (KK P) S (bindArgs fd ⟨[u0,u1],[]⟩))=some ((x94.map nm).zip ([u0,u1]++[])))
theorem hb101:BindAt (KK P) 101 x101 3 []:=fun S us h=>match us,h with
 |[u0,u1,u2],_=>(by kernel_rfl:(fnAt (KK P) 101).bind (fun fd=>peek (KK P) S (bindArgs fd ⟨[u0,u1,u2],[]⟩))=some ((x101.map nm).zip ([u0,u1,u2]++[])))
theorem hb108:BindAt (KK P) 108 x108 2 []:=fun S us h=>match us,h with
 |[u0,u1],_=>(by kernel_rfl:(fnAt (KK P) 108).bind (fun fd=>peek (KK P) S (bindArgs fd ⟨[u0,u1],[]⟩))=some ((x108.map nm).zip ([u0,u1]++[])))
theorem hb113:BindAt (KK P) 113 x113 2 []:=fun S us h=>match us,h with
 |[u0,u1],_=>(by kernel_rfl:(fnAt (KK P) 113).bind (fun fd=>peek (KK P) S (bindArgs fd ⟨[u0,u1],[]⟩))=some ((x113.map nm).zip ([u0,u1]++[])))
theorem hb120:BindAt (KK P) 120 x120 3 []:=fun S us h=>match us,h with
 |[u0,u1,u2],_=>(by kernel_rfl:(fnAt (KK P) 120).bind (fun fd=>peek (KK P) S (bindArgs fd ⟨[u0,u1,u2],[]⟩))=some ((x120.map nm).zip ([u0,u1,u2]++[])))
theorem hb127:BindAt (KK P) 127 x127 3 []:=fun S us h=>match us,h with
 |[u0,u1,u2],_=>(by kernel_rfl:(fnAt (KK P) 127).bind (fun fd=>peek (KK P) S (bindArgs fd ⟨[u0,u1,u2],[]⟩))=some ((x127.map nm).zip ([u0,u1,u2]++[])))
theorem hb134:BindAt (KK P) 134 x134 2 []:=fun S us h=>match us,h with
 |[u0,u1],_=>(by kernel_rfl:(fnAt (KK P) 134).bind (fun fd=>peek (KK P) S (bindArgs fd ⟨[u0,u1],[]⟩))=some ((x134.map nm).zip ([u0,u1]++[])))
theorem hb142:BindAt (KK P) 142 x142 6 []:=fun S us h=>match us,h with
 |[u0,u1,u2,u3,u4,u5],_=>(by kernel_rfl:(fnAt (KK P) 142).bind (fun fd=>peek (KK P) S (bindArgs fd ⟨[u0,u1,u2,u3,u4,u5],[]⟩))=some ((x142.map nm).zip ([u0,u1,u2,u3,u4,u5]++[])))
theorem hb149:BindAt (KK P) 149 x149 2 []:=fun S us h=>match us,h with
 |[u0,u1],_=>(by kernel_rfl:(fnAt (KK P) 149).bind (fun fd=>peek (KK P) S (bindArgs fd ⟨[u0,u1],[]⟩))=some ((x149.map nm).zip ([u0,u1]++[])))
theorem hb156:BindAt (KK P) 156 x156 2 []:=fun S us h=>match us,h with
 |[u0,u1],_=>(by kernel_rfl:(fnAt (KK P) 156).bind (fun fd=>peek (KK P) S (bindArgs fd ⟨[u0,u1],[]⟩))=some ((x156.map nm).zip ([u0,u1]++[])))
theorem hb163:BindAt (KK P) 163 x163 3 []:=fun S us h=>match us,h with
 |[u0,u1,u2],_=>(by kernel_rfl:(fnAt (KK P) 163).bind (fun fd=>peek (KK P) S (bindArgs fd ⟨[u0,u1,u2],[]⟩))=some ((x163.map nm).zip ([u0,u1,u2]++[])))
theorem hb170:BindAt (KK P) 170 x170 2 []:=fun S us h=>match us,h with
 |[u0,u1],_=>(by kernel_rfl:(fnAt (KK P) 170).bind (fun fd=>peek (KK P) S (bindArgs fd ⟨[u0,u1],[]⟩))=some ((x170.map nm).zip ([u0,u1]++[])))
theorem hb175:BindAt (KK P) 175 x175 3 []:=fun S us h=>match us,h with
 |[u0,u1,u2],_=>(by kernel_rfl:(fnAt (KK P) 175).bind (fun fd=>peek (KK P) S (bindArgs fd ⟨[u0,u1,u2],[]⟩))=some ((x175.map nm).zip ([u0,u1,u2]++[])))
theorem hb183:BindAt (KK P) 183 x183 2 []:=fun S us h=>match us,h with
 |[u0,u1],_=>(by kernel_rfl:(fnAt (KK P) 183).bind (fun fd=>peek (KK P) S (bindArgs fd ⟨[u0,u1],[]⟩))=some ((x183.map nm).zip ([u0,u1]++[])))
theorem hb190:BindAt (KK P) 190 x190 1 []:=fun S us h=>match us,h with
 |[u0],_=>(by kernel_rfl:(fnAt (KK P) 190).bind (fun fd=>peek (KK P) S (bindArgs fd ⟨[u0],[]⟩))=some ((x190.map nm).zip ([u0]++[])))
theorem hb195:BindAt (KK P) 195 x195 1 []:=fun S us h=>match us,h with
 |[u0],_=>(by kernel_rfl:(fnAt (KK P) 195).bind (fun fd=>peek (KK P) S (bindArgs fd ⟨[u0],[]⟩))=some ((x195.map nm).zip ([u0]++[])))
theorem hb200:BindAt (KK P) 200 x200 1 []:=fun S us h=>match us,h with
 |[u0],_=>(by kernel_rfl:(fnAt (KK P) 200).bind (fun fd=>peek (KK P) S (bindArgs fd ⟨[u0],[]⟩))=some ((x200.map nm).zip ([u0]++[])))
theorem hb207:BindAt (KK P) 207 x207 1 []:=fun S us h=>match us,h with
 |[u0],_=>(by kernel_rfl:(fnAt (KK P) 207).bind (fun fd=>peek (KK P) S (bindArgs fd ⟨[u0],[]⟩))=some ((x207.map nm).zip ([u0]++[])))
theorem hb250:BindAt (KK P) 250 x250 2 []:=fun S us h=>match us,h with
 |[u0,u1],_=>(by kernel_rfl:(fnAt (KK P) 250).bind (fun fd=>peek (KK P) S (bindArgs fd ⟨[u0,u1],[]⟩))=some ((x250.map nm).zip ([u0,u1]++[])))
theorem hb431:BindAt (KK P) 431 x431 4 []:=fun S us h=>match us,h with
 |[u0,u1,u2,u3],_=>(by kernel_rfl:(fnAt (KK P) 431).bind (fun fd=>peek (KK P) S (bindArgs fd ⟨[u0,u1,u2,u3],[]⟩))=some ((x431.map nm).zip ([u0,u1,u2,u3]++[])))
theorem hb439:BindAt (KK P) 439 x439 7 [.bool true]:=fun S us h=>match us,h with
 |[u0,u1,u2,u3,u4,u5,u6],_=>(by kernel_rfl:(fnAt (KK P) 439).bind (fun fd=>peek (KK P) S (bindArgs fd ⟨[u0,u1,u2,u3,u4,u5,u6],[]⟩))=some ((x439.map nm).zip ([u0,u1,u2,u3,u4,u5,u6]++[.bool true])))
theorem hb444:BindAt (KK P) 444 x444 4 []:=fun S us h=>match us,h with
 |[u0,u1,u2,u3],_=>(by kernel_rfl:(fnAt (KK P) 444).bind (fun fd=>peek (KK P) S (bindArgs fd ⟨[u0,u1,u2,u3],[]⟩))=some ((x444.map nm).zip ([u0,u1,u2,u3]++[])))
theorem hb449:BindAt (KK P) 449 x449 1 []:=fun S us h=>match us,h with
 |[u0],_=>(by kernel_rfl:(fnAt (KK P) 449).bind (fun fd=>peek (KK P) S (bindArgs fd ⟨[u0],[]⟩))=some ((x449.map nm).zip ([u0]++[])))
theorem hb456:BindAt (KK P) 456 x456 2 []:=fun S us h=>match us,h with
 |[u0,u1],_=>(by kernel_rfl:(fnAt (KK P) 456).bind (fun fd=>peek (KK P) S (bindArgs fd ⟨[u0,u1],[]⟩))=some ((x456.map nm).zip ([u0,u1]++[])))
theorem hb463:BindAt (KK P) 463 x463 5 []:=fun S us h=>match us,h with
 |[u0,u1,u2,u3,u4],_=>(by kernel_rfl:(fnAt (KK P) 463).bind (fun fd=>peek (KK P) S (bindArgs fd ⟨[u0,u1,u2,u3,u4],[]⟩))=some ((x463.map nm).zip ([u0,u1,u2,u3,u4]++[])))
theorem hb470:BindAt (KK P) 470 x470 2 []:=fun S us h=>match us,h with
 |[u0,u1],_=>(by kernel_rfl:(fnAt (KK P) 470).bind (fun fd=>peek (KK P) S (bindArgs fd ⟨[u0,u1],[]⟩))=some ((x470.map nm).zip ([u0,u1]++[])))
theorem hb477:BindAt (KK P) 477 x477 2 []:=fun S us h=>match us,h with
 |[u0,u1],_=>(by kernel_rfl:(fnAt (KK P) 477).bind (fun fd=>peek (KK P) S (bindArgs fd ⟨[u0,u1],[]⟩))=some ((x477.map nm).zip ([u0,u1]++[])))
theorem hb482:BindAt (KK P) 482 x482 2 []:=fun S us h=>match us,h with
 |[u0,u1],_=>(by kernel_rfl:(fnAt (KK P) 482).bind (fun fd=>peek (KK P) S (bindArgs fd ⟨[u0,u1],[]⟩))=some ((x482.map nm).zip ([u0,u1]++[])))
theorem hb489:BindAt (KK P) 489 x489 3 []:=fun S us h=>match us,h with
 |[u0,u1,u2],_=>(by kernel_rfl:(fnAt (KK P) 489).bind (fun fd=>peek (KK P) S (bindArgs fd ⟨[u0,u1,u2],[]⟩))=some ((x489.map nm).zip ([u0,u1,u2]++[])))
theorem hb496:BindAt (KK P) 496 x496 3 []:=fun S us h=>match us,h with
 |[u0,u1,u2],_=>(by kernel_rfl:(fnAt (KK P) 496).bind (fun fd=>peek (KK P) S (bindArgs fd ⟨[u0,u1,u2],[]⟩))=some ((x496.map nm).zip ([u0,u1,u2]++[])))
theorem hb503:BindAt (KK P) 503 x503 4 []:=fun S us h=>match us,h with
 |[u0,u1,u2,u3],_=>(by kernel_rfl:(fnAt (KK P) 503).bind (fun fd=>peek (KK P) S (bindArgs fd ⟨[u0,u1,u2,u3],[]⟩))=some ((x503.map nm).zip ([u0,u1,u2,u3]++[])))
theorem hb510:BindAt (KK P) 510 x510 3 []:=fun S us h=>match us,h with
 |[u0,u1,u2],_=>(by kernel_rfl:(fnAt (KK P) 510).bind (fun fd=>peek (KK P) S (bindArgs fd ⟨[u0,u1,u2],[]⟩))=some ((x510.map nm).zip ([u0,u1,u2]++[])))
theorem hb515:BindAt (KK P) 515 x515 3 []:=fun S us h=>match us,h with
 |[u0,u1,u2],_=>(by kernel_rfl:(fnAt (KK P) 515).bind (fun fd=>peek (KK P) S (bindArgs fd ⟨[u0,u1,u2],[]⟩))=some ((x515.map nm).zip ([u0,u1,u2]++[])))
theorem hb522:BindAt (KK P) 522 x522 4 []:=fun S us h=>match us,h with
 |[u0,u1,u2,u3],_=>(by kernel_rfl:(fnAt (KK P) 522).bind (fun fd=>peek (KK P) S (bindArgs fd ⟨[u0,u1,u2,u3],[]⟩))=some ((x522.map nm).zip ([u0,u1,u2,u3]++[])))
theorem hb529:BindAt (KK P) 529 x529 3 []:=fun S us h=>match us,h with
 |[u0,u1,u2],_=>(by kernel_rfl:(fnAt (KK P) 529).bind (fun fd=>peek (KK P) S (bindArgs fd ⟨[u0,u1,u2],[]⟩))=some ((x529.map nm).zip ([u0,u1,u2]++[])))
theorem hb536:BindAt (KK P) 536 x536 2 []:=fun S us h=>match us,h with
 |[u0,u1],_=>(by kernel_rfl:(fnAt (KK P) 536).bind (fun fd=>peek (KK P) S (bindArgs fd ⟨[u0,u1],[]⟩))=some ((x536.map nm).zip ([u0,u1]++[])))
theorem hb543:BindAt (KK P) 543 x543 4 []:=fun S us h=>match us,h with
 |[u0,u1,u2,u3],_=>(by kernel_rfl:(fnAt (KK P) 543).bind (fun fd=>peek (KK P) S (bindArgs fd ⟨[u0,u1,u2,u3],[]⟩))=some ((x543.map nm).zip ([u0,u1,u2,u3]++[])))
theorem hb550:BindAt (KK P) 550 x550 2 []:=fun S us h=>match us,h with
 |[u0,u1],_=>(by kernel_rfl:(fnAt (KK P) 550).bind (fun fd=>peek (KK P) S (bindArgs fd ⟨[u0,u1],[]⟩))=some ((x550.map nm).zip ([u0,u1]++[])))
theorem hb555:BindAt (KK P) 555 x555 1 []:=fun S us h=>match us,h with
 |[u0],_=>(by kernel_rfl:(fnAt (KK P) 555).bind (fun fd=>peek (KK P) S (bindArgs fd ⟨[u0],[]⟩))=some ((x555.map nm).zip ([u0]++[])))
theorem hb229:BindAt (KK P) 229 x229 3 []:=fun S us h=>match us,h with
 |[u0,u1,u2],_=>(by kernel_rfl:(fnAt (KK P) 229).bind (fun fd=>peek (KK P) S (bindArgs fd ⟨[u0,u1,u2],[]⟩))=some ((x229.map nm).zip ([u0,u1,u2]++[])))
theorem hb287:BindAt (KK P) 287 x287 1 []:=fun S us h=>match us,h with
 |[u0],_=>(by kernel_rfl:(fnAt (KK P) 287).bind (fun fd=>peek (KK P) S (bindArgs fd ⟨[u0],[]⟩))=some ((x287.map nm).zip ([u0]++[])))
theorem hb294:BindAt (KK P) 294 x294 2 [.ref 288]:=fun S us h=>match us,h with
 |[u0,u1],_=>(by kernel_rfl:(fnAt (KK P) 294).bind (fun fd=>peek (KK P) S (bindArgs fd ⟨[u0,u1],[]⟩))=some ((x294.map nm).zip ([u0,u1]++[.ref 288])))
theorem hb294m:BindAt (KK P) 294 x294 3 []:=fun S us h=>match us,h with
 |[u0,u1,u2],_=>(by kernel_rfl:(fnAt (KK P) 294).bind (fun fd=>peek (KK P) S (bindArgs fd ⟨[u0,u1,u2],[]⟩))=some ((x294.map nm).zip ([u0,u1,u2]++[])))
theorem hb301:BindAt (KK P) 301 x301 2 []:=fun S us h=>match us,h with
 |[u0,u1],_=>(by kernel_rfl:(fnAt (KK P) 301).bind (fun fd=>peek (KK P) S (bindArgs fd ⟨[u0,u1],[]⟩))=some ((x301.map nm).zip ([u0,u1]++[])))
theorem hb308:BindAt (KK P) 308 x308 2 []:=fun S us h=>match us,h with
 |[u0,u1],_=>(by kernel_rfl:(fnAt (KK P) 308).bind (fun fd=>peek (KK P) S (bindArgs fd ⟨[u0,u1],[]⟩))=some ((x308.map nm).zip ([u0,u1]++[])))
theorem hb315:BindAt (KK P) 315 x315 1 []:=fun S us h=>match us,h with
 |[u0],_=>(by kernel_rfl:(fnAt (KK P) 315).bind (fun fd=>peek (KK P) S (bindArgs fd ⟨[u0],[]⟩))=some ((x315.map nm).zip ([u0]++[])))
theorem hb330:BindAt (KK P) 330 x330 2 []:=fun S us h=>match us,h with
 |[u0,u1],_=>(by kernel_rfl:(fnAt (KK P) 330).bind (fun fd=>peek (KK P) S (bindArgs fd ⟨[u0,u1],[]⟩))=some ((x330.map nm).zip ([u0,u1]++[])))
theorem hb337:BindAt (KK P) 337 x337 1 []:=fun S us h=>match us,h with
 |[u0],_=>(by kernel_rfl:(fnAt (KK P) 337).bind (fun fd=>peek (KK P) S (bindArgs fd ⟨[u0],[]⟩))=some ((x337.map nm).zip ([u0]++[])))
theorem hb345:BindAt (KK P) 345 x345 7 []:=fun S us h=>match us,h with
 |[u0,u1,u2,u3,u4,u5,u6],_=>(by kernel_rfl:(fnAt (KK P) 345).bind (fun fd=>peek (KK P) S (bindArgs fd ⟨[u0,u1,u2,u3,u4,u5,u6],[]⟩))=some ((x345.map nm).zip ([u0,u1,u2,u3,u4,u5,u6]++[])))
theorem hb352:BindAt (KK P) 352 x352 2 []:=fun S us h=>match us,h with
 |[u0,u1],_=>(by kernel_rfl:(fnAt (KK P) 352).bind (fun fd=>peek (KK P) S (bindArgs fd ⟨[u0,u1],[]⟩))=some ((x352.map nm).zip ([u0,u1]++[])))
theorem hb359:BindAt (KK P) 359 x359 3 []:=fun S us h=>match us,h with
 |[u0,u1,u2],_=>(by kernel_rfl:(fnAt (KK P) 359).bind (fun fd=>peek (KK P) S (bindArgs fd ⟨[u0,u1,u2],[]⟩))=some ((x359.map nm).zip ([u0,u1,u2]++[])))
theorem hb380:BindAt (KK P) 380 x380 3 []:=fun S us h=>match us,h with
 |[u0,u1,u2],_=>(by kernel_rfl:(fnAt (KK P) 380).bind (fun fd=>peek (KK P) S (bindArgs fd ⟨[u0,u1,u2],[]⟩))=some ((x380.map nm).zip ([u0,u1,u2]++[])))
theorem hb388:BindAt (KK P) 388 x388 2 []:=fun S us h=>match us,h with
 |[u0,u1],_=>(by kernel_rfl:(fnAt (KK P) 388).bind (fun fd=>peek (KK P) S (bindArgs fd ⟨[u0,u1],[]⟩))=some ((x388.map nm).zip ([u0,u1]++[])))
theorem hb42:BindAt (KK P) 42 x42 8 []:=fun S us h=>match us,h with
 |[u0,u1,u2,u3,u4,u5,u6,u7],_=>(by kernel_rfl:(fnAt (KK P) 42).bind (fun fd=>peek (KK P) S (bindArgs fd ⟨[u0,u1,u2,u3,u4,u5,u6,u7],[]⟩))=some ((x42.map nm).zip ([u0,u1,u2,u3,u4,u5,u6,u7]++[])))
theorem hb222:BindAt (KK P) 222 x222 2 [.none]:=fun S us h=>match us,h with
 |[u0,u1],_=>(by kernel_rfl:(fnAt (KK P) 222).bind (fun fd=>peek (KK P) S (bindArgs fd ⟨[u0,u1],[]⟩))=some ((x222.map nm).zip ([u0,u1]++[.none])))
theorem hb264:BindAt (KK P) 264 x264 6 []:=fun S us h=>match us,h with
 |[u0,u1,u2,u3,u4,u5],_=>(by kernel_rfl:(fnAt (KK P) 264).bind (fun fd=>peek (KK P) S (bindArgs fd ⟨[u0,u1,u2,u3,u4,u5],[]⟩))=some ((x264.map nm).zip ([u0,u1,u2,u3,u4,u5]++[])))
theorem hb271:BindAt (KK P) 271 x271 1 []:=fun S us h=>match us,h with
 |[u0],_=>(by kernel_rfl:(fnAt (KK P) 271).bind (fun fd=>peek (KK P) S (bindArgs fd ⟨[u0],[]⟩))=some ((x271.map nm).zip ([u0]++[])))
theorem hb279:BindAt (KK P) 279 x279 1 []:=fun S us h=>match us,h with
 |[u0],_=>(by kernel_rfl:(fnAt (KK P) 279).bind (fun fd=>peek (KK P) S (bindArgs fd ⟨[u0],[]⟩))=some ((x279.map nm).zip ([u0]++[])))
theorem hb562:BindAt (KK P) 562 x562 1 []:=fun S us h=>match us,h with
 |[u0],_=>(by kernel_rfl:(fnAt (KK P) 562).bind (fun fd=>peek (KK P) S (bindArgs fd ⟨[u0],[]⟩))=some ((x562.map nm).zip ([u0]++[])))
end
end
section
section
variable {W:Wd} {n:Nat} {ρ:Rho} {H:AH} {Q:AV→AH→Prop} {Qs:List AV→AH→Prop} {QS:Rho→AH→Prop} {R:AV→AH→Prop} {e a b c i lo hi:CE} {es:List CE}
theorem e_k {v}:wpE W n (.k v) ρ H Q=Q v H:=by rw[wpE]
theorem e_loc {x}:wpE W n (.loc x) ρ H Q=∃v,ρ.lookup x=some v∧Q v H:=by rw[wpE]
theorem e_attr {f}:wpE W n (.attr e f) ρ H Q=wpE W n e ρ H fun v H=>GetA W v f n H Q:=by rw[wpE]
theorem e_call {f}:wpE W n (.call f es) ρ H Q=wpEs W n es ρ H fun vs H=>CallF W f vs n H Q:=by rw[wpE]
theorem e_new {C}:wpE W n (.new C es) ρ H Q=wpEs W n es ρ H fun vs H=>NewC W C vs n H Q:=by rw[wpE]
theorem e_meth {m}:wpE W n (.meth e m es) ρ H Q=wpE W n e ρ H fun v H=>∃a f C dx fs g,v=.ref a∧H a=some (f,.inst C dx fs)∧mtab.lookup (C,m)=some g∧fs.lookup m=none ∧
   wpEs W n es ρ H fun vs H=>CallF W g (v::vs) n H Q:=by rw[wpE]
theorem e_bm {m}:wpE W n (.bm m e es) ρ H Q=wpE W n e ρ H fun v H=>BMRec m v H∧wpEs W n es ρ H fun vs H=>BMeth m v vs H Q:=by rw[wpE]
theorem e_bf {f}:wpE W n (.bf f es) ρ H Q=wpEs W n es ρ H fun vs H=>BFun f vs H Q:=by rw[wpE]
theorem e_bin {op}:wpE W n (.bin op a b) ρ H Q=wpE W n a ρ H fun x H=>wpE W n b ρ H fun y H=>BinR op x y H Q:=by rw[wpE]
theorem e_cmp {op}:wpE W n (.cmp op a b) ρ H Q=wpE W n a ρ H fun x H=>wpE W n b ρ H fun y H=>CmpR op x y H Q:=by rw[wpE]
theorem e_and:wpE W n (.and a b) ρ H Q=wpE W n a ρ H fun x H=>∃t,x=.bool t∧(t=false→Q (.bool false) H)∧(t=true→wpE W n b ρ H Q):=by rw[wpE]
theorem e_or:wpE W n (.or a b) ρ H Q=wpE W n a ρ H fun x H=>∃t,x=.bool t∧(t=true→Q (.bool true) H)∧(t=false→wpE W n b ρ H Q):=by rw[wpE]
theorem e_not:wpE W n (.not a) ρ H Q=wpE W n a ρ H fun x H=>∃t,x=.bool t∧Q (.bool (!t)) H:=by rw[wpE]
theorem e_neg:wpE W n (.neg a) ρ H Q=wpE W n a ρ H fun x H=>∃i,x=.int i∧Q (.int (-i)) H:=by rw[wpE]
theorem e_ite:wpE W n (.ite c a b) ρ H Q=wpE W n c ρ H fun x H=>∃t,x=.bool t∧(t=true→wpE W n a ρ H Q)∧(t=false→wpE W n b ρ H Q):=by rw[wpE]
theorem e_list:wpE W n (.list es) ρ H Q=wpEs W n es ρ H fun vs H=>vs.length≤cap∧∀r,H r=none→Q (.ref r) (H.set r (.list vs)):=by rw[wpE]
theorem e_tup:wpE W n (.tup es) ρ H Q=wpEs W n es ρ H fun vs H=>vs.length≤cap∧Q (.tup vs) H:=by rw[wpE]
theorem e_dS {ks}:wpE W n (.dS ks es) ρ H Q=wpEs W n es ρ H fun vs H=>ks.length=vs.length∧ks.length≤10∧∀r,H r=none→Q (.ref r) (H.set r (.dS ((ks.zip vs).foldl (fun es p=>putS es p.1 p.2) []))):=by rw[wpE]
theorem e_dI:wpE W n (.dI es) ρ H Q=wpEs W n es ρ H fun vs H=>∃ps:List (Int × AV),vs=ps.flatMap (fun p=>[AV.int p.1,p.2])∧ps.length≤10∧∀r,H r=none→Q (.ref r) (H.set r (.dI (ps.foldl (fun es p=>putS es p.1 p.2) []))):=by rw[wpE]
theorem e_sub:wpE W n (.sub a i) ρ H Q=wpE W n a ρ H fun x H=>wpE W n i ρ H fun y H=>GetI x y H Q:=by rw[wpE]
theorem e_slice:wpE W n (.slice a lo hi) ρ H Q=wpE W n a ρ H fun x H=>wpE W n lo ρ H fun l H=>wpE W n hi ρ H fun h H=>∃a f xs i j,x=.ref a∧H a=some (f,.list xs)∧xs.length≤cap ∧
   endI l=some i∧endI h=some j∧∀r,H r=none→Q (.ref r) (H.set r (.list (cut xs i j))):=by rw[wpE]
theorem e_rev:wpE W n (.rev a) ρ H Q=wpE W n a ρ H fun x H=>∃l f xs,x=.ref l∧H l=some (f,.list xs)∧xs.length≤cap∧∀r,H r=none→Q (.ref r) (H.set r (.list xs.reverse)):=by rw[wpE]
theorem es_nil:wpEs W n [] ρ H Qs=Qs [] H:=by rw[wpEs]
theorem es_cons:wpEs W n (e::es) ρ H Qs=wpE W n e ρ H fun v H=>wpEs W n es ρ H fun vs H=>Qs (v::vs) H:=by rw[wpEs]
theorem t_name {x v}:wpT W n (.name x) v ρ H QS=QS (put ρ x v) H:=rfl
theorem t_attr {f v}:wpT W n (.attr e f) v ρ H QS=wpE W n e ρ H fun o H=>SetA o f v H (QS ρ):=rfl
theorem t_sub {v}:wpT W n (.sub e i) v ρ H QS=wpE W n e ρ H fun o H=>wpE W n i ρ H fun k H=>SetI o k v H (QS ρ):=rfl
theorem t_cut {v}:wpT W n (.cut e lo hi) v ρ H QS=wpE W n e ρ H fun o H=>wpE W n lo ρ H fun l H=>wpE W n hi ρ H fun h H=>SetCut o l h v H (QS ρ):=rfl
theorem ts_nil:wpTs W n [] [] ρ H QS=QS ρ H:=by rw[wpTs]
theorem ts_cons {t ts v vs}:wpTs W n (t::ts) (v::vs) ρ H QS=wpT W n t v ρ H fun ρ H=>wpTs W n ts vs ρ H QS:=by rw[wpTs]
theorem s_assign {t}:wpS W n (.assign t e) ρ H QS R=wpE W n e ρ H fun v H=>wpT W n t v ρ H QS:=by rw[wpS]
theorem s_assignT {ts}:wpS W n (.assignT ts e) ρ H QS R=wpE W n e ρ H fun v H=>∃vs,v=.tup vs∧ts.length=vs.length∧wpTs W n ts vs ρ H QS:=by rw[wpS]
theorem s_aug {x op}:wpS W n (.aug x op e) ρ H QS R=∃i,ρ.lookup x=some (.int i)∧wpE W n e ρ H fun v H=>∃j,v=.int j∧QS (put ρ x (.int (augI op i j))) H:=by rw[wpS]
theorem s_expr:wpS W n (.expr e) ρ H QS R=wpE W n e ρ H fun _ H=>QS ρ H:=by rw[wpS]
theorem s_ite {x y}:wpS W n (.ite c x y) ρ H QS R=wpE W n c ρ H fun v H=>∃t,v=.bool t∧(t=true→wpB W n x ρ H QS R)∧(t=false→wpB W n y ρ H QS R):=by rw[wpS]
theorem s_ret0:wpS W n (.ret none) ρ H QS R=R .none H:=by rw[wpS]
theorem s_ret:wpS W n (.ret (some e)) ρ H QS R=wpE W n e ρ H R:=by rw[wpS]
theorem s_pass:wpS W n .pass ρ H QS R=QS ρ H:=by rw[wpS]
theorem b_nil:wpB W n [] ρ H QS R=QS ρ H:=by rw[wpB]
theorem b_cons {s ss}:wpB W n (s::ss) ρ H QS R=wpS W n s ρ H (fun ρ H=>wpB W n ss ρ H QS R) R:=by rw[wpB]
end
inductive Tr (α:Type) where
 |leaf (a:α) (w h x y p:Int)
 |node (a:α) (r:Bool) (w h x y:Int) (cs:List (Tr α))
abbrev L:=Tr (Addr × Addr)
def sPane:Str:=Str.ofString "pane"
def sRow:Str:=Str.ofString "row"
def sCol:Str:=Str.ofString "column"
def kd (r:Bool):Str:=if r then sRow else sCol
namespace Tr
variable {α β:Type}
def tag:Tr α→α
 |leaf a ..=>a
 |node a ..=>a
def kind:Tr α→Str
 |leaf ..=>sPane
 |node _ r ..=>kd r
def w:Tr α→Int
 |leaf _ w ..=>w
 |node _ _ w ..=>w
def h:Tr α→Int
 |leaf _ _ h ..=>h
 |node _ _ _ h ..=>h
def x:Tr α→Int
 |leaf _ _ _ x ..=>x
 |node _ _ _ _ x ..=>x
def y:Tr α→Int
 |leaf _ _ _ _ y ..=>y
 |node _ _ _ _ _ y ..=>y
def cs:Tr α→List (Tr α)
 |leaf ..=>[]
 |node _ _ _ _ _ _ cs=>cs
def pv:Tr α→AV
 |leaf _ _ _ _ _ p=>.int p
 |node ..=>.none
def isLeaf:Tr α→Bool
 |leaf ..=>true
 |node ..=>false
def side (d:Bool) (t:Tr α):Int:=if d then t.w else t.h
def setS (d:Bool) (s:Int):Tr α→Tr α
 |leaf a w h x y p=>if d then leaf a s h x y p else leaf a w s x y p
 |node a r w h x y cs=>if d then node a r s h x y cs else node a r w s x y cs
theorem setS_tag {d:Bool} {s:Int} {t:Tr α}:(setS d s t).tag=t.tag:=by cases t<;>cases d<;>rfl
theorem setS_cs {d:Bool} {s:Int} {t:Tr α}:(setS d s t).cs=t.cs:=by cases t<;>cases d<;>rfl
end Tr
def flds (k:Str) (w h x y:Int) (l:Addr) (pv:AV):List (Nat × AV):=[(0,.str k),(1,.int w),(2,.int h),(3,.int x),(4,.int y),(5,.ref l),(6,pv)]
def L.at (t:L):Addr:=t.tag.1
def L.ls (t:L):Addr:=t.tag.2
def Nd (f:Bool) (H:AH) (t:L):Prop:=
 (∃dx,H t.tag.1=some (f,.inst 45 dx (flds t.kind t.w t.h t.x t.y t.tag.2 t.pv)))∧H t.tag.2=some (f,.list (t.cs.map fun c=>.ref c.tag.1))
mutual
def LR (f:Bool) (H:AH):L→Prop
 |.leaf a w h x y p=>Nd f H (.leaf a w h x y p)
 |.node a r w h x y cs=>Nd f H (.node a r w h x y cs)∧LRs f H cs
def LRs (f:Bool) (H:AH):List L→Prop
 |[]=>True
 |c::cs=>LR f H c∧LRs f H cs
end
theorem LRs_iff {f:Bool} {H:AH}:∀{cs:List L},LRs f H cs↔∀c∈cs,LR f H c
 |[]=>by simp[LRs]
 |c::cs=>by simp[LRs,LRs_iff (cs:=cs)]
theorem LR_iff {f:Bool} {H:AH} {t:L}:LR f H t↔Nd f H t∧∀c∈t.cs,LR f H c:=by
 cases t with
 |leaf=>simp[LR,Tr.cs]
 |node=>simp[LR,Tr.cs,LRs_iff]
theorem LR.nd {f:Bool} {H:AH} {t:L} (h:LR f H t):Nd f H t:=(LR_iff.mp h).1
theorem LR.kid {f:Bool} {H:AH} {t c:L} (h:LR f H t) (hc:c∈t.cs):LR f H c:=(LR_iff.mp h).2 c hc
namespace Tr
variable {α β:Type}
mutual
def dep:Tr α→Nat
 |leaf ..=>0
 |node _ _ _ _ _ _ cs=>deps cs+1
def deps:List (Tr α)→Nat
 |[]=>0
 |c::cs=>max (dep c) (deps cs)
end
theorem dep_le_deps:∀{cs:List (Tr α)} {c:Tr α},c∈cs→c.dep≤deps cs
 |_::_,_,.head _=>by simp only[deps];omega
 |_::_,_,.tail _ h=>by have:=dep_le_deps h;simp only[deps];omega
theorem dep_kid {t c:Tr α} (h:c∈t.cs):c.dep<t.dep:=by
 cases t with
 |leaf=>cases h
 |node=>simp only[cs]at h;simp only[dep];have:=dep_le_deps h;omega
theorem rec' {P:Tr α→Prop} (step:∀t,(∀c∈t.cs,P c)→P t):∀t,P t:=by
 have:∀n (t:Tr α),t.dep≤n→P t:=by
  intro n
  induction n with
  |zero=>intro t ht;exact step t fun c hc=>absurd (dep_kid hc) (by omega)
  |succ n ih=>intro t ht;exact step t fun c hc=>ih c (by have:=dep_kid hc;omega)
 exact fun t=>this _ t (Nat.le_refl _)
end Tr
end
section
def no (o:AO):Prop:=∀b,o≠.own b
theorem no_list {vs}:no (.list vs):=fun _ h=>by cases h
theorem no_inst {C dx fs}:no (.inst C dx fs):=fun _ h=>by cases h
theorem no_dS {es}:no (.dS es):=fun _ h=>by cases h
theorem no_dI {es}:no (.dI es):=fun _ h=>by cases h
def Ex (X:List Addr) (H H':AH):Prop:=∀a f o,no o→H a=some (f,o)→a∉X→H' a=some (f,o)
abbrev Sb (H H':AH):Prop:=Ex [] H H'
theorem Ex.refl {X:List Addr} {H:AH}:Ex X H H:=fun _ _ _ _ e _=>e
theorem Ex.trans {X:List Addr} {H H' H'':AH} (x:Ex X H H') (y:Ex X H' H''):Ex X H H'':=fun a f o n e h=>y a f o n (x a f o n e h) h
theorem Ex.mono {X Y:List Addr} {H H':AH} (x:Ex X H H') (h:∀a∈X,a∈Y):Ex Y H H':=fun a f o n e z=>x a f o n e fun q=>z (h a q)
theorem Sb.ex {X:List Addr} {H H':AH} (x:Sb H H'):Ex X H H':=x.mono fun _ h=>by cases h
theorem Ex.list {X:List Addr} {H H':AH} (x:Ex X H H') {a:Addr} {f:Bool} {vs:List AV} (e:H a=some (f,.list vs)) (h:a∉X):H' a=some (f,.list vs):=x a f _ no_list e h
theorem Ex.inst {X:List Addr} {H H':AH} (x:Ex X H H') {a:Addr} {f:Bool} {C dx:Addr} {fs:List (Nat × AV)} (e:H a=some (f,.inst C dx fs)) (h:a∉X):H' a=some (f,.inst C dx fs):=x a f _ no_inst e h
theorem Ex.dS {X:List Addr} {H H':AH} (x:Ex X H H') {a:Addr} {f:Bool} {es:List (Str × AV)} (e:H a=some (f,.dS es)) (h:a∉X):H' a=some (f,.dS es):=x a f _ no_dS e h
theorem Ex.dI {X:List Addr} {H H':AH} (x:Ex X H H') {a:Addr} {f:Bool} {es:List (Int × AV)} (e:H a=some (f,.dI es)) (h:a∉X):H' a=some (f,.dI es):=x a f _ no_dI e h
theorem Sb.list {H H':AH} (x:Sb H H') {a:Addr} {f:Bool} {vs:List AV} (e:H a=some (f,.list vs)):H' a=some (f,.list vs):=Ex.list x e (by simp)
theorem Sb.inst {H H':AH} (x:Sb H H') {a:Addr} {f:Bool} {C dx:Addr} {fs:List (Nat × AV)} (e:H a=some (f,.inst C dx fs)):H' a=some (f,.inst C dx fs):=Ex.inst x e (by simp)
theorem Sb.dS {H H':AH} (x:Sb H H') {a:Addr} {f:Bool} {es:List (Str × AV)} (e:H a=some (f,.dS es)):H' a=some (f,.dS es):=Ex.dS x e (by simp)
theorem Sb.dI {H H':AH} (x:Sb H H') {a:Addr} {f:Bool} {es:List (Int × AV)} (e:H a=some (f,.dI es)):H' a=some (f,.dI es):=Ex.dI x e (by simp)
theorem Sb.new {H:AH} {r:Addr} {o:AO} (h:H r=none):Sb H (H.set r o):=fun a f o' n e _=>by
 rw[AH.set_ne _ _ (fun z=>by rw[z,h]at e;cases e)];exact e
theorem Ex.put {H:AH} {r:Addr} {o:AO}:Ex [r] H (H.set r o):=fun a f o' n e z=>by
 rw[AH.set_ne _ _ (fun q=>z (by rw[q];simp))];exact e
theorem AH.set_set (H:AH) (a:Addr) (o o':AO):(H.set a o).set a o'=H.set a o':=by
 funext b;unfold AH.set;split<;>rfl
theorem ne_of_none {H:AH} {a r:Addr} {p:Bool × AO} (h:H r=none) (e:H a=some p):a≠r:=fun z=>by rw[z,h]at e;cases e
mutual
def ads:L→List Addr
 |.leaf a ..=>[a.1,a.2]
 |.node a _ _ _ _ _ cs=>a.1::a.2::adss cs
def adss:List L→List Addr
 |[]=>[]
 |c::cs=>ads c++adss cs
end
theorem adss_flat:∀{cs:List L},adss cs=cs.flatMap ads
 |[]=>by simp[adss]
 |c::cs=>by simp[adss,adss_flat (cs:=cs)]
theorem ads_eq (t:L):ads t=t.tag.1::t.tag.2::t.cs.flatMap ads:=by
 cases t with
 |leaf=>simp[ads,Tr.tag,Tr.cs]
 |node=>simp[ads,Tr.tag,Tr.cs,adss_flat]
theorem at_mem (t:L):t.tag.1∈ads t:=by rw[ads_eq];simp
theorem ls_mem (t:L):t.tag.2∈ads t:=by rw[ads_eq];simp
theorem kid_mem {t c:L} (hc:c∈t.cs) {a:Addr} (h:a∈ads c):a∈ads t:=by
 rw[ads_eq];exact .tail _ (.tail _ (List.mem_flatMap.mpr ⟨c,hc,h⟩))
theorem Nd.ex {X:List Addr} {f:Bool} {H H':AH} {t:L} (k:Ex X H H') (h:t.tag.1∉X) (h':t.tag.2∉X) (x:Nd f H t):Nd f H' t:=
 let ⟨⟨dx,e⟩,l⟩:=x
 ⟨⟨dx,k.inst e h⟩,k.list l h'⟩
theorem LR.ex {X:List Addr} {f:Bool} {H H':AH} (k:Ex X H H'):∀{t:L},(∀a∈ads t,a∉X)→LR f H t→LR f H' t:=by
 intro t
 induction t using Tr.rec' with
 |step t ih=>
  intro h x
  exact LR_iff.mpr ⟨x.nd.ex k (h _ (at_mem t)) (h _ (ls_mem t)),fun c hc=>ih c hc (fun a ha=>h a (kid_mem hc ha)) (x.kid hc)⟩
theorem LR.sb {f:Bool} {H H':AH} (k:Sb H H') {t:L} (x:LR f H t):LR f H' t:=x.ex k fun _ _=>by simp
theorem LR.le {H H':AH} (k:Le H H'):∀{t:L},LR true H t→LR true H' t:=by
 intro t
 induction t using Tr.rec' with
 |step t ih=>
  intro x
  obtain⟨⟨⟨dx,e⟩,l⟩,_⟩:=LR_iff.mp x
  exact LR_iff.mpr ⟨⟨⟨dx,k _ _ e⟩,k _ _ l⟩,fun c hc=>ih c hc (x.kid hc)⟩
theorem LR.some {f:Bool} {H:AH}:∀{t:L},LR f H t→∀a∈ads t,∃o,H a=some (f,o)∧no o∧o≠.opq:=by
 intro t
 induction t using Tr.rec' with
 |step t ih=>
  intro x a ha
  obtain⟨⟨dx,e⟩,l⟩:=x.nd
  rw[ads_eq]at ha
  rcases List.mem_cons.mp ha with rfl|ha
  ·exact⟨_,e,no_inst,fun z=>by cases z⟩
  ·rcases List.mem_cons.mp ha with rfl|ha
   ·exact⟨_,l,no_list,fun z=>by cases z⟩
   ·obtain⟨c,hc,ha⟩:=List.mem_flatMap.mp ha
    exact ih c hc (x.kid hc) a ha
section
variable {W:Wd} {n:Nat} {H:AH} {Q:AV→AH→Prop} {QS:AH→Prop}
theorem g_attr {a:Addr} {b:Bool} {C dx:Addr} {fs:List (Nat × AV)} {f:Nat} {u:AV} (e:H a=some (b,.inst C dx fs)) (hf:isField C f=true) (hl:fs.lookup f=some u) (hp:ptab.lookup (C,f)=none):GetA W (.ref a) f n H Q=Q u H:=by
 refine propext ⟨fun h=>?_,fun q=>⟨a,b,C,dx,fs,rfl,e,.inl ⟨hf,u,hl,q⟩⟩⟩
 obtain⟨a',b',C',dx',fs',h1,h2,h3⟩:=h
 cases h1
 rw[e]at h2;cases h2
 rcases h3 with⟨_,u',h4,h5⟩|⟨g,m,h4,_⟩
 ·rw[hl]at h4;cases h4;exact h5
 ·rw[hp]at h4;cases h4
theorem s_attr {a:Addr} {C dx:Addr} {fs:List (Nat × AV)} {f:Nat} {u:AV} (e:H a=some (false,.inst C dx fs)) (hf:isField C f=true) (hl:fs.length≤100):SetA (.ref a) f u H QS=QS (H.set a (.inst C dx (put fs f u))):=by
 refine propext ⟨fun h=>?_,fun q=>⟨a,C,dx,fs,rfl,e,hf,hl,q⟩⟩
 obtain⟨a',C',dx',fs',h1,h2,h3,h4,h5⟩:=h
 cases h1
 rw[e]at h2;cases h2
 exact h5
section
variable {a:Addr} {b:Bool} {dx:Addr} {k:Str} {w h x y:Int} {l:Addr} {pv:AV} (e:H a=some (b,.inst 45 dx (flds k w h x y l pv)))
include e
theorem gk:GetA W (.ref a) 0 n H Q=Q (.str k) H:=g_attr e (by decide) rfl (by decide)
theorem gw:GetA W (.ref a) 1 n H Q=Q (.int w) H:=g_attr e (by decide) rfl (by decide)
theorem gh:GetA W (.ref a) 2 n H Q=Q (.int h) H:=g_attr e (by decide) rfl (by decide)
theorem gx:GetA W (.ref a) 3 n H Q=Q (.int x) H:=g_attr e (by decide) rfl (by decide)
theorem gy:GetA W (.ref a) 4 n H Q=Q (.int y) H:=g_attr e (by decide) rfl (by decide)
theorem gl:GetA W (.ref a) 5 n H Q=Q (.ref l) H:=g_attr e (by decide) rfl (by decide)
theorem gp:GetA W (.ref a) 6 n H Q=Q pv H:=g_attr e (by decide) rfl (by decide)
end
section
variable {a:Addr} {dx:Addr} {k:Str} {w h x y:Int} {l:Addr} {pv u:AV} {i:Int} {r:Addr} (e:H a=some (false,.inst 45 dx (flds k w h x y l pv)))
include e
theorem pw:SetA (.ref a) 1 (.int i) H QS=QS (H.set a (.inst 45 dx (flds k i h x y l pv))):=s_attr e (by decide) (by simp[flds])
theorem ph:SetA (.ref a) 2 (.int i) H QS=QS (H.set a (.inst 45 dx (flds k w i x y l pv))):=s_attr e (by decide) (by simp[flds])
theorem px:SetA (.ref a) 3 (.int i) H QS=QS (H.set a (.inst 45 dx (flds k w h i y l pv))):=s_attr e (by decide) (by simp[flds])
theorem py:SetA (.ref a) 4 (.int i) H QS=QS (H.set a (.inst 45 dx (flds k w h x i l pv))):=s_attr e (by decide) (by simp[flds])
theorem pl:SetA (.ref a) 5 (.ref r) H QS=QS (H.set a (.inst 45 dx (flds k w h x y r pv))):=s_attr e (by decide) (by simp[flds])
theorem pp:SetA (.ref a) 6 u H QS=QS (H.set a (.inst 45 dx (flds k w h x y l u))):=s_attr e (by decide) (by simp[flds])
end
variable {ρ:Rho}
def CompR (W:Wd) (n:Nat) (elt cond:CE) (x:Nat) (ρ:Rho) (v:AV) (H:AH) (Q:AV→AH→Prop):Prop:=
 AI.ok1 (.seq v)∧∃(I:Nat→List AV→AH→Prop) (N:Nat),N≤cap∧I 0 [] H∧∀i out H,I i out H→i≤N∧out.length≤i ∧
   ∃o,nextI H (.seq v) i=some o∧match o with
    |none=>∀r,H r=none→Q (.ref r) (H.set r (.list out))
    |some u=>wpE W n cond ((x,u)::ρ) H fun y H=>∃t,y=.bool t∧(t=true→wpE W n elt ((x,u)::ρ) H fun y H=>I (i+1) (out++[y]) H)∧(t=false→I (i+1) out H)
theorem e_comp {elt src cond:CE} {x:Nat}:wpE W n (.comp elt x src cond) ρ H Q=wpE W n src ρ H fun v H=>CompR W n elt cond x ρ v H Q:=by rw[wpE];rfl
theorem comp_if {elt cond:CE} {x:Nat} {v:AV} {xs:List AV} (hc:AI.ok1 (.seq v)) (hx:xs.length≤cap) (J:List AV→List AV→AH→Prop) (h0:J [] [] H) (hl:∀pre out H,J pre out H→curI H v=some xs∧out.length≤pre.length)
  (step:∀pre u suf out H,xs=pre++u::suf→J pre out H→wpE W n cond ((x,u)::ρ) H fun y H=>∃t,y=.bool t∧(t=true→wpE W n elt ((x,u)::ρ) H fun y H=>J (pre++[u]) (out++[y]) H)∧(t=false→J (pre++[u]) out H))
  (fin:∀out H,J xs out H→∀r,H r=none→Q (.ref r) (H.set r (.list out))):CompR W n elt cond x ρ v H Q:=by
 refine⟨hc,fun i out H=>i≤xs.length∧J (xs.take i) out H,xs.length,hx,⟨Nat.zero_le _,by simpa using h0⟩,fun i out H hI=>?_⟩
 obtain⟨hi,hJ⟩:=hI
 obtain⟨e,hlen⟩:=hl _ _ _ hJ
 rw[List.length_take,Nat.min_eq_left hi]at hlen
 refine⟨hi,hlen,xs[i]?,by simp[nextI,e],?_⟩
 cases hu:xs[i]? with
 |none=>
  have:i=xs.length:=Nat.le_antisymm hi (by simpa using hu)
  rw[this,List.take_length]at hJ
  exact fin out H hJ
 |some u=>
  have hlt:i<xs.length:=by
   have:=List.getElem?_eq_some_iff.mp hu
   exact this.1
  have hd:xs=xs.take i++u::xs.drop (i+1):=by
   have:=List.getElem?_eq_some_iff.mp hu
   rw[←this.2,List.getElem_cons_drop,List.take_append_drop]
  have ht:xs.take (i+1)=xs.take i++[u]:=by
   rw[List.take_add_one,hu];rfl
  simp only[ht]
  have:=step _ _ _ out H hd hJ
  have e2:∀out H,(i+1≤xs.length∧J (xs.take i++[u]) out H)=J (xs.take i++[u]) out H:=fun out H=>propext ⟨fun h=>h.2,fun h=>⟨hlt,h⟩⟩
  simp only[e2]
  exact this
theorem comp_all {elt:CE} {x:Nat} {v:AV} {xs:List AV} (hc:AI.ok1 (.seq v)) (hx:xs.length≤cap) (J:List AV→List AV→AH→Prop) (h0:J [] [] H) (hl:∀pre out H,J pre out H→curI H v=some xs∧out.length≤pre.length)
  (step:∀pre u suf out H,xs=pre++u::suf→J pre out H→wpE W n elt ((x,u)::ρ) H fun y H=>J (pre++[u]) (out++[y]) H)
  (fin:∀out H,J xs out H→∀r,H r=none→Q (.ref r) (H.set r (.list out))):CompR W n elt (.k (.bool true)) x ρ v H Q:=
 comp_if hc hx J h0 hl (fun pre u suf out H e hJ=>by rw[e_k];exact⟨true,rfl,fun _=>step pre u suf out H e hJ,fun z=>by cases z⟩) fin
theorem comp_map {elt:CE} {x:Nat} {v:AV} {xs:List AV} {F:AV→AV} (hc:AI.ok1 (.seq v)) (hx:xs.length≤cap) (hl:curI H v=some xs)
  (step:∀u∈xs,∀Q':AV→AH→Prop,Q' (F u) H→wpE W n elt ((x,u)::ρ) H Q')
  (fin:∀r,H r=none→Q (.ref r) (H.set r (.list (xs.map F)))):CompR W n elt (.k (.bool true)) x ρ v H Q:=
 comp_all hc hx (fun pre out H'=>H'=H∧out=pre.map F) ⟨rfl,rfl⟩ (fun pre out H' h=>⟨by rw[h.1];exact hl,by rw[h.2,List.length_map];exact Nat.le_refl _⟩)
  (fun pre u suf out H' e h=>by obtain⟨rfl,rfl⟩:=h;exact step u (by rw[e];simp) _ ⟨rfl,by simp⟩) fun out H' h r hr=>by obtain⟨rfl,rfl⟩:=h;exact fin r hr
def For1R (W:Wd) (n:Nat) (x:Nat) (b:List CS) (ρ:Rho) (ai:AI) (H:AH) (Q:Rho→AH→Prop) (R:AV→AH→Prop):Prop:=
 ai.ok1∧∃(I:Nat→Rho→AH→Prop) (N:Nat),I 0 ρ H∧∀i ρ H,I i ρ H→i≤N∧∃o,nextI H ai i=some o∧match o with
   |none=>Q ρ (outI ai H)
   |some v=>wpB W n b (put ρ x v) H (I (i+1)) R
def ForTR (W:Wd) (n:Nat) (xs:List Nat) (b:List CS) (ρ:Rho) (ai:AI) (H:AH) (Q:Rho→AH→Prop) (R:AV→AH→Prop):Prop:=
 ai.okT∧∃(I:Nat→Rho→AH→Prop) (N:Nat),I 0 ρ H∧∀i ρ H,I i ρ H→i≤N∧∃o,nextI H ai i=some o∧match o with
   |none=>Q ρ (outI ai H)
   |some v=>∃vs ρ',v=.tup vs∧putAll ρ xs vs=some ρ'∧wpB W n b ρ' H (I (i+1)) R
variable {QS:Rho→AH→Prop} {R:AV→AH→Prop}
theorem s_for1 {x s b}:wpS W n (.for1 x s b) ρ H QS R=wpSr W n s ρ H fun ai H=>For1R W n x b ρ ai H QS R:=by rw[wpS];rfl
theorem s_forT {xs s b}:wpS W n (.forT xs s b) ρ H QS R=wpSr W n s ρ H fun ai H=>ForTR W n xs b ρ ai H QS R:=by rw[wpS];rfl
theorem sr_one_eq {e:CE} {Q:AI→AH→Prop}:wpSr W n (.one e) ρ H Q=wpE W n e ρ H fun v H=>Q (.seq v) H:=by rw[wpSr]
theorem sr_enum_eq {e:CE} {Q:AI→AH→Prop}:wpSr W n (.enum e) ρ H Q=wpE W n e ρ H fun v H=>Q (.enum v) H:=by rw[wpSr]
theorem sr_zip_eq {a b:CE} {Q:AI→AH→Prop}:wpSr W n (.zip a b) ρ H Q=wpE W n a ρ H fun v H=>wpE W n b ρ H fun u H=>∀r,H r=none→Q (.zip v u r) (H.set r .opq):=by rw[wpSr]
theorem sr_range_eq {e:CE} {Q:AI→AH→Prop}:wpSr W n (.range e) ρ H Q=wpE W n e ρ H fun v H=>∃i,v=.int i∧Q (.range i) H:=by rw[wpSr]
theorem for_list {x:Nat} {b:List CS} {v:AV} {xs:List AV} (hc:AI.ok1 (.seq v)) (J:List AV→Rho→AH→Prop) (h0:J [] ρ H) (hl:∀pre ρ H,J pre ρ H→curI H v=some xs)
  (step:∀pre u suf ρ H,xs=pre++u::suf→J pre ρ H→wpB W n b (put ρ x u) H (J (pre++[u])) R) (fin:∀ρ H,J xs ρ H→QS ρ H):For1R W n x b ρ (.seq v) H QS R:=by
 refine⟨hc,fun i ρ H=>J (xs.take i) ρ H∧i≤xs.length,xs.length,⟨by simpa using h0,Nat.zero_le _⟩,fun i ρ H hI=>?_⟩
 obtain⟨hJ,hi⟩:=hI
 have e:=hl _ _ _ hJ
 refine⟨hi,xs[i]?,by simp[nextI,e],?_⟩
 cases hu:xs[i]? with
 |none=>
  have:i=xs.length:=Nat.le_antisymm hi (by simpa using hu)
  rw[this,List.take_length]at hJ
  exact fin ρ H hJ
 |some u=>
  have hlt:i<xs.length:=(List.getElem?_eq_some_iff.mp hu).1
  have hd:xs=xs.take i++u::xs.drop (i+1):=by
   have:=List.getElem?_eq_some_iff.mp hu
   rw[←this.2,List.getElem_cons_drop,List.take_append_drop]
  have ht:xs.take (i+1)=xs.take i++[u]:=by rw[List.take_add_one,hu];rfl
  have:=step _ _ _ ρ H hd hJ
  have e2:(fun ρ H=>J (xs.take (i+1)) ρ H∧i+1≤xs.length)=J (xs.take i++[u]):=by
   funext ρ H;rw[ht];exact propext ⟨fun h=>h.1,fun h=>⟨h,hlt⟩⟩
  show wpB W n b (put ρ x u) H (fun ρ H=>J (xs.take (i+1)) ρ H∧i+1≤xs.length) R
  rw[e2]
  exact this
def WhR (W:Wd) (n:Nat) (c:CE) (b:List CS) (ρ:Rho) (H:AH) (Q:Rho→AH→Prop) (R:AV→AH→Prop):Prop:=
 ∃(I:Nat→Rho→AH→Prop) (m:Nat),I m ρ H∧∀m ρ H,I m ρ H→wpE W n c ρ H fun v H=>∃t,v=.bool t∧(t=false→Q ρ H) ∧
   (t=true→wpB W n b ρ H (fun ρ H=>∃m',m'<m∧I m' ρ H) R)
theorem s_wh {c b}:wpS W n (.wh c b) ρ H QS R=WhR W n c b ρ H QS R:=by rw[wpS];rfl
end
end
end Mine
namespace Mine
local macro_rules | `(tactic| walk_at "wp") => `(tactic| simp only [e_k, e_loc, e_attr, e_call, e_new, e_meth, e_bm, e_bf, e_bin, e_cmp, e_and, e_or, e_not, e_neg, e_ite, e_list, e_tup, e_dS, e_dI, e_sub, e_slice, e_rev, e_comp, es_nil, es_cons, t_name, t_attr, t_sub, t_cut, ts_nil, ts_cons,
  s_assign, s_assignT, s_aug, s_expr, s_ite, s_ret0, s_ret, s_pass, s_for1, s_forT, s_wh, sr_one_eq, sr_enum_eq, sr_zip_eq, sr_range_eq, b_nil, b_cons, List.lookup_cons, List.zip_cons_cons, List.zip_nil_left, List.zip_nil_right, List.append_nil, List.nil_append, List.cons_append, put, Option.some.injEq, exists_eq_left', exists_eq_left, Nat.reduceBEq, Nat.reduceEqDiff, if_true, if_false, reduceIte, AV.bool.injEq, AV.int.injEq, AV.ref.injEq, AV.str.injEq, AV.tup.injEq, forall_eq', and_true, true_and, CmpR, aeq, feq])
section
theorem lk_put {ρ:Rho} {x z:Nat} {v:AV}:(put ρ x v).lookup z=if z=x then some v else ρ.lookup z:=by
 by_cases h:z=x
 ·rw[h,put_eq,if_pos rfl]
 ·rw[put_ne ρ v h,if_neg h]
abbrev GD (W:Wd):=Gd W (KK W.w.params)
theorem pos_of {k m:Nat} (h:k+1≤m):∃j,m=j+1∧k≤j:=⟨m-1,by omega,by omega⟩
section
variable {W:Wd} {m:Nat} {H:AH} {Q:AV→AH→Prop}
theorem c87 (G:GD W) {d:Bool} (hm:1≤m) (q:Q (.str (kd d)) H):CallF W 87 [.bool d] m H Q:=by
 obtain⟨n,rfl,_⟩:=pos_of hm
 refine enter G (f87 _) (hb87 _) (ws:=[]) (fun h _=>by simp only[VRs]) rfl ?_
 unfold b87 x87
 walk_at "wp"
 cases d<;>simpa[kd,sRow,sCol]using q
theorem c94 (G:GD W) {d f:Bool} {t:L} (hm:1≤m) (ht:Nd f H t) (q:Q (.int (t.side d)) H):CallF W 94 [.ref t.tag.1,.bool d] m H Q:=by
 obtain⟨n,rfl,_⟩:=pos_of hm
 obtain⟨⟨dx,e⟩,_⟩:=ht
 refine enter G (f94 _) (hb94 _) (ws:=[]) (fun h _=>by simp only[VRs]) rfl ?_
 unfold b94 x94
 walk_at "wp"
 simp only[gw e,gh e]
 cases d<;>simpa[Tr.side]using q
theorem c101 (G:GD W) {d:Bool} {s:Int} {t:L} (hm:1≤m) (ht:Nd false H t) (q:∀H',Ex [t.tag.1] H H'→Nd false H' (Tr.setS d s t)→Q .none H'):CallF W 101 [.ref t.tag.1,.bool d,.int s] m H Q:=by
 obtain⟨n,rfl,_⟩:=pos_of hm
 obtain⟨⟨dx,e⟩,l⟩:=ht
 have hl:t.tag.2≠t.tag.1:=fun z=>by rw[z,e]at l;cases l
 refine enter G (f101 _) (hb101 _) (ws:=[]) (fun h _=>by simp only[VRs]) rfl ?_
 unfold b101 x101
 walk_at "wp"
 simp only[pw e,ph e]
 refine⟨fun hd=>q _ .put ⟨⟨dx,?_⟩,?_⟩,fun hd=>q _ .put ⟨⟨dx,?_⟩,?_⟩⟩
 ·rw[Tr.setS_tag,AH.set_same];cases t<;>(subst hd;rfl)
 ·rw[Tr.setS_tag,Tr.setS_cs,AH.set_ne _ _ hl];exact l
 ·rw[Tr.setS_tag,AH.set_same];cases t<;>(subst hd;rfl)
 ·rw[Tr.setS_tag,Tr.setS_cs,AH.set_ne _ _ hl];exact l
theorem newCell (G:GD W) {k:Str} {w h x y:Int} {l:Addr} {pv:AV} (hm:2≤m) (q:∀a H',H a=none→Sb H H'→(∃dx,H' a=some (false,.inst 45 dx (flds k w h x y l pv)))→Q (.ref a) H') :
  NewC W 45 [.str k,.int w,.int h,.int x,.int y,.ref l,pv] m H Q:=by
 obtain⟨n,rfl,hn⟩:=pos_of hm
 obtain⟨n,rfl,_⟩:=pos_of hn
 refine⟨42,n+1,rfl,rfl,fun a dx ha hd hne=>?_⟩
 refine enter G (f42 _) (hb42 _) (ws:=[]) (fun h _=>by simp only[VRs]) rfl ?_
 unfold b42 x42
 walk_at "wp"
 have e0:((H.set dx (.own a)).set a (.inst 45 dx [])) a=some (false,.inst 45 dx []):=AH.set_same _ _ _
 have st:∀{H:AH} {fs:List (Nat × AV)} {f:Nat} {u:AV} {QS:AH→Prop},H a=some (false,.inst 45 dx fs)→isField 45 f=true→fs.length≤100→QS (H.set a (.inst 45 dx (put fs f u)))→SetA (.ref a) f u H QS:=fun e hf hl q=>by
  rw[s_attr e hf hl];exact q
 refine st e0 (by decide) (by simp) (st (AH.set_same _ _ _) (by decide) (by simp[put]) (st (AH.set_same _ _ _) (by decide) (by simp[put]) (st (AH.set_same _ _ _) (by decide) (by simp[put]) (st (AH.set_same _ _ _) (by decide) (by simp[put]) (st (AH.set_same _ _ _) (by decide) (by simp[put]) (st (AH.set_same _ _ _) (by decide) (by simp[put]) ?_))))))
 simp only[AH.set_set]
 refine q a _ ha (fun b f o n e _=>?_) ⟨dx,AH.set_same _ _ _⟩
 rw[AH.set_ne _ _ (ne_of_none ha e),AH.set_ne _ _ (ne_of_none hd e)];exact e
def fz (as:List Addr) (H:AH):AH:=frz (fun b=>match H b with|some (_,.own a)=>decide (a∈as)|_=>decide (b∈as)) H
theorem CallF.fz {f:Addr} {vs:List AV} {n:Nat} (h:CallF W f vs n H fun v H'=>∃as:List Addr,Q v (fz as H')):CallF W f vs n H Q:=fun A s us R hr S V Pq=>
 h A s us R hr S V fun v u s' H' x a q=>by
  obtain⟨as,q⟩:=q
  refine Pq v u s' _ (VR.keep (fun a us n e z=>⟨e,frz_none z⟩) v u x) (a.trans (Aft.frz a.st fun b f C dx fs e=>?_)) q
  rw[e,a.st.fl _ _ _ _ _ e]
theorem fz_no {as:List Addr} {H:AH} {b:Addr} {f:Bool} {o:AO} (hn:no o) (h:H b=some (f,o)):fz as H b=some (decide (b∈as)||f,o):=by
 unfold Mine.fz
 rw[frz_some h,h]
 cases o<;>first|rfl|exact absurd rfl (hn _)
theorem fz_in {as:List Addr} {H:AH} {b:Addr} {f:Bool} {o:AO} (hn:no o) (h:H b=some (f,o)) (hb:b∈as):fz as H b=some (true,o):=by
 rw[fz_no hn h];simp[hb]
theorem fz_out {as:List Addr} {H:AH} {b:Addr} {f:Bool} {o:AO} (hn:no o) (h:H b=some (f,o)) (hb:b∉as):fz as H b=some (f,o):=by
 rw[fz_no hn h];simp[hb]
theorem fz_ex {X as:List Addr} {H H':AH} (k:Ex X H H') (hf:∀a∈as,H a=none):Ex X H (fz as H'):=fun a f o n e h=>
 fz_out n (k a f o n e h) fun z=>by rw[hf a z]at e;cases e
theorem fz_none {as:List Addr} {H:AH} {b:Addr}:fz as H b=none↔H b=none:=frz_none_iff
theorem LR.fz {as:List Addr} {H:AH}:∀{t:L},(∀a∈ads t,a∈as)→LR false H t→LR true (fz as H) t:=by
 intro t
 induction t using Tr.rec' with
 |step t ih=>
  intro h x
  obtain⟨⟨dx,e⟩,l⟩:=x.nd
  exact LR_iff.mpr ⟨⟨⟨dx,fz_in no_inst e (h _ (at_mem t))⟩,fz_in no_list l (h _ (ls_mem t))⟩,fun c hc=>ih c hc (fun a ha=>h a (kid_mem hc ha)) (x.kid hc)⟩
namespace Tr
variable {α β:Type}
mutual
def map (g:α→β):Tr α→Tr β
 |.leaf a w h x y p=>.leaf (g a) w h x y p
 |.node a r w h x y cs=>.node (g a) r w h x y (maps g cs)
def maps (g:α→β):List (Tr α)→List (Tr β)
 |[]=>[]
 |c::cs=>map g c::maps g cs
end
theorem maps_eq {g:α→β}:∀{cs:List (Tr α)},maps g cs=cs.map (map g)
 |[]=>rfl
 |c::cs=>by simp[maps,maps_eq (cs:=cs)]
def leavesN:Nat→Tr α→List (Tr α)
 |_,.leaf a w h x y p=>[.leaf a w h x y p]
 |0,_=>[]
 |n+1,.node _ _ _ _ _ _ cs=>cs.flatMap (leavesN n)
mutual
def leaves:Tr α→List (Tr α)
 |.leaf a w h x y p=>[.leaf a w h x y p]
 |.node _ _ _ _ _ _ cs=>leavess cs
def leavess:List (Tr α)→List (Tr α)
 |[]=>[]
 |c::cs=>leaves c++leavess cs
end
theorem leavess_eq:∀{cs:List (Tr α)},leavess cs=cs.flatMap leaves
 |[]=>by simp[leavess]
 |c::cs=>by simp[leavess,leavess_eq (cs:=cs)]
def pane:Tr α→Int
 |.leaf _ _ _ _ _ p=>p
 |.node ..=>0
def panes (t:Tr α):List Int:=t.leaves.map pane
end Tr
abbrev T:=Tr Unit
def er (t:L):T:=t.map fun _=>()
theorem c56 (G:GD W) {p w h:Int} (hm:3≤m) (q:∀a l H',H a=none→H l=none→Sb H H'→LR true H' (.leaf (a,l) w h 0 0 p)→Q (.ref a) H'):CallF W 56 [.int p,.int w,.int h] m H Q:=by
 obtain⟨n,rfl,hn⟩:=pos_of hm
 refine CallF.fz (enter G (f56 _) (hb56 _) (ws:=[]) (fun h _=>by simp only[VRs]) rfl ?_)
 unfold b56 x56
 walk_at "wp"
 refine⟨by decide,fun l hl=>newCell G hn fun a H' ha hs ⟨dx,e⟩=>⟨[a,l],?_⟩⟩
 have el:H' l=some (false,.list []):=hs.list (AH.set_same _ _ _)
 have hal:l≠a:=ne_of_none ha (AH.set_same _ _ _)
 have haH:H a=none:=by rw[AH.set_ne _ _ (Ne.symm hal)]at ha;exact ha
 refine q a l _ haH hl (fz_ex ((Sb.new hl).trans hs) fun b hb=>?_) (LR.fz (t:=.leaf (a,l) w h 0 0 p) (fun b hb=>hb) (LR_iff.mpr ⟨⟨⟨dx,e⟩,el⟩,fun c hc=>by cases hc⟩))
 rcases List.mem_cons.mp hb with rfl|hb
 ·exact haH
 ·obtain rfl:=List.mem_singleton.mp hb;exact hl
end
end
end Mine
namespace Mine
local macro_rules | `(tactic| walk_at "wp") => `(tactic| simp only [e_k, e_loc, e_attr, e_call, e_new, e_meth, e_bm, e_bf, e_bin, e_cmp, e_and, e_or, e_not, e_neg, e_ite, e_list, e_tup, e_dS, e_dI, e_sub, e_slice, e_rev, e_comp, es_nil, es_cons, t_name, t_attr, t_sub, t_cut, ts_nil, ts_cons,
  s_assign, s_assignT, s_aug, s_expr, s_ite, s_ret0, s_ret, s_pass, s_for1, s_forT, s_wh, sr_one_eq, sr_enum_eq, sr_zip_eq, sr_range_eq, b_nil, b_cons, List.lookup_cons, List.zip_cons_cons, List.zip_nil_left, List.zip_nil_right, List.append_nil, List.nil_append, List.cons_append, lk_put, put, Option.some.injEq, exists_eq_left', exists_eq_left, Nat.reduceBEq, Nat.reduceEqDiff, if_true, if_false, reduceIte, AV.bool.injEq, AV.int.injEq, AV.ref.injEq, AV.str.injEq, AV.tup.injEq, forall_eq', and_true, true_and, CmpR, aeq, feq, List.length_cons, List.length_nil, Nat.reduceAdd])
section
theorem kd_ne (r:Bool):kd r≠sPane:=by cases r<;>decide
theorem sPane_eq:Str.ofString "pane"=sPane:=rfl
theorem sRow_eq:Str.ofString "row"=sRow:=rfl
theorem map_split {α β:Type} {f:α→β} {l:List α} {pre:List β} {u:β} {suf:List β} (h:l.map f=pre++u::suf):∃a b c,l=a++b::c∧pre=a.map f∧u=f b∧suf=c.map f:=by
 obtain⟨a,l',h1,h2,h3⟩:=List.map_eq_append_iff.mp h
 obtain⟨b,c,h4,h5,h6⟩:=List.map_eq_cons_iff.mp h3
 exact⟨a,b,c,by rw[h1,h4],h2.symm,h5.symm,h6.symm⟩
theorem map_inj_of {α β:Type} {f:α→β} {l:List α} {a c a':List α} {b:α} (h:l=a++b::c):l.map f=a.map f++f b::c.map f:=by rw[h];simp
def rf (c:L):AV:=.ref c.tag.1
section
variable {W:Wd} {m:Nat} {H:AH} {Q:AV→AH→Prop}
theorem bm_rec {H:AH} {r:Addr} {f:Bool} {xs:List AV} (e:H r=some (f,.list xs)):BMRec .extend (.ref r) H:=⟨r,f,xs,rfl,e⟩
theorem for_map {α:Type} {W:Wd} {n:Nat} {ρ:Rho} {H:AH} {QS:Rho→AH→Prop} {R:AV→AH→Prop} {x:Nat} {b:List CS} {l:Addr} {g:α→AV} {cs:List α} (J:List α→Rho→AH→Prop) (h0:J [] ρ H) (hl:∀pre ρ H,J pre ρ H→∃f,H l=some (f,.list (cs.map g)))
  (step:∀pre u suf ρ H,cs=pre++u::suf→J pre ρ H→wpB W n b (put ρ x (g u)) H (J (pre++[u])) R) (fin:∀ρ H,J cs ρ H→QS ρ H):For1R W n x b ρ (.seq (.ref l)) H QS R:=by
 refine⟨trivial,fun i ρ H=>J (cs.take i) ρ H∧i≤cs.length,cs.length,⟨by simpa using h0,Nat.zero_le _⟩,fun i ρ H hI=>?_⟩
 obtain⟨hJ,hi⟩:=hI
 obtain⟨f,e⟩:=hl _ _ _ hJ
 refine⟨hi,(cs[i]?).map g,by simp[nextI,curI,e],?_⟩
 cases hu:cs[i]? with
 |none=>
  have:i=cs.length:=Nat.le_antisymm hi (by simpa using hu)
  rw[this,List.take_length]at hJ
  exact fin ρ H hJ
 |some u=>
  have hlt:i<cs.length:=(List.getElem?_eq_some_iff.mp hu).1
  have hd:cs=cs.take i++u::cs.drop (i+1):=by
   have:=List.getElem?_eq_some_iff.mp hu
   rw[←this.2,List.getElem_cons_drop,List.take_append_drop]
  have ht:cs.take (i+1)=cs.take i++[u]:=by rw[List.take_add_one,hu];rfl
  have:=step _ _ _ ρ H hd hJ
  have e2:(fun ρ H=>J (cs.take (i+1)) ρ H∧i+1≤cs.length)=J (cs.take i++[u]):=by
   funext ρ H;rw[ht];exact propext ⟨fun h=>h.1,fun h=>⟨h,hlt⟩⟩
  show wpB W n b (put ρ x (g u)) H (fun ρ H=>J (cs.take (i+1)) ρ H∧i+1≤cs.length) R
  rw[e2]
  exact this
theorem comp_on {α:Type} {W:Wd} {n:Nat} {ρ:Rho} {H:AH} {elt:CE} {x:Nat} {l:Addr} {g:α→AV} {cs:List α} (hx:cs.length≤cap) (J:List α→List AV→AH→Prop) (h0:J [] [] H) (hl:∀pre out H,J pre out H→(∃f,H l=some (f,.list (cs.map g)))∧out.length≤pre.length)
  (step:∀pre u suf out H,cs=pre++u::suf→J pre out H→wpE W n elt ((x,g u)::ρ) H fun y H=>J (pre++[u]) (out++[y]) H)
  (fin:∀out H,J cs out H→∀r,H r=none→Q (.ref r) (H.set r (.list out))):CompR W n elt (.k (.bool true)) x ρ (.ref l) H Q:=by
 refine⟨trivial,fun i out H=>i≤cs.length∧J (cs.take i) out H,cs.length,hx,⟨Nat.zero_le _,by simpa using h0⟩,fun i out H hI=>?_⟩
 obtain⟨hi,hJ⟩:=hI
 obtain⟨⟨f,e⟩,hlen⟩:=hl _ _ _ hJ
 rw[List.length_take,Nat.min_eq_left hi]at hlen
 refine⟨hi,hlen,(cs[i]?).map g,by simp[nextI,curI,e],?_⟩
 cases hu:cs[i]? with
 |none=>
  have:i=cs.length:=Nat.le_antisymm hi (by simpa using hu)
  rw[this,List.take_length]at hJ
  exact fin out H hJ
 |some u=>
  have hlt:i<cs.length:=(List.getElem?_eq_some_iff.mp hu).1
  have hd:cs=cs.take i++u::cs.drop (i+1):=by
   have:=List.getElem?_eq_some_iff.mp hu
   rw[←this.2,List.getElem_cons_drop,List.take_append_drop]
  have ht:cs.take (i+1)=cs.take i++[u]:=by rw[List.take_add_one,hu];rfl
  have st:=step _ _ _ out H hd hJ
  have e2:∀out H,(i+1≤cs.length∧J (cs.take i++[u]) out H)=J (cs.take i++[u]) out H:=fun out H=>propext ⟨fun h=>h.2,fun h=>⟨hlt,h⟩⟩
  show wpE W n (.k (.bool true)) ((x,g u)::ρ) H _
  rw[e_k]
  refine⟨true,rfl,fun _=>?_,fun z=>by cases z⟩
  simp only[ht,e2]
  exact st
theorem leaves_kid {α:Type} {t c:Tr α} (h:c∈t.cs):c.leaves.length≤t.leaves.length:=by
 cases t with
 |leaf=>cases h
 |node a r w h' x y cs=>
  simp only[Tr.leaves,Tr.leavess_eq,Tr.cs]at h ⊢
  obtain⟨s,t,rfl⟩:=List.append_of_mem h
  simp only[List.flatMap_append,List.flatMap_cons,List.length_append]
  omega
theorem leaves_pre {α:Type} {a:α} {r w h x y} {cs s t:List (Tr α)} {c:Tr α} (e:cs=s++c::t):(s.flatMap Tr.leaves).length+c.leaves.length≤(Tr.node a r w h x y cs).leaves.length:=by
 subst e
 simp only[Tr.leaves,Tr.leavess_eq,List.flatMap_append,List.flatMap_cons,List.length_append]
 omega
theorem c68 (G:GD W):∀{t:L} {f:Bool} {m:Nat} {H:AH} {Q:AV→AH→Prop},t.dep+1≤m→LR f H t→t.leaves.length≤cap→(∀r H',H r=none→Sb H H'→H' r=some (false,.list (t.leaves.map rf))→Q (.ref r) H')→CallF W 68 [.ref t.tag.1] m H Q:=by
 intro t
 induction t using Tr.rec' with
 |step t ih=>
  intro f m H Q hm ht hcap q
  obtain⟨n,rfl,hn⟩:=pos_of hm
  obtain⟨⟨dx,e⟩,el⟩:=ht.nd
  refine enter G (f68 _) (hb68 _) (ws:=[]) (fun h _=>by simp only[VRs]) rfl ?_
  unfold b68 x68
  walk_at "wp"
  simp only[gk e,gl e]
  cases t with
  |leaf a w h x y p=>
   refine⟨fun _=>⟨by decide,fun r hr=>q r _ hr (.new hr) (AH.set_same _ _ _)⟩,fun hk=>absurd rfl (of_decide_eq_false hk)⟩
  |node a k w h x y cs=>
   refine⟨fun hk=>absurd (of_decide_eq_true hk) (kd_ne k),fun _=>⟨Nat.zero_le _,?_⟩⟩
   intro r hr
   rw[gl ((Sb.new hr).inst e)]
   refine for_map (g:=rf) (cs:=cs) (fun pre ρ H'=>ρ.lookup 24=some (.ref r)∧Sb H H'∧H' r=some (false,.list ((pre.flatMap Tr.leaves).map rf))) ⟨rfl,.new hr,AH.set_same _ _ _⟩ (fun pre ρ H' hJ=>⟨f,hJ.2.1.list el⟩) ?_ ?_
   ·rintro pre u suf ρ H' hcs ⟨h1,h2,h3⟩
    have hu:u∈(Tr.node a k w h x y cs).cs:=by rw[hcs];simp[Tr.cs]
    walk_at "wp"
    simp only[h1,Option.some.injEq,exists_eq_left']
    refine⟨bm_rec h3,ih u hu (by have:=Tr.dep_kid hu;omega) ((ht.kid hu).sb h2) (Nat.le_trans (leaves_kid hu) hcap) fun r' H'' hr' hs hl=>?_⟩
    have h3':=hs.list h3
    refine⟨ne_of_none hr' h3,_,_,_,h3',hl,?_,trivial,?_,?_⟩
    ·rw[List.length_map,List.length_map]
     exact Nat.le_trans (leaves_pre hcs) hcap
    ·exact fun a f o n e _=>(AH.set_ne _ _ (ne_of_none hr e)).trans ((h2.trans hs) a f o n e (by simp))
    ·rw[AH.set_same];simp
   ·rintro ρ H' ⟨h1,h2,h3⟩
    refine⟨_,h1,q r _ hr h2 ?_⟩
    rw[h3];simp only[Tr.leaves,Tr.leavess_eq]
end
end
section
def lmin:List Int→Int
 |[]=>0
 |[a]=>a
 |a::b::l=>min a (lmin (b::l))
theorem lmin_le:∀{l:List Int} {a:Int},a∈l→lmin l≤a
 |[_],_,.head _=>Int.le_refl _
 |a::b::l,_,h=>by
  simp only[lmin]
  rcases List.mem_cons.mp h with rfl|h
  ·omega
  ·have:=lmin_le h;omega
theorem lmin_mem:∀{l:List Int},l≠[]→lmin l∈l
 |[a],_=>by simp[lmin]
 |a::b::l,_=>by
  simp only[lmin]
  have:=lmin_mem (l:=b::l) (by simp)
  by_cases h:a≤lmin (b::l)
  ·rw[Int.min_eq_left h];simp
  ·rw[Int.min_eq_right (by omega)];exact .tail _ this
theorem lmin_eq {l:List Int} {M:Int} (h:M∈l) (k:∀a∈l,M≤a):M=lmin l:=
 Int.le_antisymm (k _ (lmin_mem (by rintro rfl;cases h))) (lmin_le h)
theorem lmin_add {l:List Int} {c:Int} (hl:l≠[]):lmin (l.map (·+c))=lmin l+c:=by
 refine(lmin_eq (List.mem_map.mpr ⟨_,lmin_mem hl,rfl⟩) fun a ha=>?_).symm
 obtain⟨b,hb,rfl⟩:=List.mem_map.mp ha
 have:=lmin_le hb;omega
namespace Tr
variable {α β:Type}
mutual
def room (d:Bool):Tr α→Int
 |.leaf _ w h _ _ _=>(if d then w else h)-1
 |.node _ r _ _ _ _ cs=>if r=d then(rooms d cs).sum else lmin (rooms d cs)
def rooms (d:Bool):List (Tr α)→List Int
 |[]=>[]
 |c::cs=>room d c::rooms d cs
end
theorem rooms_eq {d:Bool}:∀{cs:List (Tr α)},rooms d cs=cs.map (room d)
 |[]=>rfl
 |c::cs=>by simp[rooms,rooms_eq (cs:=cs)]
mutual
def ok:Tr α→Prop
 |.leaf _ w h _ _ _=>1≤w∧1≤h
 |.node _ _ _ _ _ _ cs=>2≤cs.length∧oks cs
def oks:List (Tr α)→Prop
 |[]=>True
 |c::cs=>ok c∧oks cs
end
theorem oks_iff:∀{cs:List (Tr α)},oks cs↔∀c∈cs,ok c
 |[]=>by simp[oks]
 |c::cs=>by simp[oks,oks_iff (cs:=cs)]
theorem ok_node {a:α} {r w h x y} {cs:List (Tr α)}:ok (.node a r w h x y cs)↔2≤cs.length∧∀c∈cs,ok c:=by rw[ok,oks_iff]
theorem room_node {d:Bool} {a:α} {r w h x y} {cs:List (Tr α)}:room d (.node a r w h x y cs)=if r=d then(cs.map (room d)).sum else lmin (cs.map (room d)):=by rw[room,rooms_eq]
theorem sum_nonneg:∀{l:List Int},(∀a∈l,0≤a)→0≤l.sum
 |[],_=>Int.le_refl _
 |a::l,h=>by
  have:=h a (.head _)
  have:=sum_nonneg fun b hb=>h b (.tail _ hb)
  simp only[List.sum_cons];omega
theorem room_nonneg {d:Bool}:∀{t:Tr α},t.ok→0≤t.room d:=by
 intro t
 induction t using rec' with
 |step t ih=>
  intro h
  cases t with
  |leaf a w h' x y p=>simp only[ok]at h;simp only[room];split<;>omega
  |node a r w h' x y cs=>
   rw[ok_node]at h
   have hk:∀v∈cs.map (room d),0≤v:=fun v hv=>by
    obtain⟨c,hc,rfl⟩:=List.mem_map.mp hv
    exact ih c hc (h.2 c hc)
   rw[room_node]
   split
   ·exact sum_nonneg hk
   ·exact hk _ (lmin_mem (by intro z;have:=congrArg List.length z;simp at this;rw[this]at h;simp at h))
mutual
def sk:Tr α→Tr α
 |.leaf a _ _ _ _ p=>.leaf a 0 0 0 0 p
 |.node a r _ _ _ _ cs=>.node a r 0 0 0 0 (sks cs)
def sks:List (Tr α)→List (Tr α)
 |[]=>[]
 |c::cs=>sk c::sks cs
end
theorem sks_eq:∀{cs:List (Tr α)},sks cs=cs.map sk
 |[]=>rfl
 |c::cs=>by simp[sks,sks_eq (cs:=cs)]
theorem sk_tag {t:Tr α}:t.sk.tag=t.tag:=by cases t<;>simp[sk,tag]
theorem sk_kind {t:Tr α}:t.sk.kind=t.kind:=by cases t<;>simp[sk,kind]
theorem sk_pv {t:Tr α}:t.sk.pv=t.pv:=by cases t<;>simp[sk,pv]
theorem sk_cs {t:Tr α}:t.sk.cs=t.cs.map sk:=by cases t<;>simp[sk,cs,sks_eq]
theorem sk_dep:∀{t:Tr α},t.sk.dep=t.dep:=by
 intro t
 induction t using rec' with
 |step t ih=>
  cases t with
  |leaf=>simp[sk,dep]
  |node a r w h x y cs=>
   simp only[sk,dep]
   have:∀l:List (Tr α),(∀c∈l,c.sk.dep=c.dep)→deps (sks l)=deps l:=by
    intro l
    induction l with
    |nil=>intro _;rfl
    |cons c l ih2=>intro h;simp only[sks,deps];rw[h c (.head _),ih2 fun c hc=>h c (.tail _ hc)]
   rw[this cs ih]
theorem sk_panes:∀{t:Tr α},t.sk.panes=t.panes:=by
 intro t
 induction t using rec' with
 |step t ih=>
  cases t with
  |leaf=>simp[sk,panes,leaves,pane]
  |node a r w h x y cs=>
   simp only[sk,panes,leaves,leavess_eq,sks_eq]
   have:∀l:List (Tr α),(∀c∈l,c.sk.panes=c.panes)→((l.map sk).flatMap leaves).map pane=(l.flatMap leaves).map pane:=by
    intro l
    induction l with
    |nil=>intro _;rfl
    |cons c l ih2=>
     intro h
     have h1:=h c (.head _)
     simp only[panes]at h1
     simp only[List.map_cons,List.flatMap_cons,List.map_append]
     rw[h1,ih2 fun c hc=>h c (.tail _ hc)]
   exact this cs ih
theorem sk_setS {d:Bool} {s:Int} {t:Tr α}:(setS d s t).sk=t.sk:=by cases t<;>cases d<;>rfl
theorem setS_dep {d:Bool} {s:Int} {t:Tr α}:(setS d s t).dep=t.dep:=by rw[←sk_dep,sk_setS,sk_dep]
def pass (g:Int→Tr α→Tr α) (d:Bool):Int→List (Tr α)→Int × List (Tr α)
 |c,[]=>(c,[])
 |c,t::ts=>if 0<c then let p:=pass g d (c-1) ts;(p.1,g 1 t::p.2)else if c<0∧0<t.room d then let p:=pass g d (c+1) ts;(p.1,g (-1) t::p.2)else let p:=pass g d c ts;(p.1,t::p.2)
def dist (g:Int→Tr α→Tr α) (d:Bool):Nat→Int→List (Tr α)→List (Tr α)
 |0,_,cs=>cs
 |m+1,c,cs=>if c=0 then cs else dist g d m (pass g d c cs).1 (pass g d c cs).2
def setCs (cs':List (Tr α)):Tr α→Tr α
 |.leaf a w h x y p=>.leaf a w h x y p
 |.node a r w h x y _=>.node a r w h x y cs'
def chg:Nat→Bool→Int→Tr α→Tr α
 |0,d,c,t=>setS d (t.side d+c) t
 |k+1,d,c,t=>match t with
  |.leaf ..=>setS d (t.side d+c) t
  |.node a r w h x y cs=>setS d (t.side d+c) (.node a r w h x y (if r=d then dist (chg k d) d c.natAbs c cs else cs.map (chg k d c)))
theorem side_setS_same {d:Bool} {s:Int} {t:Tr α}:(setS d s t).side d=s:=by cases t<;>cases d<;>rfl
theorem side_setS_other {d:Bool} {s:Int} {t:Tr α}:(setS d s t).side (!d)=t.side (!d):=by cases t<;>cases d<;>rfl
mutual
def geo:Tr α→Prop
 |.leaf ..=>True
 |.node a r w h x y cs=>side r (.node a r w h x y cs)=(cs.map (side r)).sum+cs.length-1∧(∀c∈cs,c.side (!r)=side (!r) (.node a r w h x y cs))∧geos cs
def geos:List (Tr α)→Prop
 |[]=>True
 |c::cs=>geo c∧geos cs
end
theorem geos_iff:∀{cs:List (Tr α)},geos cs↔∀c∈cs,geo c
 |[]=>by simp[geos]
 |c::cs=>by simp[geos,geos_iff (cs:=cs)]
theorem geo_node {a:α} {r w h x y} {cs:List (Tr α)}:geo (.node a r w h x y cs)↔side r (.node a r w h x y cs)=(cs.map (side r)).sum+cs.length-1∧(∀c∈cs,c.side (!r)=side (!r) (.node a r w h x y cs))∧∀c∈cs,geo c:=by rw[geo,geos_iff]
structure Chg (d:Bool) (c:Int) (t t':Tr α):Prop where
 sk:t'.sk=t.sk
 ok:t'.ok
 room:t'.room d=t.room d+c
 other:t'.room (!d)=t.room (!d)
 sd:t'.side d=t.side d+c
 so:t'.side (!d)=t.side (!d)
 geo:t.geo→t'.geo
structure Pas (d:Bool) (c:Int) (cs:List (Tr α)) (q:Int × List (Tr α)):Prop where
 sk:q.2.map Tr.sk=cs.map Tr.sk
 ok:∀t∈q.2,t.ok
 rm:(q.2.map (room d)).sum+q.1=(cs.map (room d)).sum+c
 ro:q.2.map (room (!d))=cs.map (room (!d))
 sd:(q.2.map (side d)).sum+q.1=(cs.map (side d)).sum+c
 so:q.2.map (side (!d))=cs.map (side (!d))
 ge:(∀t∈cs,t.geo)→∀t∈q.2,t.geo
 up:0≤c→0≤q.1∧q.1≤c
 dn:c≤0→c≤q.1∧q.1≤0
 lt:0<c→cs≠[]→q.1<c
 gt:c<0→0<(cs.map (room d)).sum→c<q.1
theorem pass_ok {g:Int→Tr α→Tr α} {d:Bool}:∀{cs:List (Tr α)} {c:Int},(∀t∈cs,t.ok∧∀c,(c=1∨c = -1)→0≤t.room d+c→Chg d c t (g c t))→Pas d c cs (pass g d c cs)
 |[],c,_=>by constructor<;>simp[pass]<;>omega
 |t::ts,c,h=>by
  have ht:=h t (.head _)
  have hs:=fun u hu=>h u (.tail _ hu)
  have h0:=room_nonneg (d:=d) ht.1
  unfold pass
  split
  ·rename_i hc
   have e:=pass_ok (c:=c-1) hs
   have k:=ht.2 1 (.inl rfl) (by omega)
   have e1:=e.rm
   have e2:=e.sd
   have e3:=e.up (by omega)
   have k1:=k.room
   have k2:=k.sd
   refine⟨by simp[e.sk,k.sk],fun u hu=>?_,?_,by simp[e.ro,k.other],?_,by simp[e.so,k.so],fun hg u hu=>?_,fun _=>?_,fun _=>by omega,fun _ _=>?_,fun _=>by omega⟩
   ·rcases List.mem_cons.mp hu with rfl|hu
    ·exact k.ok
    ·exact e.ok u hu
   ·simp only[List.map_cons,List.sum_cons];omega
   ·simp only[List.map_cons,List.sum_cons];omega
   ·rcases List.mem_cons.mp hu with rfl|hu
    ·exact k.geo (hg _ (.head _))
    ·exact e.ge (fun v hv=>hg v (.tail _ hv)) u hu
   ·exact⟨e3.1,by dsimp only;omega⟩
   ·dsimp only;omega
  ·rename_i hc
   split
   ·rename_i hc2
    have e:=pass_ok (c:=c+1) hs
    have k:=ht.2 (-1) (.inr rfl) (by omega)
    have e1:=e.rm
    have e2:=e.sd
    have e3:=e.dn (by omega)
    have k1:=k.room
    have k2:=k.sd
    refine⟨by simp[e.sk,k.sk],fun u hu=>?_,?_,by simp[e.ro,k.other],?_,by simp[e.so,k.so],fun hg u hu=>?_,fun _=>by omega,fun _=>?_,fun _=>by omega,fun _ _=>?_⟩
    ·rcases List.mem_cons.mp hu with rfl|hu
     ·exact k.ok
     ·exact e.ok u hu
    ·simp only[List.map_cons,List.sum_cons];omega
    ·simp only[List.map_cons,List.sum_cons];omega
    ·rcases List.mem_cons.mp hu with rfl|hu
     ·exact k.geo (hg _ (.head _))
     ·exact e.ge (fun v hv=>hg v (.tail _ hv)) u hu
    ·dsimp only;omega
    ·dsimp only;omega
   ·rename_i hc2
    have e:=pass_ok (c:=c) hs
    have e1:=e.rm
    have e2:=e.sd
    refine⟨by simp[e.sk],fun u hu=>?_,?_,by simp[e.ro],?_,by simp[e.so],fun hg u hu=>?_,fun h=>e.up h,fun h=>e.dn h,fun _=>by omega,fun h1 h2=>?_⟩
    ·rcases List.mem_cons.mp hu with rfl|hu
     ·exact ht.1
     ·exact e.ok u hu
    ·simp only[List.map_cons,List.sum_cons];omega
    ·simp only[List.map_cons,List.sum_cons];omega
    ·rcases List.mem_cons.mp hu with rfl|hu
     ·exact hg _ (.head _)
     ·exact e.ge (fun v hv=>hg v (.tail _ hv)) u hu
    ·refine e.gt h1 ?_
     simp only[List.map_cons,List.sum_cons]at h2
     have:t.room d=0:=by omega
     omega
structure Dis (d:Bool) (c:Int) (cs cs':List (Tr α)):Prop where
 sk:cs'.map Tr.sk=cs.map Tr.sk
 ok:∀t∈cs',t.ok
 rm:(cs'.map (room d)).sum=(cs.map (room d)).sum+c
 ro:cs'.map (room (!d))=cs.map (room (!d))
 sd:(cs'.map (side d)).sum=(cs.map (side d)).sum+c
 so:cs'.map (side (!d))=cs.map (side (!d))
 ge:(∀t∈cs,t.geo)→∀t∈cs',t.geo
theorem dist_ok {g:Int→Tr α→Tr α} {d:Bool} {K:List (Tr α)} (hg:∀t:Tr α,t.sk∈K.map Tr.sk→t.ok→∀c,(c=1∨c = -1)→0≤t.room d+c→Chg d c t (g c t)):∀{m:Nat} {cs:List (Tr α)} {c:Int},c.natAbs≤m→cs≠[]→(∀t∈cs,t.ok)→cs.map Tr.sk=K.map Tr.sk→0≤(cs.map (room d)).sum+c→
  Dis d c cs (dist g d m c cs)
 |0,cs,c,hm,hne,ho,hk,hr=>by
  have:c=0:=by omega
  subst this
  exact⟨rfl,ho,by simp[dist],rfl,by simp[dist],rfl,fun h=>h⟩
 |m+1,cs,c,hm,hne,ho,hk,hr=>by
  unfold dist
  split
  ·rename_i hc;subst hc;exact⟨rfl,ho,by simp,rfl,by simp,rfl,fun h=>h⟩
  ·rename_i hc
   have hh:∀t∈cs,t.ok∧∀c,(c=1∨c = -1)→0≤t.room d+c→Chg d c t (g c t):=fun t ht=>⟨ho t ht,hg t (by rw[←hk];exact List.mem_map.mpr ⟨t,ht,rfl⟩) (ho t ht)⟩
   have e:=pass_ok (c:=c) hh
   have e1:=e.rm
   have e2:=e.sd
   have hlt:(pass g d c cs).1.natAbs<c.natAbs:=by
    rcases Int.lt_or_gt_of_ne hc with h|h
    ·have:=e.dn (by omega);have:=e.gt h (by omega);omega
    ·have:=e.up (by omega);have:=e.lt h hne;omega
   have hne':(pass g d c cs).2≠[]:=fun z=>by
    have e1:=e.sk
    rw[z]at e1
    have:=congrArg List.length e1
    simp at this
    exact hne (List.eq_nil_of_length_eq_zero this.symm)
   have i:=dist_ok hg (m:=m) (cs:=(pass g d c cs).2) (c:=(pass g d c cs).1) (by omega) hne' e.ok (e.sk.trans hk) (by omega)
   exact⟨i.sk.trans e.sk,i.ok,i.rm.trans (by omega),i.ro.trans e.ro,i.sd.trans (by omega),i.so.trans e.so,fun h=>i.ge (e.ge h)⟩
theorem room_setS_node {d d':Bool} {s:Int} {a:α} {r w h x y} {cs:List (Tr α)}:(setS d s (.node a r w h x y cs)).room d'=(Tr.node a r w h x y cs).room d':=by cases d<;>simp[setS,room]
theorem ok_setS_node {d:Bool} {s:Int} {a:α} {r w h x y} {cs:List (Tr α)}:(setS d s (.node a r w h x y cs)).ok↔(Tr.node a r w h x y cs).ok:=by cases d<;>simp[setS,ok]
theorem geo_setS_leaf {d:Bool} {s:Int} {a:α} {w h x y p}:(setS d s (.leaf a w h x y p)).geo:=by cases d<;>simp[setS,geo]
theorem chg_ok {d:Bool}:∀{k:Nat} {t:Tr α} {c:Int},t.dep≤k→t.ok→0≤t.room d+c→Chg d c t (chg k d c t):=by
 have leafCase:∀{a:α} {w h x y p c:Int},(Tr.leaf a w h x y p).ok→0≤(Tr.leaf a w h x y p).room d+c→Chg d c (.leaf a w h x y p) (setS d ((Tr.leaf a w h x y p).side d+c) (.leaf a w h x y p)):=by
  intro a w h x y p c ho hr
  refine⟨sk_setS,?_,?_,?_,side_setS_same,side_setS_other,fun _=>geo_setS_leaf⟩
  all_goals simp only[ok]at ho
  all_goals cases d<;>simp only[room,if_true,Bool.false_eq_true,if_false]at hr<;>simp[setS,ok,room,side,Tr.w,Tr.h]<;>omega
 intro k
 induction k with
 |zero=>
  intro t c hk ho hr
  cases t with
  |leaf a w h x y p=>exact leafCase ho hr
  |node=>simp[dep]at hk
 |succ k ih=>
  intro t c hk ho hr
  cases t with
  |leaf a w h x y p=>exact leafCase ho hr
  |node a r w h x y cs=>
   have hkids:∀u∈cs,u.dep≤k:=fun u hu=>by
    have:=dep_kid (t:=.node a r w h x y cs) hu;omega
   rw[ok_node]at ho
   have hne:cs≠[]:=by rintro rfl;simp at ho
   simp only[chg]
   have fin:∀cs':List (Tr α),cs'.map Tr.sk=cs.map Tr.sk→(∀u∈cs',u.ok)→(Tr.node a r w h x y cs').room d=(Tr.node a r w h x y cs).room d+c→(Tr.node a r w h x y cs').room (!d)=(Tr.node a r w h x y cs).room (!d)→
     ((Tr.node a r w h x y cs).geo→(setS d ((Tr.node a r w h x y cs).side d+c) (.node a r w h x y cs')).geo)→
     Chg d c (.node a r w h x y cs) (setS d ((Tr.node a r w h x y cs).side d+c) (.node a r w h x y cs')):=by
    intro cs' h1 h2 h3 h4 h5
    refine⟨?_,?_,by rw[room_setS_node,h3],by rw[room_setS_node,h4],side_setS_same,side_setS_other,h5⟩
    ·rw[sk_setS];simp[Tr.sk,sks_eq,h1]
    ·rw[ok_setS_node,ok_node]
     have:=congrArg List.length h1
     simp only[List.length_map]at this
     exact⟨by omega,h2⟩
   have gfin:∀{s:Int} {cs':List (Tr α)},(setS d s (.node a r w h x y cs')).geo↔(if r=d then s else side r (.node a r w h x y cs))=(cs'.map (side r)).sum+cs'.length-1∧(∀c∈cs',c.side (!r)=if r=d then side (!r) (.node a r w h x y cs)else s)∧∀c∈cs',geo c:=by
    intro s cs'
    cases d<;>cases r<;>simp[setS,geo_node,side,Tr.w,Tr.h]
   rw[room_node]at hr
   by_cases hd:r=d
   ·rw[if_pos hd]at hr ⊢
    have i:=dist_ok (g:=chg k d) (d:=d) (K:=cs) (fun t ht ho c hc hr=>by
     obtain⟨u,hu,e⟩:=List.mem_map.mp ht
     exact ih (by rw[←sk_dep,←e,sk_dep];exact hkids u hu) ho hr) (m:=c.natAbs) (Nat.le_refl _) hne ho.2 rfl hr
    refine fin _ i.sk i.ok ?_ ?_ fun hg=>?_
    ·rw[room_node,room_node,if_pos hd,if_pos hd,i.rm]
    ·rw[room_node,room_node,if_neg (by rw[hd];cases d<;>simp),if_neg (by rw[hd];cases d<;>simp),i.ro]
    ·rw[geo_node]at hg
     have hl:=congrArg List.length i.sk
     simp only[List.length_map]at hl
     subst hd
     refine gfin.mpr ⟨?_,fun u hu=>?_,i.ge hg.2.2⟩
     ·rw[if_pos rfl,i.sd,hl,hg.1];omega
     ·rw[if_pos rfl]
      have:u.side (!r)∈cs.map (side (!r)):=by rw[←i.so];exact List.mem_map.mpr ⟨u,hu,rfl⟩
      obtain⟨v,hv,e⟩:=List.mem_map.mp this
      rw[←e];exact hg.2.1 v hv
   ·rw[if_neg hd]at hr ⊢
    have kid:∀u∈cs,Chg d c u (chg k d c u):=fun u hu=>ih (hkids u hu) (ho.2 u hu) (by
     have:=lmin_le (List.mem_map.mpr ⟨u,hu,rfl⟩:u.room d∈cs.map (room d));omega)
    have hd':r = !d:=by revert hd;cases r<;>cases d<;>simp
    have hd2:d = !r:=by rw[hd'];simp
    refine fin _ ?_ (fun u hu=>?_) ?_ ?_ fun hg=>?_
    ·rw[List.map_map];exact List.map_congr_left fun u hu=>(kid u hu).sk
    ·obtain⟨v,hv,rfl⟩:=List.mem_map.mp hu;exact(kid v hv).ok
    ·rw[room_node,room_node,if_neg hd,if_neg hd,List.map_map,←lmin_add (by simpa using hne),List.map_map]
     exact congrArg lmin (List.map_congr_left fun u hu=>(kid u hu).room)
    ·rw[room_node,room_node,if_pos hd',if_pos hd',List.map_map]
     exact congrArg List.sum (List.map_congr_left fun u hu=>(kid u hu).other)
    ·rw[geo_node]at hg
     refine gfin.mpr ⟨?_,fun u hu=>?_,fun u hu=>?_⟩
     ·rw[if_neg hd,List.map_map,List.length_map,hg.1]
      have:cs.map (side r ∘ chg k d c)=cs.map (side r):=List.map_congr_left fun u hu=>by rw[hd'];exact(kid u hu).so
      rw[this]
     ·rw[if_neg hd]
      obtain⟨v,hv,rfl⟩:=List.mem_map.mp hu
      have h1:=(kid v hv).sd
      have h2:=hg.2.1 v hv
      rw[←hd2]at h2 ⊢
      rw[h1,h2]
     ·obtain⟨v,hv,rfl⟩:=List.mem_map.mp hu
      exact(kid v hv).geo (hg.2.2 v hv)
end Tr
end
section
structure Fm (α:Type) where
 a:α
 r:Bool
 w:Int
 h:Int
 x:Int
 y:Int
 l:List (Tr α)
 rt:List (Tr α)
namespace Tr
variable {α β:Type}
def fill (F:Fm α) (t:Tr α):Tr α:=.node F.a F.r F.w F.h F.x F.y (F.l++t::F.rt)
def plug:List (Fm α)→Tr α→Tr α
 |[],t=>t
 |F::C,t=>fill F (plug C t)
theorem plug_append {C D:List (Fm α)} {t:Tr α}:plug (C++D) t=plug C (plug D t):=by
 induction C with
 |nil=>rfl
 |cons F C ih=>simp only[List.cons_append,plug,ih]
mutual
def find (p:Int):Tr α→Option (List (Fm α) × Tr α)
 |.leaf a w h x y q=>if q=p then some ([],.leaf a w h x y q)else none
 |.node a r w h x y cs=>finds p a r w h x y [] cs
def finds (p:Int) (a:α) (r:Bool) (w h x y:Int):List (Tr α)→List (Tr α)→Option (List (Fm α) × Tr α)
 |_,[]=>none
 |pre,c::cs=>match find p c with
  |some q=>some (⟨a,r,w,h,x,y,pre,cs⟩::q.1,q.2)
  |none=>finds p a r w h x y (pre++[c]) cs
end
theorem finds_iff {p:Int} {a:α} {r:Bool} {w h x y:Int}:∀{cs pre:List (Tr α)},match finds p a r w h x y pre cs with
  |none=>∀c∈cs,find p c=none
  |some q=>∃s c t C,cs=s++c::t∧(∀u∈s,find p u=none)∧find p c=some (C,q.2)∧q.1=⟨a,r,w,h,x,y,pre++s,t⟩::C
 |[],pre=>by simp[finds]
 |c::cs,pre=>by
  unfold finds
  cases e:find p c with
  |some q=>
   dsimp only
   exact⟨[],c,cs,q.1,rfl,(fun _ h=>by cases h),e,by simp⟩
  |none=>
   have:=finds_iff (p:=p) (a:=a) (r:=r) (w:=w) (h:=h) (x:=x) (y:=y) (cs:=cs) (pre:=pre++[c])
   dsimp only
   revert this
   cases finds p a r w h x y (pre++[c]) cs with
   |none=>
    intro k u hu
    rcases List.mem_cons.mp hu with rfl|hu
    ·exact e
    ·exact k u hu
   |some q=>
    rintro⟨s,u,t,C,rfl,h1,h2,h3⟩
    refine⟨c::s,u,t,C,rfl,fun v hv=>?_,h2,by rw[h3];simp⟩
    rcases List.mem_cons.mp hv with rfl|hv
    ·exact e
    ·exact h1 v hv
theorem panes_leaf {a:α} {w h x y p}:(Tr.leaf a w h x y p).panes=[p]:=rfl
theorem panes_node {a:α} {r w h x y} {cs:List (Tr α)}:(Tr.node a r w h x y cs).panes=cs.flatMap panes:=by
 simp only[panes,leaves,leavess_eq,List.map_flatMap];rfl
theorem find_none {p:Int}:∀{t:Tr α},find p t=none↔p∉t.panes:=by
 intro t
 induction t using rec' with
 |step t ih=>
  cases t with
  |leaf a w h x y q=>
   simp only[find,panes_leaf,List.mem_singleton]
   by_cases hq:q=p
   ·simp[hq]
   ·simp[hq];exact fun z=>hq z.symm
  |node a r w h x y cs=>
   rw[find,panes_node]
   have:=finds_iff (p:=p) (a:=a) (r:=r) (w:=w) (h:=h) (x:=x) (y:=y) (cs:=cs) (pre:=[])
   revert this
   cases finds p a r w h x y [] cs with
   |none=>
    intro k
    simp only[List.mem_flatMap,not_exists,not_and,true_iff]
    exact fun c hc=>(ih c hc).mp (k c hc)
   |some q=>
    rintro⟨s,c,t,C,rfl,h1,h2,h3⟩
    simp only[List.mem_flatMap,not_exists,not_and]
    refine⟨(fun z=>by cases z),fun z=>?_⟩
    have:=(ih c (by simp[cs])).mpr (z c (by simp))
    rw[this]at h2;cases h2
theorem find_some {p:Int}:∀{t:Tr α} {C:List (Fm α)} {l:Tr α},find p t=some (C,l)→t=plug C l∧∃a w h x y,l=.leaf a w h x y p:=by
 intro t
 induction t using rec' with
 |step t ih=>
  intro C l e
  cases t with
  |leaf a w h x y q=>
   simp only[find]at e
   split at e
   ·rename_i hq;cases e;subst hq;exact⟨rfl,a,w,h,x,y,rfl⟩
   ·cases e
  |node a r w h x y cs=>
   rw[find]at e
   have:=finds_iff (p:=p) (a:=a) (r:=r) (w:=w) (h:=h) (x:=x) (y:=y) (cs:=cs) (pre:=[])
   rw[e]at this
   obtain⟨s,c,t,C',rfl,h1,h2,h3⟩:=this
   dsimp only at h2 h3
   obtain⟨e1,e2⟩:=ih c (by simp[cs]) h2
   subst h3
   refine⟨?_,e2⟩
   simp only[plug,fill,List.nil_append,←e1]
def cpre:List (Fm α)→List Int
 |[]=>[]
 |F::C=>F.l.flatMap panes++cpre C
def cpost:List (Fm α)→List Int
 |[]=>[]
 |F::C=>cpost C++F.rt.flatMap panes
theorem panes_fill {F:Fm α} {t:Tr α}:(fill F t).panes=F.l.flatMap panes++t.panes++F.rt.flatMap panes:=by
 simp[fill,panes_node]
theorem panes_plug:∀{C:List (Fm α)} {t:Tr α},(plug C t).panes=cpre C++t.panes++cpost C
 |[],t=>by simp[plug,cpre,cpost]
 |F::C,t=>by simp[plug,panes_fill,panes_plug (C:=C),cpre,cpost]
theorem ok_fill {F:Fm α} {t:Tr α}:(fill F t).ok↔2≤F.l.length+F.rt.length+1∧(∀c∈F.l,c.ok)∧t.ok∧∀c∈F.rt,c.ok:=by
 rw[fill,ok_node]
 simp only[List.length_append,List.length_cons,List.mem_append,List.mem_cons]
 constructor
 ·rintro⟨h1,h2⟩
  exact⟨by omega,fun c hc=>h2 c (.inl hc),h2 t (.inr (.inl rfl)),fun c hc=>h2 c (.inr (.inr hc))⟩
 ·rintro⟨h1,h2,h3,h4⟩
  refine⟨by omega,fun c hc=>?_⟩
  rcases hc with hc|rfl|hc
  ·exact h2 c hc
  ·exact h3
  ·exact h4 c hc
theorem ok_plug:∀{C:List (Fm α)} {t:Tr α},(plug C t).ok→t.ok∧∀u:Tr α,u.ok→(plug C u).ok
 |[],t,h=>⟨h,fun _ k=>k⟩
 |F::C,t,h=>by
  simp only[plug]at h ⊢
  rw[ok_fill]at h
  obtain⟨h1,h2,h3,h4⟩:=h
  obtain⟨k1,k2⟩:=ok_plug h3
  exact⟨k1,fun u hu=>ok_fill.mpr ⟨h1,h2,k2 u hu,h4⟩⟩
theorem side_fill {F:Fm α} {t:Tr α} {d:Bool}:(fill F t).side d=if d then F.w else F.h:=by cases d<;>rfl
theorem side_plug {C:List (Fm α)} {t u:Tr α} (h:∀d,u.side d=t.side d) (d:Bool):(plug C u).side d=(plug C t).side d:=by
 cases C with
 |nil=>exact h d
 |cons F C=>simp only[plug,side_fill]
theorem geo_fill {F:Fm α} {t:Tr α}:(fill F t).geo↔((fill F t).side F.r=((F.l.map (side F.r)).sum+t.side F.r+(F.rt.map (side F.r)).sum)+(F.l.length+F.rt.length)) ∧
  ((∀c∈F.l,c.side (!F.r)=(fill F t).side (!F.r))∧t.side (!F.r)=(fill F t).side (!F.r)∧∀c∈F.rt,c.side (!F.r)=(fill F t).side (!F.r))∧(∀c∈F.l,c.geo)∧t.geo∧∀c∈F.rt,c.geo:=by
 rw[fill,geo_node]
 simp only[List.map_append,List.map_cons,List.sum_append,List.sum_cons,List.length_append,List.length_cons,List.mem_append,List.mem_cons]
 constructor
 ·rintro⟨h1,h2,h3⟩
  refine⟨by rw[h1];omega,⟨fun c hc=>h2 c (.inl hc),h2 t (.inr (.inl rfl)),fun c hc=>h2 c (.inr (.inr hc))⟩,fun c hc=>h3 c (.inl hc),h3 t (.inr (.inl rfl)),fun c hc=>h3 c (.inr (.inr hc))⟩
 ·rintro⟨h1,⟨h2,h3,h4⟩,h5,h6,h7⟩
  refine⟨by rw[h1];omega,fun c hc=>?_,fun c hc=>?_⟩
  ·rcases hc with hc|rfl|hc
   ·exact h2 c hc
   ·exact h3
   ·exact h4 c hc
  ·rcases hc with hc|rfl|hc
   ·exact h5 c hc
   ·exact h6
   ·exact h7 c hc
theorem geo_plug:∀{C:List (Fm α)} {t:Tr α},(plug C t).geo→t.geo∧∀u:Tr α,(∀d,u.side d=t.side d)→u.geo→(plug C u).geo
 |[],t,h=>⟨h,fun _ _ k=>k⟩
 |F::C,t,h=>by
  simp only[plug]at h ⊢
  rw[geo_fill]at h
  obtain⟨h1,h2,h3,h4,h5⟩:=h
  obtain⟨k1,k2⟩:=geo_plug h4
  refine⟨k1,fun u hu hg=>geo_fill.mpr ?_⟩
  have e:=side_plug (C:=C) hu
  have e':∀d,(fill F (plug C u)).side d=(fill F (plug C t)).side d:=fun d=>by rw[side_fill,side_fill]
  rw[e',e',e,e]
  exact⟨h1,h2,h3,k2 u hu hg,h5⟩
mutual
def plc (x y:Int):Tr α→Tr α
 |.leaf a w h _ _ p=>.leaf a w h x y p
 |.node a r w h _ _ cs=>.node a r w h x y (plcs r x y cs)
def plcs (r:Bool) (x y:Int):List (Tr α)→List (Tr α)
 |[]=>[]
 |c::cs=>plc x y c::plcs r (if r then x+(c.w+1)else x) (if r then y else y+(c.h+1)) cs
end
theorem plc_tag {x y:Int} {t:Tr α}:(plc x y t).tag=t.tag:=by cases t<;>simp[plc,tag]
theorem plc_side {x y:Int} {t:Tr α} {d:Bool}:(plc x y t).side d=t.side d:=by cases t<;>cases d<;>simp[plc,side,w,h]
theorem plcs_map {γ:Type} {f:Tr α→γ} {r:Bool}:∀{cs:List (Tr α)} {x y:Int},(∀c∈cs,∀x y,f (plc x y c)=f c)→(plcs r x y cs).map f=cs.map f
 |[],_,_,_=>by simp[plcs]
 |c::cs,x,y,h=>by
  simp only[plcs,List.map_cons]
  rw[h c (.head _),plcs_map fun c hc=>h c (.tail _ hc)]
theorem plcs_all {P Q:Tr α→Prop} {r:Bool}:∀{cs:List (Tr α)} {x y:Int},(∀c∈cs,∀x y,Q (plc x y c))→∀c∈plcs r x y cs,Q c
 |[],_,_,_,_,h=>by simp[plcs]at h
 |c::cs,x,y,h,u,hu=>by
  simp only[plcs]at hu
  rcases List.mem_cons.mp hu with rfl|hu
  ·exact h c (.head _) _ _
  ·exact plcs_all (P:=P) (fun c hc=>h c (.tail _ hc)) u hu
theorem plc_sk:∀{t:Tr α} {x y:Int},(plc x y t).sk=t.sk:=by
 intro t
 induction t using rec' with
 |step t ih=>
  intro x y
  cases t with
  |leaf=>simp[plc,sk]
  |node a r w h x' y' cs=>simp only[plc,sk,sks_eq];rw[plcs_map (cs:=cs) fun c hc x y=>ih c hc]
theorem plc_panes {t:Tr α} {x y:Int}:(plc x y t).panes=t.panes:=by rw[←sk_panes,plc_sk,sk_panes]
theorem plc_ok:∀{t:Tr α} {x y:Int},t.ok→(plc x y t).ok:=by
 intro t
 induction t using rec' with
 |step t ih=>
  intro x y
  cases t with
  |leaf=>simp[plc,ok]
  |node a r w h x' y' cs=>
   simp only[plc,ok_node]
   rintro⟨h1,h2⟩
   have:=congrArg List.length (plcs_map (f:=sk) (r:=r) (cs:=cs) (x:=x) (y:=y) fun c hc x y=>plc_sk)
   simp only[List.length_map]at this
   exact⟨by omega,plcs_all (P:=ok) fun c hc x y=>ih c hc (h2 c hc)⟩
theorem plc_geo:∀{t:Tr α} {x y:Int},t.geo→(plc x y t).geo:=by
 intro t
 induction t using rec' with
 |step t ih=>
  intro x y
  cases t with
  |leaf=>simp[plc,geo]
  |node a r w h x' y' cs=>
   simp only[plc,geo_node]
   rintro⟨h1,h2,h3⟩
   have:=congrArg List.length (plcs_map (f:=sk) (r:=r) (cs:=cs) (x:=x) (y:=y) fun c hc x y=>plc_sk)
   simp only[List.length_map]at this
   refine⟨?_,?_,plcs_all (P:=geo) fun c hc x y=>ih c hc (h3 c hc)⟩
   ·rw[plcs_map fun c hc x y=>plc_side,this];cases r<;>exact h1
   ·intro c hc
    have:c.side (!r)∈cs.map (side (!r)):=by rw[←plcs_map fun c hc x y=>plc_side];exact List.mem_map.mpr ⟨c,hc,rfl⟩
    obtain⟨v,hv,e⟩:=List.mem_map.mp this
    rw[←e,h2 v hv];cases r<;>rfl
mutual
def subs:Tr α→List (Tr α)
 |.leaf a w h x y p=>[.leaf a w h x y p]
 |.node a r w h x y cs=>.node a r w h x y cs::subss cs
def subss:List (Tr α)→List (Tr α)
 |[]=>[]
 |c::cs=>subs c++subss cs
end
theorem subss_eq:∀{cs:List (Tr α)},subss cs=cs.flatMap subs
 |[]=>by simp[subss]
 |c::cs=>by simp[subss,subss_eq (cs:=cs)]
theorem subs_eq {t:Tr α}:subs t=t::t.cs.flatMap subs:=by cases t<;>simp[subs,subss_eq,cs]
def Bx (M:Int) (t:Tr α):Prop:=1≤t.w∧t.w≤M∧1≤t.h∧t.h≤M∧0≤t.x∧t.x≤M∧0≤t.y∧t.y≤M
def box (M:Int) (t:Tr α):Prop:=∀s∈subs t,Bx M s
theorem box_iff {M:Int} {t:Tr α}:box M t↔Bx M t∧∀c∈t.cs,box M c:=by
 unfold box
 rw[subs_eq]
 constructor
 ·intro h
  exact⟨h t (.head _),fun c hc s hs=>h s (.tail _ (List.mem_flatMap.mpr ⟨c,hc,hs⟩))⟩
 ·rintro⟨h1,h2⟩ s hs
  rcases List.mem_cons.mp hs with rfl|hs
  ·exact h1
  ·obtain⟨c,hc,hs⟩:=List.mem_flatMap.mp hs
   exact h2 c hc s hs
theorem sum_side_pos {d:Bool}:∀{cs:List (Tr α)},(∀c∈cs,1≤c.side d)→(cs.length:Int)≤(cs.map (side d)).sum
 |[],_=>by simp
 |c::cs,h=>by
  have:=h c (.head _)
  have:=sum_side_pos (d:=d) (cs:=cs) fun c hc=>h c (.tail _ hc)
  simp only[List.length_cons,List.map_cons,List.sum_cons];omega
theorem geo_pos:∀{t:Tr α},t.ok→t.geo→∀d,1≤t.side d:=by
 intro t
 induction t using rec' with
 |step t ih=>
  intro ho hg d
  cases t with
  |leaf a w' h' x' y' p=>simp only[ok]at ho;cases d<;>simp only[side,w,h]<;>simp<;>omega
  |node a r w' h' x' y' cs=>
   rw[ok_node]at ho
   rw[geo_node]at hg
   by_cases hd:d=r
   ·subst hd
    rw[hg.1]
    have:=sum_side_pos (d:=d) (cs:=cs) fun c hc=>ih c hc (ho.2 c hc) (hg.2.2 c hc) d
    omega
   ·have hd':d = !r:=by revert hd;cases r<;>cases d<;>simp
    subst hd'
    cases cs with
    |nil=>simp at ho
    |cons c cs=>
     rw[←hg.2.1 c (.head _)]
     exact ih c (.head _) (ho.2 c (.head _)) (hg.2.2 c (.head _)) _
theorem side_w {t:Tr α}:t.w=t.side true:=rfl
theorem side_h {t:Tr α}:t.h=t.side false:=rfl
theorem plcs_bx {M:Int} {r:Bool} {X Y:Int}:∀{cs:List (Tr α)} {x y:Int},(∀c∈cs,∀x y,0≤x→0≤y→x+c.w≤M→y+c.h≤M→box M (plc x y c))→(∀c∈cs,1≤c.w∧1≤c.h)→0≤x→0≤y→
  (r=true→x+((cs.map (side r)).sum+cs.length)≤M+1∧∀c∈cs,y+c.h≤M)→(r=false→y+((cs.map (side r)).sum+cs.length)≤M+1∧∀c∈cs,x+c.w≤M)→∀c∈plcs r x y cs,box M c
 |[],_,_,_,_,_,_,_,_,c,h=>by simp[plcs]at h
 |c::cs,x,y,ih,hp,h1,h2,h3,h4,u,hu=>by
  have hc:=hp c (.head _)
  have nn:0≤(cs.map (side r)).sum+cs.length:=by
   have:=sum_side_pos (d:=r) (cs:=cs) fun c hc=>by
    have:=hp c (.tail _ hc)
    cases r
    ·exact this.2
    ·exact this.1
   omega
  simp only[plcs]at hu
  cases r with
  |true=>
   obtain⟨k1,k2⟩:=h3 rfl
   simp only[List.map_cons,List.sum_cons,List.length_cons]at k1
   rw[side_w]at hc
   rcases List.mem_cons.mp hu with rfl|hu
   ·exact ih c (.head _) _ _ h1 h2 (by rw[side_w];omega) (k2 c (.head _))
   ·simp only[if_true]at hu
    refine plcs_bx (X:=X) (Y:=Y) (fun c hc=>ih c (.tail _ hc)) (fun c hc=>hp c (.tail _ hc)) (by rw[side_w];omega) h2 (fun _=>⟨by rw[side_w];omega,fun c hc=>k2 c (.tail _ hc)⟩) (fun z=>by cases z) u hu
  |false=>
   obtain⟨k1,k2⟩:=h4 rfl
   simp only[List.map_cons,List.sum_cons,List.length_cons]at k1
   rw[side_h]at hc
   rcases List.mem_cons.mp hu with rfl|hu
   ·exact ih c (.head _) _ _ h1 h2 (k2 c (.head _)) (by rw[side_h];omega)
   ·simp only[Bool.false_eq_true,if_false]at hu
    refine plcs_bx (X:=X) (Y:=Y) (fun c hc=>ih c (.tail _ hc)) (fun c hc=>hp c (.tail _ hc)) h1 (by rw[side_h];omega) (fun z=>by cases z) (fun _=>⟨by rw[side_h];omega,fun c hc=>k2 c (.tail _ hc)⟩) u hu
theorem plc_w {x y:Int} {t:Tr α}:(plc x y t).w=t.w:=plc_side (d:=true)
theorem plc_h {x y:Int} {t:Tr α}:(plc x y t).h=t.h:=plc_side (d:=false)
theorem plc_x {x y:Int} {t:Tr α}:(plc x y t).x=x:=by cases t<;>simp[plc,Tr.x]
theorem plc_y {x y:Int} {t:Tr α}:(plc x y t).y=y:=by cases t<;>simp[plc,Tr.y]
theorem plc_box {M:Int}:∀{t:Tr α} {x y:Int},t.ok→t.geo→0≤x→0≤y→x+t.w≤M→y+t.h≤M→box M (plc x y t):=by
 intro t
 induction t using rec' with
 |step t ih=>
  intro x y ho hg hx hy hw hh
  have p1:=geo_pos ho hg true
  have p2:=geo_pos ho hg false
  rw[←side_w]at p1
  rw[←side_h]at p2
  rw[box_iff]
  refine⟨⟨by rw[plc_w];omega,by rw[plc_w];omega,by rw[plc_h];omega,by rw[plc_h];omega,by rw[plc_x];omega,by rw[plc_x];omega,by rw[plc_y];omega,by rw[plc_y];omega⟩,?_⟩
  cases t with
  |leaf=>simp[plc,cs]
  |node a r w h x' y' cs=>
   rw[ok_node]at ho
   rw[geo_node]at hg
   simp only[plc,Tr.cs]
   refine plcs_bx (X:=0) (Y:=0) (fun c hc x y=>ih c hc (ho.2 c hc) (hg.2.2 c hc)) (fun c hc=>⟨geo_pos (ho.2 c hc) (hg.2.2 c hc) true,geo_pos (ho.2 c hc) (hg.2.2 c hc) false⟩) hx hy (fun hr=>?_) (fun hr=>?_)
   ·subst hr
    have:=hg.1
    rw[←side_w]at this
    refine⟨by omega,fun c hc=>?_⟩
    have:=hg.2.1 c hc
    rw[Bool.not_true,←side_h,←side_h]at this;omega
   ·subst hr
    have:=hg.1
    rw[←side_h]at this
    refine⟨by omega,fun c hc=>?_⟩
    have:=hg.2.1 c hc
    rw[Bool.not_false,←side_w,←side_w]at this;omega
theorem leaves_pos:∀{t:Tr α},t.ok→t.dep<t.panes.length:=by
 intro t
 induction t using rec' with
 |step t ih=>
  intro ho
  cases t with
  |leaf=>simp[dep,panes_leaf]
  |node a r w h x y cs=>
   rw[ok_node]at ho
   rw[panes_node]
   simp only[dep]
   have:∀l:List (Tr α),(∀c∈l,c∈cs)→l.length≤(l.flatMap panes).length∧(l≠[]→deps l+l.length≤(l.flatMap panes).length):=by
    intro l
    induction l with
    |nil=>simp
    |cons c l ih2=>
     intro hl
     have h1:=ih c (hl c (.head _)) (ho.2 c (hl c (.head _)))
     obtain⟨h2,h3⟩:=ih2 fun c hc=>hl c (.tail _ hc)
     simp only[deps,List.length_cons,List.flatMap_cons,List.length_append]
     refine⟨by omega,fun _=>?_⟩
     cases l with
     |nil=>simp only[deps,List.length_nil];omega
     |cons c' l'=>
      have:=h3 (by simp)
      omega
   have:=(this cs fun _ h=>h).2 (by rintro rfl;simp at ho)
   omega
theorem leaf_iff {t:Tr α} (ho:t.ok):t.panes.length=1↔t.isLeaf=true:=by
 cases t with
 |leaf=>simp[panes_leaf,isLeaf]
 |node a r w h x y cs=>
  have:=leaves_pos ho
  simp only[dep]at this
  simp only[isLeaf]
  constructor
  ·intro h;omega
  ·intro h;cases h
theorem panes_len {t:Tr α}:t.panes.length=t.leaves.length:=by simp[panes]
end Tr
end
section
namespace Tr
variable {α β:Type}
structure Sm (t:Tr α):Prop where
 ok:t.ok
 len:t.panes.length≤20
theorem panes_kid {t c:Tr α} (h:c∈t.cs):c.panes.length≤t.panes.length:=by
 rw[panes_len,panes_len];exact leaves_kid h
theorem ok_kid {t c:Tr α} (h:c∈t.cs) (o:t.ok):c.ok:=by
 cases t with
 |leaf=>cases h
 |node=>rw[ok_node]at o;exact o.2 c h
theorem Sm.kid {t c:Tr α} (s:Sm t) (h:c∈t.cs):Sm c:=⟨ok_kid h s.ok,Nat.le_trans (panes_kid h) s.len⟩
theorem Sm.dep {t:Tr α} (s:Sm t):t.dep<20:=Nat.lt_of_lt_of_le (leaves_pos s.ok) s.len
theorem kids_len {cs:List (Tr α)} (h:∀c∈cs,c.ok):cs.length≤(cs.flatMap panes).length:=by
 induction cs with
 |nil=>simp
 |cons c cs ih=>
  have:=leaves_pos (h c (.head _))
  have:=ih fun c hc=>h c (.tail _ hc)
  simp only[List.length_cons,List.flatMap_cons,List.length_append];omega
theorem Sm.kids {t:Tr α} (s:Sm t):t.cs.length≤20:=by
 cases t with
 |leaf=>simp[cs]
 |node a r w h x y cs=>
  have:=s.len
  rw[panes_node]at this
  exact Nat.le_trans (kids_len (ok_node.mp s.ok).2) this
def re (b:β) (cs':List (Tr β)):Tr α→Tr β
 |.leaf _ w h x y p=>.leaf b w h x y p
 |.node _ r w h x y _=>.node b r w h x y cs'
theorem re_tag {b:β} {cs':List (Tr β)} {t:Tr α}:(re b cs' t).tag=b:=by cases t<;>rfl
theorem re_kind {b:β} {cs':List (Tr β)} {t:Tr α}:(re b cs' t).kind=t.kind:=by cases t<;>rfl
theorem re_w {b:β} {cs':List (Tr β)} {t:Tr α}:(re b cs' t).w=t.w:=by cases t<;>rfl
theorem re_h {b:β} {cs':List (Tr β)} {t:Tr α}:(re b cs' t).h=t.h:=by cases t<;>rfl
theorem re_x {b:β} {cs':List (Tr β)} {t:Tr α}:(re b cs' t).x=t.x:=by cases t<;>rfl
theorem re_y {b:β} {cs':List (Tr β)} {t:Tr α}:(re b cs' t).y=t.y:=by cases t<;>rfl
theorem re_pv {b:β} {cs':List (Tr β)} {t:Tr α}:(re b cs' t).pv=t.pv:=by cases t<;>rfl
theorem re_cs {b:β} {cs':List (Tr β)} {t:Tr α} (h:cs'.length=t.cs.length):(re b cs' t).cs=cs':=by
 cases t with
 |leaf=>simp only[cs,List.length_nil]at h;simp[re,cs,List.length_eq_zero_iff.mp h]
 |node=>rfl
theorem map_tag {g:α→β} {t:Tr α}:(t.map g).tag=g t.tag:=by cases t<;>simp[map,tag]
theorem map_kind {g:α→β} {t:Tr α}:(t.map g).kind=t.kind:=by cases t<;>simp[map,kind]
theorem map_w {g:α→β} {t:Tr α}:(t.map g).w=t.w:=by cases t<;>simp[map,w]
theorem map_h {g:α→β} {t:Tr α}:(t.map g).h=t.h:=by cases t<;>simp[map,h]
theorem map_x {g:α→β} {t:Tr α}:(t.map g).x=t.x:=by cases t<;>simp[map,x]
theorem map_y {g:α→β} {t:Tr α}:(t.map g).y=t.y:=by cases t<;>simp[map,y]
theorem map_pv {g:α→β} {t:Tr α}:(t.map g).pv=t.pv:=by cases t<;>simp[map,pv]
theorem map_pane {g:α→β} {t:Tr α}:(t.map g).pane=t.pane:=by cases t<;>simp[map,pane]
theorem map_side {g:α→β} {t:Tr α} {d:Bool}:(t.map g).side d=t.side d:=by cases t<;>simp[map,side,w,h]
theorem map_cs {g:α→β} {t:Tr α}:(t.map g).cs=t.cs.map (map g):=by cases t<;>simp[map,cs,maps_eq]
theorem map_isLeaf {g:α→β} {t:Tr α}:(t.map g).isLeaf=t.isLeaf:=by cases t<;>simp[map,isLeaf]
theorem map_leaf {g:α→β} {a:α} {w h x y p}:map g (.leaf a w h x y p)=.leaf (g a) w h x y p:=rfl
theorem map_node {g:α→β} {a:α} {r w h x y} {cs:List (Tr α)}:map g (.node a r w h x y cs)=.node (g a) r w h x y (cs.map (map g)):=by simp[map,maps_eq]
theorem map_leaves {g:α→β}:∀{t:Tr α},(t.map g).leaves=t.leaves.map (map g):=by
 intro t
 induction t using rec' with
 |step t ih=>
  cases t with
  |leaf=>simp[map,leaves]
  |node a r w h x y cs=>
   rw[map_node]
   simp only[leaves,leavess_eq,List.flatMap_map,List.map_flatMap]
   have:∀l:List (Tr α),(∀c∈l,c∈cs)→l.flatMap (fun c=>(map g c).leaves)=l.flatMap fun c=>c.leaves.map (map g):=by
    intro l
    induction l with
    |nil=>intro _;rfl
    |cons c l ih2=>intro h;simp only[List.flatMap_cons];rw[ih c (h c (.head _)),ih2 fun c hc=>h c (.tail _ hc)]
   exact this cs fun _ h=>h
theorem map_panes {g:α→β} {t:Tr α}:(t.map g).panes=t.panes:=by
 simp only[panes,map_leaves,List.map_map]
 exact List.map_congr_left fun c _=>map_pane
theorem map_dep {g:α→β}:∀{t:Tr α},(t.map g).dep=t.dep:=by
 intro t
 induction t using rec' with
 |step t ih=>
  cases t with
  |leaf=>simp[map,dep]
  |node a r w h x y cs=>
   rw[map_node]
   simp only[dep]
   have:∀l:List (Tr α),(∀c∈l,c∈cs)→deps (l.map (map g))=deps l:=by
    intro l
    induction l with
    |nil=>intro _;rfl
    |cons c l ih2=>intro h;simp only[List.map_cons,deps];rw[ih c (h c (.head _)),ih2 fun c hc=>h c (.tail _ hc)]
   rw[this cs fun _ h=>h]
theorem map_ok {g:α→β}:∀{t:Tr α},(t.map g).ok↔t.ok:=by
 intro t
 induction t using rec' with
 |step t ih=>
  cases t with
  |leaf=>simp[map,ok]
  |node a r w h x y cs=>
   rw[map_node,ok_node,ok_node,List.length_map]
   simp only[List.mem_map,forall_exists_index,and_imp,forall_apply_eq_imp_iff₂]
   exact and_congr_right fun _=>⟨fun k c hc=>(ih c hc).mp (k c hc),fun k c hc=>(ih c hc).mpr (k c hc)⟩
theorem map_room {g:α→β} {d:Bool}:∀{t:Tr α},(t.map g).room d=t.room d:=by
 intro t
 induction t using rec' with
 |step t ih=>
  cases t with
  |leaf=>simp[map,room]
  |node a r w h x y cs=>
   rw[map_node,room_node,room_node,List.map_map]
   rw[List.map_congr_left (l:=cs) (f:=room d ∘ map g) (g:=room d) fun c hc=>ih c hc]
theorem map_sm {g:α→β} {t:Tr α}:Sm (t.map g)↔Sm t:=⟨fun h=>⟨map_ok.mp h.ok,by have:=h.len;rwa [map_panes]at this⟩,fun h=>⟨map_ok.mpr h.ok,by rw[map_panes];exact h.len⟩⟩
end Tr
theorem er_re {b:Addr × Addr} {cs':List L} {t:L} (h:cs'.map er=t.cs.map er):er (Tr.re b cs' t)=er t:=by
 cases t with
 |leaf=>rfl
 |node a r w x y z cs=>
  have:∀(a:Addr × Addr) (cs:List L),er (.node a r w x y z cs)=.node () r w x y z (cs.map er):=fun a cs=>Tr.map_node
  simp only[Tr.re]
  rw[this,this,h];rfl
theorem er_node {a:Addr × Addr} {r w h x y} {cs:List L}:er (.node a r w h x y cs)=.node () r w h x y (cs.map er):=Tr.map_node
theorem er_sm {t:L}:(er t).Sm↔t.Sm:=Tr.map_sm
theorem sm_er {t t':L} (h:er t'=er t) (s:t.Sm):t'.Sm:=er_sm.mp (h▸er_sm.mpr s)
theorem dep_er {t t':L} (h:er t'=er t):t'.dep=t.dep:=by
 have:(er t').dep=(er t).dep:=by rw[h]
 simpa[er,Tr.map_dep]using this
theorem panes_er {t t':L} (h:er t'=er t):t'.panes=t.panes:=by
 have:(er t').panes=(er t).panes:=by rw[h]
 simpa[er,Tr.map_panes]using this
theorem cap_le20 {n:Nat} (h:n≤20):n≤cap:=by unfold cap;omega
theorem ads_re {b:Addr × Addr} {cs':List L} {t:L} (h:cs'.length=t.cs.length):ads (Tr.re b cs' t)=b.1::b.2::cs'.flatMap ads:=by
 rw[ads_eq,Tr.re_tag,Tr.re_cs h]
theorem nd_re {f:Bool} {H:AH} {b:Addr × Addr} {cs':List L} {t:L} (h:cs'.length=t.cs.length) (e:∃dx,H b.1=some (f,.inst 45 dx (flds t.kind t.w t.h t.x t.y b.2 t.pv))) (l:H b.2=some (f,.list (cs'.map rf))):Nd f H (Tr.re b cs' t):=by
 unfold Nd
 rw[Tr.re_tag,Tr.re_kind,Tr.re_w,Tr.re_h,Tr.re_x,Tr.re_y,Tr.re_pv,Tr.re_cs h]
 exact⟨e,l⟩
theorem none_of {H H':AH} (k:Sb H H') {a:Addr} (h:H' a=none) (f:Bool) (o:AO) (n:no o):H a≠some (f,o):=fun e=>by
 rw[k a f o n e (by simp)]at h;cases h
section
variable {W:Wd} {m:Nat} {H:AH} {Q:AV→AH→Prop}
def Nw (H:AH) (as:List Addr):Prop:=∀a∈as,∀f o,no o→H a≠some (f,o)
theorem Nw.sb {H H':AH} {as:List Addr} (k:Sb H H') (h:Nw H' as):Nw H as:=fun a ha f o n e=>h a ha f o n (k a f o n e (by simp))
theorem Nw.of_none {H:AH} {as:List Addr} (h:∀a∈as,H a=none):Nw H as:=fun a ha f o _ e=>by rw[h a ha]at e;cases e
theorem Nw.append {H:AH} {as bs:List Addr} (h:Nw H as) (k:Nw H bs):Nw H (as++bs):=fun a ha=>by
 rcases List.mem_append.mp ha with q|q
 ·exact h a q
 ·exact k a q
theorem Nw.cons {H:AH} {a:Addr} {bs:List Addr} (h:H a=none) (k:Nw H bs):Nw H (a::bs):=fun b hb=>by
 rcases List.mem_cons.mp hb with rfl|q
 ·exact fun f o _ e=>by rw[h]at e;cases e
 ·exact k b q
theorem Nw.nil {H:AH}:Nw H []:=fun _ h=>by cases h
theorem Nw.disj {H:AH} {as bs:List Addr} {f:Bool} (h:Nw H as) (k:∀a∈bs,∃o,H a=some (f,o)∧no o∧o≠.opq):∀a∈as,a∉bs:=fun a ha hb=>by
 obtain⟨o,e,n,_⟩:=k a hb
 exact h a ha f o n e
theorem c61 (G:GD W):∀{t:L} {f:Bool} {m:Nat} {H:AH} {Q:AV→AH→Prop},t.dep+3≤m→LR f H t→t.Sm→(∀t' H',Sb H H'→LR false H' t'→er t'=er t→Nw H (ads t')→(ads t').Nodup→Q (.ref t'.tag.1) H')→CallF W 61 [.ref t.tag.1] m H Q:=by
 intro t
 induction t using Tr.rec' with
 |step t ih=>
  intro f m H Q hm ht hs q
  obtain⟨n,rfl,hn⟩:=pos_of hm
  obtain⟨⟨dx,e⟩,el⟩:=ht.nd
  refine enter G (f61 _) (hb61 _) (ws:=[]) (fun h _=>by simp only[VRs]) rfl ?_
  unfold b61 x61
  walk_at "wp"
  simp only[gl e]
  refine comp_on (g:=rf) (cs:=t.cs) (cap_le20 hs.kids) (fun pre out H'=>∃cs':List L,out=cs'.map rf∧cs'.map er=pre.map er∧Sb H H'∧(∀c∈cs',LR false H' c)∧Nw H (cs'.flatMap ads)∧(cs'.flatMap ads).Nodup)
   ⟨[],rfl,rfl,.refl,by simp,.nil,by simp⟩ ?_ ?_ ?_
  ·rintro pre out H' ⟨cs',rfl,h1,h2,_⟩
   have:=congrArg List.length h1
   simp only[List.length_map]at this
   exact⟨⟨f,h2.list el⟩,by rw[List.length_map,this];exact Nat.le_refl _⟩
  ·rintro pre u suf out H' hcs ⟨cs',rfl,h1,h2,h3,h4,h5⟩
   have hu:u∈t.cs:=by rw[hcs];simp
   walk_at "wp"
   refine ih u hu (by have:=Tr.dep_kid hu;omega) ((ht.kid hu).sb h2) (hs.kid hu) fun u' H'' k1 k2 k3 k4 k5=>?_
   refine⟨cs'++[u'],by simp[rf],by simp[h1,k3],h2.trans k1,fun c hc=>?_,?_,?_⟩
   ·rcases List.mem_append.mp hc with hc|hc
    ·exact(h3 c hc).sb k1
    ·rw[List.mem_singleton.mp hc];exact k2
   ·rw[List.flatMap_append]
    exact h4.append (by simpa using k4.sb h2)
   ·rw[List.flatMap_append,List.nodup_append]
    refine⟨h5,by simpa using k5,fun a ha b hb=>?_⟩
    rintro rfl
    obtain⟨c,hc,hac⟩:=List.mem_flatMap.mp ha
    obtain⟨o,e1,n1,_⟩:=(h3 c hc).some a hac
    exact k4 a (by simpa using hb) _ o n1 e1
  ·rintro out H' ⟨cs',rfl,h1,h2,h3,h4,h5⟩ r hr
   have k1:Sb H' (H'.set r (.list (cs'.map rf))):=.new hr
   have e1:=k1.inst (h2.inst e)
   have hl:=congrArg List.length h1
   simp only[List.length_map]at hl
   simp only[gk e1,gw e1,gh e1,gx e1,gy e1,gp e1]
   refine newCell G (by omega) fun a H'' ha k2 e2=>?_
   have er':H'' r=some (false,.list (cs'.map rf)):=k2.list (AH.set_same _ _ _)
   have hra:r≠a:=fun z=>by rw[←z,AH.set_same]at ha;cases ha
   have haH:H' a=none:=by rw[AH.set_ne _ _ (Ne.symm hra)]at ha;exact ha
   have:=q (Tr.re (a,r) cs' t) H'' (h2.trans (k1.trans k2)) (LR_iff.mpr ⟨nd_re hl e2 er',fun c hc=>by
    rw[Tr.re_cs hl]at hc
    exact((h3 c hc).sb k1).sb k2⟩) (er_re h1) (by
     rw[ads_re hl]
     exact(Nw.of_none (H:=H') (as:=[a,r]) (by simp[haH,hr])).sb h2 |>.append h4) (by
     rw[ads_re hl,List.nodup_cons,List.nodup_cons]
     have nn:∀b,H' b=none→b∉cs'.flatMap ads:=fun b hb hm=>by
      obtain⟨c,hc,hbc⟩:=List.mem_flatMap.mp hm
      obtain⟨o,e3,_⟩:=(h3 c hc).some b hbc
      rw[hb]at e3;cases e3
     refine⟨fun hm=>?_,nn r hr,h5⟩
     rcases List.mem_cons.mp hm with z|hm
     ·exact hra z.symm
     ·exact nn a haH hm)
   rw[Tr.re_tag]at this
   exact this
theorem LR.leaf {f:Bool} {u:L}:∀{t:L},LR f H t→u∈t.leaves→∃a w h x y p,u=.leaf a w h x y p∧LR f H u:=by
 intro t
 induction t using Tr.rec' with
 |step t ih=>
  intro ht hu
  cases t with
  |leaf a w h x y p=>simp only[Tr.leaves,List.mem_singleton]at hu;exact⟨a,w,h,x,y,p,hu,hu▸ht⟩
  |node a r w h x y cs=>
   simp only[Tr.leaves,Tr.leavess_eq,List.mem_flatMap]at hu
   obtain⟨c,hc,hu⟩:=hu
   exact ih c hc (ht.kid hc) hu
theorem fz_sb {as:List Addr} {H H':AH} (k:Sb H H') (h:Nw H as):Sb H (fz as H'):=fun a f o n e _=>
 fz_out n (k a f o n e (by simp)) fun z=>h a z f o n e
theorem c68z (G:GD W) {t:L} {f:Bool} (hm:t.dep+1≤m) (ht:LR f H t) (hs:t.Sm) (q:∀r H',Sb H H'→H' r=some (true,.list (t.leaves.map rf))→Q (.ref r) H'):CallF W 68 [.ref t.tag.1] m H Q:=by
 have hl:t.leaves.length≤20:=by have:=hs.len;rwa [Tr.panes_len]at this
 refine CallF.fz (c68 G hm ht (cap_le20 hl) fun r H' hr k el=>⟨[r],q r _ (fz_sb k (.of_none (by simp[hr]))) (fz_in no_list el (by simp))⟩)
theorem c73 (G:GD W) {t:L} {f:Bool} (hm:t.dep+2≤m) (ht:LR f H t) (hs:t.Sm) (q:∀r H',Sb H H'→H' r=some (true,.list (t.panes.map .int))→Q (.ref r) H'):CallF W 73 [.ref t.tag.1] m H Q:=by
 obtain⟨n,rfl,hn⟩:=pos_of hm
 refine CallF.fz (enter G (f73 _) (hb73 _) (ws:=[]) (fun h _=>by simp only[VRs]) rfl ?_)
 unfold b73 x73
 walk_at "wp"
 have hl:t.leaves.length≤20:=by have:=hs.len;rwa [Tr.panes_len]at this
 refine c68 G hn ht (cap_le20 hl) fun r H' hr k el=>?_
 refine comp_on (g:=rf) (cs:=t.leaves) (cap_le20 hl) (fun pre out H''=>H''=H'∧out=pre.map fun c=>.int c.pane) ⟨rfl,rfl⟩ ?_ ?_ ?_
 ·rintro pre out H'' ⟨rfl,rfl⟩
  exact⟨⟨_,el⟩,by simp⟩
 ·rintro pre u suf out H'' hcs ⟨rfl,rfl⟩
  walk_at "wp"
  have hu:u∈t.leaves:=by rw[hcs];simp
  obtain⟨a,w,h,x,y,p,rfl,hL⟩:=(ht.sb k).leaf hu
  obtain⟨⟨dx,e⟩,_⟩:=hL.nd
  simp only[rf]
  rw[gp e]
  simp[Tr.pane,Tr.pv]
 ·rintro out H'' ⟨rfl,rfl⟩ r' hr'
  exact⟨[r'],q r' _ (fz_sb (k.trans (Sb.new hr')) (Nw.sb k (.of_none (by simp[hr'])))) (fz_in no_list (by rw[AH.set_same];simp[Tr.panes];rfl) (by simp))⟩
end
end
section
namespace Tr
variable {α β:Type}
theorem finds_app {p:Int} {a:α} {r:Bool} {w h x y:Int} {c:Tr α} {t:List (Tr α)} {C:List (Fm α)} {l:Tr α} (e:find p c=some (C,l)):∀{s pre:List (Tr α)},(∀u∈s,find p u=none)→finds p a r w h x y pre (s++c::t)=some (⟨a,r,w,h,x,y,pre++s,t⟩::C,l)
 |[],pre,_=>by simp[finds,e]
 |u::s,pre,hs=>by
  simp only[List.cons_append,finds,hs u (.head _)]
  rw[finds_app e fun v hv=>hs v (.tail _ hv)]
  simp
theorem find_node {p:Int} {a:α} {r:Bool} {w h x y:Int} {c:Tr α} {s t cs:List (Tr α)} {C:List (Fm α)} {l:Tr α} (hc:cs=s++c::t) (hs:∀u∈s,find p u=none) (e:find p c=some (C,l)) :
  find p (.node a r w h x y cs)=some (⟨a,r,w,h,x,y,s,t⟩::C,l):=by
 subst hc;rw[find,finds_app e hs];simp
theorem find_nodeN {p:Int} {a:α} {r:Bool} {w h x y:Int} {cs:List (Tr α)} (hs:∀u∈cs,find p u=none):find p (.node a r w h x y cs)=none:=by
 rw[find_none,panes_node]
 simp only[List.mem_flatMap,not_exists,not_and]
 exact fun c hc=>find_none.mp (hs c hc)
theorem plug_dep:∀{C:List (Fm α)} {l:Tr α},C.length+l.dep≤(plug C l).dep
 |[],l=>by simp[plug]
 |F::C,l=>by
  have h1:=plug_dep (C:=C) (l:=l)
  have h2:=dep_kid (t:=fill F (plug C l)) (c:=plug C l) (by simp[fill,cs])
  simp only[plug,List.length_cons];omega
theorem find_len {p:Int} {t:Tr α} {C:List (Fm α)} {l:Tr α} (e:find p t=some (C,l)):C.length≤t.dep:=by
 rw[(find_some e).1]
 have:=plug_dep (C:=C) (l:=l)
 omega
theorem tag_sk {t t':Tr α} (h:t'.sk=t.sk):t'.tag=t.tag:=by rw[←sk_tag,h,sk_tag]
theorem kind_sk {t t':Tr α} (h:t'.sk=t.sk):t'.kind=t.kind:=by rw[←sk_kind,h,sk_kind]
theorem dep_sk {t t':Tr α} (h:t'.sk=t.sk):t'.dep=t.dep:=by rw[←sk_dep,h,sk_dep]
theorem panes_sk {t t':Tr α} (h:t'.sk=t.sk):t'.panes=t.panes:=by rw[←sk_panes,h,sk_panes]
theorem sm_sk {t t':Tr α} (h:t'.sk=t.sk) (o:t'.ok) (s:t.Sm):t'.Sm:=⟨o,by rw[panes_sk h];exact s.len⟩
end Tr
theorem ads_sk:∀{t:L},ads t.sk=ads t:=by
 intro t
 induction t using Tr.rec' with
 |step t ih=>
  rw[ads_eq,ads_eq,Tr.sk_tag,Tr.sk_cs]
  have:∀l:List L,(∀c∈l,c∈t.cs)→(l.map Tr.sk).flatMap ads=l.flatMap ads:=by
   intro l
   induction l with
   |nil=>intro _;rfl
   |cons c l ih2=>intro h;simp only[List.map_cons,List.flatMap_cons];rw[ih c (h c (.head _)),ih2 fun c hc=>h c (.tail _ hc)]
  rw[this t.cs fun _ h=>h]
theorem ads_of_sk {t t':L} (h:t'.sk=t.sk):ads t'=ads t:=by rw[←ads_sk,h,ads_sk]
theorem adss_of_sk:∀{cs cs':List L},cs'.map Tr.sk=cs.map Tr.sk→cs'.flatMap ads=cs.flatMap ads
 |[],[],_=>rfl
 |[],_::_,h=>by simp at h
 |_::_,[],h=>by simp at h
 |c::cs,c'::cs',h=>by
  simp only[List.map_cons,List.cons.injEq]at h
  simp only[List.flatMap_cons];rw[ads_of_sk h.1,adss_of_sk h.2]
theorem rf_of_sk {cs cs':List L} (h:cs'.map Tr.sk=cs.map Tr.sk):cs'.map rf=cs.map rf:=by
 have:∀l:List L,l.map rf=(l.map Tr.sk).map rf:=fun l=>by
  rw[List.map_map];exact List.map_congr_left fun c _=>by simp only[Function.comp,rf,Tr.sk_tag]
 rw[this,h,←this]
section
variable {W:Wd} {m:Nat} {H:AH} {Q:AV→AH→Prop}
theorem c80 (G:GD W) {p:Int}:∀{t:L} {f:Bool} {m:Nat} {H:AH} {Q:AV→AH→Prop},t.dep+1≤m→LR f H t→t.Sm→(t.find p=none→∀H',Sb H H'→Q .none H')→
  (∀C l,t.find p=some (C,l)→∀r H',Sb H H'→H' r=some (true,.list ((C.map fun F=>.ref F.a.1)++[rf l]))→Q (.ref r) H')→CallF W 80 [.ref t.tag.1,.int p] m H Q:=by
 intro t
 induction t using Tr.rec' with
 |step t ih=>
  intro f m H Q hm ht hs q0 q1
  obtain⟨n,rfl,hn⟩:=pos_of hm
  obtain⟨⟨dx,e⟩,el⟩:=ht.nd
  refine CallF.fz (enter G (f80 _) (hb80 _) (ws:=[]) (fun h _=>by simp only[VRs]) rfl ?_)
  unfold b80 x80
  walk_at "wp"
  simp only[gk e,gl e,gp e]
  cases t with
  |leaf a w h x y p'=>
   refine⟨fun _=>⟨p'==p,rfl,fun hp=>⟨by decide,fun r hr=>⟨[r],q1 [] (.leaf a w h x y p') ?_ r _ (fz_sb (.new hr) (.of_none (by simp[hr]))) (fz_in no_list (AH.set_same _ _ _) (by simp))⟩⟩,fun hp=>⟨[],q0 ?_ _ (fz_sb .refl .nil)⟩⟩,fun hk=>absurd rfl (of_decide_eq_false hk)⟩
   ·simp[Tr.find,beq_iff_eq.mp hp]
   ·simp[Tr.find];exact fun z=>by simp[z]at hp
  |node a k w h x y cs=>
   refine⟨fun hk=>absurd (of_decide_eq_true hk) (kd_ne k),fun _=>?_⟩
   refine for_map (g:=rf) (cs:=cs) (fun pre ρ H'=>ρ.lookup 25=some (.ref a.1)∧ρ.lookup 6=some (.int p)∧Sb H H'∧∀c∈pre,Tr.find p c=none) ⟨rfl,rfl,.refl,by simp⟩ (fun pre ρ H' hJ=>⟨f,hJ.2.2.1.list el⟩) ?_ ?_
   ·rintro pre u suf ρ H' hcs ⟨h1,h2,h3,h4⟩
    have hu:u∈(Tr.node a k w h x y cs).cs:=by rw[hcs];simp[Tr.cs]
    walk_at "wp"
    simp only[h1,h2,Option.some.injEq,exists_eq_left']
    refine ih u hu (by have:=Tr.dep_kid hu;omega) ((ht.kid hu).sb h3) (hs.kid hu) (fun hf H'' k1=>?_) fun C l hf r H'' k1 k2=>?_
    ·refine⟨true,rfl,trivial,(fun z=>by cases z),fun _=>⟨trivial,trivial,h3.trans k1,fun c hc=>?_⟩⟩
     rcases List.mem_append.mp hc with hc|hc
     ·exact h4 c hc
     ·rw[List.mem_singleton.mp hc];exact hf
    ·refine⟨false,rfl,trivial,(fun _=>⟨by decide,fun r' hr'=>⟨_,_,_,_,AH.set_same _ _ _,(AH.set_ne _ _ (ne_of_none hr' k2)).trans k2,?_,fun r2 hr2=>⟨[r2],?_⟩⟩⟩),fun z=>by cases z⟩
     ·have:=Tr.find_len hf
      have:=(hs.kid hu).dep
      simp only[List.length_append,List.length_map,List.length_cons,List.length_nil]
      unfold cap;omega
     ·refine q1 _ _ (Tr.find_node hcs h4 hf) r2 _ (fz_sb ((h3.trans k1).trans ((Sb.new hr').trans (Sb.new hr2))) ?_) (fz_in no_list (by rw[AH.set_same];simp;rfl) (by simp))
      exact Nw.sb ((h3.trans k1).trans (Sb.new (o:=.list [.ref a.1]) hr')) (.of_none (by simp[hr2]))
   ·rintro ρ H' ⟨h1,h2,h3,h4⟩
    exact⟨[],q0 (Tr.find_nodeN h4) _ (fz_sb h3 .nil)⟩
theorem for_enum {α:Type} {W:Wd} {n:Nat} {ρ:Rho} {H:AH} {QS:Rho→AH→Prop} {R:AV→AH→Prop} {x z:Nat} {b:List CS} {l:Addr} {g:α→AV} {cs:List α} (J:List α→Rho→AH→Prop) (h0:J [] ρ H) (hl:∀pre ρ H,J pre ρ H→∃f,H l=some (f,.list (cs.map g)))
  (step:∀pre u suf ρ H,cs=pre++u::suf→J pre ρ H→wpB W n b (put (put ρ x (.int (Int.ofNat pre.length))) z (g u)) H (J (pre++[u])) R) (fin:∀ρ H,J cs ρ H→QS ρ H):ForTR W n [x,z] b ρ (.enum (.ref l)) H QS R:=by
 refine⟨trivial,fun i ρ H=>J (cs.take i) ρ H∧i≤cs.length,cs.length,⟨by simpa using h0,Nat.zero_le _⟩,fun i ρ H hI=>?_⟩
 obtain⟨hJ,hi⟩:=hI
 obtain⟨f,e⟩:=hl _ _ _ hJ
 refine⟨hi,(cs[i]?).map fun u=>.tup [.int (Int.ofNat i),g u],by simp[nextI,curI,e,Function.comp_def],?_⟩
 cases hu:cs[i]? with
 |none=>
  have:i=cs.length:=Nat.le_antisymm hi (by simpa using hu)
  rw[this,List.take_length]at hJ
  exact fin ρ H hJ
 |some u=>
  have hlt:i<cs.length:=(List.getElem?_eq_some_iff.mp hu).1
  have hd:cs=cs.take i++u::cs.drop (i+1):=by
   have:=List.getElem?_eq_some_iff.mp hu
   rw[←this.2,List.getElem_cons_drop,List.take_append_drop]
  have ht:cs.take (i+1)=cs.take i++[u]:=by rw[List.take_add_one,hu];rfl
  have:=step _ _ _ ρ H hd hJ
  rw[List.length_take,Nat.min_eq_left hi]at this
  have e2:(fun ρ H=>J (cs.take (i+1)) ρ H∧i+1≤cs.length)=J (cs.take i++[u]):=by
   funext ρ H;rw[ht];exact propext ⟨fun h=>h.1,fun h=>⟨h,hlt⟩⟩
  refine⟨_,_,rfl,rfl,?_⟩
  show wpB W n b _ H (fun ρ H=>J (cs.take (i+1)) ρ H∧i+1≤cs.length) R
  rw[e2]
  exact this
theorem c108 (G:GD W) {l:Addr} {f:Bool} {s t:List L} {c:L} (hm:1≤m) (el:H l=some (f,.list ((s++c::t).map rf))) (ha:∀u∈s++c::t,∃p,H u.tag.1=some p∧p.2≠.opq) (hn:∀u∈s,u.tag.1≠c.tag.1) (q:Q (.int s.length) H) :
  CallF W 108 [.ref l,.ref c.tag.1] m H Q:=by
 obtain⟨n,rfl,_⟩:=pos_of hm
 refine enter G (f108 _) (hb108 _) (ws:=[]) (fun h _=>by simp only[VRs]) rfl ?_
 unfold b108 x108
 walk_at "wp"
 refine for_enum (g:=rf) (cs:=s++c::t) (fun pre ρ H'=>H'=H∧ρ.lookup 25=some (.ref c.tag.1)∧pre.length≤s.length) ⟨rfl,rfl,Nat.zero_le _⟩ (fun pre ρ H' hJ=>⟨f,by rw[hJ.1];exact el⟩) ?_ ?_
 ·rintro pre u suf ρ H' hcs ⟨rfl,h2,h3⟩
  walk_at "wp"
  simp only[h2,Option.some.injEq,exists_eq_left']
  have hu:u∈s++c::t:=by rw[hcs];simp
  obtain⟨p1,a1,a2⟩:=ha u hu
  obtain⟨p2,a3,_⟩:=ha c (by simp)
  have hi:(s++c::t)[pre.length]?=some u:=by rw[hcs];simp
  refine⟨decide (u.tag.1=c.tag.1),rfl,⟨⟨p1,a1,a2⟩,p2,a3⟩,fun hd=>?_,fun hd=>⟨trivial,?_⟩⟩
  ·have hl:pre.length=s.length:=by
    rcases Nat.lt_or_ge pre.length s.length with hlt|hge
    ·rw[List.getElem?_append_left hlt]at hi
     exact absurd (of_decide_eq_true hd) (hn u (List.mem_of_getElem? hi))
    ·omega
   exact hl▸q
  ·rw[List.length_append,List.length_singleton]
   rcases Nat.lt_or_ge pre.length s.length with hlt|hge
   ·omega
   ·have:pre.length=s.length:=by omega
    rw[this,List.getElem?_append_right (Nat.le_refl _)]at hi
    simp at hi
    exact absurd (hi▸rfl) (of_decide_eq_false hd)
 ·rintro ρ H' ⟨rfl,h2,h3⟩
  simp at h3;omega
theorem c113 (G:GD W) {d:Bool}:∀{t:L} {f:Bool} {m:Nat} {H:AH} {Q:AV→AH→Prop},t.dep+2≤m→LR f H t→t.Sm→(∀H',Sb H H'→Q (.int (t.room d)) H')→CallF W 113 [.ref t.tag.1,.bool d] m H Q:=by
 intro t
 induction t using Tr.rec' with
 |step t ih=>
  intro f m H Q hm ht hs q
  obtain⟨n,rfl,hn⟩:=pos_of hm
  obtain⟨⟨dx,e⟩,el⟩:=ht.nd
  refine enter G (f113 _) (hb113 _) (ws:=[]) (fun h _=>by simp only[VRs]) rfl ?_
  unfold b113 x113
  walk_at "wp"
  simp only[gk e,gl e]
  cases t with
  |leaf a w h x y p'=>
   refine⟨fun _=>c94 G (by omega) ht.nd ?_,fun hk=>absurd rfl (of_decide_eq_false hk)⟩
   have:=q H .refl
   simp only[Tr.room]at this
   cases d<;>simpa[BinR,Tr.side,Tr.w,Tr.h]using this
  |node a k w h x y cs=>
   refine⟨fun hk=>absurd (of_decide_eq_true hk) (kd_ne k),fun _=>?_⟩
   refine comp_on (g:=rf) (cs:=cs) (cap_le20 hs.kids) (fun pre out H'=>out=pre.map (fun c=>.int (c.room d))∧Sb H H') ⟨rfl,.refl⟩ ?_ ?_ ?_
   ·rintro pre out H' ⟨rfl,h1⟩
    exact⟨⟨f,h1.list el⟩,by simp⟩
   ·rintro pre u suf out H' hcs ⟨rfl,h1⟩
    have hu:u∈(Tr.node a k w h x y cs).cs:=by rw[hcs];simp[Tr.cs]
    walk_at "wp"
    exact ih u hu (by have:=Tr.dep_kid hu;omega) ((ht.kid hu).sb h1) (hs.kid hu) fun H'' k1=>⟨by simp,h1.trans k1⟩
   ·rintro out H' ⟨rfl,h1⟩ r hr
    have k1:Sb H' (H'.set r (.list (cs.map fun c=>.int (c.room d)))):=.new hr
    rw[gk (k1.inst (h1.inst e))]
    refine c87 G (by omega) ⟨fun hk=>?_,fun hk=>?_⟩
    ·have hk:=of_decide_eq_true hk
     have hkd:k=d:=by revert hk;cases k<;>cases d<;>simp[kd,Tr.kind]<;>decide
     refine⟨false,cs.map (Tr.room d),by rw[AH.set_same];simp,?_⟩
     have:=q _ (h1.trans k1)
     rw[Tr.room_node,if_pos hkd]at this
     exact this
    ·have hk:=of_decide_eq_false hk
     have hkd:k≠d:=fun z=>hk (by rw[z];rfl)
     refine⟨false,cs.map (Tr.room d),by rw[AH.set_same];simp,?_,fun M h1' h2'=>?_⟩
     ·have:=(Tr.ok_node.mp hs.ok).1
      intro z;rw[List.map_eq_nil_iff.mp z]at this;simp at this
     ·have:=q _ (h1.trans k1)
      rw[Tr.room_node,if_neg hkd,←lmin_eq h1' h2']at this
      exact this
end
end
section
namespace Tr
variable {α β:Type}
theorem plcs_app {r:Bool}:∀{s t:List (Tr α)} {x y:Int},∃x' y',plcs r x y (s++t)=plcs r x y s++plcs r x' y' t
 |[],t,x,y=>⟨x,y,by simp[plcs]⟩
 |c::s,t,x,y=>by
  obtain⟨x',y',h⟩:=plcs_app (r:=r) (s:=s) (t:=t) (x:=if r then x+(c.w+1)else x) (y:=if r then y else y+(c.h+1))
  exact⟨x',y',by simp only[List.cons_append,plcs,h]⟩
end Tr
theorem ads_plc {x y:Int} {t:L}:ads (Tr.plc x y t)=ads t:=ads_of_sk Tr.plc_sk
theorem rf_plc {x y:Int} {t:L}:rf (Tr.plc x y t)=rf t:=by simp[rf,Tr.plc_tag]
theorem mem_nodup_disj {as bs:List Addr} (h:(as++bs).Nodup) {a:Addr} (ha:a∈as):a∉bs:=fun hb=>(List.nodup_append.mp h).2.2 a ha a hb rfl
theorem Nd.upd {f:Bool} {H:AH} {t t':L} (h:Nd f H t) (e1:t'.tag=t.tag) (e2:t'.cs.map rf=t.cs.map rf) (e3:∃dx,H t.tag.1=some (f,.inst 45 dx (flds t'.kind t'.w t'.h t'.x t'.y t'.tag.2 t'.pv))):Nd f H t':=by
 refine⟨by rw[e1];rw[←e1]at e3 ⊢;exact e3,?_⟩
 have:=h.2
 rw[e1]
 show H t.tag.2=some (f,.list (t'.cs.map rf))
 rw[e2];exact this
section
variable {W:Wd} {m:Nat} {H:AH} {Q:AV→AH→Prop}
theorem c127 (G:GD W):∀{t:L} {x y:Int} {m:Nat} {H:AH} {Q:AV→AH→Prop},t.dep+1≤m→LR false H t→(ads t).Nodup→(∀H',Ex (ads t) H H'→LR false H' (Tr.plc x y t)→Q (.ref t.tag.1) H')→CallF W 127 [.ref t.tag.1,.int x,.int y] m H Q:=by
 intro t
 induction t using Tr.rec' with
 |step t ih=>
  intro x y m H Q hm ht hn q
  obtain⟨n,rfl,hn'⟩:=pos_of hm
  obtain⟨⟨dx,e⟩,el⟩:=ht.nd
  have hal:t.tag.2≠t.tag.1:=fun z=>by rw[z,e]at el;cases el
  rw[ads_eq,List.nodup_cons,List.nodup_cons]at hn
  obtain⟨n1,n2,n3⟩:=hn
  have m1:t.tag.1∉t.cs.flatMap ads:=fun z=>n1 (.tail _ z)
  refine enter G (f127 _) (hb127 _) (ws:=[]) (fun h _=>by simp only[VRs]) rfl ?_
  unfold b127 x127
  walk_at "wp"
  refine⟨by decide,?_⟩
  rw[px e,py (AH.set_same _ _ _),AH.set_set,gl (AH.set_same _ _ _)]
  refine for_map (g:=rf) (cs:=t.cs) (fun pre ρ H'=>∃x' y' dn suf k,t.cs=pre++suf∧ρ.lookup 25=some (.ref t.tag.1)∧ρ.lookup 3=some (.int x')∧ρ.lookup 4=some (.int y') ∧
    (t.kind=kd k→Tr.plcs k x y t.cs=dn++Tr.plcs k x' y' suf)∧dn.map Tr.sk=pre.map Tr.sk∧Ex (ads t) H H'∧(∃dx,H' t.tag.1=some (false,.inst 45 dx (flds t.kind t.w t.h x y t.tag.2 t.pv)))∧H' t.tag.2=some (false,.list (t.cs.map rf))∧(∀c∈dn,LR false H' c)∧(∀c∈suf,LR false H' c)∧(∀k',t.kind=kd k'→k'=k))
   ?_ (fun pre ρ H' ⟨_,_,_,_,_,_,_,_,_,_,_,_,_,h,_⟩=>⟨_,h⟩) ?_ ?_
  ·obtain⟨k,hk⟩:∃k,∀k',t.kind=kd k'→k'=k:=by
    cases t with
    |leaf=>exact⟨true,fun k' h=>absurd h.symm (kd_ne k')⟩
    |node a r=>exact⟨r,fun k' h=>by revert h;cases r<;>cases k'<;>simp[Tr.kind,kd]<;>decide⟩
   have k1:Ex (ads t) H (H.set t.tag.1 (.inst 45 dx (flds t.kind t.w t.h x y t.tag.2 t.pv))):=Ex.put.mono fun a ha=>by rw[List.mem_singleton.mp ha];exact at_mem t
   refine⟨x,y,[],t.cs,k,rfl,rfl,rfl,rfl,fun _=>rfl,rfl,k1,⟨dx,AH.set_same _ _ _⟩,(AH.set_ne _ _ hal).trans el,by simp,fun c hc=>(ht.kid hc).ex Ex.put fun a ha hz=>?_,hk⟩
   rw[List.mem_singleton.mp hz]at ha
   exact m1 (List.mem_flatMap.mpr ⟨c,hc,ha⟩)
  ·rintro pre u suf' ρ H' hcs ⟨x',y',dn,suf,k,h0,h1,h2,h3,h4,h5,h6,⟨dx',h7⟩,h8,h9,h10,h11⟩
   have hsuf:suf=u::suf':=List.append_cancel_left (h0.symm.trans hcs)
   subst hsuf
   have hu:u∈t.cs:=by rw[h0];simp
   rw[h0,List.flatMap_append,List.flatMap_cons]at n3 m1
   have n4:=(List.nodup_append.mp n3).2.1
   walk_at "wp"
   simp only[h1,h2,h3,Option.some.injEq,exists_eq_left']
   refine ih u hu (by have:=Tr.dep_kid hu;omega) (h10 u (.head _)) (List.nodup_append.mp n4).1 fun H'' k1 k2=>?_
   have m2:t.tag.1∉ads u:=fun z=>m1 (List.mem_append_right _ (List.mem_append_left _ z))
   have m3:t.tag.2∉ads u:=fun z=>n2 (List.mem_flatMap.mpr ⟨u,hu,z⟩)
   have e7:=k1.inst h7 m2
   have e8:=k1.list h8 m3
   have k3:Ex (ads t) H H'':=h6.trans (k1.mono fun a ha=>kid_mem hu ha)
   have hd:∀c∈dn,LR false H'' c:=fun c hc=>(h9 c hc).ex k1 fun a ha hz=>by
    have:a∈pre.flatMap ads:=by rw[←adss_of_sk h5];exact List.mem_flatMap.mpr ⟨c,hc,ha⟩
    exact mem_nodup_disj n3 this (List.mem_append_left _ hz)
   have hs:∀c∈suf',LR false H'' c:=fun c hc=>(h10 c (.tail _ hc)).ex k1 fun a ha hz=>mem_nodup_disj n4 hz (List.mem_flatMap.mpr ⟨c,hc,ha⟩)
   have hw:∃dx,H'' u.tag.1=some (false,.inst 45 dx (flds u.kind u.w u.h x' y' u.tag.2 u.pv)):=by
    obtain⟨⟨dx2,e2⟩,_⟩:=k2.nd
    rw[Tr.plc_tag,Tr.plc_w,Tr.plc_h,Tr.plc_x,Tr.plc_y,Tr.kind_sk Tr.plc_sk]at e2
    exact⟨dx2,by rw[e2];cases u<;>simp[Tr.plc,Tr.pv]⟩
   obtain⟨dx2,e2⟩:=hw
   simp only[rf,gk e7,gw e2,gh e2,BinR,augI]
   have com:∀(c:L),c∈dn++[Tr.plc x' y' u]→LR false H'' c:=fun c hc=>by
    rcases List.mem_append.mp hc with hc|hc
    ·exact hd c hc
    ·rw[List.mem_singleton.mp hc];exact k2
   have e5:(dn++[Tr.plc x' y' u]).map Tr.sk=(pre++[u]).map Tr.sk:=by simp[h5,Tr.plc_sk]
   refine⟨fun hk=>⟨_,rfl,_,rfl,?_⟩,fun hk=>⟨_,rfl,_,rfl,?_⟩⟩
   ·refine⟨_,y',dn++[Tr.plc x' y' u],suf',k,by simp[h0],trivial,rfl,rfl,fun hk'=>?_,e5,k3,⟨dx',e7⟩,e8,com,hs,h11⟩
    ·have:=of_decide_eq_true hk
     have:k=true:=(h11 true this).symm
     subst this
     rw[h4 hk'];simp[Tr.plcs]
   ·refine⟨x',_,dn++[Tr.plc x' y' u],suf',k,by simp[h0],trivial,rfl,rfl,fun hk'=>?_,e5,k3,⟨dx',e7⟩,e8,com,hs,h11⟩
    ·have hk:=of_decide_eq_false hk
     have:k=false:=by cases k;rfl;exact absurd hk' hk
     subst this
     rw[h4 hk'];simp[Tr.plcs]
  ·rintro ρ H' ⟨x',y',dn,suf,k,h0,h1,h2,h3,h4,h5,h6,⟨dx',h7⟩,h8,h9,h10,h11⟩
   have hsuf:suf=[]:=by simpa using h0
   subst hsuf
   refine⟨_,h1,q H' h6 (LR_iff.mpr ⟨?_,?_⟩)⟩
   ·refine⟨⟨dx',?_⟩,?_⟩
    ·rw[Tr.plc_tag,Tr.plc_w,Tr.plc_h,Tr.plc_x,Tr.plc_y,Tr.kind_sk Tr.plc_sk,h7]
     cases t<;>simp[Tr.plc,Tr.pv]
    ·rw[Tr.plc_tag]
     show H' t.tag.2=some (false,.list ((Tr.plc x y t).cs.map rf))
     rw[h8]
     cases t with
     |leaf=>simp[Tr.plc,Tr.cs]
     |node a r w h _ _ cs=>simp only[Tr.plc,Tr.cs];rw[Tr.plcs_map fun c _ x y=>rf_plc]
   ·cases t with
    |leaf=>simp[Tr.plc,Tr.cs]
    |node a r w h _ _ cs=>
     have:r=k:=h11 r rfl
     subst this
     have:=h4 rfl
     simp only[Tr.cs,Tr.plcs,List.append_nil]at this
     simp only[Tr.plc,Tr.cs,this]
     exact h9
end
end
section
section
variable {W:Wd} {m:Nat} {H:AH} {Q:AV→AH→Prop}
theorem nd_cs {H:AH} {d:Bool} {s:Int} {a:Addr × Addr} {r w h x y} {cs cs':List L} (n:Nd false H (Tr.setS d s (.node a r w h x y cs))) (e:cs'.map rf=cs.map rf):Nd false H (Tr.setS d s (.node a r w h x y cs')):=by
 cases d<;>exact⟨n.1,by have:=n.2;show H a.2=some (false,.list (cs'.map rf));rw[e];exact this⟩
theorem nd_ex {X:List Addr} {H H':AH} {d:Bool} {s:Int} {a:Addr × Addr} {r w h x y} {cs:List L} (k:Ex X H H') (n:Nd false H (Tr.setS d s (.node a r w h x y cs))) (h1:a.1∉X) (h2:a.2∉X):Nd false H' (Tr.setS d s (.node a r w h x y cs)):=
 n.ex k (by rw[Tr.setS_tag];exact h1) (by rw[Tr.setS_tag];exact h2)
theorem c120_leaf (G:GD W) {d:Bool} {a:Addr × Addr} {w h x y p:Int} {c:Int} (hm:2≤m) (ht:LR false H (.leaf a w h x y p))
  (q:∀H',Ex (ads (.leaf a w h x y p)) H H'→LR false H' (Tr.setS d ((Tr.leaf a w h x y p).side d+c) (.leaf a w h x y p))→Q .none H'):CallF W 120 [.ref a.1,.bool d,.int c] m H Q:=by
 obtain⟨n,rfl,hn⟩:=pos_of hm
 refine enter G (f120 _) (hb120 _) (ws:=[]) (fun h _=>by simp only[VRs]) rfl ?_
 unfold b120 x120
 walk_at "wp"
 refine c94 G hn ht.nd ?_
 simp only[BinR]
 refine c101 G hn ht.nd fun H1 k1 n1=>?_
 obtain⟨⟨dx,e⟩,el⟩:=n1
 rw[Tr.setS_tag]at e el
 have hk:(Tr.setS d ((Tr.leaf a w h x y p).side d+c) (.leaf a w h x y p)).kind=sPane:=by cases d<;>rfl
 have hc:(Tr.setS d ((Tr.leaf a w h x y p).side d+c) (.leaf a w h x y p)).cs=[]:=by cases d<;>rfl
 rw[hk]at e
 rw[hc]at el
 have e':H1 a.1=_:=e
 rw[gk e']
 refine c87 G hn ⟨fun _=>?_,fun z=>?_⟩
 ·rw[gl e']
  refine for_map (g:=rf) (cs:=[]) (fun _ _ H'=>H'=H1) rfl (fun _ _ H' hJ=>⟨false,by rw[hJ];exact el⟩) (fun pre u suf ρ H' hcs=>by simp at hcs) ?_
  rintro ρ H' rfl
  refine q H' (k1.mono fun b hb=>?_) (LR_iff.mpr ⟨⟨⟨dx,by rw[Tr.setS_tag,hk];exact e⟩,by rw[Tr.setS_tag,hc];exact el⟩,by rw[hc];simp⟩)
  rw[List.mem_singleton.mp hb];exact at_mem (.leaf a w h x y p)
 ·have:decide (sPane=kd d)=false:=decide_eq_false fun z=>(kd_ne d) z.symm
  rw[this]at z;cases z
theorem c120_node (G:GD W) {d:Bool} {k:Nat} (ih:∀{t:L} {c:Int} {m:Nat} {H:AH} {Q:AV→AH→Prop},t.dep≤k→t.dep+3≤m→LR false H t→(ads t).Nodup→t.Sm→0≤t.room d+c→(∀H',Ex (ads t) H H'→LR false H' (Tr.chg k d c t)→Q .none H')→CallF W 120 [.ref t.tag.1,.bool d,.int c] m H Q)
  {a:Addr × Addr} {r:Bool} {w h x y:Int} {cs:List L} {t:L} (et:t=.node a r w h x y cs) {c:Int} (hk:t.dep≤k+1) (hm:t.dep+3≤m) (ht:LR false H t) (hnd:(ads t).Nodup) (hs:t.Sm) (hr:0≤t.room d+c)
  (q:∀H',Ex (ads t) H H'→LR false H' (Tr.chg (k+1) d c t)→Q .none H'):CallF W 120 [.ref a.1,.bool d,.int c] m H Q:=by
 obtain⟨n,rfl,hn⟩:=pos_of hm
 have hcs:t.cs=cs:=by rw[et];rfl
 have htag:t.tag=a:=by rw[et];rfl
 have hkid:∀u:L,u.sk∈cs.map Tr.sk→u.dep≤k∧u.dep+3≤n:=fun u hu=>by
  obtain⟨v,hv,e⟩:=List.mem_map.mp hu
  have:=Tr.dep_kid (t:=t) (c:=v) (by rw[hcs];exact hv)
  rw[Tr.dep_sk e.symm];omega
 have hok:=hs.ok
 rw[et,Tr.ok_node]at hok
 have hne:cs≠[]:=by rintro rfl;simp at hok
 have hsm:∀u:L,u.sk∈cs.map Tr.sk→u.ok→u.Sm:=fun u hu ho=>by
  obtain⟨v,hv,e⟩:=List.mem_map.mp hu
  exact Tr.sm_sk e.symm ho (hs.kid (by rw[hcs];exact hv))
 rw[ads_eq,List.nodup_cons,List.nodup_cons,hcs,htag]at hnd
 obtain⟨d1,d2,d3⟩:=hnd
 have m1:a.1∉cs.flatMap ads:=fun z=>d1 (.tail _ z)
 have kmem:∀u:L,u.sk∈cs.map Tr.sk→∀b∈ads u,b∈cs.flatMap ads:=fun u hu b hb=>by
  obtain⟨v,hv,e⟩:=List.mem_map.mp hu
  exact List.mem_flatMap.mpr ⟨v,hv,by rw[ads_of_sk e];exact hb⟩
 have tmem:∀b∈cs.flatMap ads,b∈ads t:=fun b hb=>by rw[ads_eq,hcs];exact .tail _ (.tail _ hb)
 refine enter G (f120 _) (hb120 _) (ws:=[]) (fun h _=>by simp only[VRs]) rfl ?_
 unfold b120 x120
 walk_at "wp"
 have hnd:=ht.nd
 rw[et]at hnd
 refine c94 G (t:=.node a r w h x y cs) (by omega) hnd ?_
 simp only[BinR]
 refine c101 G (t:=.node a r w h x y cs) (by omega) hnd fun H1 k1 n1=>?_
 generalize hsd:(Tr.node a r w h x y cs).side d+c=s at n1
 have k1':Ex (ads t) H H1:=k1.mono fun b hb=>by rw[List.mem_singleton.mp hb];show a.1∈_;rw[←htag];exact at_mem t
 have l1:∀u∈cs,LR false H1 u:=fun u hu=>(ht.kid (by rw[hcs];exact hu)).ex k1 fun b hb hz=>by
  rw[List.mem_singleton.mp hz]at hb
  exact m1 (List.mem_flatMap.mpr ⟨u,hu,hb⟩)
 obtain⟨⟨dx,e⟩,el⟩:=id n1
 rw[Tr.setS_tag]at e el
 have hkd:(Tr.setS d s (.node a r w h x y cs)).kind=kd r:=by cases d<;>rfl
 have hcs1:(Tr.setS d s (.node a r w h x y cs)).cs=cs:=by cases d<;>rfl
 rw[hkd]at e
 rw[hcs1]at el
 have e':H1 a.1=_:=e
 have el':H1 a.2=some (false,.list (cs.map rf)):=el
 rw[gk e']
 refine c87 G (by omega) ⟨fun hb=>?_,fun hb=>?_⟩
 ·have hrd:r≠d:=fun z=>by subst z;simp at hb
  have hr':∀u∈cs,0≤u.room d+c:=fun u hu=>by
   rw[et,Tr.room_node,if_neg hrd]at hr
   have:=lmin_le (List.mem_map.mpr ⟨u,hu,rfl⟩:u.room d∈cs.map (Tr.room d));omega
  rw[gl e']
  refine for_map (g:=rf) (cs:=cs) (fun pre ρ H'=>ρ.lookup 27=some (.bool d)∧ρ.lookup 30=some (.int c)∧∃suf,cs=pre++suf∧Ex (ads t) H H'∧Nd false H' (Tr.setS d s (.node a r w h x y cs))∧(∀u∈pre,LR false H' (Tr.chg k d c u))∧∀u∈suf,LR false H' u)
   ⟨rfl,rfl,cs,rfl,k1',n1,by simp,l1⟩ (fun pre ρ H' ⟨_,_,_,_,_,hJ,_⟩=>⟨false,by have:=hJ.2;rw[Tr.setS_tag,hcs1]at this;exact this⟩) ?_ ?_
  ·rintro pre u suf' ρ H' hc ⟨h2,h3,suf,h0,h4,h5,h6,h7⟩
   have hsuf:suf=u::suf':=List.append_cancel_left (h0.symm.trans hc)
   subst hsuf
   have hu:u∈cs:=by rw[h0];simp
   have husk:u.sk∈cs.map Tr.sk:=List.mem_map.mpr ⟨u,hu,rfl⟩
   have d3':=d3
   rw[h0,List.flatMap_append,List.flatMap_cons]at d3'
   have d4:=(List.nodup_append.mp d3').2.1
   walk_at "wp"
   simp only[h2,h3,Option.some.injEq,exists_eq_left']
   refine ih (t:=u) (hkid u husk).1 (hkid u husk).2 (h7 u (.head _)) (List.nodup_append.mp d4).1 (hs.kid (by rw[hcs];exact hu)) (hr' u hu) fun H'' k2 k3=>?_
   refine⟨trivial,trivial,suf',by simp[h0],h4.trans (k2.mono fun b hb=>tmem b (kmem u husk b hb)),nd_ex k2 h5 (fun z=>m1 (kmem u husk _ z)) (fun z=>d2 (kmem u husk _ z)),fun v hv=>?_,fun v hv=>?_⟩
   ·rcases List.mem_append.mp hv with hv|hv
    ·have hv':v∈cs:=by rw[h0];exact List.mem_append_left _ hv
     have hch:=Tr.chg_ok (d:=d) (k:=k) (hkid v (List.mem_map.mpr ⟨v,hv',rfl⟩)).1 (hok.2 v hv') (hr' v hv')
     refine(h6 v hv).ex k2 fun b hb hz=>?_
     rw[ads_of_sk hch.sk]at hb
     exact mem_nodup_disj d3' (List.mem_flatMap.mpr ⟨v,hv,hb⟩) (List.mem_append_left _ hz)
    ·rw[List.mem_singleton.mp hv];exact k3
   ·exact(h7 v (.tail _ hv)).ex k2 fun b hb hz=>mem_nodup_disj d4 hz (List.mem_flatMap.mpr ⟨v,hv,hb⟩)
  ·rintro ρ H' ⟨h2,h3,suf,h0,h4,h5,h6,h7⟩
   refine q H' h4 ?_
   rw[et]
   simp only[Tr.chg,if_neg hrd,hsd]
   have hsk:(cs.map (Tr.chg k d c)).map Tr.sk=cs.map Tr.sk:=by
    rw[List.map_map]
    exact List.map_congr_left fun u hu=>(Tr.chg_ok (hkid u (List.mem_map.mpr ⟨u,hu,rfl⟩)).1 (hok.2 u hu) (hr' u hu)).sk
   refine LR_iff.mpr ⟨nd_cs h5 (rf_of_sk hsk),fun u hu=>?_⟩
   rw[Tr.setS_cs]at hu
   obtain⟨v,hv,rfl⟩:=List.mem_map.mp hu
   exact h6 v hv
 ·have hrd:r=d:=by
   revert hb;cases r<;>cases d<;>simp[kd]<;>decide
  have hr0:0≤(cs.map (Tr.room d)).sum+c:=by rw[et,Tr.room_node,if_pos hrd]at hr;exact hr
  have hP:∀cs':List L,cs'.map Tr.sk=cs.map Tr.sk→(∀u∈cs',u.ok)→∀u∈cs',u.ok∧∀c,(c=1∨c = -1)→0≤u.room d+c→Tr.Chg d c u (Tr.chg k d c u):=fun cs' h1 h2 u hu=>
   ⟨h2 u hu,fun c _ hc=>Tr.chg_ok (hkid u (by rw[←h1];exact List.mem_map.mpr ⟨u,hu,rfl⟩)).1 (h2 u hu) hc⟩
  refine⟨fun μ ρ H'=>∃(c':Int) (cs':List L) (m':Nat),μ=c'.natAbs∧ρ.lookup 25=some (.ref a.1)∧ρ.lookup 27=some (.bool d)∧ρ.lookup 30=some (.int c')∧c'.natAbs≤m' ∧
    Tr.dist (Tr.chg k d) d m' c' cs'=Tr.dist (Tr.chg k d) d c.natAbs c cs∧cs'.map Tr.sk=cs.map Tr.sk∧(∀u∈cs',u.ok)∧0≤(cs'.map (Tr.room d)).sum+c'∧Ex (ads t) H H'∧Nd false H' (Tr.setS d s (.node a r w h x y cs))∧∀u∈cs',LR false H' u,
   c.natAbs,⟨c,cs,c.natAbs,rfl,rfl,rfl,rfl,Nat.le_refl _,rfl,rfl,hok.2,hr0,k1',n1,l1⟩,?_⟩
  rintro μ ρ H' ⟨c',cs',m',rfl,h1,h2,h3,h4,h5,h6,h7,h8,h9,h10,h11⟩
  walk_at "wp"
  simp only[h3,Option.some.injEq,exists_eq_left']
  refine⟨fun hz=>?_,fun hz=>?_⟩
  ·have hc0:c'=0:=by simpa using hz
   subst hc0
   have h5':Tr.dist (Tr.chg k d) d c.natAbs c cs=cs':=by rw[←h5];cases m'<;>simp[Tr.dist]
   refine q H' h9 ?_
   rw[et]
   simp only[Tr.chg,if_pos hrd,hsd,h5']
   exact LR_iff.mpr ⟨nd_cs h10 (rf_of_sk h6),fun u hu=>h11 u (by rwa [Tr.setS_cs]at hu)⟩
  ·have hc0:c'≠0:=by simpa using hz
   have hmm:∃m2,m'=m2+1:=⟨m'-1,by omega⟩
   obtain⟨m2,rfl⟩:=hmm
   simp only[Tr.dist,if_neg hc0]at h5
   have hpass:=Tr.pass_ok (c:=c') (hP cs' h6 h7)
   have hne':cs'≠[]:=fun z=>by rw[z]at h6;exact hne (List.map_eq_nil_iff.mp h6.symm)
   have hlt:(Tr.pass (Tr.chg k d) d c' cs').1.natAbs<c'.natAbs:=by
    have:=hpass.rm
    rcases Int.lt_or_gt_of_ne hc0 with h|h
    ·have:=hpass.dn (by omega);have:=hpass.gt h (by omega);omega
    ·have:=hpass.up (by omega);have:=hpass.lt h hne';omega
   obtain⟨⟨dx2,e2⟩,el2⟩:=id h10
   rw[Tr.setS_tag]at e2 el2
   rw[hcs1]at el2
   have e2':H' a.1=_:=e2
   simp only[h1,Option.some.injEq,exists_eq_left']
   rw[gl e2']
   have d3':=d3
   rw[←adss_of_sk h6]at d3'
   refine for_map (g:=rf) (cs:=cs') (fun pre ρ H''=>ρ.lookup 25=some (.ref a.1)∧ρ.lookup 27=some (.bool d)∧∃c2 dn suf,ρ.lookup 30=some (.int c2)∧cs'=pre++suf ∧
     (Tr.pass (Tr.chg k d) d c' cs').1=(Tr.pass (Tr.chg k d) d c2 suf).1∧(Tr.pass (Tr.chg k d) d c' cs').2=dn++(Tr.pass (Tr.chg k d) d c2 suf).2∧dn.map Tr.sk=pre.map Tr.sk∧Ex (ads t) H H'' ∧
     Nd false H'' (Tr.setS d s (.node a r w h x y cs))∧(∀u∈dn,LR false H'' u)∧∀u∈suf,LR false H'' u)
    ⟨h1,h2,c',[],cs',h3,rfl,rfl,rfl,rfl,h9,h10,by simp,h11⟩ (fun pre ρ H'' ⟨_,_,_,_,_,_,_,_,_,_,_,hJ,_⟩=>⟨false,by have:=hJ.2;rw[Tr.setS_tag,hcs1]at this;rw[rf_of_sk h6];exact this⟩) ?_ ?_
   ·rintro pre u suf' ρ H2 hc ⟨g1,g2,c2,dn,suf,g3,g4,g5,g6,g7,g8,g9,g10,g11⟩
    have hsuf:suf=u::suf':=List.append_cancel_left (g4.symm.trans hc)
    subst hsuf
    have hu:u∈cs':=by rw[g4];simp
    have husk:u.sk∈cs.map Tr.sk:=by rw[←h6];exact List.mem_map.mpr ⟨u,hu,rfl⟩
    have d4:=d3'
    rw[g4,List.flatMap_append,List.flatMap_cons]at d4
    have d5:=(List.nodup_append.mp d4).2.1
    have huok:=h7 u hu
    have hur:=Tr.room_nonneg (d:=d) huok
    have after:∀(e:Int) (H3:AH),(e=1∨e = -1)→0≤u.room d+e→Ex (ads u) H2 H3→LR false H3 (Tr.chg k d e u)→Ex (ads t) H H3∧Nd false H3 (Tr.setS d s (.node a r w h x y cs))∧(∀v∈dn++[Tr.chg k d e u],LR false H3 v)∧(∀v∈suf',LR false H3 v)∧(dn++[Tr.chg k d e u]).map Tr.sk=(pre++[u]).map Tr.sk:=by
     intro e H3 he hre k2 k3
     have hch:=(hP cs' h6 h7 u hu).2 e he hre
     refine⟨g8.trans (k2.mono fun b hb=>tmem b (kmem u husk b hb)),nd_ex k2 g9 (fun z=>m1 (kmem u husk _ z)) (fun z=>d2 (kmem u husk _ z)),fun v hv=>?_,fun v hv=>?_,by simp[g7,hch.sk]⟩
     ·rcases List.mem_append.mp hv with hv|hv
      ·refine(g10 v hv).ex k2 fun b hb hz=>?_
       have:b∈pre.flatMap ads:=by rw[←adss_of_sk g7];exact List.mem_flatMap.mpr ⟨v,hv,hb⟩
       exact mem_nodup_disj d4 this (List.mem_append_left _ hz)
      ·rw[List.mem_singleton.mp hv];exact k3
     ·exact(g11 v (.tail _ hv)).ex k2 fun b hb hz=>mem_nodup_disj d5 hz (List.mem_flatMap.mpr ⟨v,hv,hb⟩)
    walk_at "wp"
    simp only[g1,g2,g3,Option.some.injEq,exists_eq_left']
    refine⟨_,_,rfl,rfl,fun hp=>?_,fun hp=>?_⟩
    ·have hp:0<c2:=of_decide_eq_true hp
     refine ih (t:=u) (hkid u husk).1 (hkid u husk).2 (g11 u (.head _)) (List.nodup_append.mp d5).1 (hsm u husk huok) (by omega) fun H3 k2 k3=>?_
     obtain⟨a1,a2,a3,a4,a5⟩:=after 1 H3 (.inl rfl) (by omega) k2 k3
     simp only[Tr.pass,if_pos hp]at g5 g6
     simp only[g3,Option.some.injEq,AV.int.injEq,exists_eq_left',augI]
     refine⟨trivial,trivial,c2-1,dn++[Tr.chg k d 1 u],suf',rfl,by simp[g4],g5,by rw[g6];simp,a5,a1,a2,a3,a4⟩
    ·have hp:¬0<c2:=of_decide_eq_false hp
     refine⟨_,_,rfl,rfl,fun hq=>?_,fun hq=>?_⟩
     ·have hq:¬c2<0:=of_decide_eq_false hq
      have hp2:¬(c2<0∧0<u.room d):=fun z=>hq z.1
      simp only[Tr.pass,if_neg hp,if_neg hp2]at g5 g6
      refine⟨(fun z=>by cases z),fun _=>⟨trivial,trivial,c2,dn++[u],suf',rfl,by simp[g4],g5,by rw[g6];simp,by simp[g7],g8,g9,fun v hv=>?_,fun v hv=>g11 v (.tail _ hv)⟩⟩
      rcases List.mem_append.mp hv with hv|hv
      ·exact g10 v hv
      ·rw[List.mem_singleton.mp hv];exact g11 u (.head _)
     ·have hq:c2<0:=of_decide_eq_true hq
      refine c113 G (t:=u) (by have:=(hkid u husk).2;omega) (g11 u (.head _)) (hsm u husk huok) fun H3 k4=>⟨_,_,rfl,rfl,?_⟩
      have b1:=g8.trans (k4.ex (X:=ads t))
      have b2:Nd false H3 (Tr.setS d s (.node a r w h x y cs)):=nd_ex k4 g9 (by simp) (by simp)
      refine⟨fun hz=>?_,fun hz=>?_⟩
      ·have hz:0<u.room d:=of_decide_eq_true hz
       refine ih (t:=u) (hkid u husk).1 (hkid u husk).2 ((g11 u (.head _)).sb k4) (List.nodup_append.mp d5).1 (hsm u husk huok) (by omega) fun H4 k2 k3=>?_
       obtain⟨a1,a2,a3,a4,a5⟩:=after (-1) H4 (.inr rfl) (by omega) ((Sb.ex k4).trans k2) k3
       simp only[Tr.pass,if_neg hp,if_pos (show c2<0∧0<u.room d from⟨hq,hz⟩)]at g5 g6
       exact⟨c2,rfl,trivial,trivial,c2+1,dn++[Tr.chg k d (-1) u],suf',rfl,by simp[g4],g5,by rw[g6];simp,a5,a1,a2,a3,a4⟩
      ·have hz:¬0<u.room d:=of_decide_eq_false hz
       simp only[Tr.pass,if_neg hp,if_neg (show ¬(c2<0∧0<u.room d)from fun z=>hz z.2)]at g5 g6
       refine⟨trivial,trivial,c2,dn++[u],suf',rfl,by simp[g4],g5,by rw[g6];simp,by simp[g7],b1,b2,fun v hv=>?_,fun v hv=>(g11 v (.tail _ hv)).sb k4⟩
       rcases List.mem_append.mp hv with hv|hv
       ·exact(g10 v hv).sb k4
       ·rw[List.mem_singleton.mp hv];exact(g11 u (.head _)).sb k4
   ·rintro ρ H2 ⟨g1,g2,c2,dn,suf,g3,g4,g5,g6,g7,g8,g9,g10,g11⟩
    have hsuf:suf=[]:=by simpa using g4
    subst hsuf
    simp only[Tr.pass,List.append_nil]at g5 g6
    refine⟨c2.natAbs,by rw[←g5];exact hlt,c2,dn,m2,rfl,g1,g2,g3,by rw[←g5];omega,by rw[←g5,←g6];exact h5,by rw[g7];exact h6,by rw[←g6];exact hpass.ok,by rw[←g5,←g6,hpass.rm];exact h8,g8,g9,g10⟩
theorem c120 (G:GD W) {d:Bool}:∀{k:Nat} {t:L} {c:Int} {m:Nat} {H:AH} {Q:AV→AH→Prop},t.dep≤k→t.dep+3≤m→LR false H t→(ads t).Nodup→t.Sm→0≤t.room d+c→(∀H',Ex (ads t) H H'→LR false H' (Tr.chg k d c t)→Q .none H')→
  CallF W 120 [.ref t.tag.1,.bool d,.int c] m H Q:=by
 intro k
 induction k with
 |zero=>
  intro t c m H Q hk hm ht hn hs hr q
  cases t with
  |leaf a w h x y p=>exact c120_leaf G (by omega) ht q
  |node=>simp[Tr.dep]at hk
 |succ k ih=>
  intro t c m H Q hk hm ht hn hs hr q
  cases t with
  |leaf a w h x y p=>exact c120_leaf G (by omega) ht q
  |node a r w h x y cs=>exact c120_node G ih rfl hk hm ht hn hs hr q
end
end
section
def Fm.map {α β:Type} (g:α→β) (F:Fm α):Fm β:=⟨g F.a,F.r,F.w,F.h,F.x,F.y,F.l.map (Tr.map g),F.rt.map (Tr.map g)⟩
namespace Tr
variable {α β:Type}
theorem map_setS {g:α→β} {d:Bool} {s:Int} {t:Tr α}:(setS d s t).map g=setS d s (t.map g):=by cases t<;>cases d<;>simp[setS,map]
theorem pass_map {g:α→β} {f:Int→Tr α→Tr α} {f':Int→Tr β→Tr β} {d:Bool} (hf:∀e t,f' e (t.map g)=(f e t).map g):∀{cs:List (Tr α)} {c:Int},pass f' d c (cs.map (map g))=((pass f d c cs).1,(pass f d c cs).2.map (map g))
 |[],c=>rfl
 |t::ts,c=>by
  simp only[List.map_cons,pass,map_room]
  rw[pass_map hf,pass_map hf,pass_map hf]
  split
  ·simp[hf]
  ·split<;>simp[hf]
theorem dist_map {g:α→β} {f:Int→Tr α→Tr α} {f':Int→Tr β→Tr β} {d:Bool} (hf:∀e t,f' e (t.map g)=(f e t).map g):∀{m:Nat} {cs:List (Tr α)} {c:Int},dist f' d m c (cs.map (map g))=(dist f d m c cs).map (map g)
 |0,cs,c=>rfl
 |m+1,cs,c=>by
  simp only[dist]
  split
  ·rfl
  ·rw[pass_map hf];exact dist_map hf
theorem chg_map {g:α→β} {d:Bool}:∀{k:Nat} {c:Int} {t:Tr α},chg k d c (t.map g)=(chg k d c t).map g:=by
 intro k
 induction k with
 |zero=>intro c t;simp only[chg,map_setS,map_side]
 |succ k ih=>
  intro c t
  cases t with
  |leaf a w h x y p=>simp only[chg,map_leaf,map_setS];cases d<;>rfl
  |node a r w h x y cs=>
   rw[map_node]
   simp only[chg,map_setS,map_node]
   have:∀l:List (Tr α),(Tr.node (g a) r w h x y (l.map (map g))).side d=(Tr.node a r w h x y l).side d:=fun l=>by cases d<;>rfl
   rw[this]
   split
   ·rw[dist_map (f:=chg k d) fun e t=>ih]
   ·rw[List.map_map,List.map_map]
    exact congrArg (fun l=>setS d ((Tr.node a r w h x y cs).side d+c) (.node (g a) r w h x y l)) (List.map_congr_left fun t _=>ih)
theorem plcs_mapg {g:α→β} {r:Bool}:∀{cs:List (Tr α)} {x y:Int},(∀c∈cs,∀x y,plc x y (c.map g)=(plc x y c).map g)→plcs r x y (cs.map (map g))=(plcs r x y cs).map (map g)
 |[],_,_,_=>rfl
 |c::cs,x,y,h=>by
  simp only[List.map_cons,plcs,map_w,map_h]
  rw[h c (.head _),plcs_mapg fun c hc=>h c (.tail _ hc)]
theorem plc_map {g:α→β}:∀{t:Tr α} {x y:Int},plc x y (t.map g)=(plc x y t).map g:=by
 intro t
 induction t using rec' with
 |step t ih=>
  intro x y
  cases t with
  |leaf=>simp[plc,map]
  |node a r w h x' y' cs=>
   rw[map_node]
   simp only[plc,map_node]
   rw[plcs_mapg (cs:=cs) fun c hc x y=>ih c hc]
theorem plug_map {g:α→β}:∀{C:List (Fm α)} {t:Tr α},(plug C t).map g=plug (C.map (Fm.map g)) (t.map g)
 |[],t=>rfl
 |F::C,t=>by simp only[plug,List.map_cons,fill,map_node,List.map_append,plug_map (C:=C),Fm.map]
theorem finds_map {g:α→β} {p:Int} {a:α} {r:Bool} {w h x y:Int}:∀{cs pre:List (Tr α)},(∀c∈cs,find p (c.map g)=(find p c).map fun q=>(q.1.map (Fm.map g),q.2.map g))→
  finds p (g a) r w h x y (pre.map (map g)) (cs.map (map g))=(finds p a r w h x y pre cs).map fun q=>(q.1.map (Fm.map g),q.2.map g)
 |[],pre,_=>rfl
 |c::cs,pre,h'=>by
  simp only[List.map_cons,finds,h' c (.head _)]
  cases find p c with
  |some q=>rfl
  |none=>
   have:=finds_map (p:=p) (a:=a) (r:=r) (w:=w) (h:=h) (x:=x) (y:=y) (cs:=cs) (pre:=pre++[c]) fun c hc=>h' c (.tail _ hc)
   simpa using this
theorem find_map {g:α→β} {p:Int}:∀{t:Tr α},find p (t.map g)=(find p t).map fun q=>(q.1.map (Fm.map g),q.2.map g):=by
 intro t
 induction t using rec' with
 |step t ih=>
  cases t with
  |leaf a w h x y q=>simp only[map_leaf,find];split<;>rfl
  |node a r w h x y cs=>
   rw[map_node,find,find]
   exact finds_map (pre:=[]) fun c hc=>ih c hc
def mn (a b:Int):Int:=if b<a then b else a
def mx (a b:Int):Int:=if a<b then b else a
def many (s:Int) (size:Option Int):Int:=mx 1 (mn (size.getD ((s+1).fdiv 2-1)) (s-1-1))
def halves (b:α) (fresh:Int) (d:Bool) (size:Option Int) (before:Bool) (l:Tr α):List (Tr α):=
 let other:=setS d (many (l.side d) size) (.leaf b l.w l.h 0 0 fresh)
 let leaf:=setS d (l.side d-1-many (l.side d) size) l
 if before then [other,leaf]else [leaf,other]
def splitT (t:T) (p fresh:Int) (d:Bool) (size:Option Int) (before:Bool):Option T:=
 match t.find p with
 |none=>none
 |some (C,l)=>if fresh∈t.panes then none else if l.side d<3 then none else
  match C.getLast? with
  |some F=>if F.r=d then some (plc 0 0 (plug C.dropLast (.node () F.r F.w F.h F.x F.y (F.l++halves () fresh d size before l++F.rt))))
   else if 50<C.length+1 then none else some (plc 0 0 (plug C (.node () d l.w l.h 0 0 (halves () fresh d size before l))))
  |none=>some (plc 0 0 (.node () d l.w l.h 0 0 (halves () fresh d size before l)))
def chT (d:Bool) (c:Int) (t:Tr α):Tr α:=chg t.dep d c t
def melt (r:Bool) (cs:List (Tr α)):List (Tr α):=cs.flatMap fun c=>if c.kind=kd r then c.cs else [c]
def grown (F:Fm α) (c:Int):List (Tr α):=(F.l++F.rt).modify (F.l.length-1) (chT F.r c)
def closeT (t:T) (p:Int):Option T:=
 match t.find p with
 |none=>none
 |some (C,l)=>match C.getLast? with
  |none=>none
  |some F=>
   let ks:=grown F (l.side F.r+1)
   if 1<ks.length then some (plc 0 0 (plug C.dropLast (.node () F.r F.w F.h F.x F.y ks)))
   else match ks,C.dropLast.getLast? with
    |[k],none=>some (plc 0 0 k)
    |[k],some E=>some (plc 0 0 (plug C.dropLast.dropLast (.node () E.r E.w E.h E.x E.y (melt E.r (E.l++k::E.rt)))))
    |_,_=>none
def fit1 (d:Bool) (s:Int) (t:Tr α):Tr α:=chT d (mx (s-t.side d) (-(t.room d))) t
def fitT (w h:Int) (t:Tr α):Tr α:=plc 0 0 (fit1 false h (fit1 true w t))
theorem chT_map {g:α→β} {d:Bool} {c:Int} {t:Tr α}:chT d c (t.map g)=(chT d c t).map g:=by simp only[chT,map_dep,chg_map]
theorem fit1_map {g:α→β} {d:Bool} {s:Int} {t:Tr α}:fit1 d s (t.map g)=(fit1 d s t).map g:=by simp only[fit1,map_side,map_room,chT_map]
theorem chT_ok {d:Bool} {t:Tr α} {c:Int} (ho:t.ok) (hr:0≤t.room d+c):Chg d c t (chT d c t):=chg_ok (Nat.le_refl _) ho hr
theorem many_le {s:Int} {size:Option Int} (h:3≤s):1≤many s size∧many s size≤s-2:=by
 unfold many mx mn;split<;>split<;>omega
theorem side_leaf {a:α} {w h x y p:Int} {d:Bool}:(Tr.leaf a w h x y p).side d=if d then w else h:=by cases d<;>rfl
theorem halves_len {b:α} {fresh:Int} {d:Bool} {size:Option Int} {before:Bool} {l:Tr α}:(halves b fresh d size before l).length=2:=by unfold halves;split<;>rfl
theorem halves_panes {a b:α} {fresh:Int} {d:Bool} {size:Option Int} {before:Bool} {w h x y p:Int}:(halves b fresh d size before (.leaf a w h x y p)).flatMap panes=if before then [fresh,p]else [p,fresh]:=by
 unfold halves
 have:∀{a:α} {s w h x y p:Int},(setS d s (.leaf a w h x y p)).panes=[p]:=by intros;cases d<;>rfl
 cases before<;>simp[this]
theorem ok_setS_leaf {a:α} {s:Int} {d:Bool} {w h x y p:Int} (h1:1≤w) (h2:1≤h) (h3:1≤s):(setS d s (.leaf a w h x y p)).ok:=by cases d<;>simp[setS,ok]<;>omega
theorem halves_all {b:α} {fresh:Int} {d:Bool} {size:Option Int} {before:Bool} {l:Tr α} {P:Tr α→Prop} (h1:P (setS d (many (l.side d) size) (.leaf b l.w l.h 0 0 fresh))) (h2:P (setS d (l.side d-1-many (l.side d) size) l)):∀c∈halves b fresh d size before l,P c:=by
 unfold halves
 intro c hc
 cases before<;>simp at hc<;>rcases hc with rfl|rfl<;>assumption
theorem halves_sum {b:α} {fresh:Int} {d:Bool} {size:Option Int} {before:Bool} {l:Tr α}:((halves b fresh d size before l).map (side d)).sum=l.side d-1:=by
 unfold halves
 cases before<;>simp[side_setS_same]<;>omega
theorem halves_side {a b:α} {fresh:Int} {d:Bool} {size:Option Int} {before:Bool} {w h x y p:Int}:∀c∈halves b fresh d size before (.leaf a w h x y p),c.side (!d)=(Tr.leaf a w h x y p).side (!d):=by
 refine halves_all ?_ ?_
 ·rw[side_setS_other];cases d<;>rfl
 ·rw[side_setS_other]
structure Fine (t:Tr α):Prop where
 sm:Sm t
 geo:t.geo
 bw:t.w≤64
 bh:t.h≤64
 box:box 64 t
theorem Fine.ok {t:Tr α} (h:Fine t):t.ok:=h.sm.ok
structure Good (t:Tr α):Prop where
 ok:t.ok
 geo:t.geo
 bw:t.w≤64
 bh:t.h≤64
theorem Fine.good {t:Tr α} (h:Fine t):Good t:=⟨h.ok,h.geo,h.bw,h.bh⟩
theorem Good.fine {t:Tr α} (h:Good t) (hl:t.panes.length≤20):Fine (plc 0 0 t):=
 ⟨⟨plc_ok h.ok,by rw[plc_panes];exact hl⟩,plc_geo h.geo,by rw[plc_w];exact h.bw,by rw[plc_h];exact h.bh,plc_box h.ok h.geo (by omega) (by omega) (by have:=h.bw;omega) (by have:=h.bh;omega)⟩
theorem snoc_of_getLast? {C:List α} {F:α} (h:C.getLast?=some F):C=C.dropLast++[F]:=by
 have hne:C≠[]:=by rintro rfl;simp at h
 rw[List.getLast?_eq_some_getLast hne]at h
 cases h
 exact(List.dropLast_concat_getLast hne).symm
theorem good_plug {C:List (Fm α)} {t u:Tr α} (h:Good (plug C t)) (hu:u.ok) (hg:u.geo) (hs:∀d,u.side d=t.side d):Good (plug C u):=
 ⟨(ok_plug h.ok).2 u hu,(geo_plug h.geo).2 u hs hg,by rw[side_w,side_plug hs];exact h.bw,by rw[side_h,side_plug hs];exact h.bh⟩
theorem node_side {a:α} {r w h x y d} {cs:List (Tr α)}:(Tr.node a r w h x y cs).side d=if d then w else h:=by cases d<;>rfl
theorem bool_ne {r d:Bool} (h:¬r=d):r = !d:=by revert h;cases r<;>cases d<;>simp
theorem good_node {a b c:α} {fresh:Int} {d:Bool} {size:Option Int} {before:Bool} {w h x y p:Int} (ho:(Tr.leaf a w h x y p).ok) (h3:3≤(Tr.leaf a w h x y p).side d) :
  (Tr.node c d w h 0 0 (halves b fresh d size before (.leaf a w h x y p))).ok∧(Tr.node c d w h 0 0 (halves b fresh d size before (.leaf a w h x y p))).geo:=by
 have ⟨m1,m2⟩:=many_le (size:=size) h3
 simp only[ok]at ho
 refine⟨ok_node.mpr ⟨by rw[halves_len];omega,halves_all (P:=ok) (ok_setS_leaf ho.1 ho.2 m1) (ok_setS_leaf ho.1 ho.2 (by omega))⟩,geo_node.mpr ⟨?_,fun u hu=>?_,halves_all (P:=geo) geo_setS_leaf geo_setS_leaf⟩⟩
 ·rw[halves_sum,halves_len,node_side,side_leaf];omega
 ·rw[halves_side u hu,node_side,side_leaf]
theorem split_good {t:T} {p fresh:Int} {d:Bool} {size:Option Int} {before:Bool} {t':T} (hg:Fine t) (e:splitT t p fresh d size before=some t') (hl:t.panes.length+1≤20) :
  Fine t'∧(∀d,t'.side d=t.side d)∧fresh∉t.panes∧∃pre post,t.panes=pre++p::post∧t'.panes=pre++(if before then [fresh,p]else [p,fresh])++post:=by
 unfold splitT at e
 split at e
 ·cases e
 ·rename_i C l hf
  split at e
  ·cases e
  ·rename_i hfr
   split at e
   ·cases e
   ·rename_i h3
    obtain⟨et,a,w,h,x,y,rfl⟩:=find_some hf
    have hgd:=hg.good
    rw[et]at hgd
    have hok:=(ok_plug hgd.ok).1
    obtain⟨n1,n2⟩:=good_node (d:=d) (c:=()) (b:=()) (fresh:=fresh) (size:=size) (before:=before) hok (by omega)
    have pan:t.panes=cpre C++p::cpost C:=by rw[et,panes_plug,panes_leaf];simp
    have cnt:∀m:List Int,m=(if before then [fresh,p]else [p,fresh])→(cpre C++m++cpost C).length≤20:=fun m hm=>by
     rw[pan]at hl;subst hm
     cases before<;>simp only[List.length_append,List.length_cons,List.length_nil,if_true,Bool.false_eq_true,if_false]at hl ⊢<;>omega
    have npan:∀c w h x y,(Tr.node c d w h x y (halves () fresh d size before (.leaf a w h x y p))).panes=(if before then [fresh,p]else [p,fresh]):=fun c w h x y=>by rw[panes_node,halves_panes]
    have whole:∀C:List (Fm Unit),∀u:T,Good (plug C (.leaf a w h x y p))→u=plug C (.node () d w h 0 0 (halves () fresh d size before (.leaf a w h x y p)))→Good u∧(∀d,u.side d=(plug C (.leaf a w h x y p)).side d)∧u.panes=cpre C++(if before then [fresh,p]else [p,fresh])++cpost C:=by
     intro C u hgd hu
     have hs:∀d',(Tr.node () d w h 0 0 (halves () fresh d size before (.leaf a w h x y p))).side d'=(Tr.leaf a w h x y p).side d':=fun d'=>by rw[node_side,side_leaf]
     subst hu
     refine⟨good_plug hgd n1 n2 hs,fun d=>side_plug hs d,?_⟩
     rw[panes_plug,panes_node,halves_panes]
    split at e
    ·rename_i F hF
     have hC:=snoc_of_getLast? hF
     split at e
     ·rename_i hr
      cases e
      subst hr
      rw[hC,plug_append]at hgd
      have hok2:=(ok_plug hgd.ok).1
      have hgeo2:=(geo_plug hgd.geo).1
      simp only[plug]at hok2 hgeo2
      rw[ok_fill]at hok2
      rw[geo_fill]at hgeo2
      obtain⟨o1,o2,o3,o4⟩:=hok2
      obtain⟨g1,⟨g2,g3,g4⟩,g5,g6,g7⟩:=hgeo2
      have ⟨m1,m2⟩:=many_le (size:=size) (by omega:3≤(Tr.leaf a w h x y p).side F.r)
      simp only[ok]at hok
      have k1:(Tr.node () F.r F.w F.h F.x F.y (F.l++halves () fresh F.r size before (.leaf a w h x y p)++F.rt)).ok:=by
       refine ok_node.mpr ⟨by simp only[List.length_append,halves_len];omega,fun c hc=>?_⟩
       simp only[List.mem_append]at hc
       rcases hc with(hc|hc)|hc
       ·exact o2 c hc
       ·exact halves_all (P:=Tr.ok) (l:=.leaf a w h x y p) (ok_setS_leaf (w:=w) (h:=h) hok.1 hok.2 m1) (ok_setS_leaf hok.1 hok.2 (by omega)) c hc
       ·exact o4 c hc
      have sd:∀d',(Tr.node () F.r F.w F.h F.x F.y (F.l++halves () fresh F.r size before (.leaf a w h x y p)++F.rt)).side d'=(fill F (.leaf a w h x y p)).side d':=fun d'=>by rw[node_side,side_fill]
      have k2:(Tr.node () F.r F.w F.h F.x F.y (F.l++halves () fresh F.r size before (.leaf a w h x y p)++F.rt)).geo:=by
       refine geo_node.mpr ⟨?_,fun c hc=>?_,fun c hc=>?_⟩
       ·rw[sd,g1];simp only[List.map_append,List.sum_append,List.length_append,halves_len,halves_sum];omega
       ·rw[sd]
        simp only[List.mem_append]at hc
        rcases hc with(hc|hc)|hc
        ·exact g2 c hc
        ·rw[halves_side c hc];exact g3
        ·exact g4 c hc
       ·simp only[List.mem_append]at hc
        rcases hc with(hc|hc)|hc
        ·exact g5 c hc
        ·exact halves_all (P:=Tr.geo) geo_setS_leaf geo_setS_leaf c hc
        ·exact g7 c hc
      have hgd':=good_plug hgd k1 k2 sd
      have pp:(plug C.dropLast (Tr.node () F.r F.w F.h F.x F.y (F.l++halves () fresh F.r size before (.leaf a w h x y p)++F.rt))).panes=cpre C++(if before then [fresh,p]else [p,fresh])++cpost C:=by
       have e1:cpre C++[p]++cpost C=cpre C.dropLast++(F.l.flatMap panes++[p]++F.rt.flatMap panes)++cpost C.dropLast:=by
        have:=panes_plug (C:=C) (t:=.leaf a w h x y p)
        rw[panes_leaf]at this
        rw[←this,hC,plug_append,panes_plug];simp[plug,panes_fill,panes_leaf]
       have cp:cpre C=cpre C.dropLast++F.l.flatMap panes∧cpost C=F.rt.flatMap panes++cpost C.dropLast:=by
        rw[hC]
        generalize C.dropLast=D
        simp only[List.dropLast_concat]
        clear hC hF hf et hgd pan cnt e1 hgd' whole
        induction D with
        |nil=>simp[cpre,cpost]
        |cons E D ih=>simp only[List.cons_append,cpre,cpost,ih.1,ih.2,List.append_assoc];exact⟨trivial,trivial⟩
       rw[panes_plug,panes_node,cp.1,cp.2]
       simp only[List.flatMap_append,halves_panes,List.append_assoc]
      refine⟨hgd'.fine (by rw[pp];exact cnt _ rfl),fun d=>?_,hfr,_,_,pan,by rw[plc_panes,pp]⟩
      rw[plc_side,side_plug sd,et]
      have:plug C (.leaf a w h x y p)=plug C.dropLast (fill F (.leaf a w h x y p)):=by rw[hC,plug_append,List.dropLast_concat];rfl
      rw[this]
     ·split at e
      ·cases e
      ·cases e
       obtain⟨w1,w2,w3⟩:=whole C _ hgd rfl
       exact⟨w1.fine (by rw[w3];exact cnt _ rfl),fun d=>by rw[plc_side,et];exact w2 d,hfr,_,_,pan,by rw[plc_panes];exact w3⟩
    ·rename_i hF
     cases e
     have hC:C=[]:=List.getLast?_eq_none_iff.mp hF
     subst hC
     obtain⟨w1,w2,w3⟩:=whole [] _ hgd rfl
     exact⟨w1.fine (by rw[w3];exact cnt _ rfl),fun d=>by rw[plc_side,et];exact w2 d,hfr,_,_,pan,by rw[plc_panes];exact w3⟩
end Tr
end
section
namespace Tr
variable {α β:Type}
theorem kind_node {t:Tr α} {r:Bool} (h:t.kind=kd r):∃a w h x y cs,t=.node a r w h x y cs:=by
 cases t with
 |leaf=>exact absurd h.symm (kd_ne r)
 |node a r' w h' x y cs=>
  have:r'=r:=by revert h;cases r<;>cases r'<;>simp[kind,kd]<;>decide
  subst this;exact⟨a,w,h',x,y,cs,rfl⟩
theorem melt_spec {r:Bool} {S:Int}:∀{cs:List (Tr α)},(∀c∈cs,c.ok)→(∀c∈cs,c.geo)→(∀c∈cs,c.side (!r)=S)→
  cs.length≤(melt r cs).length∧(∀c∈melt r cs,c.ok)∧(∀c∈melt r cs,c.geo)∧(∀c∈melt r cs,c.side (!r)=S)∧((melt r cs).map (side r)).sum+(melt r cs).length=(cs.map (side r)).sum+cs.length∧(melt r cs).flatMap panes=cs.flatMap panes
 |[],_,_,_=>by simp[melt]
 |c::cs,h1,h2,h3=>by
  obtain⟨i1,i2,i3,i4,i5,i6⟩:=melt_spec (r:=r) (S:=S) (fun c hc=>h1 c (.tail _ hc)) (fun c hc=>h2 c (.tail _ hc)) (fun c hc=>h3 c (.tail _ hc))
  have e:melt r (c::cs)=(if c.kind=kd r then c.cs else [c])++melt r cs:=by simp[melt]
  rw[e]
  have one:∀m:List (Tr α),1≤m.length→(∀u∈m,u.ok)→(∀u∈m,u.geo)→(∀u∈m,u.side (!r)=S)→(m.map (side r)).sum+m.length=c.side r+1→m.flatMap panes=c.panes→
    (c::cs).length≤(m++melt r cs).length∧(∀u∈m++melt r cs,u.ok)∧(∀u∈m++melt r cs,u.geo)∧(∀u∈m++melt r cs,u.side (!r)=S)∧((m++melt r cs).map (side r)).sum+(m++melt r cs).length=((c::cs).map (side r)).sum+(c::cs).length∧(m++melt r cs).flatMap panes=(c::cs).flatMap panes:=by
   intro m k1 k2 k3 k4 k5 k6
   refine⟨by simp only[List.length_cons,List.length_append];omega,fun u hu=>?_,fun u hu=>?_,fun u hu=>?_,?_,by rw[List.flatMap_append,k6,i6];rfl⟩
   ·rcases List.mem_append.mp hu with hu|hu
    ·exact k2 u hu
    ·exact i2 u hu
   ·rcases List.mem_append.mp hu with hu|hu
    ·exact k3 u hu
    ·exact i3 u hu
   ·rcases List.mem_append.mp hu with hu|hu
    ·exact k4 u hu
    ·exact i4 u hu
   ·simp only[List.map_append,List.sum_append,List.length_append,List.map_cons,List.sum_cons,List.length_cons];omega
  split
  ·rename_i hk
   obtain⟨a,w,h,x,y,ccs,rfl⟩:=kind_node hk
   have o:=h1 _ (.head _)
   have g:=h2 _ (.head _)
   have s:=h3 _ (.head _)
   rw[ok_node]at o
   rw[geo_node]at g
   refine one ccs (by omega) o.2 g.2.2 (fun u hu=>by rw[g.2.1 u hu];exact s) ?_ panes_node.symm
   rw[g.1];simp
  ·exact one [c] (by simp) (by simpa using h1 c (.head _)) (by simpa using h2 c (.head _)) (by simpa using h3 c (.head _)) (by simp) (by simp)
theorem melt_good {a a':α} {r w h x y} {cs:List (Tr α)} (ho:(Tr.node a r w h x y cs).ok) (hg:(Tr.node a r w h x y cs).geo):(Tr.node a' r w h x y (melt r cs)).ok∧(Tr.node a' r w h x y (melt r cs)).geo∧(melt r cs).flatMap panes=cs.flatMap panes:=by
 rw[ok_node]at ho
 rw[geo_node]at hg
 obtain⟨i1,i2,i3,i4,i5,i6⟩:=melt_spec (r:=r) ho.2 hg.2.2 hg.2.1
 refine⟨ok_node.mpr ⟨by omega,i2⟩,geo_node.mpr ⟨?_,fun c hc=>?_,i3⟩,i6⟩
 ·have:=hg.1
  rw[node_side]at this ⊢;omega
 ·rw[i4 c hc,node_side,node_side]
theorem modify_split {l:List (Tr α)} {i:Nat} {f:Tr α→Tr α} (h:i<l.length):∃s k t,l=s++k::t∧s.length=i∧l.modify i f=s++f k::t:=by
 have hl:l=l.take i++l[i]::l.drop (i+1):=by rw[List.getElem_cons_drop,List.take_append_drop]
 have hs:(l.take i).length=i:=by rw[List.length_take];omega
 refine⟨l.take i,l[i],l.drop (i+1),hl,hs,?_⟩
 generalize l.take i=s at hl hs
 generalize l[i]=k at hl
 generalize l.drop (i+1)=t at hl
 subst hl
 subst hs
 clear h
 induction s with
 |nil=>simp
 |cons u s ih=>simp[ih]
theorem grown_spec {F:Fm α} {l:Tr α} (ho:(fill F l).ok) (hg:(fill F l).geo):∃s k t,F.l++F.rt=s++k::t∧s.length=F.l.length-1∧grown F (l.side F.r+1)=s++chT F.r (l.side F.r+1) k::t∧0≤k.room F.r+(l.side F.r+1)∧k.ok∧Chg F.r (l.side F.r+1) k (chT F.r (l.side F.r+1) k) ∧
  (∀c∈grown F (l.side F.r+1),c.ok)∧(∀c∈grown F (l.side F.r+1),c.geo)∧(∀c∈grown F (l.side F.r+1),c.side (!F.r)=(fill F l).side (!F.r)) ∧
  ((grown F (l.side F.r+1)).map (side F.r)).sum+(grown F (l.side F.r+1)).length=(fill F l).side F.r+1∧(grown F (l.side F.r+1)).flatMap panes=F.l.flatMap panes++F.rt.flatMap panes:=by
 rw[ok_fill]at ho
 rw[geo_fill]at hg
 obtain⟨o1,o2,o3,o4⟩:=ho
 obtain⟨g1,⟨g2,g3,g4⟩,g5,g6,g7⟩:=hg
 obtain⟨s,k,t,e1,e2,e3⟩:=modify_split (l:=F.l++F.rt) (i:=F.l.length-1) (f:=chT F.r (l.side F.r+1)) (by simp only[List.length_append];omega)
 have all:∀c∈s++k::t,c.ok∧c.geo∧c.side (!F.r)=(fill F l).side (!F.r):=fun c hc=>by
  rw[←e1]at hc
  rcases List.mem_append.mp hc with hc|hc
  ·exact⟨o2 c hc,g5 c hc,g2 c hc⟩
  ·exact⟨o4 c hc,g7 c hc,g4 c hc⟩
 have hk:=all k (by simp)
 have hlp:=geo_pos o3 g6 F.r
 have hrm:=room_nonneg (d:=F.r) hk.1
 have hch:=chT_ok (d:=F.r) (c:=l.side F.r+1) hk.1 (by omega)
 have sm:(F.l.map (side F.r)).sum+(F.rt.map (side F.r)).sum=(s.map (side F.r)).sum+(k.side F.r+(t.map (side F.r)).sum):=by
  have:=congrArg (fun l=>(l.map (side F.r)).sum) e1
  simpa using this
 have ln:F.l.length+F.rt.length=s.length+(t.length+1):=by simpa using congrArg List.length e1
 have pn:F.l.flatMap panes++F.rt.flatMap panes=s.flatMap panes++(k.panes++t.flatMap panes):=by simpa using congrArg (fun l=>l.flatMap panes) e1
 have eg:grown F (l.side F.r+1)=s++chT F.r (l.side F.r+1) k::t:=e3
 refine⟨s,k,t,e1,e2,eg,by omega,hk.1,hch,?_,?_,?_,?_,?_⟩
 ·rw[eg];intro c hc
  rcases List.mem_append.mp hc with hc|hc
  ·exact(all c (List.mem_append_left _ hc)).1
  ·rcases List.mem_cons.mp hc with rfl|hc
   ·exact hch.ok
   ·exact(all c (List.mem_append_right _ (.tail _ hc))).1
 ·rw[eg];intro c hc
  rcases List.mem_append.mp hc with hc|hc
  ·exact(all c (List.mem_append_left _ hc)).2.1
  ·rcases List.mem_cons.mp hc with rfl|hc
   ·exact hch.geo hk.2.1
   ·exact(all c (List.mem_append_right _ (.tail _ hc))).2.1
 ·rw[eg];intro c hc
  rcases List.mem_append.mp hc with hc|hc
  ·exact(all c (List.mem_append_left _ hc)).2.2
  ·rcases List.mem_cons.mp hc with rfl|hc
   ·rw[hch.so];exact hk.2.2
   ·exact(all c (List.mem_append_right _ (.tail _ hc))).2.2
 ·rw[eg,g1]
  simp only[List.map_append,List.sum_append,List.map_cons,List.sum_cons,List.length_append,List.length_cons,hch.sd]
  omega
 ·rw[eg,pn]
  simp only[List.flatMap_append,List.flatMap_cons,panes_sk hch.sk]
theorem cpre_snoc:∀{C:List (Fm α)} {F:Fm α},cpre (C++[F])=cpre C++F.l.flatMap panes∧cpost (C++[F])=F.rt.flatMap panes++cpost C
 |[],F=>by simp[cpre,cpost]
 |E::C,F=>by
  obtain⟨i1,i2⟩:=cpre_snoc (C:=C) (F:=F)
  simp only[List.cons_append,cpre,cpost,i1,i2,List.append_assoc];exact⟨trivial,trivial⟩
theorem plug_snoc {C:List (Fm α)} {F:Fm α} {t:Tr α}:plug (C++[F]) t=plug C (fill F t):=by rw[plug_append];rfl
theorem close_good {t:T} {p:Int} (hg:Fine t) (hp:p∈t.panes) (h2:t.panes.length≠1):∃t',closeT t p=some t'∧Fine t'∧(∀d,t'.side d=t.side d)∧∃pre post,t.panes=pre++p::post∧t'.panes=pre++post:=by
 cases hf:find p t with
 |none=>exact absurd hp (find_none.mp hf)
 |some q=>
  obtain⟨C,l⟩:=q
  obtain⟨et,a,w,h,x,y,rfl⟩:=find_some hf
  have hgd:=hg.good
  cases hC:C.getLast? with
  |none=>
   have:C=[]:=List.getLast?_eq_none_iff.mp hC
   subst this
   rw[et]at h2
   simp[plug,panes_leaf]at h2
  |some F=>
   have eC:=snoc_of_getLast? hC
   have pan:t.panes=cpre C++p::cpost C:=by rw[et,panes_plug,panes_leaf];simp
   have cnt:(cpre C++cpost C).length≤20:=by
    have:=hg.sm.len
    rw[pan]at this
    simp only[List.length_append,List.length_cons]at this ⊢;omega
   have hcp:=cpre_snoc (C:=C.dropLast) (F:=F)
   rw[←eC]at hcp
   rw[et,eC,plug_snoc]at hgd
   have ho:=(ok_plug hgd.ok).1
   have hge:=(geo_plug hgd.geo).1
   obtain⟨s,k,t2,e1,e2,e3,e4,e5,e6,e7,e8,e9,e10,e11⟩:=grown_spec ho hge
   have eside:∀d,(plug C.dropLast (fill F (.leaf a w h x y p))).side d=t.side d:=fun d=>by
    have q:=plug_snoc (C:=C.dropLast) (F:=F) (t:=.leaf a w h x y p)
    rw[←eC]at q
    rw[et,q]
   unfold closeT
   simp only[hf,hC]
   generalize hks:grown F ((Tr.leaf a w h x y p).side F.r+1)=ks at e3 e7 e8 e9 e10 e11
   by_cases hl:1<ks.length
   ·rw[if_pos hl]
    have sd:∀d',(Tr.node () F.r F.w F.h F.x F.y ks).side d'=(fill F (.leaf a w h x y p)).side d':=fun d'=>by rw[node_side,side_fill]
    have k1:(Tr.node () F.r F.w F.h F.x F.y ks).ok:=ok_node.mpr ⟨by omega,e7⟩
    have k2:(Tr.node () F.r F.w F.h F.x F.y ks).geo:=geo_node.mpr ⟨by rw[sd];omega,fun c hc=>by rw[sd];exact e9 c hc,e8⟩
    have hgd':=good_plug hgd k1 k2 sd
    have pp:(plug C.dropLast (Tr.node () F.r F.w F.h F.x F.y ks)).panes=cpre C++cpost C:=by
     rw[panes_plug,panes_node,e11,hcp.1,hcp.2];simp
    exact⟨_,rfl,hgd'.fine (by rw[pp];exact cnt),fun d=>by rw[plc_side,side_plug sd];exact eside d,_,_,pan,by rw[plc_panes,pp]⟩
   ·rw[if_neg hl]
    have hkl:ks.length=1:=by rw[e3]at hl ⊢;simp only[List.length_append,List.length_cons]at hl ⊢;omega
    obtain⟨k',hk'⟩:=List.length_eq_one_iff.mp hkl
    rw[hk']at e7 e8 e9 e10 e11 ⊢
    simp only[List.map_cons,List.map_nil,List.sum_cons,List.sum_nil,List.length_cons,List.length_nil,List.flatMap_cons,List.flatMap_nil,List.append_nil]at e10 e11
    have ok':=e7 k' (by simp)
    have ge':=e8 k' (by simp)
    have sd:∀d',k'.side d'=(fill F (.leaf a w h x y p)).side d':=fun d'=>by
     by_cases hd:F.r=d'
     ·subst hd;omega
     ·have:d' = !F.r:=by revert hd;cases F.r<;>cases d'<;>simp
      rw[this];exact e9 k' (by simp)
    cases hE:C.dropLast.getLast? with
    |none=>
     have hD:C.dropLast=[]:=List.getLast?_eq_none_iff.mp hE
     rw[hD]at hgd hcp eside
     have hgd':=good_plug (C:=[]) hgd ok' ge' sd
     have pp:k'.panes=cpre C++cpost C:=by rw[e11,hcp.1,hcp.2];simp[cpre,cpost]
     exact⟨_,rfl,Good.fine (t:=k') hgd' (by rw[pp];exact cnt),fun d=>by rw[plc_side,sd];exact eside d,_,_,pan,by rw[plc_panes,pp]⟩
    |some E=>
     have eD:=snoc_of_getLast? hE
     have hcp2:=cpre_snoc (C:=C.dropLast.dropLast) (F:=E)
     rw[←eD]at hcp2
     have hgd':=good_plug hgd ok' ge' sd
     have hs2:∀d,(plug C.dropLast k').side d=t.side d:=fun d=>by rw[side_plug sd];exact eside d
     rw[eD,plug_snoc]at hgd' hs2
     have ho2:=(ok_plug hgd'.ok).1
     have hg2:=(geo_plug hgd'.geo).1
     obtain⟨m1,m2,m3⟩:=melt_good (a':=()) ho2 hg2
     have sd2:∀d',(Tr.node () E.r E.w E.h E.x E.y (melt E.r (E.l++k'::E.rt))).side d'=(fill E k').side d':=fun d'=>by rw[node_side,side_fill]
     have hgd3:=good_plug hgd' m1 m2 sd2
     have pp:(plug C.dropLast.dropLast (Tr.node () E.r E.w E.h E.x E.y (melt E.r (E.l++k'::E.rt)))).panes=cpre C++cpost C:=by
      rw[panes_plug,panes_node,m3,hcp.1,hcp.2,hcp2.1,hcp2.2];simp[e11]
     exact⟨_,rfl,hgd3.fine (by rw[pp];exact cnt),fun d=>by rw[plc_side,side_plug sd2];exact hs2 d,_,_,pan,by rw[plc_panes,pp]⟩
theorem close_none {t:T} {p:Int} (ho:t.ok) (h:p∉t.panes∨t.panes.length=1):closeT t p=none:=by
 unfold closeT
 cases hf:find p t with
 |none=>rfl
 |some q=>
  obtain⟨C,l⟩:=q
  obtain⟨et,a,w,h',x,y,rfl⟩:=find_some hf
  have hp:p∈t.panes:=by rw[et,panes_plug,panes_leaf];simp
  have h1:t.panes.length=1:=h.resolve_left fun z=>z hp
  have:=(leaf_iff ho).mp h1
  have hC:C=[]:=by
   cases C with
   |nil=>rfl
   |cons F C=>rw[et]at this;simp[plug,fill,isLeaf]at this
  subst hC
  rfl
theorem fit1_good {d:Bool} {s:Int} {t:Tr α} (h:Good t) (hs:s≤64):Good (fit1 d s t)∧(fit1 d s t).panes=t.panes:=by
 have hr:=room_nonneg (d:=d) h.ok
 have hc:0≤t.room d+mx (s-t.side d) (-(t.room d)):=by unfold mx;split<;>omega
 have k:=chT_ok (d:=d) (c:=mx (s-t.side d) (-(t.room d))) h.ok hc
 have b:∀d',t.side d'≤64:=fun d'=>by
  cases d'
  ·exact h.bh
  ·exact h.bw
 have b':∀d',(fit1 d s t).side d'≤64:=fun d'=>by
  by_cases e:d'=d
  ·subst e
   have q1:=k.sd
   have q2:=b d'
   unfold fit1
   rw[q1]
   unfold mx;split<;>omega
  ·have:d' = !d:=by revert e;cases d<;>cases d'<;>simp
   subst this
   unfold fit1;rw[k.so];exact b _
 exact⟨⟨k.ok,k.geo h.geo,b' true,b' false⟩,panes_sk k.sk⟩
theorem fit_good {w h:Int} {t:T} (hg:Fine t) (hw:w≤64) (hh:h≤64):Fine (fitT w h t)∧(fitT w h t).panes=t.panes:=by
 obtain⟨g1,p1⟩:=fit1_good (d:=true) hg.good hw
 obtain⟨g2,p2⟩:=fit1_good (d:=false) g1 hh
 exact⟨g2.fine (by rw[p2,p1];exact hg.sm.len),by unfold fitT;rw[plc_panes,p2,p1]⟩
mutual
def mapP (f:Int→Int):Tr α→Tr α
 |.leaf a w h x y p=>.leaf a w h x y (f p)
 |.node a r w h x y cs=>.node a r w h x y (mapPs f cs)
def mapPs (f:Int→Int):List (Tr α)→List (Tr α)
 |[]=>[]
 |c::cs=>mapP f c::mapPs f cs
end
theorem mapPs_eq {f:Int→Int}:∀{cs:List (Tr α)},mapPs f cs=cs.map (mapP f)
 |[]=>rfl
 |c::cs=>by simp[mapPs,mapPs_eq (cs:=cs)]
theorem mapP_leaf {f:Int→Int} {a:α} {w h x y p}:mapP f (.leaf a w h x y p)=.leaf a w h x y (f p):=rfl
theorem mapP_node {f:Int→Int} {a:α} {r w h x y} {cs:List (Tr α)}:mapP f (.node a r w h x y cs)=.node a r w h x y (cs.map (mapP f)):=by rw[mapP,mapPs_eq]
theorem mapP_side {f:Int→Int} {t:Tr α} {d:Bool}:(mapP f t).side d=t.side d:=by cases t<;>cases d<;>rfl
theorem mapP_tag {f:Int→Int} {t:Tr α}:(mapP f t).tag=t.tag:=by cases t<;>rfl
theorem mapP_panes {f:Int→Int}:∀{t:Tr α},(mapP f t).panes=t.panes.map f:=by
 intro t
 induction t using rec' with
 |step t ih=>
  cases t with
  |leaf=>rfl
  |node a r w h x y cs=>
   rw[mapP_node,panes_node,panes_node,List.map_flatMap,List.flatMap_map]
   have:∀l:List (Tr α),(∀c∈l,c∈cs)→l.flatMap (fun c=>(mapP f c).panes)=l.flatMap fun c=>c.panes.map f:=by
    intro l
    induction l with
    |nil=>intro _;rfl
    |cons c l ih2=>intro h;simp only[List.flatMap_cons];rw[ih c (h c (.head _)),ih2 fun c hc=>h c (.tail _ hc)]
   exact this cs fun _ h=>h
theorem mapP_ok {f:Int→Int}:∀{t:Tr α},t.ok→(mapP f t).ok:=by
 intro t
 induction t using rec' with
 |step t ih=>
  intro h
  cases t with
  |leaf=>exact h
  |node a r w h' x y cs=>
   rw[mapP_node,ok_node,List.length_map]
   rw[ok_node]at h
   refine⟨h.1,fun c hc=>?_⟩
   obtain⟨u,hu,rfl⟩:=List.mem_map.mp hc
   exact ih u hu (h.2 u hu)
theorem mapP_geo {f:Int→Int}:∀{t:Tr α},t.geo→(mapP f t).geo:=by
 intro t
 induction t using rec' with
 |step t ih=>
  intro h
  cases t with
  |leaf=>exact h
  |node a r w h' x y cs=>
   rw[mapP_node,geo_node,List.length_map,List.map_map]
   rw[geo_node]at h
   have e:∀d,List.map (side d ∘ mapP f) cs=List.map (side d) cs:=fun d=>List.map_congr_left fun u _=>mapP_side
   refine⟨?_,fun c hc=>?_,fun c hc=>?_⟩
   ·rw[e,node_side];have:=h.1;rw[node_side]at this;exact this
   ·obtain⟨u,hu,rfl⟩:=List.mem_map.mp hc
    rw[mapP_side,h.2.1 u hu,node_side,node_side]
   ·obtain⟨u,hu,rfl⟩:=List.mem_map.mp hc
    exact ih u hu (h.2.2 u hu)
theorem mapP_bx {f:Int→Int} {M:Int} {t:Tr α}:Bx M (mapP f t)↔Bx M t:=by cases t<;>exact Iff.rfl
theorem mapP_box {f:Int→Int} {M:Int}:∀{t:Tr α},box M t→box M (mapP f t):=by
 intro t
 induction t using rec' with
 |step t ih=>
  intro h
  rw[box_iff]at h ⊢
  refine⟨mapP_bx.mpr h.1,fun c hc=>?_⟩
  cases t with
  |leaf=>cases hc
  |node a r w h' x y cs=>
   rw[mapP_node]at hc
   obtain⟨u,hu,rfl⟩:=List.mem_map.mp hc
   exact ih u hu (h.2 u hu)
theorem mapP_fine {f:Int→Int} {t:Tr α} (h:Fine t):Fine (mapP f t):=
 ⟨⟨mapP_ok h.ok,by rw[mapP_panes,List.length_map];exact h.sm.len⟩,mapP_geo h.geo,by rw[side_w,mapP_side];exact h.bw,by rw[side_h,mapP_side];exact h.bh,mapP_box h.box⟩
theorem mapP_map {g:α→β} {f:Int→Int}:∀{t:Tr α},mapP f (t.map g)=(mapP f t).map g:=by
 intro t
 induction t using rec' with
 |step t ih=>
  cases t with
  |leaf=>rfl
  |node a r w h x y cs=>
   rw[map_node,mapP_node,mapP_node,map_node,List.map_map,List.map_map]
   congr 1
   exact List.map_congr_left fun c hc=>ih c hc
def mapF (f:Int→Int) (F:Fm α):Fm α:=⟨F.a,F.r,F.w,F.h,F.x,F.y,F.l.map (mapP f),F.rt.map (mapP f)⟩
theorem mapP_plug {f:Int→Int}:∀{C:List (Fm α)} {t:Tr α},mapP f (plug C t)=plug (C.map (mapF f)) (mapP f t)
 |[],t=>rfl
 |F::C,t=>by simp only[plug,List.map_cons,fill,mapP_node,List.map_append,mapP_plug (C:=C),mapF]
theorem mapP_congr {f f':Int→Int}:∀{t:Tr α},(∀p∈t.panes,f p=f' p)→mapP f t=mapP f' t:=by
 intro t
 induction t using rec' with
 |step t ih=>
  intro h
  cases t with
  |leaf a w h' x y p=>simp only[mapP_leaf];rw[h p (by simp[panes_leaf])]
  |node a r w h' x y cs=>
   rw[mapP_node,mapP_node]
   congr 1
   refine List.map_congr_left fun c hc=>ih c hc fun p hp=>h p ?_
   rw[panes_node];exact List.mem_flatMap.mpr ⟨c,hc,hp⟩
def asg (ps ns:List Int) (p:Int):Int:=((ps.zip ns).lookup p).getD p
def renT (ns:List Int) (t:Tr α):Tr α:=mapP (asg t.panes ns) t
theorem asg_map:∀{ps ns:List Int},ps.Nodup→ps.length=ns.length→ps.map (asg ps ns)=ns
 |[],[],_,_=>rfl
 |[],_::_,_,h=>by simp at h
 |_::_,[],_,h=>by simp at h
 |p::ps,n::ns,nd,h=>by
  rw[List.nodup_cons]at nd
  simp only[List.map_cons,List.cons.injEq]
  refine⟨by simp[asg],?_⟩
  refine Eq.trans ?_ (asg_map (ps:=ps) (ns:=ns) nd.2 (by simpa using h))
  refine List.map_congr_left fun q hq=>?_
  have:q≠p:=fun z=>nd.1 (z▸hq)
  simp only[asg,List.zip_cons_cons]
  simp[List.lookup_cons,beq_false_of_ne this]
theorem ren_good {ns:List Int} {t:T} (hg:Fine t) (nd:t.panes.Nodup) (hl:ns.length=t.panes.length):Fine (renT ns t)∧(renT ns t).panes=ns∧∀d,(renT ns t).side d=t.side d:=
 ⟨mapP_fine hg,by unfold renT;rw[mapP_panes,asg_map nd hl.symm],fun d=>mapP_side⟩
def swf (one other p:Int):Int:=if p=other then one else if p=one then other else p
def swapT (t:T) (one other:Int):Option T:=if one∈t.panes∧other∈t.panes then some (renT (t.panes.map (swf one other)) t)else none
def rot (back:Bool) (l:List Int):List Int:=if back then l.drop 1++l.take 1 else l.drop (l.length-1)++l.take (l.length-1)
def rotT (back:Bool) (t:T):T:=renT (rot back t.panes) t
end Tr
end
section
section
variable {H:AH} {Q:AV→AH→Prop}
theorem gi_list {a:Addr} {f:Bool} {xs:List AV} {k:Int} {j:Nat} {u:AV} (e:H a=some (f,.list xs)) (h1 : -(2 ^ 62)<k) (h2:k<2 ^ 62) (hj:seqIndex? k xs.length=some j) (hu:xs[j]?=some u) (q:Q u H):GetI (.ref a) (.int k) H Q:=
 .inl ⟨f,xs,j,u,e,h1,h2,hj,hu,q⟩
theorem gi_nat {a:Addr} {f:Bool} {xs:List AV} {k:Int} {j:Nat} {u:AV} (e:H a=some (f,.list xs)) (hk:k=(j:Int)) (hl:xs.length≤cap) (hu:xs[j]?=some u) (q:Q u H):GetI (.ref a) (.int k) H Q:=by
 have hlt:=(List.getElem?_eq_some_iff.mp hu).1
 subst hk
 unfold cap at hl
 refine gi_list e (by omega) (by omega) ?_ hu q
 unfold seqIndex?
 have h1:¬((j:Int)<0):=by omega
 simp only[h1,if_false]
 rw[if_pos (by simp;omega)];simp
theorem gi_neg {a:Addr} {f:Bool} {xs:List AV} {k:Int} {j:Nat} {u:AV} (e:H a=some (f,.list xs)) (hk:k = -((xs.length-j:Nat):Int)) (hj:j<xs.length) (hl:xs.length≤cap) (hu:xs[j]?=some u) (q:Q u H):GetI (.ref a) (.int k) H Q:=by
 unfold cap at hl
 refine gi_list e (by omega) (by omega) ?_ hu q
 unfold seqIndex?
 have h1:k<0:=by omega
 simp only[h1,if_true]
 have h2:k+(xs.length:Int)=(j:Int):=by omega
 rw[h2,if_pos (by simp;omega)];simp
theorem gi_m1 {a:Addr} {f:Bool} {s:List AV} {u:AV} (e:H a=some (f,.list (s++[u]))) (hl:s.length≤100) (q:Q u H):GetI (.ref a) (.int (-1)) H Q:=
 gi_neg (j:=s.length) e (by simp) (by simp) (by simp;unfold cap;omega) (by simp) q
theorem gi_m2 {a:Addr} {f:Bool} {s:List AV} {u v:AV} (e:H a=some (f,.list (s++[u,v]))) (hl:s.length≤100) (q:Q u H):GetI (.ref a) (.int (-2)) H Q:=
 gi_neg (j:=s.length) e (by simp) (by simp) (by simp;unfold cap;omega) (by simp) q
theorem gi_m3 {a:Addr} {f:Bool} {s:List AV} {u v w:AV} (e:H a=some (f,.list (s++[u,v,w]))) (hl:s.length≤100) (q:Q u H):GetI (.ref a) (.int (-3)) H Q:=
 gi_neg (j:=s.length) e (by simp) (by simp) (by simp;unfold cap;omega) (by simp) q
theorem gi_0 {a:Addr} {f:Bool} {xs:List AV} {u:AV} (e:H a=some (f,.list xs)) (hl:xs.length≤100) (hu:xs[0]?=some u) (q:Q u H):GetI (.ref a) (.int 0) H Q:=
 gi_nat (j:=0) e rfl (by unfold cap;omega) hu q
theorem len_list {a:Addr} {f:Bool} {xs:List AV} (e:H a=some (f,.list xs)) (hl:xs.length≤cap) (q:Q (.int xs.length) H):BFun .len [.ref a] H Q:=.inl ⟨f,xs,e,hl,q⟩
end
abbrev FL:=Fm (Addr × Addr)
def cads:List FL→List Addr
 |[]=>[]
 |F::C=>F.a.1::F.a.2::(F.l.flatMap ads++F.rt.flatMap ads)++cads C
theorem ads_fill {F:FL} {t:L}:ads (Tr.fill F t)=F.a.1::F.a.2::(F.l.flatMap ads++(ads t++F.rt.flatMap ads)):=by
 rw[ads_eq];simp[Tr.fill,Tr.tag,Tr.cs]
theorem ads_plug:∀{C:List FL} {t:L},(ads (Tr.plug C t)).Perm (cads C++ads t)
 |[],t=>by simp[Tr.plug,cads]
 |F::C,t=>by
  simp only[Tr.plug,ads_fill,cads,List.cons_append]
  refine .cons _ (.cons _ ?_)
  rw[List.append_assoc]
  rw[List.append_assoc]
  refine .append_left _ ?_
  exact((ads_plug (C:=C) (t:=t)).append_right _).trans List.perm_append_comm
theorem plug_tag {C:List FL} {t u:L} (h:u.tag.1=t.tag.1):(Tr.plug C u).tag.1=(Tr.plug C t).tag.1:=by
 cases C with
 |nil=>exact h
 |cons F C=>rfl
theorem LR_fill {f:Bool} {H:AH} {F:FL} {t:L}:LR f H (Tr.fill F t)↔Nd f H (Tr.fill F t)∧(∀c∈F.l,LR f H c)∧LR f H t∧∀c∈F.rt,LR f H c:=by
 rw[LR_iff]
 simp only[Tr.fill,Tr.cs,List.mem_append,List.mem_cons]
 constructor
 ·rintro⟨h1,h2⟩
  exact⟨h1,fun c hc=>h2 c (.inl hc),h2 t (.inr (.inl rfl)),fun c hc=>h2 c (.inr (.inr hc))⟩
 ·rintro⟨h1,h2,h3,h4⟩
  refine⟨h1,fun c hc=>?_⟩
  rcases hc with hc|rfl|hc
  ·exact h2 c hc
  ·exact h3
  ·exact h4 c hc
theorem LR.unplug {f:Bool} {H:AH}:∀{C:List FL} {t:L},LR f H (Tr.plug C t)→LR f H t
 |[],t,h=>h
 |F::C,t,h=>LR.unplug (LR_fill.mp h).2.2.1
theorem Nd.fill {f:Bool} {H:AH} {F:FL} {t u:L} (h:Nd f H (Tr.fill F t)) (e:u.tag.1=t.tag.1):Nd f H (Tr.fill F u):=
 ⟨h.1,by
  have:=h.2
  simp only[Tr.fill,Tr.cs,List.map_append,List.map_cons]at this ⊢
  rw[e];exact this⟩
theorem plug_upd {f:Bool} {X:List Addr} {H H':AH} {l u:L} (e:u.tag.1=l.tag.1) (k:Ex X H H') (hu:LR f H' u):∀{C:List FL},LR f H (Tr.plug C l)→(∀a∈cads C,a∉X)→LR f H' (Tr.plug C u)
 |[],_,_=>hu
 |F::C,h,hx=>by
  obtain⟨h1,h2,h3,h4⟩:=LR_fill.mp h
  simp only[cads,List.cons_append,List.mem_cons,List.mem_append]at hx
  refine LR_fill.mpr ⟨(Nd.fill h1 (plug_tag e)).ex k (hx _ (.inl rfl)) (hx _ (.inr (.inl rfl))),fun c hc=>(h2 c hc).ex k fun a ha=>hx a (.inr (.inr (.inl (.inl (List.mem_flatMap.mpr ⟨c,hc,ha⟩))))),
   plug_upd e k hu h3 fun a ha=>hx a (.inr (.inr (.inr ha))),fun c hc=>(h4 c hc).ex k fun a ha=>hx a (.inr (.inr (.inl (.inr (List.mem_flatMap.mpr ⟨c,hc,ha⟩)))))⟩
theorem plug_nd {C:List FL} {l:L} (h:(ads (Tr.plug C l)).Nodup):(cads C).Nodup∧(ads l).Nodup∧∀a∈cads C,a∉ads l:=by
 have:=List.nodup_append.mp (ads_plug.nodup_iff.mp h)
 exact⟨this.1,this.2.1,fun a ha hb=>this.2.2 a ha a hb rfl⟩
theorem plug_nodup {C:List FL} {l u:L} (h:(ads (Tr.plug C l)).Nodup) (hu:(ads u).Nodup) (hd:∀a∈ads u,a∉cads C):(ads (Tr.plug C u)).Nodup:=
 ads_plug.nodup_iff.mpr (List.nodup_append.mpr ⟨(plug_nd h).1,hu,fun a ha b hb z=>hd b hb (z▸ha)⟩)
theorem mem_plug {C:List FL} {l:L} {a:Addr}:a∈ads (Tr.plug C l)↔a∈cads C∨a∈ads l:=by rw[ads_plug.mem_iff,List.mem_append]
theorem tag_ads {t:L}:t.tag.1∈ads t:=at_mem t
theorem kids_tags {F:FL} {t:L} (h:(ads (Tr.fill F t)).Nodup):∀u∈F.l,u.tag.1≠t.tag.1:=fun u hu z=>by
 rw[ads_fill,List.nodup_cons,List.nodup_cons]at h
 have:=(List.nodup_append.mp h.2.2).2.2
 exact this u.tag.1 (List.mem_flatMap.mpr ⟨u,hu,at_mem u⟩) t.tag.1 (List.mem_append_left _ (at_mem t)) z
section
variable {W:Wd} {m:Nat} {H:AH} {Q:AV→AH→Prop}
theorem LR.own {f:Bool} {t:L} (h:LR f H t):∃p,H t.tag.1=Option.some p∧p.2≠.opq:=by
 obtain⟨⟨dx,e⟩,_⟩:=h.nd
 exact⟨_,e,fun z=>by cases z⟩
theorem c134a (G:GD W) {r:Addr} {f:Bool} {x v:AV} (hm:1≤m) (e:H r=some (f,.list [x])) (q:Q v H):CallF W 134 [.ref r,v] m H Q:=by
 obtain⟨n,rfl,hn⟩:=pos_of hm
 refine enter G (f134 _) (hb134 _) (ws:=[]) (fun h _=>by simp only[VRs]) rfl ?_
 unfold b134 x134
 walk_at "wp"
 refine len_list e (by simp[cap]) ⟨_,rfl,fun _=>q,fun z=>by simp at z⟩
theorem c134b (G:GD W) {r:Addr} {f:Bool} {s:List AV} {F:FL} {u:L} {x v:AV} (hm:2≤m) (e:H r=some (f,.list (s++[.ref F.a.1,rf u]))) (hs:s.length≤50) (hx:(s++[.ref F.a.1,rf u])[0]?=some x) (hN:Nd false H (Tr.fill F u)) (hl:F.l.length+F.rt.length≤50)
  (ha:∀c∈F.l++u::F.rt,∃p,H c.tag.1=some p∧p.2≠.opq) (hn:∀c∈F.l,c.tag.1≠u.tag.1) (hr:r≠F.a.2) (q:Q x (H.set F.a.2 (.list (F.l.map rf++v::F.rt.map rf)))):CallF W 134 [.ref r,v] m H Q:=by
 obtain⟨n,rfl,hn'⟩:=pos_of hm
 refine enter G (f134 _) (hb134 _) (ws:=[]) (fun h _=>by simp only[VRs]) rfl ?_
 unfold b134 x134
 walk_at "wp"
 obtain⟨⟨dx,e1⟩,e2⟩:=hN
 have e1':H F.a.1=_:=e1
 have e2':H F.a.2=some (false,.list ((F.l++u::F.rt).map rf)):=e2
 refine len_list e (by simp;unfold cap;omega) ⟨_,rfl,fun z=>?_,fun _=>?_⟩
 ·simp at z
  omega
 refine gi_m2 e (by omega) ?_
 rw[gl e1']
 refine gi_m1 (s:=s++[.ref F.a.1]) (by simpa using e) (by simp;omega) ?_
 refine c108 G (by omega) e2' ha hn ?_
 refine .inl ⟨_,e2',by omega,by simp;omega,by simp;unfold cap;omega,?_⟩
 have e3:((F.l++u::F.rt).map rf).set ((F.l.length:Int)).toNat v=F.l.map rf++v::F.rt.map rf:=by simp
 rw[e3]
 refine gi_0 ((AH.set_ne _ _ hr).trans e) (by simp;omega) hx q
theorem c149 (G:GD W) {l:Addr} {f f':Bool} {r:Bool} {cs:List L} (hm:1≤m) (e:H l=some (f,.list (cs.map rf))) (hc:∀c∈cs,Nd f' H c) (hl:(Tr.melt r cs).length≤20) (hk:cs.length≤20) (hp:∀s t,cs=s++t→(Tr.melt r s).length≤20)
  (q:∀a H',H a=none→Sb H H'→H' a=some (false,.list ((Tr.melt r cs).map rf))→Q (.ref a) H'):CallF W 149 [.ref l,.str (kd r)] m H Q:=by
 obtain⟨n,rfl,hn'⟩:=pos_of hm
 refine enter G (f149 _) (hb149 _) (ws:=[]) (fun h _=>by simp only[VRs]) rfl ?_
 unfold b149 x149
 walk_at "wp"
 refine⟨by decide,fun a ha=>?_⟩
 refine for_map (g:=rf) (cs:=cs) (fun pre ρ H'=>ρ.lookup 24=some (.ref a)∧ρ.lookup 0=some (.str (kd r))∧Sb H H'∧H' a=some (false,.list ((Tr.melt r pre).map rf))) ⟨rfl,rfl,.new ha,AH.set_same _ _ _⟩ (fun pre ρ H' hJ=>⟨f,hJ.2.2.1.list e⟩) ?_ ?_
 ·rintro pre u suf ρ H' hcs ⟨h1,h2,h3,h4⟩
  have hu:u∈cs:=by rw[hcs];simp
  obtain⟨⟨dx,e1⟩,e2⟩:=hc u hu
  have hmelt:Tr.melt r (pre++[u])=Tr.melt r pre++(if u.kind=kd r then u.cs else [u]):=by simp[Tr.melt]
  have hlen:=hp (pre++[u]) suf (by simp[hcs])
  rw[hmelt,List.length_append]at hlen
  walk_at "wp"
  simp only[h1,h2,Option.some.injEq,exists_eq_left']
  refine⟨bm_rec h4,?_⟩
  simp only[rf]
  rw[gk (h3.inst e1)]
  refine⟨fun hk=>?_,fun hk=>?_⟩
  ·rw[gl (h3.inst e1)]
   have hk:=of_decide_eq_true hk
   rw[if_pos hk]at hmelt hlen
   have e2':=h3.list e2
   refine⟨fun z=>?_,f',_,_,h4,e2',?_,trivial,trivial,?_,?_⟩
   ·have:=e2;rw[←z,ha]at this;cases this
   ·simp only[List.length_map];unfold cap;omega
   ·exact fun b f o nn eb _=>(AH.set_ne _ _ (ne_of_none ha eb)).trans (h3 b f o nn eb (by simp))
   ·rw[AH.set_same,hmelt,List.map_append];rfl
  ·have hk:=of_decide_eq_false hk
   rw[if_neg hk]at hmelt hlen
   refine⟨by decide,fun b hb=>⟨fun z=>?_,false,_,_,(AH.set_ne _ _ (ne_of_none hb h4)).trans h4,AH.set_same _ _ _,?_,trivial,trivial,?_,?_⟩⟩
   ·rw[←z,h4]at hb;cases hb
   ·simp only[List.length_map,List.length_cons,List.length_nil];unfold cap;omega
   ·exact fun b' f o nn eb _=>(AH.set_ne _ _ (ne_of_none ha eb)).trans ((Sb.new hb) b' f o nn (h3 b' f o nn eb (by simp)) (by simp))
   ·rw[AH.set_same,hmelt,List.map_append];rfl
 ·rintro ρ H' ⟨h1,h2,h3,h4⟩
  exact⟨_,h1,q a H' ha h3 h4⟩
end
section
variable {H:AH} {P:Bool→Prop}
theorem aeq_str {a b:Str}:aeq H (.str a) (.str b) P=P (decide (a=b)):=rfl
theorem aeq_ii {a b:Int}:aeq H (.int a) (.int b) P=P (a==b):=by simp[aeq,feq]
theorem aeq_ni {b:Int}:aeq H .none (.int b) P=P false:=by simp[aeq,feq]
theorem aeq_in {a:Int}:aeq H (.int a) .none P=P false:=by simp[aeq,feq]
theorem aeq_nn:aeq H .none .none P=P true:=by simp[aeq,feq]
theorem aeq_by {a b:Array UInt8}:aeq H (.bytes a) (.bytes b) P=P (a==b):=rfl
theorem aeq_tt {a b:List AV}:aeq H (.tup a) (.tup b) P=∃c,feqs a b=some c∧P c:=rfl
theorem aeq_rr {a b:Addr} {f g:Bool} {xs ys:List Int} (ea:H a=some (f,.list (xs.map .int))) (eb:H b=some (g,.list (ys.map .int))) (q:P (decide (xs=ys))):aeq H (.ref a) (.ref b) P:=⟨f,g,xs,ys,ea,eb,q⟩
end
end
end Mine
namespace Mine
local macro_rules | `(tactic| walk_at "wp") => `(tactic| simp only [e_k, e_loc, e_attr, e_call, e_new, e_meth, e_bm, e_bf, e_bin, e_cmp, e_and, e_or, e_not, e_neg, e_ite, e_list, e_tup, e_dS, e_dI, e_sub, e_slice, e_rev, e_comp, es_nil, es_cons, t_name, t_attr, t_sub, t_cut, ts_nil, ts_cons,
  s_assign, s_assignT, s_aug, s_expr, s_ite, s_ret0, s_ret, s_pass, s_for1, s_forT, s_wh, sr_one_eq, sr_enum_eq, sr_zip_eq, sr_range_eq, b_nil, b_cons, List.lookup_cons, List.zip_cons_cons, List.zip_nil_left, List.zip_nil_right, List.append_nil, List.nil_append, List.cons_append, lk_put, put, Option.some.injEq, exists_eq_left', exists_eq_left, Nat.reduceBEq, Nat.reduceEqDiff, if_true, if_false, reduceIte, AV.bool.injEq, AV.int.injEq, AV.ref.injEq, AV.str.injEq, AV.tup.injEq, forall_eq', and_true, true_and, CmpR, aeq_str, aeq_ii, aeq_ni, aeq_in, aeq_nn, aeq_by, aeq_tt, List.length_cons, List.length_nil, Nat.reduceAdd])
section
namespace Tr
variable {α β:Type}
theorem side_le_fill {F:Fm α} {t:Tr α} (ho:(fill F t).ok) (hg:(fill F t).geo) (d:Bool):t.side d≤(fill F t).side d:=by
 rw[ok_fill]at ho
 rw[geo_fill]at hg
 obtain⟨o1,o2,o3,o4⟩:=ho
 obtain⟨g1,⟨g2,g3,g4⟩,g5,g6,g7⟩:=hg
 by_cases hd:d=F.r
 ·subst hd
  have h1:=sum_side_pos (d:=F.r) (cs:=F.l) fun c hc=>geo_pos (o2 c hc) (g5 c hc) _
  have h2:=sum_side_pos (d:=F.r) (cs:=F.rt) fun c hc=>geo_pos (o4 c hc) (g7 c hc) _
  omega
 ·have:d = !F.r:=by revert hd;cases F.r<;>cases d<;>simp
  rw[this,g3];exact Int.le_refl _
theorem side_le_plug {d:Bool}:∀{C:List (Fm α)} {t:Tr α},(plug C t).ok→(plug C t).geo→t.side d≤(plug C t).side d
 |[],_,_,_=>Int.le_refl _
 |F::C,t,ho,hg=>by
  have h1:=side_le_fill ho hg d
  have h2:=side_le_plug (d:=d) (C:=C) (t:=t) (ok_fill.mp ho).2.2.1 (geo_fill.mp hg).2.2.2.1
  exact Int.le_trans h2 h1
theorem halves_map {g:α→β} {b:α} {fresh:Int} {d:Bool} {size:Option Int} {before:Bool} {l:Tr α}:(halves b fresh d size before l).map (map g)=halves (g b) fresh d size before (l.map g):=by
 unfold halves
 cases before<;>simp[map_setS,map_leaf,map_side,map_w,map_h]
end Tr
def optV:Option Int→AV
 |none=>.none
 |some i=>.int i
theorem Sb.exNw {H H' H'':AH} {X:List Addr} (s:Sb H H') (k:Ex X H' H'') (n:Nw H X):Sb H H'':=fun a f o no' e _=>k a f o no' (s a f o no' e (by simp)) fun z=>n a z f o no' e
theorem er_find {t:L} {p:Int}:(er t).find p=(t.find p).map fun q=>(q.1.map (Fm.map fun _=>()),er q.2):=Tr.find_map
theorem er_plug {C:List FL} {t:L}:er (Tr.plug C t)=Tr.plug (C.map (Fm.map fun _=>())) (er t):=Tr.plug_map
theorem er_side {t:L} {d:Bool}:(er t).side d=t.side d:=Tr.map_side
theorem er_panes {t:L}:(er t).panes=t.panes:=Tr.map_panes
theorem er_plc {t:L} {x y:Int}:Tr.plc x y (er t)=er (Tr.plc x y t):=Tr.plc_map
theorem Nw.sub {H:AH} {as bs:List Addr} (h:Nw H bs) (k:∀a∈as,a∈bs):Nw H as:=fun a ha=>h a (k a ha)
theorem Nw.of {H:AH} {a:Addr} (h:H a=none):Nw H [a]:=.of_none (by simp[h])
theorem snoc_cases {α:Type} (C:List α):C=[]∨∃D F,C=D++[F]:=by
 rcases List.eq_nil_or_concat C with h|⟨D,F,h⟩
 ·exact .inl h
 ·exact .inr ⟨D,F,by simpa using h⟩
section
variable {W:Wd} {m:Nat} {H:AH} {Q:AV→AH→Prop}
theorem c127z (G:GD W) {t:L} {H0:AH} (hm:t.dep+1≤m) (ht:LR false H t) (hn:(ads t).Nodup) (hs:Sb H0 H) (hw:Nw H0 (ads t)) (q:∀H',Sb H0 H'→LR true H' (Tr.plc 0 0 t)→Q (.ref t.tag.1) H') :
  CallF W 127 [.ref t.tag.1,.int 0,.int 0] m H fun v H'=>∃as:List Addr,Q v (fz as H'):=
 c127 G hm ht hn fun H' k l=>⟨ads t,q _ (fz_sb (hs.exNw k hw) hw) (LR.fz (fun a ha=>by rwa [ads_plc]at ha) l)⟩
theorem b_app {W:Wd} {n:Nat} {a b:List CS} {QS:Rho→AH→Prop} {R:AV→AH→Prop}:∀{ρ:Rho} {H:AH},wpB W n (a++b) ρ H QS R=wpB W n a ρ H (fun ρ H=>wpB W n b ρ H QS R) R:=by
 induction a with
 |nil=>intro ρ H;rw[List.nil_append,b_nil]
 |cons s a ih=>intro ρ H;rw[List.cons_append,b_cons,b_cons];congr 1;funext ρ H;exact ih
theorem setS_leaf {a:Addr × Addr} {s w h x y p:Int} {d:Bool}:∃w' h',Tr.setS d s (.leaf a w h x y p:L)=.leaf a w' h' x y p:=by cases d<;>exact⟨_,_,rfl⟩
theorem LR_setS {H:AH} {a:Addr × Addr} {s w h x y p:Int} {d:Bool} (n:Nd false H (Tr.setS d s (.leaf a w h x y p))):LR false H (Tr.setS d s (.leaf a w h x y p)):=
 LR_iff.mpr ⟨n,by rw[Tr.setS_cs];simp[Tr.cs]⟩
theorem fin142 (G:GD W) {n:Nat} {ρ:Rho} {H0:AH} {d:Bool} {l tr:L} {s mm:Int} {QS:Rho→AH→Prop} (hn:tr.dep+2≤n) (h36:ρ.lookup 36=some (rf l)) (h27:ρ.lookup 27=some (.bool d)) (h28:ρ.lookup 28=some (.int s)) (h38:ρ.lookup 38=some (.int mm)) (h42:ρ.lookup 42=some (.ref tr.tag.1))
  (nl:Nd false H l) (after:∀H',Ex [l.tag.1] H H'→Nd false H' (Tr.setS d (s-1-mm) l)→LR false H' tr) (nd:(ads tr).Nodup) (hs:Sb H0 H) (hw:Nw H0 (ads tr)) (hl:l.tag.1∈ads tr)
  (q:∀H',Sb H0 H'→LR true H' (Tr.plc 0 0 tr)→Q (.ref tr.tag.1) H'):wpB W n (b142.drop 12) ρ H QS fun v H=>∃as:List Addr,Q v (fz as H):=by
 unfold b142
 simp only[List.drop_succ_cons,List.drop_zero]
 walk_at "wp"
 simp only[h36,h27,h28,h38,h42,Option.some.injEq,exists_eq_left',BinR]
 refine c101 G (by omega) nl fun H' k n'=>?_
 exact c127z G (by omega) (after H' k n') nd (hs.exNw k (hw.sub fun a ha=>by rw[List.mem_singleton.mp ha];exact hl)) hw q
theorem dep_plug_le {C:List FL} {l u:L} {k:Nat} (hu:u.dep≤l.dep+k):(Tr.plug C u).dep≤(Tr.plug C l).dep+k:=by
 induction C with
 |nil=>exact hu
 |cons F C ih=>
  simp only[Tr.plug,Tr.fill,Tr.dep]
  have:∀(s t:List L) (a b:L),a.dep≤b.dep+k→Tr.deps (s++a::t)≤Tr.deps (s++b::t)+k:=by
   intro s t a b hab
   induction s with
   |nil=>simp only[List.nil_append,Tr.deps];omega
   |cons c s ih=>simp only[List.cons_append,Tr.deps];omega
  have:=this F.l F.rt _ _ ih
  omega
theorem deps_app {α:Type} {s t:List (Tr α)}:Tr.deps (s++t)=max (Tr.deps s) (Tr.deps t):=by
 induction s with
 |nil=>simp[Tr.deps]
 |cons c s ih=>simp only[List.cons_append,Tr.deps,ih];omega
theorem halves_dep {b a:Addr × Addr} {fresh:Int} {d:Bool} {size:Option Int} {before:Bool} {w h x y p:Int}:Tr.deps (Tr.halves b fresh d size before (.leaf a w h x y p))=0:=by
 unfold Tr.halves
 cases before<;>cases d<;>rfl
theorem nodup_swap {a b:Addr} {s m m' t:List Addr} (h:(a::b::(s++(m++t))).Nodup) (hm:m'.Nodup) (k:∀x∈m',x∈m∨x∉a::b::(s++(m++t))):(a::b::(s++(m'++t))).Nodup:=by
 simp only[List.nodup_cons,List.mem_cons,List.mem_append,not_or,List.nodup_append]at h k ⊢
 obtain⟨⟨h1,h2,h3,h4⟩,⟨h5,h6,h7⟩,h8,⟨h9,h10,h11⟩,h12⟩:=h
 refine⟨⟨h1,h2,fun z=>?_,h4⟩,⟨h5,fun z=>?_,h7⟩,h8,⟨hm,h10,fun x hx y hy z=>?_⟩,fun x hx y hy z=>?_⟩
 ·rcases k a z with q|q
  ·exact h3 q
  ·exact q.1 rfl
 ·rcases k b z with q|q
  ·exact h6 q
  ·exact q.2.1 rfl
 ·subst z
  rcases k x hx with q|q
  ·exact h11 x q x hy rfl
  ·exact q.2.2.2.2 hy
 ·subst z
  rcases hy with hy|hy
  ·rcases k x hy with q|q
   ·exact h12 x hx x (.inl q) rfl
   ·exact q.2.2.1 hx
  ·exact h12 x hx x (.inr hy) rfl
theorem path0 {D:List FL} {u:L} {c:Addr} {rest:List AV} (h:u.tag.1=c):((D.map fun F=>AV.ref F.a.1)++.ref c::rest)[0]?=some (.ref (Tr.plug D u).tag.1):=by
 cases D with
 |nil=>simp[Tr.plug,h]
 |cons E D=>rfl
theorem mid142 (G:GD W) {n:Nat} {ρ:Rho} {H0:AH} {C:List FL} {l:L} {a:Addr × Addr} {w h x y p fresh:Int} {d before:Bool} {size:Option Int} {r ao lb rb:Addr} {QS:Rho→AH→Prop} (hn:35≤n) (el:l=.leaf a w h x y p)
  (h31:ρ.lookup 31=some (.ref r)) (h36:ρ.lookup 36=some (rf l)) (h27:ρ.lookup 27=some (.bool d)) (h28:ρ.lookup 28=some (.int (l.side d))) (h38:ρ.lookup 38=some (.int (Tr.many (l.side d) size))) (h40:ρ.lookup 40=some (.ref rb))
  (h0:ρ.lookup 0=some (.str (kd d))) (h42:ρ.lookup 42=some (.ref (Tr.plug C l).tag.1)) (er:H r=some (true,.list ((C.map fun F=>AV.ref F.a.1)++[rf l]))) (hC:C.length≤20) (hsm:(Tr.plug C l).Sm)
  (l1:LR false H (Tr.plug C l)) (nd1:(ao::lb::rb::ads (Tr.plug C l)).Nodup) (lo:LR false H (Tr.setS d (Tr.many (l.side d) size) (.leaf (ao,lb) l.w l.h 0 0 fresh)))
  (eb:H rb=some (false,.list ((Tr.halves (ao,lb) fresh d size before l).map rf))) (hs:Sb H0 H) (hw:Nw H0 (ao::lb::rb::ads (Tr.plug C l)))
  (qa:∀D F,C=D++[F]→F.r=d→∀H',Sb H0 H'→LR true H' (Tr.plc 0 0 (Tr.plug D (.node F.a F.r F.w F.h F.x F.y (F.l++Tr.halves (ao,lb) fresh d size before l++F.rt))))→Q (.ref (Tr.plug D (.node F.a F.r F.w F.h F.x F.y (F.l++Tr.halves (ao,lb) fresh d size before l++F.rt))).tag.1) H')
  (qb:(∀D F,C=D++[F]→F.r≠d)→∀an H',Sb H0 H'→LR true H' (Tr.plc 0 0 (Tr.plug C (.node (an,rb) d l.w l.h 0 0 (Tr.halves (ao,lb) fresh d size before l))))→Q (.ref (Tr.plug C (.node (an,rb) d l.w l.h 0 0 (Tr.halves (ao,lb) fresh d size before l))).tag.1) H') :
  wpB W n (b142.drop 11) ρ H QS fun v H=>∃as:List Addr,Q v (fz as H):=by
 have hd:b142.drop 11=(b142.drop 11).take 1++b142.drop 12:=rfl
 rw[hd,b_app]
 unfold b142
 simp only[List.drop_succ_cons,List.drop_zero,List.take_succ_cons,List.take_zero]
 have hfin:[CS.expr (.call 101 [.loc 36,.loc 27,.bin .sub (.bin .sub (.loc 28) (.k (.int 1))) (.loc 38)]),.ret (some (.call 127 [.loc 42,.k (.int 0),.k (.int 0)]))]=b142.drop 12:=rfl
 generalize hB:(fun(ρ:Rho) (H:AH)=>wpB W n [CS.expr (.call 101 [.loc 36,.loc 27,.bin .sub (.bin .sub (.loc 28) (.k (.int 1))) (.loc 38)]),.ret (some (.call 127 [.loc 42,.k (.int 0),.k (.int 0)]))] ρ H QS fun v H=>∃as:List Addr,Q v (fz as H))=B
 rw[hfin]at hB
 walk_at "wp"
 simp only[h31,h36,h40,h0,Option.some.injEq,exists_eq_left']
 have nl:Nd false H l:=l1.unplug.nd
 have hdepw:=hsm.dep
 obtain⟨n1,n2⟩:=List.nodup_cons.mp nd1
 obtain⟨n2,n3⟩:=List.nodup_cons.mp n2
 obtain⟨n3,n4⟩:=List.nodup_cons.mp n3
 have hno:=lo.nd
 have hmem:l.tag.1∈ads (Tr.plug C l):=mem_plug.mpr (.inr (at_mem l))
 have hal:∀H',LR false H' (Tr.setS d (Tr.many (l.side d) size) (.leaf (ao,lb) l.w l.h 0 0 fresh))→Nd false H' (Tr.setS d (l.side d-1-Tr.many (l.side d) size) l)→∀c∈Tr.halves (ao,lb) fresh d size before l,LR false H' c:=by
  intro H' lo' nd'
  refine Tr.halves_all (P:=fun c=>LR false H' c) lo' ?_
  subst el;exact LR_setS nd'
 have lo_ads:∀b∈ads (Tr.setS d (Tr.many (l.side d) size) (.leaf (ao,lb) l.w l.h 0 0 fresh):L),b=ao∨b=lb:=fun b hb=>by
  obtain⟨w',h',e⟩:=setS_leaf (a:=(ao,lb)) (s:=Tr.many (l.side d) size) (w:=l.w) (h:=l.h) (x:=0) (y:=0) (p:=fresh) (d:=d)
  rw[e]at hb
  simpa[ads]using hb
 have lo_ex:∀(X:List Addr) H',Ex X H H'→(∀b∈X,b∈ads (Tr.plug C l))→LR false H' (Tr.setS d (Tr.many (l.side d) size) (.leaf (ao,lb) l.w l.h 0 0 fresh)):=fun X H' k hX=>lo.ex k fun b hb hz=>by
  have hz:=hX b hz
  rcases lo_ads b hb with rfl|rfl
  ·exact n1 (.tail _ (.tail _ hz))
  ·exact n2 (.tail _ hz)
 have hal_ads:(Tr.halves (ao,lb) fresh d size before l).flatMap ads=if before then [ao,lb,l.tag.1,l.tag.2]else [l.tag.1,l.tag.2,ao,lb]:=by
  subst el
  unfold Tr.halves
  have:∀{a:Addr × Addr} {s w h x y p:Int},ads (Tr.setS d s (.leaf a w h x y p:L))=[a.1,a.2]:=by intros;cases d<;>rfl
  cases before<;>simp[this,Tr.tag]
 have hal_mem:∀b∈(Tr.halves (ao,lb) fresh d size before l).flatMap ads,b=ao∨b=lb∨b∈ads l:=fun b hb=>by
  rw[hal_ads]at hb
  have t1:=at_mem l
  have t2:=ls_mem l
  cases before<;>simp at hb<;>rcases hb with rfl|rfl|rfl|rfl<;>simp[t1,t2]
 have hal_nd:((Tr.halves (ao,lb) fresh d size before l).flatMap ads).Nodup:=by
  rw[hal_ads]
  have t1:=hmem
  have t2:l.tag.2∈ads (Tr.plug C l):=mem_plug.mpr (.inr (ls_mem l))
  have nll:=(plug_nd n4).2.1
  rw[ads_eq]at nll
  have a1:l.tag.1≠l.tag.2:=fun z=>(List.nodup_cons.mp nll).1 (by rw[z];exact .head _)
  have a2:∀b∈ads (Tr.plug C l),b≠ao:=fun b hb z=>n1 (by rw[←z];exact .tail _ (.tail _ hb))
  have a3:∀b∈ads (Tr.plug C l),b≠lb:=fun b hb z=>n2 (by rw[←z];exact .tail _ hb)
  have a4:ao≠lb:=fun z=>n1 (by rw[z];exact .head _)
  have b1:=a2 _ t1
  have b2:=a2 _ t2
  have b3:=a3 _ t1
  have b4:=a3 _ t2
  cases before<;>simp[a1,a1.symm,a4,a4.symm,b1,b2,b3,b4,b1.symm,b2.symm,b3.symm,b4.symm]
 have hrf:∀b∈ads (Tr.plug C l),b≠rb:=fun b hb z=>n3 (z▸hb)
 have ew:l.w=w:=by rw[el];rfl
 have eh:l.h=h:=by rw[el];rfl
 have newN:∀(n':Nat) (Q':AV→AH→Prop),2≤n'→(∀an H',H an=none→Sb H H'→(∃dx,H' an=some (false,.inst 45 dx (flds (kd d) l.w l.h 0 0 rb .none)))→Q' (.ref an) H')→
   GetA W (rf l) 1 n' H fun v H=>GetA W (rf l) 2 n' H fun v_1 H=>NewC W 45 [.str (kd d),v,v_1,.int 0,.int 0,.ref rb,.none] n' H Q':=by
  intro n' Q' hn' q'
  obtain⟨⟨dx,e⟩,_⟩:=nl
  simp only[rf]
  rw[gw e,gh e]
  exact newCell G hn' q'
 have lsk:∀s,ads (Tr.setS d s l)=ads l:=fun s=>ads_of_sk Tr.sk_setS
 have top_nd:∀an,H an=none→(ads (.node (an,rb) d l.w l.h 0 0 (Tr.halves (ao,lb) fresh d size before l):L)).Nodup∧(∀b∈ads (.node (an,rb) d l.w l.h 0 0 (Tr.halves (ao,lb) fresh d size before l):L),b=an∨b=rb∨b=ao∨b=lb∨b∈ads l):=by
  intro an han
  have oan:∀b∈ads l,b≠an:=fun b hb z=>by
   obtain⟨o,e,_⟩:=l1.unplug.some b hb
   rw[z,han]at e;cases e
  have e1:ao≠an:=fun z=>by
   obtain⟨⟨dx,e⟩,_⟩:=hno
   rw[Tr.setS_tag]at e
   rw[←z]at han
   have e':H ao=_:=e
   rw[han]at e';cases e'
  have e2:lb≠an:=fun z=>by
   obtain⟨_,e⟩:=hno
   rw[Tr.setS_tag]at e
   rw[←z]at han
   have e':H lb=_:=e
   rw[han]at e';cases e'
  have e3:rb≠an:=ne_of_none han eb
  have m1:∀b∈(Tr.halves (ao,lb) fresh d size before l).flatMap ads,b≠an∧b≠rb:=fun b hb=>by
   rcases hal_mem b hb with rfl|rfl|hb
   ·exact⟨e1,fun z=>n1 (by rw[z];exact .tail _ (.head _))⟩
   ·exact⟨e2,fun z=>n2 (by rw[z];exact .head _)⟩
   ·exact⟨oan b hb,hrf b (mem_plug.mpr (.inr hb))⟩
  rw[ads_eq]
  simp only[Tr.tag,Tr.cs,List.nodup_cons,List.mem_cons,not_or]
  refine⟨⟨⟨fun z=>e3 z.symm,fun z=>(m1 _ z).1 rfl⟩,fun z=>(m1 _ z).2 rfl,hal_nd⟩,fun b hb=>?_⟩
  rcases hb with hb|hb|hb
  ·exact .inl hb
  ·exact .inr (.inl hb)
  ·exact .inr (.inr (hal_mem b hb))
 have hnodeN:∀{an:Addr} {H':AH},(∃dx,H' an=some (false,.inst 45 dx (flds (kd d) l.w l.h 0 0 rb .none)))→H' rb=some (false,.list ((Tr.halves (ao,lb) fresh d size before l).map rf))→Nd false H' (.node (an,rb) d l.w l.h 0 0 (Tr.halves (ao,lb) fresh d size before l)):=fun e1 e2=>⟨e1,e2⟩
 have hdN:∀an,(Tr.node (an,rb) d l.w l.h 0 0 (Tr.halves (ao,lb) fresh d size before l):L).dep≤l.dep+1:=fun an=>by subst el;simp only[Tr.dep,halves_dep];omega
 have lrb:l.tag.1≠rb:=fun z=>n3 (z▸hmem)
 rcases snoc_cases C with hC0|⟨D,F,hC0⟩
 ·subst hC0
  refine len_list er (by simp;unfold cap;omega) ⟨_,_,rfl,rfl,fun _=>⟨(fun z=>by cases z),fun _=>?_⟩,fun z=>by simp at z⟩
  refine len_list er (by simp;unfold cap;omega) ⟨_,_,rfl,rfl,fun z=>by simp at z,fun _=>?_⟩
  refine newN n _ (by omega) fun an H' han k ea=>?_
  refine c134a G (by omega) (by simpa using k.list er) ?_
  subst hB
  obtain⟨t1,t2⟩:=top_nd an han
  refine fin142 G (d:=d) (tr:=.node (an,rb) d l.w l.h 0 0 (Tr.halves (ao,lb) fresh d size before l)) (s:=l.side d) (mm:=Tr.many (l.side d) size) (by have:=hdN an;subst el;simp only[Tr.dep]at this ⊢;omega) (by simp[lk_put,h36]) (by simp[lk_put,h27]) (by simp[lk_put,h28]) (by simp[lk_put,h38]) (by simp[lk_put,Tr.tag])
   (nl.ex (k.ex (X:=[])) (by simp) (by simp)) (fun H2 k2 n2'=>?_) t1 (hs.trans k) ?_ ?_ fun H3 s3 l3=>qb (fun D F h=>by simp at h) an H3 s3 l3
  ·refine LR_iff.mpr ⟨(hnodeN ea (k.list eb)).ex k2 ?_ ?_,hal H2 (lo_ex [l.tag.1] H2 (k.ex.trans k2) fun b hb=>by rw[List.mem_singleton.mp hb];exact hmem) n2'⟩
   ·exact fun z=>by
     obtain⟨o,e,_⟩:=l1.unplug.some _ (at_mem l)
     rw[←List.mem_singleton.mp z]at e
     have e':H an=_:=e
     rw[han]at e';cases e'
   ·exact fun z=>lrb (List.mem_singleton.mp z).symm
  ·intro b hb
   rcases t2 b hb with rfl|rfl|rfl|rfl|hb
   ·exact(Nw.sb hs (.of han)) b (by simp)
   ·exact hw b (by simp)
   ·exact hw b (by simp)
   ·exact hw b (by simp)
   ·exact hw b (.tail _ (.tail _ (.tail _ hb)))
  ·rw[ads_eq];simp only[Tr.cs,hal_ads];cases before<;>simp
 ·subst hC0
  have er':H r=some (true,.list ((D.map fun F=>AV.ref F.a.1)++[.ref F.a.1,rf l])):=by rw[er];simp
  have hD:D.length≤20:=by simp at hC;omega
  have hplug:∀t:L,Tr.plug (D++[F]) t=Tr.plug D (Tr.fill F t):=fun t=>Tr.plug_snoc
  have l1':=l1
  rw[hplug]at l1' n1 n2 n3 n4 hmem
  have lF:=LR_fill.mp l1'.unplug
  obtain⟨⟨dxF,eF⟩,eF2⟩:=lF.1
  have eF':H F.a.1=some (false,.inst 45 dxF (flds (kd F.r) F.w F.h F.x F.y F.a.2 .none)):=eF
  have eF2':H F.a.2=some (false,.list ((F.l++l::F.rt).map rf)):=eF2
  have hfk:F.l.length+F.rt.length+1≤20:=by
   have hsmF:(Tr.fill F l).Sm:=by
    rw[hplug]at hsm
    refine⟨(Tr.ok_plug hsm.ok).1,?_⟩
    have:=hsm.len
    rw[Tr.panes_plug]at this
    simp only[List.length_append]at this;omega
   have:=hsmF.kids
   simp[Tr.fill,Tr.cs]at this;omega
  obtain⟨p1,p2,p3⟩:=plug_nd n4
  refine len_list er (by simp;unfold cap;omega) ⟨_,_,rfl,rfl,fun z=>by simp at z;omega,fun _=>?_⟩
  refine gi_m2 er' (by simp;omega) ?_
  rw[gk eF',aeq_str]
  refine⟨fun hk=>?_,fun hk=>?_⟩
  ·have hk:=of_decide_eq_true hk
   have hFd:F.r=d:=by revert hk;cases F.r<;>cases d<;>simp[kd]<;>decide
   refine gi_m2 er' (by simp;omega) ?_
   rw[gl eF']
   refine c108 G (by omega) eF2' (fun c hc=>?_) (kids_tags p2) ?_
   ·rcases List.mem_append.mp hc with hc|hc
    ·exact(lF.2.1 c hc).own
    ·rcases List.mem_cons.mp hc with rfl|hc
     ·exact lF.2.2.1.own
     ·exact(lF.2.2.2 c hc).own
   refine gi_m2 er' (by simp;omega) ?_
   rw[gl eF']
   simp only[BinR]
   have hFb:F.a.2≠rb:=fun z=>n3 (z▸mem_plug.mpr (.inr (by rw[ads_fill];simp)))
   refine⟨_,_,false,_,_,F.l.length,F.l.length+1,rfl,rfl,hFb,rfl,rfl,eF2',eb,by omega,by simp,?_,?_⟩
   ·simp only[List.length_map,Tr.halves_len,List.length_append,List.length_cons];unfold cap;omega
   have ecut:((F.l++l::F.rt).map rf).take F.l.length++(Tr.halves (ao,lb) fresh d size before l).map rf++((F.l++l::F.rt).map rf).drop (F.l.length+1)=(F.l++Tr.halves (ao,lb) fresh d size before l++F.rt).map rf:=by
    have t1:((F.l++l::F.rt).map rf).take F.l.length=F.l.map rf:=by simp
    have t2:((F.l++l::F.rt).map rf).drop (F.l.length+1)=F.rt.map rf:=by
     have:F.l++l::F.rt=(F.l++[l])++F.rt:=by simp
     rw[this,List.map_append]
     exact List.drop_left' (by simp)
    rw[t1,t2];simp
   rw[ecut]
   subst hB
   generalize hN:(Tr.node F.a F.r F.w F.h F.x F.y (F.l++Tr.halves (ao,lb) fresh d size before l++F.rt):L)=N
   have eN:N.tag.1=(Tr.fill F l).tag.1:=by rw[←hN];rfl
   have aN:ads N=F.a.1::F.a.2::(F.l.flatMap ads++((Tr.halves (ao,lb) fresh d size before l).flatMap ads++F.rt.flatMap ads)):=by rw[←hN,ads_eq];simp[Tr.tag,Tr.cs]
   have mN:∀b∈ads N,b=ao∨b=lb∨b∈ads (Tr.fill F l):=fun b hb=>by
    rw[aN]at hb
    rw[ads_fill]
    simp only[List.mem_cons,List.mem_append]at hb ⊢
    rcases hb with hb|hb|hb|hb|hb
    ·simp[hb]
    ·simp[hb]
    ·simp[hb]
    ·rcases hal_mem b hb with hb|hb|hb<;>simp[hb]
    ·simp[hb]
   have aon:∀b,b=ao∨b=lb→b∉ads (Tr.plug D (Tr.fill F l)):=fun b hb hz=>by
    rcases hb with rfl|rfl
    ·exact n1 (.tail _ (.tail _ hz))
    ·exact n2 (.tail _ hz)
   have lmem:∀b∈ads l,b∈ads (Tr.fill F l):=fun b hb=>by rw[ads_fill];simp[hb]
   have p2':=p2
   rw[ads_fill]at p2'
   have nN:(ads N).Nodup:=by
    rw[aN]
    refine nodup_swap p2' hal_nd fun b hb=>?_
    rcases hal_mem b hb with hb|hb|hb
    ·exact .inr fun z=>aon b (.inl hb) (mem_plug.mpr (.inr (by rw[ads_fill];exact z)))
    ·exact .inr fun z=>aon b (.inr hb) (mem_plug.mpr (.inr (by rw[ads_fill];exact z)))
    ·exact .inl hb
   have memt:∀b∈ads (Tr.plug D N),b=ao∨b=lb∨b∈ads (Tr.plug D (Tr.fill F l)):=fun b hb=>by
    rcases mem_plug.mp hb with hb|hb
    ·exact .inr (.inr (mem_plug.mpr (.inl hb)))
    ·rcases mN b hb with hb|hb|hb
     ·exact .inl hb
     ·exact .inr (.inl hb)
     ·exact .inr (.inr (mem_plug.mpr (.inr hb)))
   have lF2:∀b∈ads l,b≠F.a.2∧b≠F.a.1:=fun b hb=>by
    rw[List.nodup_cons,List.nodup_cons]at p2'
    exact⟨fun z=>p2'.2.1 (by rw[←z];simp[hb]),fun z=>p2'.1 (by rw[←z];simp[hb])⟩
   have F2m:F.a.2∈ads (Tr.plug D (Tr.fill F l)):=mem_plug.mpr (.inr (by rw[ads_fill];simp))
   have hw':Nw H0 (ads (Tr.plug D N)):=hw.sub fun b hb=>by
    rcases memt b hb with rfl|rfl|hb
    ·simp
    ·simp
    ·rw[hplug];exact .tail _ (.tail _ (.tail _ hb))
   refine fin142 G (d:=d) (tr:=Tr.plug D N) (s:=l.side d) (mm:=Tr.many (l.side d) size) ?_ (by simp[lk_put,h36]) (by simp[lk_put,h27]) (by simp[lk_put,h28]) (by simp[lk_put,h38]) (by simp only[lk_put];rw[if_neg (by decide),h42,hplug,plug_tag eN])
    (nl.ex Ex.put (fun z=>(lF2 _ (at_mem l)).1 (List.mem_singleton.mp z)) fun z=>(lF2 _ (ls_mem l)).1 (List.mem_singleton.mp z)) (fun H2 k2 n2'=>?_) (plug_nodup n4 nN fun b hb hz=>?_) (hs.exNw Ex.put (hw.sub fun b hb=>?_)) hw' ?_ fun H3 s3 l3=>by
     subst hN;exact qa D F rfl hFd H3 s3 l3
   ·have hdN2:N.dep≤(Tr.fill F l).dep+0:=by
     subst el
     rw[←hN]
     simp only[Tr.fill,Tr.dep,deps_app,halves_dep,Tr.deps];omega
    have:=dep_plug_le (C:=D) hdN2
    rw[hplug]at hdepw;omega
   ·have kk:Ex [F.a.2,l.tag.1] H H2:=(Ex.put.mono fun b hb=>by rw[List.mem_singleton.mp hb];simp).trans (k2.mono fun b hb=>by rw[List.mem_singleton.mp hb];simp)
    have e1:=k2.inst ((AH.set_ne _ _ (fun z=>by rw[z]at eF';rw[eF']at eF2';cases eF2')).trans eF') (fun z=>(lF2 _ (at_mem l)).2 (List.mem_singleton.mp z).symm)
    have e2:=k2.list (AH.set_same _ F.a.2 _) (fun z=>(lF2 _ (at_mem l)).1 (List.mem_singleton.mp z).symm)
    refine plug_upd eN kk ?_ l1' fun b hb hz=>?_
    ·rw[←hN]
     refine LR_iff.mpr ⟨⟨⟨dxF,e1⟩,e2⟩,fun c hc=>?_⟩
     have dis:∀c:L,(∀b∈ads c,b∉ads l)→(∀b∈ads c,b≠F.a.2)→LR false H c→LR false H2 c:=fun c h1 h2 h3=>h3.ex kk fun b hb hz=>by
      simp only[List.mem_cons,List.not_mem_nil,or_false]at hz
      rcases hz with hz|hz
      ·exact h2 b hb hz
      ·exact h1 b hb (by rw[hz];exact at_mem l)
     rw[List.nodup_cons,List.nodup_cons]at p2'
     obtain⟨_,q2,q3⟩:=p2'
     have q4:=List.nodup_append.mp q3
     have q5:=List.nodup_append.mp q4.2.1
     simp only[Tr.cs,List.mem_append]at hc
     rcases hc with(hc|hc)|hc
     ·refine dis c (fun b hb hz=>q4.2.2 b (List.mem_flatMap.mpr ⟨c,hc,hb⟩) b (List.mem_append_left _ hz) rfl) (fun b hb hz=>q2 (by rw[←hz];exact List.mem_append_left _ (List.mem_flatMap.mpr ⟨c,hc,hb⟩))) (lF.2.1 c hc)
     ·refine hal H2 (lo_ex _ H2 kk fun b hb=>?_) n2' c hc
      simp only[List.mem_cons,List.not_mem_nil,or_false]at hb
      rw[hplug]
      rcases hb with rfl|rfl
      ·exact F2m
      ·exact hmem
     ·refine dis c (fun b hb hz=>q5.2.2 b hz b (List.mem_flatMap.mpr ⟨c,hc,hb⟩) rfl) (fun b hb hz=>q2 (by rw[←hz];exact List.mem_append_right _ (List.mem_append_right _ (List.mem_flatMap.mpr ⟨c,hc,hb⟩)))) (lF.2.2.2 c hc)
    ·simp only[List.mem_cons,List.not_mem_nil,or_false]at hz
     rcases hz with rfl|rfl
     ·exact p3 _ hb (by rw[ads_fill];simp)
     ·exact p3 _ hb (lmem _ (at_mem l))
   ·rcases mN b hb with hb|hb|hb
    ·exact aon b (.inl hb) (mem_plug.mpr (.inl hz))
    ·exact aon b (.inr hb) (mem_plug.mpr (.inl hz))
    ·exact p3 b hz hb
   ·rw[List.mem_singleton.mp hb,hplug];exact .tail _ (.tail _ (.tail _ F2m))
   ·refine mem_plug.mpr (.inr ?_)
    rw[aN,hal_ads]
    cases before<;>simp
  ·have hk:=of_decide_eq_false hk
   have hFd:F.r≠d:=fun z=>hk (by rw[z])
   refine len_list er' (by simp;unfold cap;omega) ⟨_,_,rfl,rfl,fun z=>by simp at z;omega,fun _=>?_⟩
   refine newN n _ (by omega) fun an H' han k ea=>?_
   obtain⟨t1,t2⟩:=top_nd an han
   generalize hM:(Tr.node (an,rb) d l.w l.h 0 0 (Tr.halves (ao,lb) fresh d size before l):L)=M at t1 t2
   have eM:M.tag=(an,rb):=by rw[←hM];rfl
   have hrF:r≠F.a.2:=fun z=>by rw[z,eF2']at er;cases er
   refine c134b G (F:=F) (u:=l) (x:=.ref (Tr.plug D (Tr.fill F M)).tag.1) (by omega) (k.list er') (by simp;omega) (path0 rfl) (lF.1.ex (k.ex (X:=[])) (by simp) (by simp)) (by omega) (fun c hc=>?_) (kids_tags p2) hrF ?_
   ·have:LR false H c:=by
     rcases List.mem_append.mp hc with hc|hc
     ·exact lF.2.1 c hc
     ·rcases List.mem_cons.mp hc with rfl|hc
      ·exact lF.2.2.1
      ·exact lF.2.2.2 c hc
    exact(this.sb k).own
   subst hB
   have nan:∀b∈ads (Tr.plug D (Tr.fill F l)),b≠an:=fun b hb z=>by
    obtain⟨o,e,_⟩:=l1'.some b hb
    rw[z,han]at e;cases e
   have aon:∀b,b=ao∨b=lb∨b=rb∨b=an→b∉ads (Tr.plug D (Tr.fill F l)):=fun b hb hz=>by
    rcases hb with rfl|rfl|rfl|rfl
    ·exact n1 (.tail _ (.tail _ hz))
    ·exact n2 (.tail _ hz)
    ·exact n3 hz
    ·exact nan _ hz rfl
   have lmem:∀b∈ads l,b∈ads (Tr.fill F l):=fun b hb=>by rw[ads_fill];simp[hb]
   have p2':=p2
   rw[ads_fill]at p2'
   have mM:∀b∈ads M,(b=ao∨b=lb∨b=rb∨b=an)∨b∈ads l:=fun b hb=>by
    rcases t2 b hb with q|q|q|q|q<;>simp[q]
   have nN:(ads (Tr.fill F M)).Nodup:=by
    rw[ads_fill]
    refine nodup_swap p2' t1 fun b hb=>?_
    rcases mM b hb with hb|hb
    ·exact .inr fun z=>aon b hb (mem_plug.mpr (.inr (by rw[ads_fill];exact z)))
    ·exact .inl hb
   have mN:∀b∈ads (Tr.fill F M),(b=ao∨b=lb∨b=rb∨b=an)∨b∈ads (Tr.fill F l):=fun b hb=>by
    rw[ads_fill]at hb
    simp only[List.mem_cons,List.mem_append]at hb
    rcases hb with hb|hb|hb|hb|hb
    ·exact .inr (by rw[ads_fill];simp[hb])
    ·exact .inr (by rw[ads_fill];simp[hb])
    ·exact .inr (by rw[ads_fill];simp[hb])
    ·rcases mM b hb with hb|hb
     ·exact .inl hb
     ·exact .inr (lmem b hb)
    ·exact .inr (by rw[ads_fill];simp[hb])
   have memt:∀b∈ads (Tr.plug D (Tr.fill F M)),(b=ao∨b=lb∨b=rb∨b=an)∨b∈ads (Tr.plug D (Tr.fill F l)):=fun b hb=>by
    rcases mem_plug.mp hb with hb|hb
    ·exact .inr (mem_plug.mpr (.inl hb))
    ·rcases mN b hb with hb|hb
     ·exact .inl hb
     ·exact .inr (mem_plug.mpr (.inr hb))
   have lF2:∀b∈ads l,b≠F.a.2∧b≠F.a.1:=fun b hb=>by
    rw[List.nodup_cons,List.nodup_cons]at p2'
    exact⟨fun z=>p2'.2.1 (by rw[←z];simp[hb]),fun z=>p2'.1 (by rw[←z];simp[hb])⟩
   have F2m:F.a.2∈ads (Tr.plug D (Tr.fill F l)):=mem_plug.mpr (.inr (by rw[ads_fill];simp))
   have hw':Nw H0 (ads (Tr.plug D (Tr.fill F M))):=fun b hb=>by
    rcases memt b hb with(rfl|rfl|rfl|rfl)|hb
    ·exact hw b (by simp)
    ·exact hw b (by simp)
    ·exact hw b (by simp)
    ·exact(Nw.sb hs (.of han)) b (by simp)
    ·exact hw b (by rw[hplug];exact .tail _ (.tail _ (.tail _ hb)))
   have hset:Ex [F.a.2] H (H'.set F.a.2 (.list (F.l.map rf++.ref an::F.rt.map rf))):=k.ex.trans Ex.put
   refine fin142 G (d:=d) (tr:=Tr.plug D (Tr.fill F M)) (s:=l.side d) (mm:=Tr.many (l.side d) size) ?_ (by simp[lk_put,h36]) (by simp[lk_put,h27]) (by simp[lk_put,h28]) (by simp[lk_put,h38]) (by simp[lk_put])
    (nl.ex hset (fun z=>(lF2 _ (at_mem l)).1 (List.mem_singleton.mp z)) fun z=>(lF2 _ (ls_mem l)).1 (List.mem_singleton.mp z)) (fun H2 k2 n2'=>?_) (plug_nodup n4 nN fun b hb hz=>?_) (hs.exNw hset (hw.sub fun b hb=>?_)) hw' ?_ fun H3 s3 l3=>by
     have:=qb (fun D' F' h=>by
      have:=List.append_inj_right' h rfl
      simp at this;rw[←this];exact hFd) an H3 s3
     rw[hplug,hM]at this
     exact this l3
   ·have hdN2:(Tr.fill F M).dep≤(Tr.fill F l).dep+1:=by
     have:=hdN an
     rw[hM]at this
     simp only[Tr.fill,Tr.dep,deps_app,Tr.deps];omega
    have:=dep_plug_le (C:=D) hdN2
    rw[hplug]at hdepw;omega
   ·have kk:Ex [F.a.2,l.tag.1] H H2:=(hset.mono fun b hb=>by rw[List.mem_singleton.mp hb];simp).trans (k2.mono fun b hb=>by rw[List.mem_singleton.mp hb];simp)
    have e1:=kk.inst eF' (fun z=>by
     simp only[List.mem_cons,List.not_mem_nil,or_false]at z
     rcases z with z|z
     ·rw[z]at eF';rw[eF']at eF2';cases eF2'
     ·exact(lF2 _ (at_mem l)).2 z.symm)
    have e2:=k2.list (AH.set_same _ F.a.2 _) (fun z=>(lF2 _ (at_mem l)).1 (List.mem_singleton.mp z).symm)
    have nb:∀b,b=rb∨b=an→b∉[F.a.2,l.tag.1]:=fun b hb hz=>by
     simp only[List.mem_cons,List.not_mem_nil,or_false]at hz
     have:b∈ads (Tr.plug D (Tr.fill F l)):=by
      rcases hz with rfl|rfl
      ·exact F2m
      ·exact hmem
     exact aon b (by rcases hb with hb|hb<;>simp[hb]) this
    refine plug_upd (u:=Tr.fill F M) (l:=Tr.fill F l) rfl kk ?_ l1' fun b hb hz=>?_
    ·have dis:∀c:L,(∀b∈ads c,b∉ads l)→(∀b∈ads c,b≠F.a.2)→LR false H c→LR false H2 c:=fun c h1 h2 h3=>h3.ex kk fun b hb hz=>by
      simp only[List.mem_cons,List.not_mem_nil,or_false]at hz
      rcases hz with hz|hz
      ·exact h2 b hb hz
      ·exact h1 b hb (by rw[hz];exact at_mem l)
     rw[List.nodup_cons,List.nodup_cons]at p2'
     obtain⟨_,q2,q3⟩:=p2'
     have q4:=List.nodup_append.mp q3
     have q5:=List.nodup_append.mp q4.2.1
     refine LR_fill.mpr ⟨⟨⟨dxF,e1⟩,?_⟩,fun c hc=>dis c (fun b hb hz=>q4.2.2 b (List.mem_flatMap.mpr ⟨c,hc,hb⟩) b (List.mem_append_left _ hz) rfl) (fun b hb hz=>q2 (by rw[←hz];exact List.mem_append_left _ (List.mem_flatMap.mpr ⟨c,hc,hb⟩))) (lF.2.1 c hc),?_,fun c hc=>dis c (fun b hb hz=>q5.2.2 b hz b (List.mem_flatMap.mpr ⟨c,hc,hb⟩) rfl) (fun b hb hz=>q2 (by rw[←hz];exact List.mem_append_right _ (List.mem_append_right _ (List.mem_flatMap.mpr ⟨c,hc,hb⟩)))) (lF.2.2.2 c hc)⟩
     ·show H2 F.a.2=some (false,.list ((F.l++M::F.rt).map rf))
      rw[e2];simp[rf,eM]
     ·rw[←hM]
      obtain⟨dxa,ea⟩:=ea
      have hset2:Ex [F.a.2,l.tag.1] H' H2:=(Ex.put.mono fun b hb=>by rw[List.mem_singleton.mp hb];simp).trans (k2.mono fun b hb=>by rw[List.mem_singleton.mp hb];simp)
      refine LR_iff.mpr ⟨hnodeN ⟨dxa,hset2.inst ea (nb an (.inr rfl))⟩ (hset2.list (k.list eb) (nb rb (.inl rfl))),fun c hc=>hal H2 (lo_ex _ H2 kk fun b hb=>?_) n2' c hc⟩
      simp only[List.mem_cons,List.not_mem_nil,or_false]at hb
      rw[hplug]
      rcases hb with rfl|rfl
      ·exact F2m
      ·exact hmem
    ·simp only[List.mem_cons,List.not_mem_nil,or_false]at hz
     rcases hz with rfl|rfl
     ·exact p3 _ hb (by rw[ads_fill];simp)
     ·exact p3 _ hb (lmem _ (at_mem l))
   ·rcases mN b hb with hb|hb
    ·exact aon b hb (mem_plug.mpr (.inl hz))
    ·exact p3 b hz hb
   ·rw[List.mem_singleton.mp hb,hplug];exact .tail _ (.tail _ (.tail _ F2m))
   ·refine mem_plug.mpr (.inr ?_)
    rw[ads_fill,←hM,ads_eq]
    simp only[Tr.cs,hal_ads]
    cases before<;>simp
end
end
section
section
variable {W:Wd} {m:Nat} {H:AH} {Q:AV→AH→Prop}
theorem fine_kids {C:List FL} {l:L} {t:T} (hf:t.Fine) (e:er (Tr.plug C l)=t) (d:Bool):l.side d≤64∧1≤l.side d:=by
 have hok:=hf.ok
 have hgeo:=hf.geo
 have hw:=hf.bw
 have hh:=hf.bh
 rw[←e,er_plug]at hok hgeo hw hh
 have:=Tr.side_le_plug (d:=d) hok hgeo
 have h2:=Tr.geo_pos (Tr.ok_plug hok).1 (Tr.geo_plug hgeo).1 d
 rw[er_side]at this h2
 cases d
 ·rw[Tr.side_h]at hh;omega
 ·rw[Tr.side_w]at hw;omega
theorem split_er {t:T} {C:List FL} {l:L} {a:Addr × Addr} {w h x y p fresh:Int} {d before:Bool} {size:Option Int} (et:t=er (Tr.plug C l)) (hf:Tr.find p (Tr.plug C l)=some (C,l)) (hin:fresh∉t.panes) (h3:¬l.side d<3) (hC:C.length≤20) :
  (∀D F,C=D++[F]→F.r=d→∀b,Tr.splitT t p fresh d size before=some (er (Tr.plc 0 0 (Tr.plug D (.node F.a F.r F.w F.h F.x F.y (F.l++Tr.halves b fresh d size before l++F.rt)))))) ∧
  ((∀D F,C=D++[F]→F.r≠d)→∀b an,Tr.splitT t p fresh d size before=some (er (Tr.plc 0 0 (Tr.plug C (.node an d l.w l.h 0 0 (Tr.halves b fresh d size before l)))))):=by
 have e1:t.find p=some (C.map (Fm.map fun _=>()),er l):=by rw[et,er_find,hf];rfl
 have hside:(er l).side d=l.side d:=er_side
 have hw:(er l).w=l.w:=Tr.map_w
 have hh:(er l).h=l.h:=Tr.map_h
 refine⟨fun D F hC hr b=>?_,fun hr b an=>?_⟩
 ·unfold Tr.splitT
  rw[e1]
  subst hC
  dsimp only
  rw[if_neg hin,hside,if_neg h3,List.map_append,List.map_cons,List.map_nil,List.getLast?_concat,List.dropLast_concat]
  dsimp only
  have:(Fm.map (fun _=>()) F).r=d:=hr
  rw[if_pos this]
  congr 1
  rw[←er_plc,er_plug,er_node,List.map_append,List.map_append]
  have hh:(Tr.halves b fresh d size before l).map er=Tr.halves () fresh d size before (er l):=Tr.halves_map
  rw[hh]
  subst hr
  rfl
 ·unfold Tr.splitT
  rw[e1]
  dsimp only
  rw[if_neg hin,hside,if_neg h3]
  have hhv:(Tr.halves b fresh d size before l).map er=Tr.halves () fresh d size before (er l):=Tr.halves_map
  rw[←er_plc,er_plug,er_node,hhv,hw,hh]
  rcases snoc_cases C with hC0|⟨D,F,hC0⟩
  ·subst hC0
   simp[Tr.plug]
  ·subst hC0
   rw[List.map_append,List.map_cons,List.map_nil,List.getLast?_concat]
   dsimp only
   have:¬(Fm.map (fun _=>()) F).r=d:=hr D F rfl
   rw[if_neg this,if_neg (by simp at hC ⊢;omega)]
theorem many_ifs {s:Int} {size:Option Int} {v:Int} (hv:v=size.getD ((s+1).fdiv 2-1)):(if 1<(if s-1-1<v then s-1-1 else v)then(if s-1-1<v then s-1-1 else v)else 1)=Tr.many s size:=by
 subst hv;rfl
theorem two142 (G:GD W) {n:Nat} {ρ:Rho} {H0:AH} {C:List FL} {l:L} {a:Addr × Addr} {w h x y p fresh:Int} {d before:Bool} {size:Option Int} {r:Addr} {QS:Rho→AH→Prop} (hn:39≤n) (el:l=.leaf a w h x y p)
  (h31:ρ.lookup 31=some (.ref r)) (h36:ρ.lookup 36=some (rf l)) (h27:ρ.lookup 27=some (.bool d)) (h28:ρ.lookup 28=some (.int (l.side d))) (h38:ρ.lookup 38=some (.int (Tr.many (l.side d) size))) (h35:ρ.lookup 35=some (.bool before))
  (h32:ρ.lookup 32=some (.int fresh)) (er:H r=some (true,.list ((C.map fun F=>AV.ref F.a.1)++[rf l]))) (hC:C.length≤20) (hsm:(Tr.plug C l).Sm)
  (l1:LR false H (Tr.plug C l)) (nd1:(ads (Tr.plug C l)).Nodup) (hs:Sb H0 H) (hw:Nw H0 (ads (Tr.plug C l)))
  (qa:∀D F,C=D++[F]→F.r=d→∀b H',Sb H0 H'→LR true H' (Tr.plc 0 0 (Tr.plug D (.node F.a F.r F.w F.h F.x F.y (F.l++Tr.halves b fresh d size before l++F.rt))))→Q (.ref (Tr.plug D (.node F.a F.r F.w F.h F.x F.y (F.l++Tr.halves b fresh d size before l++F.rt))).tag.1) H')
  (qb:(∀D F,C=D++[F]→F.r≠d)→∀b an H',Sb H0 H'→LR true H' (Tr.plc 0 0 (Tr.plug C (.node an d l.w l.h 0 0 (Tr.halves b fresh d size before l))))→Q (.ref (Tr.plug C (.node an d l.w l.h 0 0 (Tr.halves b fresh d size before l))).tag.1) H') :
  wpB W n (b142.drop 7) ρ H QS fun v H=>∃as:List Addr,Q v (fz as H):=by
 have hd:b142.drop 7=(b142.drop 7).take 4++b142.drop 11:=rfl
 rw[hd,b_app]
 generalize hT:b142.drop 11=T3
 unfold b142
 simp only[List.drop_succ_cons,List.drop_zero,List.take_succ_cons,List.take_zero]
 walk_at "wp"
 simp only[h31,h36,h27,h28,h38,h35,h32,Option.some.injEq,exists_eq_left',AV.bool.injEq]
 have nl:Nd false H l:=l1.unplug.nd
 obtain⟨⟨dx,e⟩,_⟩:=id nl
 simp only[rf]
 rw[gw e,gh e]
 refine⟨Nat.zero_le _,fun lb hlb=>newCell G (by omega) fun ao H4 hao k4 eao=>?_⟩
 have elb:H4 lb=some (false,.list []):=k4.list (AH.set_same _ _ _)
 have K4:Sb H H4:=(Sb.new hlb).trans k4
 have haoH:H ao=none:=by
  by_cases z:ao=lb
  ·rw[z];exact hlb
  ·rwa [AH.set_ne _ _ z]at hao
 have aolb:ao≠lb:=fun z=>by rw[z,AH.set_same]at hao;cases hao
 have no4:Nd false H4 (.leaf (ao,lb) l.w l.h 0 0 fresh):=⟨eao,elb⟩
 refine c101 G (by omega) no4 fun H5 k5 n5=>?_
 have K5:Ex [ao] H H5:=K4.ex.trans k5
 have lo5:LR false H5 (Tr.setS d (Tr.many (l.side d) size) (.leaf (ao,lb) l.w l.h 0 0 fresh)):=LR_setS n5
 have nao:∀b∈ads (Tr.plug C l),b≠ao:=fun b hb z=>by
  obtain⟨o,e,_⟩:=l1.some b hb
  rw[z,haoH]at e;cases e
 have nlb:∀b∈ads (Tr.plug C l),b≠lb:=fun b hb z=>by
  obtain⟨o,e,_⟩:=l1.some b hb
  rw[z,hlb]at e;cases e
 have l5:LR false H5 (Tr.plug C l):=l1.ex K5 fun b hb hz=>nao b hb (List.mem_singleton.mp hz)
 have er5:=K5.list er (fun z=>by rw[List.mem_singleton.mp z,haoH]at er;cases er)
 have sb5:Sb H0 H5:=hs.exNw K5 (Nw.sb hs (.of haoH))
 have fin:∀rb,H5 rb=none→∀(ρ':Rho),ρ'.lookup 31=some (.ref r)→ρ'.lookup 36=some (rf l)→ρ'.lookup 27=some (.bool d)→ρ'.lookup 28=some (.int (l.side d))→ρ'.lookup 38=some (.int (Tr.many (l.side d) size))→ρ'.lookup 40=some (.ref rb)→ρ'.lookup 0=some (.str (kd d))→
   ρ'.lookup 42=some (.ref (Tr.plug C l).tag.1)→wpB W n T3 ρ' (H5.set rb (.list ((Tr.halves (ao,lb) fresh d size before l).map rf))) QS fun v H=>∃as:List Addr,Q v (fz as H):=by
  intro rb hrb ρ' g31 g36 g27 g28 g38 g40 g0 g42
  subst hT
  have k6:Sb H5 (H5.set rb (.list ((Tr.halves (ao,lb) fresh d size before l).map rf))):=.new hrb
  have nrb:∀b∈ads (Tr.plug C l),b≠rb:=fun b hb z=>by
   obtain⟨o,e,_⟩:=l5.some b hb
   rw[z,hrb]at e;cases e
  obtain⟨_,e5a⟩:∃p,H5 ao=some p:=by
   obtain⟨⟨dx,e⟩,_⟩:=n5
   rw[Tr.setS_tag]at e
   exact⟨_,e⟩
  obtain⟨_,e5b⟩:∃p,H5 lb=some p:=by
   obtain⟨_,e⟩:=n5
   rw[Tr.setS_tag]at e
   exact⟨_,e⟩
  refine mid142 G (ao:=ao) (lb:=lb) (rb:=rb) (by omega) el g31 g36 g27 g28 g38 g40 g0 g42 (k6.list er5) hC hsm (l5.sb k6) ?_ (lo5.sb k6) (AH.set_same _ _ _) (sb5.trans k6) ?_ (fun D F h1 h2 H'=>qa D F h1 h2 (ao,lb) H') fun h1 an H'=>qb h1 (ao,lb) (an,rb) H'
  ·simp only[List.nodup_cons,List.mem_cons,not_or]
   exact⟨⟨aolb,ne_of_none hrb e5a,fun z=>nao _ z rfl⟩,⟨ne_of_none hrb e5b,fun z=>nlb _ z rfl⟩,fun z=>nrb _ z rfl,nd1⟩
  ·have h1:Nw H0 [ao]:=Nw.sb hs (.of haoH)
   have h2:Nw H0 [lb]:=Nw.sb hs (.of hlb)
   have h3:Nw H0 [rb]:=Nw.sb sb5 (.of hrb)
   exact h1.append (h2.append (h3.append hw))
 have pth:((C.map fun F=>AV.ref F.a.1)++[rf l])[0]?=some (.ref (Tr.plug C l).tag.1):=path0 rfl
 have hh:∀b:Bool,before=b→(if b then [AV.ref ao,.ref l.tag.1]else [.ref l.tag.1,.ref ao])=(Tr.halves (ao,lb) fresh d size before l).map rf:=fun b hb=>by
  subst hb
  unfold Tr.halves
  cases before<;>simp only[if_true,Bool.false_eq_true,if_false,List.map_cons,List.map_nil,rf,Tr.setS_tag]<;>rfl
 have h2cap:2≤cap:=by decide
 refine⟨fun hb=>⟨h2cap,fun rb hrb=>c87 G (by omega) (gi_0 ((AH.set_ne _ _ (ne_of_none hrb er5)).trans er5) (by simp;omega) pth ⟨h2cap,?_⟩)⟩,fun hb=>⟨h2cap,fun rb hrb=>c87 G (by omega) (gi_0 ((AH.set_ne _ _ (ne_of_none hrb er5)).trans er5) (by simp;omega) pth ⟨h2cap,?_⟩)⟩⟩
 ·have:=hh true hb
  rw[if_pos rfl]at this
  rw[this]
  refine fin rb hrb _ ?_ ?_ ?_ ?_ ?_ ?_ ?_ ?_<;>simp[lk_put,h31,h36,h27,h28,h38]
 ·have:=hh false hb
  rw[if_neg (by simp)]at this
  rw[this]
  refine fin rb hrb _ ?_ ?_ ?_ ?_ ?_ ?_ ?_ ?_<;>simp[lk_put,h31,h36,h27,h28,h38]
theorem c142 (G:GD W) {t:L} {f:Bool} {p fresh:Int} {d before:Bool} {size:Option Int} (hm:40≤m) (ht:LR f H t) (hf:(er t).Fine) (q0:Tr.splitT (er t) p fresh d size before=none→∀H',Sb H H'→Q .none H')
  (q1:∀t',Tr.splitT (er t) p fresh d size before=some (er t')→∀H',Sb H H'→LR true H' t'→Q (.ref t'.tag.1) H'):CallF W 142 [.ref t.tag.1,.int p,.int fresh,.bool d,optV size,.bool before] m H Q:=by
 obtain⟨n,rfl,hn⟩:=pos_of (show 39+1≤m from hm)
 have hsm:t.Sm:=er_sm.mp hf.sm
 have hdep:=hsm.dep
 refine CallF.fz (enter G (f142 _) (hb142 _) (ws:=[]) (fun h _=>by simp only[VRs]) rfl ?_)
 have hd:b142=b142.take 7++b142.drop 7:=rfl
 rw[hd,b_app]
 generalize hT:b142.drop 7=T3
 unfold b142 x142
 simp only[List.take_succ_cons,List.take_zero]
 walk_at "wp"
 refine c61 G (by omega) ht hsm fun t1 H1 s1 l1 e1 w1 nd1=>?_
 have hsm1:t1.Sm:=sm_er e1 hsm
 refine c80 G (by have:=hsm1.dep;omega) l1 hsm1 (fun hfn H2 s2=>?_) fun C l hfs r H2 s2 er2=>?_
 ·refine⟨true,rfl,trivial,fun _=>⟨fun _=>⟨[],q0 ?_ _ (fz_sb (s1.trans s2) .nil)⟩,fun z=>by cases z⟩,fun z=>by cases z⟩
  unfold Tr.splitT
  rw[←e1,er_find,hfn];rfl
 refine⟨false,rfl,trivial,(fun z=>by cases z),fun _=>?_⟩
 refine c73 G (by omega) (ht.sb (s1.trans s2)) hsm fun r3 H3 s3 e3=>?_
 refine⟨fresh,r3,true,t.panes,rfl,rfl,e3,fun hin=>⟨[],q0 ?_ _ (fz_sb ((s1.trans s2).trans s3) .nil)⟩,fun hin=>?_⟩
 ·unfold Tr.splitT
  rw[←e1,er_find,hfs]
  have:fresh∈(er t1).panes:=by rw[e1,er_panes];exact of_decide_eq_true hin
  simp only[Option.map_some]
  rw[if_pos this]
 have hin:fresh∉t.panes:=of_decide_eq_false hin
 obtain⟨et,a,w,h,x,y,el⟩:=Tr.find_some hfs
 have hfs':=hfs
 rw[et]at hfs' e1 l1 w1 nd1 hsm1
 have S3:Sb H1 H3:=s2.trans s3
 have l3:LR false H3 (Tr.plug C l):=l1.sb S3
 have r3':H3 r=some (true,.list ((C.map fun F=>AV.ref F.a.1)++[rf l])):=s3.list er2
 have hClen:C.length≤20:=by have:=Tr.find_len hfs';have:=hsm1.dep;omega
 have nl:Nd false H3 l:=l3.unplug.nd
 obtain⟨hs1,hs2⟩:=fine_kids (C:=C) (l:=l) hf e1 d
 refine gi_m1 r3' (by simp;omega) (c94 G (by omega) nl ?_)
 have hN:Tr.splitT (er t) p fresh d size before=none∨¬l.side d<3:=by
  by_cases h3:l.side d<3
  ·refine .inl ?_
   unfold Tr.splitT
   rw[←e1,er_find,hfs']
   simp only[Option.map_some]
   have hin1:fresh∉(er (Tr.plug C l)).panes:=by rw[e1,er_panes];exact hin
   rw[if_neg hin1,er_side,if_pos h3]
  ·exact .inr h3
 have eL:Tr.splitT (er t) p fresh d size before=Tr.splitT (er (Tr.plug C l)) p fresh d size before:=by rw[e1]
 simp only[BinR]
 refine⟨by decide,by decide,_,_,rfl,rfl,fun h3=>⟨[],q0 ?_ _ (fz_sb (s1.trans S3) .nil)⟩,fun h3=>?_⟩
 ·have h3:=of_decide_eq_true h3
  exact hN.resolve_right fun z=>z h3
 have h3:¬l.side d<3:=of_decide_eq_false h3
 obtain⟨sA,sB⟩:=split_er (before:=before) (size:=size) (t:=er t) (a:=a) (w:=w) (h:=h) (x:=x) (y:=y) e1.symm hfs' (by rw[er_panes];exact hin) h3 hClen
 have fin:∀(v:AV) (ρ:Rho),ρ.lookup 31=some (.ref r)→ρ.lookup 36=some (rf l)→ρ.lookup 27=some (.bool d)→ρ.lookup 28=some (.int (l.side d))→ρ.lookup 38=some (.int (Tr.many (l.side d) size))→ρ.lookup 35=some (.bool before)→ρ.lookup 32=some (.int fresh)→
   wpB W n T3 ρ H3 (fun _ H=>∃as:List Addr,Q .none (fz as H)) fun v H'=>∃as:List Addr,Q v (fz as H'):=by
  intro v ρ g31 g36 g27 g28 g38 g35 g32
  subst hT
  exact two142 G hn el g31 g36 g27 g28 g38 g35 g32 r3' hClen hsm1 l3 nd1 (s1.trans S3) w1 (fun D F h1 h2 b H' s l=>by
   have:=q1 _ (sA D F h1 h2 b) H' s l
   rw[Tr.plc_tag]at this
   exact this) fun h1 b an H' s l=>by
   have:=q1 _ (sB h1 b an) H' s l
   rw[Tr.plc_tag]at this
   exact this
 cases size with
 |none=>
  refine⟨true,rfl,trivial,(fun _=>⟨by decide,by omega,by decide,?_⟩),fun z=>by cases z⟩
  simp only[BFun,many_ifs (size:=none) rfl]
  refine fin .none _ ?_ ?_ ?_ ?_ ?_ ?_ ?_<;>rfl
 |some sz=>
  refine⟨false,rfl,trivial,(fun z=>by cases z),fun _=>?_⟩
  simp only[optV,BFun,many_ifs (size:=some sz) rfl]
  refine fin .none _ ?_ ?_ ?_ ?_ ?_ ?_ ?_<;>rfl
end
end
section
namespace Tr
variable {α β:Type}
theorem map_geo {g:α→β}:∀{t:Tr α},(t.map g).geo↔t.geo:=by
 intro t
 induction t using rec' with
 |step t ih=>
  cases t with
  |leaf=>simp[map,geo]
  |node a r w h x y cs=>
   rw[map_node,geo_node,geo_node,List.length_map,List.map_map]
   have e:∀d,List.map (side d ∘ map g) cs=List.map (side d) cs:=fun d=>List.map_congr_left fun u _=>map_side
   rw[e,node_side,node_side,node_side,node_side]
   simp only[List.mem_map,forall_exists_index,and_imp,forall_apply_eq_imp_iff₂,map_side]
   exact and_congr_right fun _=>and_congr_right fun _=>⟨fun k c hc=>(ih c hc).mp (k c hc),fun k c hc=>(ih c hc).mpr (k c hc)⟩
theorem map_modify' {f:Tr α→Tr α} {f':Tr β→Tr β} {g:Tr α→Tr β} (h:∀t,g (f t)=f' (g t)):∀{l:List (Tr α)} {i:Nat},(l.modify i f).map g=(l.map g).modify i f'
 |[],i=>by simp
 |t::l,0=>by simp[h]
 |t::l,i+1=>by simp[map_modify' h (l:=l) (i:=i)]
theorem grown_map {g:α→β} {F:Fm α} {c:Int}:(grown F c).map (map g)=grown (F.map g) c:=by
 unfold grown
 rw[map_modify' (f':=chT F.r c) fun t=>chT_map.symm]
 simp[Fm.map]
theorem melt_map {g:α→β} {r:Bool} {cs:List (Tr α)}:(melt r cs).map (map g)=melt r (cs.map (map g)):=by
 unfold melt
 rw[List.map_flatMap,List.flatMap_map]
 congr 1
 funext c
 rw[map_kind]
 split
 ·rw[map_cs]
 ·rfl
end Tr
theorem close_er {t:T} {D:List FL} {F:FL} {l:L} {p:Int} (et:t=er (Tr.plug (D++[F]) l)) (hf:Tr.find p (Tr.plug (D++[F]) l)=some (D++[F],l)) :
  (1<(Tr.grown F (l.side F.r+1)).length→∀b,Tr.closeT t p=some (er (Tr.plc 0 0 (Tr.plug D (.node b F.r F.w F.h F.x F.y (Tr.grown F (l.side F.r+1))))))) ∧
  (∀k,Tr.grown F (l.side F.r+1)=[k]→(D=[]→Tr.closeT t p=some (er (Tr.plc 0 0 k))) ∧
   ∀E' E,D=E'++[E]→∀b,Tr.closeT t p=some (er (Tr.plc 0 0 (Tr.plug E' (.node b E.r E.w E.h E.x E.y (Tr.melt E.r (E.l++k::E.rt))))))):=by
 have e1:t.find p=some ((D++[F]).map (Fm.map fun _=>()),er l):=by rw[et,er_find,hf];rfl
 have eg:Tr.grown (Fm.map (fun _=>()) F) ((er l).side (Fm.map (fun _=>()) F).r+1)=(Tr.grown F (l.side F.r+1)).map er:=by
  have:(er l).side (Fm.map (fun _=>()) F).r=l.side F.r:=er_side
  rw[this];exact Tr.grown_map.symm
 refine⟨fun h b=>?_,fun k hk=>⟨fun hD=>?_,fun E' E hD b=>?_⟩⟩
 ·unfold Tr.closeT
  rw[e1,List.map_append,List.map_cons,List.map_nil]
  dsimp only
  rw[List.getLast?_concat,List.dropLast_concat]
  dsimp only
  rw[eg,if_pos (by rw[List.length_map];exact h),←er_plc,er_plug,er_node]
  rfl
 ·subst hD
  unfold Tr.closeT
  rw[e1]
  simp only[List.nil_append,List.map_cons,List.map_nil,List.getLast?_singleton,List.dropLast_singleton,List.getLast?_nil]
  rw[eg,hk]
  simp only[List.map_cons,List.map_nil,List.length_cons,List.length_nil]
  rw[if_neg (by omega),←er_plc]
 ·subst hD
  unfold Tr.closeT
  rw[e1,List.map_append,List.map_append,List.map_cons,List.map_nil,List.map_cons,List.map_nil]
  dsimp only
  rw[List.getLast?_concat,List.dropLast_concat]
  dsimp only
  rw[eg,hk,List.getLast?_concat,List.dropLast_concat]
  simp only[List.map_cons,List.map_nil,List.length_cons,List.length_nil]
  rw[if_neg (by omega),←er_plc,er_plug,er_node]
  have:(Tr.melt E.r (E.l++k::E.rt)).map er=Tr.melt E.r ((E.l++k::E.rt).map er):=Tr.melt_map
  rw[this,List.map_append,List.map_cons]
  rfl
section
variable {H:AH} {Q:AV→AH→Prop} {a b:Int}
theorem bi_add:BinR .add (.int a) (.int b) H Q=Q (.int (a+b)) H:=rfl
theorem bi_sub:BinR .sub (.int a) (.int b) H Q=Q (.int (a-b)) H:=rfl
theorem bi_mul:BinR .mul (.int a) (.int b) H Q=(a.natAbs<2 ^ 60∧b.natAbs<2 ^ 60∧Q (.int (a * b)) H):=rfl
theorem bi_fdiv:BinR .fdiv (.int a) (.int b) H Q=(b≠0∧a.natAbs<2 ^ 60∧b.natAbs<2 ^ 60∧Q (.int (a.fdiv b)) H):=rfl
theorem bi_mod:BinR .mod (.int a) (.int b) H Q=(b≠0∧Q (.int (a.fmod b)) H):=rfl
theorem bi_band:BinR .band (.int a) (.int b) H Q=Q (.int (Builtin.bitAnd a b)) H:=rfl
theorem bi_bytes {x y:Array UInt8}:BinR .add (.bytes x) (.bytes y) H Q=(x.size+y.size≤cap∧Q (.bytes (x++y)) H):=rfl
theorem bf_max:BFun .max [.int a,.int b] H Q=Q (.int (Tr.mx a b)) H:=rfl
theorem bf_min:BFun .min [.int a,.int b] H Q=Q (.int (Tr.mn a b)) H:=rfl
theorem bf_int:BFun .int [.int a] H Q=Q (.int a) H:=rfl
end
theorem kd_row (r:Bool):decide (kd r=Str.ofString "row")=r:=by cases r<;>decide
section
variable {W:Wd} {m:Nat} {H:AH} {Q:AV→AH→Prop}
theorem cut_last {xs:List AV} {u:AV}:cut (xs++[u]) none (some (-1))=xs:=by
 unfold cut clipAt
 simp
 have:(max 0 (min (-1+((xs.length:Int)+1)) ((xs.length:Int)+1))).toNat=xs.length:=by omega
 rw[this];simp
theorem modify_at {α:Type} {s t:List α} {k k':α}:(s++k::t)[s.length]?=some k:=by simp
theorem LR_kids {f:Bool} {H:AH} {F:FL} {l:L} (h:LR f H (Tr.fill F l)):∀c∈F.l++F.rt,LR f H c:=fun c hc=>by
 rcases List.mem_append.mp hc with hc|hc
 ·exact(LR_fill.mp h).2.1 c hc
 ·exact(LR_fill.mp h).2.2.2 c hc
theorem LR.owns {f:Bool} {H:AH} {F:FL} {l:L} (h:LR f H (Tr.fill F l)):∀c∈F.l++l::F.rt,∃p,H c.tag.1=Option.some p∧p.2≠.opq:=fun c hc=>by
 rcases List.mem_append.mp hc with hc|hc
 ·exact((LR_fill.mp h).2.1 c hc).own
 ·rcases List.mem_cons.mp hc with rfl|hc
  ·exact(LR_fill.mp h).2.2.1.own
  ·exact((LR_fill.mp h).2.2.2 c hc).own
theorem melt_ads {r:Bool}:∀{cs:List L},((Tr.melt r cs).flatMap ads).Sublist (cs.flatMap ads)
 |[]=>by simp[Tr.melt]
 |c::cs=>by
  have e:Tr.melt r (c::cs)=(if c.kind=kd r then c.cs else [c])++Tr.melt r cs:=by simp[Tr.melt]
  rw[e,List.flatMap_append,List.flatMap_cons]
  refine List.Sublist.append ?_ melt_ads
  split
  ·rw[ads_eq];exact(List.sublist_cons_self _ _).trans (List.sublist_cons_self _ _)
  ·simp
theorem melt_LR {f:Bool} {H:AH} {r:Bool} {cs:List L} (h:∀c∈cs,LR f H c):∀c∈Tr.melt r cs,LR f H c:=fun c hc=>by
 obtain⟨u,hu,hc⟩:=List.mem_flatMap.mp hc
 split at hc
 ·exact(h u hu).kid hc
 ·rw[List.mem_singleton.mp hc];exact h u hu
theorem melt_len {r:Bool} {cs:List L} (ho:∀c∈cs,c.ok) (hp:(cs.flatMap Tr.panes).length≤20):(Tr.melt r cs).length≤20:=by
 have h1:∀c∈Tr.melt r cs,c.ok:=fun c hc=>by
  obtain⟨u,hu,hc⟩:=List.mem_flatMap.mp hc
  split at hc
  ·exact Tr.ok_kid hc (ho u hu)
  ·rw[List.mem_singleton.mp hc];exact ho u hu
 have h2:(Tr.melt r cs).flatMap Tr.panes=cs.flatMap Tr.panes:=by
  clear ho hp h1
  induction cs with
  |nil=>rfl
  |cons c cs ih=>
   have e:Tr.melt r (c::cs)=(if c.kind=kd r then c.cs else [c])++Tr.melt r cs:=by simp[Tr.melt]
   rw[e,List.flatMap_append,List.flatMap_cons,ih]
   congr 1
   split
   ·rename_i hk
    obtain⟨a,w,h,x,y,ccs,rfl⟩:=Tr.kind_node hk
    exact Tr.panes_node.symm
   ·simp
 have:=Tr.kids_len h1
 rw[h2]at this;omega
theorem c156 (G:GD W) {t:L} {f:Bool} {p:Int} (hm:40≤m) (ht:LR f H t) (hf:(er t).Fine) (q0:Tr.closeT (er t) p=none→∀H',Sb H H'→Q .none H')
  (q1:∀t',Tr.closeT (er t) p=some (er t')→∀H',Sb H H'→LR true H' t'→Q (.ref t'.tag.1) H'):CallF W 156 [.ref t.tag.1,.int p] m H Q:=by
 obtain⟨n,rfl,hn⟩:=pos_of (show 39+1≤m from hm)
 have hsm:t.Sm:=er_sm.mp hf.sm
 have hdep:=hsm.dep
 refine CallF.fz (enter G (f156 _) (hb156 _) (ws:=[]) (fun h _=>by simp only[VRs]) rfl ?_)
 unfold b156 x156
 walk_at "wp"
 refine c61 G (by omega) ht hsm fun t1 H1 s1 l1 e1 w1 nd1=>?_
 have hsm1:t1.Sm:=sm_er e1 hsm
 refine c80 G (by have:=hsm1.dep;omega) l1 hsm1 (fun hfn H2 s2=>?_) fun C l hfs r H2 s2 er2=>?_
 ·refine⟨true,rfl,trivial,fun _=>⟨fun _=>⟨[],q0 ?_ _ (fz_sb (s1.trans s2) .nil)⟩,fun z=>by cases z⟩,fun z=>by cases z⟩
  unfold Tr.closeT
  rw[←e1,er_find,hfn];rfl
 have S2:Sb H H2:=s1.trans s2
 obtain⟨et,a,w,h,x,y,el⟩:=Tr.find_some hfs
 have hfs':=hfs
 rw[et]at hfs' e1 l1 w1 nd1 hsm1
 have hClen:C.length≤20:=by have:=Tr.find_len hfs';have:=hsm1.dep;omega
 refine⟨false,rfl,trivial,(fun z=>by cases z),fun _=>?_⟩
 refine len_list er2 (by simp;unfold cap;omega) ?_
 rw[aeq_ii]
 rcases snoc_cases C with hC0|⟨D,F,hC0⟩
 ·subst hC0
  refine⟨fun _=>⟨[],q0 ?_ _ (fz_sb S2 .nil)⟩,fun z=>by simp at z⟩
  unfold Tr.closeT
  rw[←e1,er_find,hfs'];rfl
 subst hC0
 refine⟨fun z=>by simp at z;omega,fun _=>?_⟩
 obtain⟨qA,qB⟩:=close_er (t:=er t) e1.symm hfs'
 have hplug:∀t:L,Tr.plug (D++[F]) t=Tr.plug D (Tr.fill F t):=fun t=>Tr.plug_snoc
 have hD:D.length≤19:=by simp at hClen;omega
 have e1s:er (Tr.plug D (Tr.fill F l))=er t:=by rw[←e1,hplug]
 have l2:LR false H2 (Tr.plug D (Tr.fill F l)):=by rw[←hplug];exact l1.sb s2
 have nd2:(ads (Tr.plug D (Tr.fill F l))).Nodup:=by rw[←hplug];exact nd1
 have w2:Nw H (ads (Tr.plug D (Tr.fill F l))):=by rw[←hplug];exact w1
 have er':H2 r=some (true,.list ((D.map fun F=>AV.ref F.a.1)++[.ref F.a.1,rf l])):=by rw[er2];simp
 have hfine:=hf.good
 rw[←e1s,er_plug]at hfine
 have okF:(Tr.fill F l).ok:=by
  have:=(Tr.ok_plug hfine.ok).1
  exact Tr.map_ok.mp this
 have hgeoF:(er (Tr.fill F l)).geo:=(Tr.geo_plug hfine.geo).1
 have lF:=l2.unplug
 obtain⟨p1,p2,p3⟩:=plug_nd nd2
 have p2':=p2
 rw[ads_fill]at p2'
 obtain⟨⟨⟨dxF,eF⟩,eF2⟩,lFl,lFx,lFr⟩:=LR_fill.mp lF
 have eF':H2 F.a.1=some (false,.inst 45 dxF (flds (kd F.r) F.w F.h F.x F.y F.a.2 .none)):=eF
 have eF2':H2 F.a.2=some (false,.list ((F.l++l::F.rt).map rf)):=eF2
 have hsmF:(Tr.fill F l).Sm:=by
  refine⟨okF,?_⟩
  have:=hsm1.len
  rw[hplug,Tr.panes_plug]at this
  simp only[List.length_append]at this;omega
 have hfk:F.l.length+F.rt.length+1≤20:=by
  have:=hsmF.kids
  simp[Tr.fill,Tr.cs]at this;omega
 refine gi_m1 er2 (by simp;omega) (gi_m2 er' (by simp;omega) ⟨by decide,?_⟩)
 rw[gk eF',aeq_str,kd_row,gl eF']
 refine c108 G (by omega) eF2' lF.owns (kids_tags p2) ?_
 rw[gl eF']
 have hpop:((F.l++l::F.rt).map rf).eraseIdx F.l.length=(F.l++F.rt).map rf:=by
  rw[List.map_append,List.map_cons]
  have:F.l.length=(F.l.map rf).length:=by simp
  rw[this,List.eraseIdx_append_of_length_le (Nat.le_refl _)];simp
 refine⟨⟨_,_,_,rfl,eF2'⟩,_,rf l,eF2',by omega,by omega,by simp;unfold cap;omega,by simp,?_⟩
 rw[show((F.l.length:Int)).toNat=F.l.length from by omega,hpop]
 have geF:(Tr.fill F l).geo:=Tr.map_geo.mp hgeoF
 obtain⟨s,k,t2,g1,g2,g3,g4,g5,g6,g7,g8,g9,g10,g11⟩:=Tr.grown_spec okF geF
 have hlside:=Tr.geo_pos (Tr.ok_fill.mp okF).2.2.1 (Tr.geo_fill.mp geF).2.2.2.1 F.r
 have hF12:F.a.1≠F.a.2:=fun z=>by rw[z]at eF';rw[eF']at eF2';cases eF2'
 have hF2m:F.a.2∈ads (Tr.fill F l):=by rw[ads_fill];simp
 have hres:∀u:L,Tr.closeT (er t) p=some (er (Tr.plc 0 0 u))→u.dep<20:=fun u hu=>by
  have hp:p∈(er t).panes:=by rw[←e1s,er_panes,Tr.panes_plug,Tr.panes_fill,el,Tr.panes_leaf];simp
  have h1:(er t).panes.length≠1:=fun z=>by
   have:=(Tr.leaf_iff hf.ok).mp z
   rw[←e1s,er_plug]at this
   cases D<;>simp[Tr.plug,Tr.fill,Tr.isLeaf,er,Tr.map]at this
  obtain⟨t',c1,c2,_⟩:=Tr.close_good hf hp h1
  rw[hu]at c1
  cases c1
  have:=c2.sm.dep
  rwa [show(er (Tr.plc 0 0 u)).dep=u.dep from by unfold er;rw[Tr.map_dep,Tr.dep_sk Tr.plc_sk]]at this
 generalize hH5:H2.set F.a.2 (.list ((F.l++F.rt).map rf))=H5
 have x5:Ex [F.a.2] H2 H5:=hH5▸Ex.put
 have e5:H5 F.a.2=some (false,.list ((F.l++F.rt).map rf)):=by rw[←hH5];exact AH.set_same _ _ _
 have e51:=x5.inst eF' (fun z=>hF12 (List.mem_singleton.mp z))
 have kmem:k∈F.l++F.rt:=by rw[g1];simp
 have kads:∀c∈F.l++F.rt,∀b∈ads c,b∈ads (Tr.fill F l)∧b≠F.a.1∧b≠F.a.2∧b∉ads l:=fun c hc b hb=>by
  rw[List.nodup_cons,List.nodup_cons]at p2'
  have q4:=List.nodup_append.mp p2'.2.2
  have q5:=List.nodup_append.mp q4.2.1
  rcases List.mem_append.mp hc with hc|hc
  ·have hm:b∈F.l.flatMap ads:=List.mem_flatMap.mpr ⟨c,hc,hb⟩
   exact⟨by rw[ads_fill];simp only[List.mem_cons,List.mem_append];exact .inr (.inr (.inl hm)),fun z=>p2'.1 (by rw[←z];exact .tail _ (List.mem_append_left _ hm)),fun z=>p2'.2.1 (by rw[←z];exact List.mem_append_left _ hm),fun z=>q4.2.2 b hm b (List.mem_append_left _ z) rfl⟩
  ·have hm:b∈F.rt.flatMap ads:=List.mem_flatMap.mpr ⟨c,hc,hb⟩
   exact⟨by rw[ads_fill];simp only[List.mem_cons,List.mem_append];exact .inr (.inr (.inr (.inr hm))),fun z=>p2'.1 (by rw[←z];exact .tail _ (List.mem_append_right _ (List.mem_append_right _ hm))),fun z=>p2'.2.1 (by rw[←z];exact List.mem_append_right _ (List.mem_append_right _ hm)),fun z=>q5.2.2 b z b hm rfl⟩
 have kids_nd:((F.l++F.rt).flatMap ads).Nodup:=by
  rw[List.nodup_cons,List.nodup_cons]at p2'
  have q4:=List.nodup_append.mp p2'.2.2
  have q5:=List.nodup_append.mp q4.2.1
  rw[List.flatMap_append]
  exact List.nodup_append.mpr ⟨q4.1,q5.2.1,fun a ha b hb=>q4.2.2 a ha b (List.mem_append_right _ hb)⟩
 have l5:∀c∈F.l++F.rt,LR false H5 c:=fun c hc=>(LR_kids lF c hc).ex x5 fun b hb hz=>(kads c hc b hb).2.2.1 (List.mem_singleton.mp hz)
 dsimp only
 rw[gl e51]
 rw[bi_sub,bf_max]
 have hidx:(if 0<(F.l.length:Int)-1 then(F.l.length:Int)-1 else 0)=((F.l.length-1:Nat):Int):=by split<;>omega
 rw[show Tr.mx 0 ((F.l.length:Int)-1)=((F.l.length-1:Nat):Int)from hidx]
 refine gi_nat (j:=F.l.length-1) e5 rfl (by simp;unfold cap;omega) (u:=rf k) (by rw[g1,←g2];simp) ?_
 have nl5:Nd false H5 l:=lFx.nd.ex x5 (fun z=>?_) fun z=>?_
 rotate_left
 ·have:=List.mem_singleton.mp z
  rw[List.nodup_cons,List.nodup_cons]at p2'
  exact p2'.2.1 (by rw[←this];simp[at_mem])
 ·have:=List.mem_singleton.mp z
  rw[List.nodup_cons,List.nodup_cons]at p2'
  exact p2'.2.1 (by rw[←this];simp[ls_mem])
 refine c94 G (by omega) nl5 ?_
 rw[bi_add]
 have hkfill:k∈(Tr.fill F l).cs:=by
  simp only[Tr.fill,Tr.cs,List.mem_append,List.mem_cons]
  rcases List.mem_append.mp kmem with hc|hc
  ·exact .inl hc
  ·exact .inr (.inr hc)
 have ksm:k.Sm:=hsmF.kid hkfill
 have knd:(ads k).Nodup:=by
  have q:=kids_nd
  rw[g1,List.flatMap_append,List.flatMap_cons]at q
  exact(List.nodup_append.mp (List.nodup_append.mp q).2.1).1
 refine c120 G (k:=k.dep) (Nat.le_refl _) (by have:=ksm.dep;omega) (l5 k kmem) knd ksm g4 fun H6 x6 l6=>?_
 generalize hk':Tr.chg k.dep F.r (l.side F.r+1) k=k' at l6
 have hk'':Tr.chT F.r (l.side F.r+1) k=k':=hk'
 rw[hk'']at g3 g6
 have eads:ads k'=ads k:=ads_of_sk g6.sk
 have etag:k'.tag=k.tag:=Tr.tag_sk g6.sk
 generalize hks:Tr.grown F (l.side F.r+1)=ks at g3 g7 g8 g9 g10 g11 qA qB
 have rks:ks.map rf=(F.l++F.rt).map rf:=by rw[g3,g1];simp[rf,etag]
 have aks:ks.flatMap ads=(F.l++F.rt).flatMap ads:=by rw[g3,g1];simp[eads]
 have e6:H6 F.a.2=some (false,.list (ks.map rf)):=by rw[rks];exact x6.list e5 (fun z=>(kads k kmem _ z).2.2.1 rfl)
 have e61:=x6.inst e51 (fun z=>(kads k kmem _ z).2.1 rfl)
 have l6k:∀c∈ks,LR false H6 c:=fun c hc=>by
  have q:=kids_nd
  rw[g1,List.flatMap_append,List.flatMap_cons]at q
  rw[g3]at hc
  rcases List.mem_append.mp hc with hc|hc
  ·exact(l5 c (by rw[g1];simp[hc])).ex x6 fun b hb hz=>(List.nodup_append.mp q).2.2 b (List.mem_flatMap.mpr ⟨c,hc,hb⟩) b (List.mem_append_left _ hz) rfl
  ·rcases List.mem_cons.mp hc with rfl|hc
   ·exact l6
   ·exact(l5 c (by rw[g1];simp[hc])).ex x6 fun b hb hz=>(List.nodup_append.mp (List.nodup_append.mp q).2.1).2.2 b hz b (List.mem_flatMap.mpr ⟨c,hc,hb⟩) rfl
 have X6:Ex (F.a.2::ads k) H2 H6:=(x5.mono fun b hb=>by rw[List.mem_singleton.mp hb];simp).trans (x6.mono fun b hb=>.tail _ hb)
 have mX:∀b∈F.a.2::ads k,b∈ads (Tr.fill F l):=fun b hb=>by
  rcases List.mem_cons.mp hb with rfl|hb
  ·exact hF2m
  ·exact(kads k kmem b hb).1
 have er6:=X6.list er' (fun z=>by
  obtain⟨o,e,_⟩:=lF.some r (mX r z)
  rw[er']at e;cases e)
 have S6:Sb H H6:=S2.exNw X6 (w2.sub fun b hb=>mem_plug.mpr (.inr (mX b hb)))
 rw[gl e61]
 have lks:ks.length≤19:=by
  have:=congrArg List.length rks
  simp only[List.length_map,List.length_append]at this;omega
 refine len_list e6 (by rw[List.length_map];unfold cap;omega) ?_
 refine⟨_,_,rfl,rfl,fun hl=>?_,fun hl=>?_⟩
 ·
  have hl:1<ks.length:=by have:=of_decide_eq_true hl;simp at this;omega
  refine gi_0 er6 (by simp;omega) (path0 (u:=.node F.a F.r F.w F.h F.x F.y ks) rfl) ?_
  have aN:ads (.node F.a F.r F.w F.h F.x F.y ks:L)=F.a.1::F.a.2::ks.flatMap ads:=by rw[ads_eq];rfl
  have mN:∀b∈ads (.node F.a F.r F.w F.h F.x F.y ks:L),b∈ads (Tr.fill F l):=fun b hb=>by
   rw[aN,aks]at hb
   rcases List.mem_cons.mp hb with rfl|hb
   ·rw[ads_fill];simp
   ·rcases List.mem_cons.mp hb with rfl|hb
    ·exact hF2m
    ·obtain⟨c,hc,hb⟩:=List.mem_flatMap.mp hb
     exact(kads c hc b hb).1
  have nN:(ads (.node F.a F.r F.w F.h F.x F.y ks:L)).Nodup:=by
   rw[aN,aks,List.nodup_cons,List.nodup_cons]
   refine⟨fun z=>?_,fun z=>?_,kids_nd⟩
   ·rcases List.mem_cons.mp z with z|z
    ·exact hF12 z
    ·obtain⟨c,hc,hb⟩:=List.mem_flatMap.mp z
     exact(kads c hc _ hb).2.1 rfl
   ·obtain⟨c,hc,hb⟩:=List.mem_flatMap.mp z
    exact(kads c hc _ hb).2.2.1 rfl
  have LN:LR false H6 (.node F.a F.r F.w F.h F.x F.y ks):=LR_iff.mpr ⟨⟨⟨dxF,e61⟩,e6⟩,l6k⟩
  have ltr:LR false H6 (Tr.plug D (.node F.a F.r F.w F.h F.x F.y ks)):=plug_upd (l:=Tr.fill F l) (u:=.node F.a F.r F.w F.h F.x F.y ks) rfl X6 LN l2 fun b hb hz=>p3 b hb (mX b hz)
  have hmem:∀b∈ads (Tr.plug D (.node F.a F.r F.w F.h F.x F.y ks)),b∈ads (Tr.plug D (Tr.fill F l)):=fun b hb=>by
   rcases mem_plug.mp hb with hb|hb
   ·exact mem_plug.mpr (.inl hb)
   ·exact mem_plug.mpr (.inr (mN b hb))
  refine c127z G ?_ ltr (plug_nodup nd2 nN fun b hb hz=>p3 b hz (mN b hb)) S6 (w2.sub hmem) fun H7 s7 l7=>?_
  ·have:=hres _ (qA hl F.a);omega
  ·have:=q1 _ (qA hl F.a) H7 s7 l7
   rw[Tr.plc_tag]at this
   exact this
 ·
  have hl1:ks.length=1:=by
   have h1:=of_decide_eq_false hl
   rw[List.length_map]at h1
   have h2:=congrArg List.length g3
   simp only[List.length_append,List.length_cons]at h2;omega
  have hs0:s=[]:=by
   rw[g3]at hl1;simp only[List.length_append,List.length_cons]at hl1
   exact List.eq_nil_of_length_eq_zero (by omega)
  have ht0:t2=[]:=by
   rw[g3]at hl1;simp only[List.length_append,List.length_cons]at hl1
   exact List.eq_nil_of_length_eq_zero (by omega)
  subst hs0 ht0
  have hk1:ks=[k']:=by rw[g3];rfl
  rw[hk1]at e6 g7 g11
  obtain⟨qB1,qB2⟩:=qB k' hk1
  have ecut:cut ((D.map fun F=>AV.ref F.a.1)++[.ref F.a.1,rf l]) none (some (-1))=(D.map fun F=>AV.ref F.a.1)++[.ref F.a.1]:=by
   have:(D.map fun F=>AV.ref F.a.1)++[.ref F.a.1,rf l]=((D.map fun F=>AV.ref F.a.1)++[.ref F.a.1])++[rf l]:=by simp
   rw[this];exact cut_last
  refine⟨r,true,_,none,some (-1),rfl,er6,by simp;unfold cap;omega,rfl,by decide,fun r7 hr7=>?_⟩
  rw[ecut]
  have s7:Sb H6 (H6.set r7 (.list ((D.map fun F=>AV.ref F.a.1)++[.ref F.a.1]))):=.new hr7
  have e7:(H6.set r7 (.list ((D.map fun F=>AV.ref F.a.1)++[.ref F.a.1]))) r7=some (false,.list ((D.map fun F=>AV.ref F.a.1)++[.ref F.a.1])):=AH.set_same _ _ _
  generalize H6.set r7 (.list ((D.map fun F=>AV.ref F.a.1)++[.ref F.a.1]))=H7 at s7 e7
  rw[gl (s7.inst e61)]
  refine gi_0 (s7.list e6) (by simp) rfl ?_
  have lk7:LR false H7 k':=l6.sb s7
  have knd':(ads k').Nodup:=by rw[eads];exact knd
  have km:∀b∈ads k',b∈ads (Tr.fill F l):=fun b hb=>(kads k kmem b (by rwa [eads]at hb)).1
  have kw:Nw H (ads k'):=w2.sub fun b hb=>mem_plug.mpr (.inr (km b hb))
  rcases snoc_cases D with hD0|⟨E',E,hD0⟩
  ·subst hD0
   refine c134a G (by omega) e7 ?_
   refine len_list (s7.list er6) (by simp[cap]) ?_
   refine⟨_,_,rfl,rfl,fun z=>by simp at z,fun _=>?_⟩
   have:=hres _ (qB1 rfl)
   refine c127z G (t:=k') (by omega) lk7 knd' (S6.trans s7) kw fun H8 s8 l8=>?_
   have:=q1 _ (qB1 rfl) H8 s8 l8
   rw[Tr.plc_tag]at this
   exact this
  ·subst hD0
   have hE':E'.length≤19:=by simp at hD;omega
   have hpl:∀t:L,Tr.plug (E'++[E]) t=Tr.plug E' (Tr.fill E t):=fun t=>Tr.plug_snoc
   rw[hpl]at l2 nd2 w2
   have lE:=l2.unplug
   obtain⟨r1,r2,r3⟩:=plug_nd nd2
   have r2':=r2
   rw[ads_fill]at r2'
   obtain⟨⟨⟨dxE,eE⟩,eE2⟩,lEl,lEx,lEr⟩:=LR_fill.mp lE
   have eE':H2 E.a.1=some (false,.inst 45 dxE (flds (kd E.r) E.w E.h E.x E.y E.a.2 .none)):=eE
   have eE2':H2 E.a.2=some (false,.list ((E.l++Tr.fill F l::E.rt).map rf)):=eE2
   rw[List.nodup_cons,List.nodup_cons]at r2'
   obtain⟨u1,u2,u3⟩:=r2'
   have u4:=List.nodup_append.mp u3
   have u5:=List.nodup_append.mp u4.2.1
   have hE12:E.a.1≠E.a.2:=fun z=>u1 (by rw[z];exact .head _)
   have fE:∀b∈ads (Tr.fill F l),b≠E.a.1∧b≠E.a.2:=fun b hb=>⟨fun z=>u1 (by rw[←z];exact .tail _ (List.mem_append_right _ (List.mem_append_left _ hb))),fun z=>u2 (by rw[←z];exact List.mem_append_right _ (List.mem_append_left _ hb))⟩
   have X7:Ex (F.a.2::ads k) H2 H7:=X6.trans s7.ex
   have eE7:=X7.inst eE' (fun z=>(fE _ (mX _ z)).1 rfl)
   have eE27:=X7.list eE2' (fun z=>(fE _ (mX _ z)).2 rfl)
   have okk:∀c∈E.l++Tr.fill F l::E.rt,∃p,H7 c.tag.1=some p∧p.2≠.opq:=fun c hc=>by
    obtain⟨p,e1,e2⟩:=lE.owns c hc
    by_cases hz:c.tag.1∈F.a.2::ads k
    ·obtain⟨⟨dx,e⟩,_⟩:Nd false H2 c:=by
      rcases List.mem_append.mp hc with hc|hc
      ·exact(lEl c hc).nd
      ·rcases List.mem_cons.mp hc with rfl|hc
       ·exact lEx.nd
       ·exact(lEr c hc).nd
     rcases List.mem_append.mp hc with hc|hc
     ·exact absurd (mX _ hz) fun z=>u4.2.2 c.tag.1 (List.mem_flatMap.mpr ⟨c,hc,at_mem c⟩) c.tag.1 (List.mem_append_left _ z) rfl
     ·rcases List.mem_cons.mp hc with rfl|hc
      ·exact⟨_,s7.inst e61,fun z=>by cases z⟩
      ·exact absurd (mX _ hz) fun z=>u5.2.2 c.tag.1 z c.tag.1 (List.mem_flatMap.mpr ⟨c,hc,at_mem c⟩) rfl
    ·obtain⟨⟨dx,e⟩,_⟩:Nd false H2 c:=by
      rcases List.mem_append.mp hc with hc|hc
      ·exact(lEl c hc).nd
      ·rcases List.mem_cons.mp hc with rfl|hc
       ·exact lEx.nd
       ·exact(lEr c hc).nd
     exact⟨_,X7.inst e hz,fun z=>by cases z⟩
   have hEk:E.l.length+E.rt.length+1≤20:=by
    have okE:=(Tr.ok_plug hfine.ok).1
    have hsmE:(Tr.fill E (Tr.fill F l)).Sm:=by
     have q:=hsm1
     rw[hplug,hpl]at q
     refine⟨(Tr.ok_plug q.ok).1,?_⟩
     have:=q.len
     rw[Tr.panes_plug]at this
     simp only[List.length_append]at this;omega
    have:=hsmE.kids
    simp[Tr.fill,Tr.cs]at this;omega
   have e7':H7 r7=some (false,.list ((E'.map fun F=>AV.ref F.a.1)++[.ref E.a.1,rf (Tr.fill F l)])):=by rw[e7];simp;rfl
   have hr7E:r7≠E.a.2:=fun z=>by
    have e:=X6.list eE2' (fun z=>(fE _ (mX _ z)).2 rfl)
    rw[←z,hr7]at e;cases e
   refine c134b G (F:=E) (u:=Tr.fill F l) (x:=.ref (Tr.plug E' (Tr.fill E (Tr.fill F l))).tag.1) (by omega) e7' (by simp;omega) (path0 rfl) ⟨⟨dxE,eE7⟩,eE27⟩ (by omega) okk (kids_tags r2) hr7E ?_
   have x8:Ex [E.a.2] H7 (H7.set E.a.2 (.list (E.l.map rf++rf k'::E.rt.map rf))):=Ex.put
   have e8:(H7.set E.a.2 (.list (E.l.map rf++rf k'::E.rt.map rf))) E.a.2=some (false,.list ((E.l++k'::E.rt).map rf)):=by rw[AH.set_same];simp
   show BFun .len [.ref r] (H7.set E.a.2 (.list (E.l.map rf++rf k'::E.rt.map rf))) _
   generalize H7.set E.a.2 (.list (E.l.map rf++rf k'::E.rt.map rf))=H8 at x8 e8
   have X8:Ex (E.a.2::F.a.2::ads k) H2 H8:=(X7.mono fun b hb=>.tail _ hb).trans (x8.mono fun b hb=>by rw[List.mem_singleton.mp hb];simp)
   have erL:(List.map (fun F=>AV.ref F.a.1) (E'++[E]))++[.ref F.a.1,rf l]=(E'.map fun F=>AV.ref F.a.1)++[.ref E.a.1,.ref F.a.1,rf l]:=by simp
   rw[erL]at er6
   have er8:=x8.list (s7.list er6) (fun z=>by rw[List.mem_singleton.mp z]at er6;rw[X6.list eE2' (fun z=>(fE _ (mX _ z)).2 rfl)]at er6;cases er6)
   have eE8:=x8.inst eE7 (fun z=>hE12 (List.mem_singleton.mp z))
   have lK8:∀c∈E.l++k'::E.rt,LR false H8 c:=fun c hc=>by
    rcases List.mem_append.mp hc with hc|hc
    ·refine(lEl c hc).ex X8 fun b hb hz=>?_
     rcases List.mem_cons.mp hz with rfl|hz
     ·exact u2 (List.mem_append_left _ (List.mem_flatMap.mpr ⟨c,hc,hb⟩))
     ·exact u4.2.2 b (List.mem_flatMap.mpr ⟨c,hc,hb⟩) b (List.mem_append_left _ (mX b hz)) rfl
    ·rcases List.mem_cons.mp hc with rfl|hc
     ·exact lk7.ex x8 fun b hb hz=>(fE b (km b hb)).2 (List.mem_singleton.mp hz)
     ·refine(lEr c hc).ex X8 fun b hb hz=>?_
      rcases List.mem_cons.mp hz with rfl|hz
      ·exact u2 (List.mem_append_right _ (List.mem_append_right _ (List.mem_flatMap.mpr ⟨c,hc,hb⟩)))
      ·exact u5.2.2 b (mX b hz) b (List.mem_flatMap.mpr ⟨c,hc,hb⟩) rfl
   have okc:∀c∈E.l++k'::E.rt,c.ok:=fun c hc=>by
    have q:=hsm1
    rw[hplug,hpl]at q
    have q2:=Tr.ok_fill.mp (Tr.ok_plug q.ok).1
    rcases List.mem_append.mp hc with hc|hc
    ·exact q2.2.1 c hc
    ·rcases List.mem_cons.mp hc with rfl|hc
     ·exact g7 _ (by simp)
     ·exact q2.2.2.2 c hc
   have pnc:((E.l++k'::E.rt).flatMap Tr.panes).length≤20:=by
    have q:=hsm1.len
    rw[hplug,hpl,Tr.panes_plug,Tr.panes_fill,Tr.panes_fill]at q
    simp only[List.flatMap_cons,List.flatMap_nil,List.append_nil]at g11
    simp only[List.flatMap_append,List.flatMap_cons,g11,List.length_append]at q ⊢;omega
   refine len_list er8 (by simp;unfold cap;omega) ?_
   refine⟨_,_,rfl,rfl,fun _=>?_,fun z=>by simp at z;omega⟩
   refine gi_m3 er8 (by simp;omega) ?_
   rw[gl eE8]
   refine gi_m3 er8 (by simp;omega) ?_
   rw[gk eE8]
   refine c149 G (cs:=E.l++k'::E.rt) (by omega) e8 (fun c hc=>(lK8 c hc).nd) (melt_len okc pnc) (by simp;omega) (fun s t h=>melt_len (fun c hc=>okc c (by rw[h];simp[hc])) (by rw[h,List.flatMap_append,List.length_append]at pnc;omega)) fun a9 H9 ha9 s9 e9=>?_
   refine gi_m3 (s9.list er8) (by simp;omega) ?_
   rw[pl (s9.inst eE8)]
   have a9E:a9≠E.a.1:=fun z=>by rw[z,eE8]at ha9;cases ha9
   have x10:Ex [E.a.1] H9 (H9.set E.a.1 (.inst 45 dxE (flds (kd E.r) E.w E.h E.x E.y a9 .none))):=Ex.put
   have e10:(H9.set E.a.1 (.inst 45 dxE (flds (kd E.r) E.w E.h E.x E.y a9 .none))) E.a.1=some (false,.inst 45 dxE (flds (kd E.r) E.w E.h E.x E.y a9 .none)):=AH.set_same _ _ _
   generalize H9.set E.a.1 (.inst 45 dxE (flds (kd E.r) E.w E.h E.x E.y a9 .none))=H10 at x10 e10
   generalize hN:(.node (E.a.1,a9) E.r E.w E.h E.x E.y (Tr.melt E.r (E.l++k'::E.rt)):L)=N
   have eN:N.tag.1=(Tr.fill E (Tr.fill F l)).tag.1:=by rw[←hN];rfl
   have X10:Ex (E.a.1::E.a.2::F.a.2::ads k) H2 H10:=((X8.trans s9.ex).mono fun b hb=>.tail _ hb).trans (x10.mono fun b hb=>by rw[List.mem_singleton.mp hb];simp)
   have aN:ads N=E.a.1::a9::(Tr.melt E.r (E.l++k'::E.rt)).flatMap ads:=by rw[←hN,ads_eq];rfl
   have mk:∀b∈(E.l++k'::E.rt).flatMap ads,b∈ads (Tr.fill E (Tr.fill F l))∧b≠E.a.1∧∃o,H8 b=some (false,o):=fun b hb=>by
    obtain⟨c,hc,hbc⟩:=List.mem_flatMap.mp hb
    obtain⟨o,eo,_⟩:=(lK8 c hc).some b hbc
    rw[ads_fill]
    simp only[List.mem_cons,List.mem_append]
    rcases List.mem_append.mp hc with hc|hc
    ·have hm:b∈E.l.flatMap ads:=List.mem_flatMap.mpr ⟨c,hc,hbc⟩
     exact⟨.inr (.inr (.inl hm)),fun z=>u1 (by rw[←z];exact .tail _ (List.mem_append_left _ hm)),o,eo⟩
    ·rcases List.mem_cons.mp hc with rfl|hc
     ·exact⟨.inr (.inr (.inr (.inl (km b hbc)))),(fE b (km b hbc)).1,o,eo⟩
     ·have hm:b∈E.rt.flatMap ads:=List.mem_flatMap.mpr ⟨c,hc,hbc⟩
      exact⟨.inr (.inr (.inr (.inr hm))),fun z=>u1 (by rw[←z];exact .tail _ (List.mem_append_right _ (List.mem_append_right _ hm))),o,eo⟩
   have ndk:((E.l++k'::E.rt).flatMap ads).Nodup:=by
    rw[List.flatMap_append,List.flatMap_cons]
    exact List.nodup_append.mpr ⟨u4.1,List.nodup_append.mpr ⟨knd',u5.2.1,fun a ha b hb=>u5.2.2 a (km a ha) b hb⟩,fun a ha b hb=>u4.2.2 a ha b (by
     rcases List.mem_append.mp hb with hb|hb
     ·exact List.mem_append_left _ (km b hb)
     ·exact List.mem_append_right _ hb)⟩
   have mN:∀b∈ads N,b=a9∨b∈ads (Tr.fill E (Tr.fill F l)):=fun b hb=>by
    rw[aN]at hb
    rcases List.mem_cons.mp hb with rfl|hb
    ·exact .inr (at_mem (Tr.fill E (Tr.fill F l)))
    ·rcases List.mem_cons.mp hb with rfl|hb
     ·exact .inl rfl
     ·exact .inr (mk b (melt_ads.subset hb)).1
   have nN:(ads N).Nodup:=by
    rw[aN,List.nodup_cons,List.nodup_cons]
    refine⟨fun z=>?_,fun z=>?_,melt_ads.nodup ndk⟩
    ·rcases List.mem_cons.mp z with z|z
     ·exact a9E z.symm
     ·exact(mk _ (melt_ads.subset z)).2.1 rfl
    ·obtain⟨_,_,o,eo⟩:=mk _ (melt_ads.subset z)
     rw[ha9]at eo;cases eo
   have a9n:a9∉ads (Tr.plug E' (Tr.fill E (Tr.fill F l))):=fun z=>by
    obtain⟨o,e,no',_⟩:=l2.some a9 z
    by_cases hz:a9∈E.a.2::F.a.2::ads k
    ·rcases List.mem_cons.mp hz with hz|hz
     ·rw[hz,e8]at ha9;cases ha9
     ·rcases List.mem_cons.mp hz with hz|hz
      ·have:=x8.list (s7.list e6) (fun z=>(fE _ hF2m).2 (List.mem_singleton.mp z))
       rw[←hz,ha9]at this;cases this
      ·obtain⟨o,eo,_⟩:=(lK8 k' (by simp)).some a9 (by rw[eads];exact hz)
       rw[ha9]at eo;cases eo
    ·have:=X8 a9 _ _ no' e hz
     rw[ha9]at this;cases this
   have S8:Sb H H8:=S2.exNw X8 (w2.sub fun b hb=>mem_plug.mpr (.inr (by
    rw[ads_fill]
    simp only[List.mem_cons,List.mem_append]
    rcases List.mem_cons.mp hb with rfl|hb
    ·exact .inr (.inl rfl)
    ·exact .inr (.inr (.inr (.inl (mX b hb)))))))
   have S9:Sb H H9:=S8.trans s9
   have S10:Sb H H10:=S9.exNw x10 (w2.sub fun b hb=>mem_plug.mpr (.inr (by rw[List.mem_singleton.mp hb];exact at_mem (Tr.fill E (Tr.fill F l)))))
   have hw:Nw H (ads (Tr.plug E' N)):=fun b hb=>by
    rcases mem_plug.mp hb with hb|hb
    ·exact w2 b (mem_plug.mpr (.inl hb))
    ·rcases mN b hb with rfl|hb
     ·exact(Nw.sb S8 (.of ha9)) b (by simp)
     ·exact w2 b (mem_plug.mpr (.inr hb))
   have cE:∀b∈cads E',b∉ads (Tr.fill E (Tr.fill F l)):=r3
   have lN:LR false H10 N:=by
    rw[←hN]
    refine LR_iff.mpr ⟨⟨⟨dxE,e10⟩,x10.list e9 (fun z=>a9E (List.mem_singleton.mp z))⟩,melt_LR fun c hc=>((lK8 c hc).sb s9).ex x10 fun b hb hz=>?_⟩
    exact(mk b (List.mem_flatMap.mpr ⟨c,hc,hb⟩)).2.1 (List.mem_singleton.mp hz)
   have hq:=qB2 E' E rfl (E.a.1,a9)
   rw[hN]at hq
   have hdp:=hres _ hq
   have ltr:LR false H10 (Tr.plug E' N):=plug_upd eN X10 lN l2 fun b hb hz=>cE b hb (by
    rw[ads_fill]
    simp only[List.mem_cons,List.mem_append]
    rcases List.mem_cons.mp hz with rfl|hz
    ·exact .inl rfl
    ·rcases List.mem_cons.mp hz with rfl|hz
     ·exact .inr (.inl rfl)
     ·exact .inr (.inr (.inr (.inl (mX b hz)))))
   rw[←plug_tag (C:=E') eN]
   refine c127z G (t:=Tr.plug E' N) (by omega) ltr (plug_nodup nd2 nN fun b hb hz=>?_) S10 hw fun H11 s11 l11=>?_
   ·rcases mN b hb with rfl|hb
    ·exact a9n (mem_plug.mpr (.inl hz))
    ·exact cE b hz hb
   ·have:=q1 _ hq H11 s11 l11
    rw[Tr.plc_tag]at this
    exact this
end
end
section
namespace Tr
variable {α β:Type}
theorem mapP_id:∀{t:Tr α},mapP (fun p=>p) t=t:=by
 intro t
 induction t using rec' with
 |step t ih=>
  cases t with
  |leaf=>rfl
  |node a r w h x y cs=>
   rw[mapP_node]
   congr 1
   have:∀l:List (Tr α),(∀c∈l,c∈cs)→l.map (mapP fun p=>p)=l:=by
    intro l
    induction l with
    |nil=>intro _;rfl
    |cons c l ih2=>intro h;rw[List.map_cons,ih c (h c (.head _)),ih2 fun c hc=>h c (.tail _ hc)]
   exact this cs fun _ h=>h
theorem mapF_congr {f f':Int→Int}:∀{C:List (Fm α)},(∀p,p∈cpre C∨p∈cpost C→f p=f' p)→C.map (mapF f)=C.map (mapF f')
 |[],_=>rfl
 |F::C,h=>by
  simp only[List.map_cons]
  rw[mapF_congr (C:=C) fun p hp=>h p (by
   rcases hp with hp|hp
   ·exact .inl (by simp[cpre,hp])
   ·exact .inr (by simp[cpost,hp]))]
  congr 1
  unfold mapF
  congr 1
  ·exact List.map_congr_left fun c hc=>mapP_congr fun p hp=>h p (.inl (by simp only[cpre,List.mem_append];exact .inl (List.mem_flatMap.mpr ⟨c,hc,hp⟩)))
  ·exact List.map_congr_left fun c hc=>mapP_congr fun p hp=>h p (.inr (by simp only[cpost,List.mem_append];exact .inr (List.mem_flatMap.mpr ⟨c,hc,hp⟩)))
theorem leaf_plug {u:Tr α}:∀{t:Tr α} {i:Nat},t.leaves[i]?=some u→∃C,t=plug C u∧(cpre C).length=i∧∃a w h x y p,u=.leaf a w h x y p:=by
 intro t
 induction t using rec' with
 |step t ih=>
  intro i hi
  cases t with
  |leaf a w h x y p=>
   simp only[leaves]at hi
   cases i with
   |zero=>simp at hi;subst hi;exact⟨[],rfl,rfl,a,w,h,x,y,p,rfl⟩
   |succ i=>simp at hi
  |node a r w h x y cs=>
   simp only[leaves,leavess_eq]at hi
   have:∀(s t:List (Tr α)) (i:Nat),cs=s++t→(t.flatMap leaves)[i]?=some u→∃C,Tr.node a r w h x y cs=plug C u∧(cpre C).length=(s.flatMap leaves).length+i∧∃a w h x y p,u=.leaf a w h x y p:=by
    intro s t
    induction t generalizing s with
    |nil=>intro i _ h;simp at h
    |cons c t ih2=>
     intro i hc hi
     rw[List.flatMap_cons]at hi
     by_cases hlt:i<c.leaves.length
     ·rw[List.getElem?_append_left hlt]at hi
      obtain⟨C,e1,e2,e3⟩:=ih c (by rw[hc];simp[Tr.cs]) hi
      refine⟨⟨a,r,w,h,x,y,s,t⟩::C,by simp only[plug,fill,←e1,hc],?_,e3⟩
      simp only[cpre,List.length_append,e2,List.length_flatMap]
      congr 3
      funext d;exact panes_len
     ·rw[List.getElem?_append_right (by omega)]at hi
      obtain⟨C,e1,e2,e3⟩:=ih2 (s++[c]) (i-c.leaves.length) (by simp[hc]) hi
      exact⟨C,e1,by rw[e2];simp;omega,e3⟩
   obtain⟨C,e1,e2,e3⟩:=this [] cs i rfl hi
   exact⟨C,e1,by simpa using e2,e3⟩
end Tr
theorem ads_mapP {f:Int→Int}:∀{t:L},ads (Tr.mapP f t)=ads t:=by
 intro t
 induction t using Tr.rec' with
 |step t ih=>
  cases t with
  |leaf=>rfl
  |node a r w h x y cs=>
   rw[Tr.mapP_node,ads_eq,ads_eq]
   simp only[Tr.tag,Tr.cs]
   congr 2
   have:∀l:List L,(∀c∈l,c∈cs)→(l.map (Tr.mapP f)).flatMap ads=l.flatMap ads:=by
    intro l
    induction l with
    |nil=>intro _;rfl
    |cons c l ih2=>intro h;rw[List.map_cons,List.flatMap_cons,List.flatMap_cons,ih c (h c (.head _)),ih2 fun c hc=>h c (.tail _ hc)]
   exact this cs fun _ h=>h
theorem cads_mapF {f:Int→Int}:∀{C:List FL},cads (C.map (Tr.mapF f))=cads C
 |[]=>rfl
 |F::C=>by
  have:∀l:List L,(l.map (Tr.mapP f)).flatMap ads=l.flatMap ads:=fun l=>by
   rw[List.flatMap_map];congr 1;funext t;exact ads_mapP
  simp only[List.map_cons,cads,cads_mapF (C:=C),Tr.mapF,this]
section
variable {W:Wd} {n m:Nat} {H:AH} {Q:AV→AH→Prop} {ρ:Rho} {QS:Rho→AH→Prop} {R:AV→AH→Prop}
def forU (W:Wd) (n:Nat) (xs:List Nat) (b:List CS) (QS:Rho→AH→Prop) (R:AV→AH→Prop):List AV→Rho→AH→Prop
 |[],ρ,H=>QS ρ H
 |v::vs,ρ,H=>∃us ρ',v=.tup us∧putAll ρ xs us=some ρ'∧wpB W n b ρ' H (forU W n xs b QS R vs) R
theorem for_tup {xs:List Nat} {b:List CS} {vs:List AV} (h:forU W n xs b QS R vs ρ H):ForTR W n xs b ρ (.seq (.tup vs)) H QS R:=by
 refine⟨trivial,fun i ρ H=>i≤vs.length∧forU W n xs b QS R (vs.drop i) ρ H,vs.length,⟨Nat.zero_le _,by simpa using h⟩,fun i ρ H hI=>?_⟩
 obtain⟨hi,hJ⟩:=hI
 refine⟨hi,vs[i]?,by simp[nextI,curI],?_⟩
 cases hu:vs[i]? with
 |none=>
  have:i=vs.length:=Nat.le_antisymm hi (by simpa using hu)
  rw[this,List.drop_length]at hJ
  exact hJ
 |some u=>
  have hlt:i<vs.length:=(List.getElem?_eq_some_iff.mp hu).1
  have hd:vs.drop i=u::vs.drop (i+1):=by
   have:=List.getElem?_eq_some_iff.mp hu
   rw[←this.2,List.getElem_cons_drop]
  rw[hd]at hJ
  obtain⟨us,ρ',e1,e2,hw⟩:=hJ
  refine⟨us,ρ',e1,e2,?_⟩
  have e3:(fun ρ H=>i+1≤vs.length∧forU W n xs b QS R (vs.drop (i+1)) ρ H)=forU W n xs b QS R (vs.drop (i+1)):=by
   funext ρ H;exact propext ⟨fun h=>h.2,fun h=>⟨hlt,h⟩⟩
  show wpB W n b ρ' H (fun ρ H=>i+1≤vs.length∧forU W n xs b QS R (vs.drop (i+1)) ρ H) R
  rw[e3];exact hw
theorem for_zip {x z:Nat} {b:List CS} {l1 l2 r:Addr} {us:List L} {ns:List Int} (hN:us.length=ns.length) (J:Nat→Rho→AH→Prop) (h0:J 0 ρ H)
  (hl:∀i ρ H,J i ρ H→i≤ns.length∧H r=some (false,.opq)∧(∃f,H l1=some (f,.list (us.map rf)))∧∃f,H l2=some (f,.list (ns.map .int)))
  (step:∀i u k ρ H,us[i]?=some u→ns[i]?=some k→J i ρ H→wpB W n b (put (put ρ x (rf u)) z (.int k)) H (J (i+1)) R) (fin:∀ρ H,J ns.length ρ H→QS ρ (H.del r)) :
  ForTR W n [x,z] b ρ (.zip (.ref l1) (.ref l2) r) H QS R:=by
 refine⟨trivial,J,ns.length,h0,fun i ρ H hJ=>?_⟩
 obtain⟨hi,h1,⟨f,h2⟩,g,h3⟩:=hl _ _ _ hJ
 refine⟨hi,?_⟩
 have e:nextI H (.zip (.ref l1) (.ref l2) r) i=some (match (us.map rf)[i]?,(ns.map AV.int)[i]? with|some x,some y=>some (.tup [x,y])|_,_=>none):=by
  simp[nextI,curI,h1,h2,h3]<;>rfl
 cases hk:ns[i]? with
 |none=>
  have:i=ns.length:=Nat.le_antisymm hi (by simpa using hk)
  refine⟨none,by rw[e];simp[hk],?_⟩
  exact fin ρ H (this▸hJ)
 |some k=>
  have hlt:i<ns.length:=(List.getElem?_eq_some_iff.mp hk).1
  obtain⟨u,hu⟩:∃u,us[i]?=some u:=⟨us[i],List.getElem?_eq_getElem (by omega)⟩
  refine⟨some (.tup [rf u,.int k]),by rw[e];simp[hk,hu],[rf u,.int k],_,rfl,rfl,step i u k ρ H hu hk hJ⟩
theorem c163 (G:GD W) {t:L} {f:Bool} {w h:Int} (hm:40≤m) (ht:LR f H t) (hf:(er t).Fine) (q:∀t' H',er t'=Tr.fitT w h (er t)→Sb H H'→LR true H' t'→Q (.ref t'.tag.1) H'):CallF W 163 [.ref t.tag.1,.int w,.int h] m H Q:=by
 obtain⟨n,rfl,hn⟩:=pos_of (show 39+1≤m from hm)
 have hsm:t.Sm:=er_sm.mp hf.sm
 have hdep:=hsm.dep
 refine CallF.fz (enter G (f163 _) (hb163 _) (ws:=[]) (fun h _=>by simp only[VRs]) rfl ?_)
 unfold b163 x163
 walk_at "wp"
 refine c61 G (by omega) ht hsm fun t1 H1 s1 l1 e1 w1 nd1=>⟨by decide,by decide,by decide,for_tup ?_⟩
 have one:∀(d:Bool) (s:Int) (t:L) (H1:AH) (Q':AV→AH→Prop),t.Sm→LR false H1 t→(ads t).Nodup→(∀H2,Ex (ads t) H1 H2→LR false H2 (Tr.fit1 d s t)→∀v,Q' v H2)→
   CallF W 94 [.ref t.tag.1,.bool d] n H1 fun y H=>BinR .sub (.int s) y H fun v H=>CallF W 113 [.ref t.tag.1,.bool d] n H fun x H=>∃i,x=.int i∧BFun .max [v,.int (-i)] H fun v H=>CallF W 120 [.ref t.tag.1,.bool d,v] n H fun _ H=>Q' v H:=by
  intro d s t H1 Q' hs hl hnd q'
  have hd:=hs.dep
  refine c94 G (by omega) hl.nd ?_
  rw[bi_sub]
  refine c113 G (by omega) hl hs fun H2 s2=>⟨_,rfl,?_⟩
  rw[bf_max]
  have hr:=Tr.room_nonneg (d:=d) hs.ok
  refine c120 G (k:=t.dep) (Nat.le_refl _) (by omega) (hl.sb s2) hnd hs (by unfold Tr.mx;split<;>omega) fun H3 x3 l3=>q' H3 (s2.ex.trans x3) l3 _
 have hsm1:t1.Sm:=sm_er e1 hsm
 have fitsk:∀(d:Bool) (s:Int) (t:L),t.Sm→(Tr.fit1 d s t).sk=t.sk∧(Tr.fit1 d s t).ok:=fun d s t hs=>by
  have hr:=Tr.room_nonneg (d:=d) hs.ok
  have:=Tr.chT_ok (d:=d) (c:=Tr.mx (s-t.side d) (-(t.room d))) hs.ok (by unfold Tr.mx;split<;>omega)
  exact⟨this.sk,this.ok⟩
 refine⟨_,_,rfl,rfl,?_⟩
 walk_at "wp"
 refine one true w t1 H1 _ hsm1 l1 nd1 fun H2 x2 l2 v2=>⟨_,_,rfl,rfl,?_⟩
 obtain⟨k1,k2⟩:=fitsk true w t1 hsm1
 have hsm2:=Tr.sm_sk k1 k2 hsm1
 have et2:(Tr.fit1 true w t1).tag.1=t1.tag.1:=by rw[Tr.tag_sk k1]
 have ea2:=ads_of_sk k1
 walk_at "wp"
 rw[←et2]
 refine one false h (Tr.fit1 true w t1) H2 _ hsm2 l2 (by rw[ea2];exact nd1) fun H3 x3 l3 v3=>?_
 obtain⟨k3,k4⟩:=fitsk false h (Tr.fit1 true w t1) hsm2
 have hsm3:=Tr.sm_sk k3 k4 hsm2
 have ea3:=ads_of_sk k3
 rw[ea2]at x3 ea3
 unfold forU
 walk_at "wp"
 rw[←show(Tr.fit1 false h (Tr.fit1 true w t1)).tag.1=(Tr.fit1 true w t1).tag.1 from by rw[Tr.tag_sk k3]]
 refine c127z G (by have:=hsm3.dep;omega) l3 (by rw[ea3];exact nd1) (s1.exNw (x2.trans x3) w1) (by rw[ea3];exact w1) fun H4 s4 l4=>?_
 have:=q (Tr.plc 0 0 (Tr.fit1 false h (Tr.fit1 true w t1))) H4 (by
  rw[←er_plc]
  unfold Tr.fitT
  rw[←e1]
  have h1:∀d s (t:L),er (Tr.fit1 d s t)=Tr.fit1 d s (er t):=fun d s t=>Tr.fit1_map.symm
  rw[h1,h1]) s4 l4
 rw[Tr.plc_tag]at this
 exact this
end
end
section
theorem AH.del_ne (H:AH) {a b:Addr} (h:b≠a):H.del a b=H b:=if_neg h
theorem Ex.del {H:AH} {r:Addr}:Ex [r] H (H.del r):=fun a f o n e z=>by
 rw[AH.del_ne _ fun q=>z (by rw[q];simp)];exact e
namespace Tr
theorem asg_take {ps ns:List Int} (nd:ps.Nodup) {i:Nat} {p k:Int} (hp:ps[i]?=some p) (hk:ns[i]?=some k) (q:Int):asg ps (ns.take (i+1)) q=if q=p then k else asg ps (ns.take i) q:=by
 induction ps generalizing ns i with
 |nil=>simp at hp
 |cons p0 ps ih=>
  cases ns with
  |nil=>simp at hk
  |cons k0 ns=>
   rw[List.nodup_cons]at nd
   cases i with
   |zero=>
    simp only[List.getElem?_cons_zero,Option.some.injEq]at hp hk
    subst hp hk
    simp only[List.take_succ_cons,List.take_zero,asg,List.zip_cons_cons,List.zip_nil_right,List.lookup_cons,List.lookup_nil]
    by_cases h:q=p0
    ·simp[h]
    ·simp[h,beq_false_of_ne h]
   |succ i=>
    simp only[List.getElem?_cons_succ]at hp hk
    have hpm:p∈ps:=List.mem_of_getElem? hp
    have hne:p0≠p:=fun z=>nd.1 (z▸hpm)
    have:=ih nd.2 hp hk
    simp only[List.take_succ_cons,asg,List.zip_cons_cons,List.lookup_cons]at this ⊢
    by_cases h:q=p0
    ·subst h;simp[hne]
    ·rw[beq_false_of_ne h];exact this
theorem asg_nil {ps:List Int} {q:Int}:asg ps [] q=q:=by simp[asg]
end Tr
theorem renT_er {t:L} {ns:List Int}:er (Tr.mapP (Tr.asg t.panes ns) t)=Tr.renT ns (er t):=by
 unfold Tr.renT
 rw[er_panes];exact Tr.mapP_map.symm
section
variable {W:Wd} {n m:Nat} {H:AH} {Q:AV→AH→Prop}
theorem c170 (G:GD W) {t:L} {f g:Bool} {l:Addr} {ns:List Int} (hm:30≤m) (ht:LR f H t) (hs:t.Sm) (nd:t.panes.Nodup) (el:H l=some (g,.list (ns.map .int))) (hl:ns.length=t.panes.length)
  (q:∀t' H',er t'=Tr.renT ns (er t)→Sb H H'→LR true H' t'→Q (.ref t'.tag.1) H'):CallF W 170 [.ref t.tag.1,.ref l] m H Q:=by
 obtain⟨n,rfl,hn⟩:=pos_of (show 29+1≤m from hm)
 have hdep:=hs.dep
 refine CallF.fz (enter G (f170 _) (hb170 _) (ws:=[]) (fun h _=>by simp only[VRs]) rfl ?_)
 unfold b170 x170
 walk_at "wp"
 refine c61 G (by omega) ht hs fun t1 H1 s1 l1 e1 w1 nd1=>?_
 have hs1:t1.Sm:=sm_er e1 hs
 have ep:=panes_er e1
 refine c68z G (by have:=hs1.dep;omega) l1 hs1 fun r2 H2 s2 e2 r hr=>?_
 have hlv:t1.leaves.length=ns.length:=by rw[←Tr.panes_len,ep];exact hl.symm
 have sbr:Sb H2 (H2.set r .opq):=.new hr
 have l2:LR false H2 t1:=l1.sb s2
 have ne_r:∀{a:Addr} {p:Bool × AO},H2 a=some p→a≠r:=fun e=>ne_of_none hr e
 have rads:r∉ads t1:=fun z=>by
  obtain⟨o,e,_⟩:=l2.some r z
  rw[hr]at e;cases e
 refine for_zip (l1:=r2) (l2:=l) (us:=t1.leaves) (ns:=ns) hlv (fun i ρ H'=>i≤ns.length∧ρ.lookup 24=some (.ref t1.tag.1)∧LR false H' (Tr.mapP (Tr.asg t1.panes (ns.take i)) t1)∧Ex (ads t1) (H2.set r .opq) H'∧H' r=some (false,.opq)) ?_ ?_ ?_ ?_
 ·refine⟨Nat.zero_le _,rfl,?_,.refl,AH.set_same _ _ _⟩
  have:Tr.mapP (Tr.asg t1.panes (ns.take 0)) t1=t1:=by
   have h:Tr.asg t1.panes (ns.take 0)=fun p=>p:=by funext q;exact Tr.asg_nil
   rw[h,Tr.mapP_id]
  rw[this];exact l2.sb sbr
 ·rintro i ρ H' ⟨h1,h2,h3,h4,h5⟩
  refine⟨h1,h5,⟨true,h4.list (sbr.list e2) fun z=>?_⟩,⟨g,h4.list (sbr.list (s2.list (s1.list el))) fun z=>?_⟩⟩
  ·obtain⟨o,e,_⟩:=l2.some r2 z
   rw[e2]at e;cases e
  ·exact w1 l z g _ no_list el
 ·rintro i u k ρ H' hu hk ⟨h1,h2,h3,h4,h5⟩
  obtain⟨C,et,hC,a,w,h,x,y,p,rfl⟩:=Tr.leaf_plug hu
  have hp:t1.panes[i]?=some p:=by
   rw[Tr.panes,List.getElem?_map,hu];rfl
  have ndp:t1.panes.Nodup:=by rw[ep];exact nd
  have e3:=Tr.asg_take ndp hp hk
  have hlt:i<ns.length:=(List.getElem?_eq_some_iff.mp hk).1
  walk_at "wp"
  generalize hσ:Tr.asg t1.panes (ns.take i)=σ at h3 e3
  generalize hσ':Tr.asg t1.panes (ns.take (i+1))=σ' at e3
  have hmp:Tr.mapP σ t1=Tr.plug (C.map (Tr.mapF σ)) (.leaf a w h x y (σ p)):=by rw[et,Tr.mapP_plug];rfl
  rw[hmp]at h3
  obtain⟨⟨dx,e4⟩,e5⟩:=h3.unplug.nd
  have e4':H' a.1=some (false,.inst 45 dx (flds sPane w h x y a.2 (.int (σ p)))):=e4
  show SetA (.ref a.1) 6 (.int k) H' _
  rw[pp e4']
  have hmem:a.1∈ads t1:=by rw[et];exact mem_plug.mpr (.inr (at_mem (.leaf a w h x y p)))
  have ndc:=nd1
  rw[et]at ndc
  obtain⟨d1,d2,d3⟩:=plug_nd ndc
  have hal:a.2≠a.1:=fun z=>by simp[ads,z]at d2
  have hCc:C.map (Tr.mapF σ)=C.map (Tr.mapF σ'):=Tr.mapF_congr fun q hq=>by
   rw[e3,if_neg]
   rintro rfl
   rw[et,Tr.panes_plug,Tr.panes_leaf]at ndp
   rcases hq with hq|hq
   ·exact(List.nodup_append.mp (List.nodup_append.mp ndp).1).2.2 q hq q (by simp) rfl
   ·exact(List.nodup_append.mp ndp).2.2 q (by simp) q hq rfl
  refine⟨hlt,h2,?_,h4.trans (Ex.put.mono fun b hb=>by rw[List.mem_singleton.mp hb];exact hmem),?_⟩
  ·have hmp':Tr.mapP σ' t1=Tr.plug (C.map (Tr.mapF σ)) (.leaf a w h x y k):=by
    rw[hCc]
    have:σ' p=k:=by rw[e3,if_pos rfl]
    rw[et,Tr.mapP_plug,Tr.mapP_leaf,this]
   rw[hmp']
   refine plug_upd (l:=.leaf a w h x y (σ p)) (u:=.leaf a w h x y k) rfl Ex.put ?_ h3 fun b hb hz=>?_
   ·refine LR_iff.mpr ⟨⟨⟨dx,AH.set_same _ _ _⟩,(AH.set_ne _ _ hal).trans e5⟩,by simp[Tr.cs]⟩
   ·rw[cads_mapF]at hb
    rw[List.mem_singleton.mp hz]at hb
    exact d3 _ hb (at_mem (.leaf a w h x y p))
  ·rw[AH.set_ne _ _ (fun z=>rads (by rw[z];exact hmem))];exact h5
 ·rintro ρ H' ⟨h1,h2,h3,h4,h5⟩
  rw[List.take_length]at h3
  generalize hM:Tr.mapP (Tr.asg t1.panes ns) t1=M at h3
  have hMa:ads M=ads t1:=by rw[←hM,ads_mapP]
  have hMt:M.tag=t1.tag:=by rw[←hM,Tr.mapP_tag]
  have l3:LR false (H'.del r) M:=h3.ex Ex.del fun b hb hz=>by
   rw[List.mem_singleton.mp hz,hMa]at hb
   exact rads hb
  have S2:Sb H H2:=s1.trans s2
  have S3:Sb H (H'.del r):=by
   have k0:Sb H (H2.set r .opq):=S2.trans sbr
   have k1:Sb H H':=k0.exNw h4 w1
   exact k1.exNw Ex.del (Nw.sb S2 (.of hr))
  refine⟨_,h2,ads t1,?_⟩
  have:=q M (fz (ads t1) (H'.del r)) (by rw[←hM,renT_er];unfold Tr.renT;rw[e1]) (fz_sb S3 w1) (LR.fz (fun b hb=>by rwa [hMa]at hb) l3)
  rwa [hMt]at this
theorem notIn_list {H:AH} {a:Int} {l:Addr} {f:Bool} {xs:List Int} {P:AV→AH→Prop} (e:H l=some (f,.list (xs.map .int))) (q:P (.bool (!decide (a∈xs))) H):∃(a':Int) (l':Addr) (f:Bool) (xs:List Int),AV.int a=.int a'∧AV.ref l=.ref l'∧H l'=some (f,.list (xs.map .int))∧P (.bool (!decide (a'∈xs))) H:=
 ⟨a,l,f,xs,rfl,rfl,e,q⟩
theorem c175 (G:GD W) {t:L} {f:Bool} {one other:Int} (hm:40≤m) (ht:LR f H t) (hf:(er t).Fine) (nd:t.panes.Nodup) (q0:Tr.swapT (er t) one other=none→∀H',Sb H H'→Q .none H')
  (q1:∀t' H',Tr.swapT (er t) one other=some (er t')→Sb H H'→LR true H' t'→Q (.ref t'.tag.1) H'):CallF W 175 [.ref t.tag.1,.int one,.int other] m H Q:=by
 obtain⟨n,rfl,hn⟩:=pos_of (show 39+1≤m from hm)
 have hsm:t.Sm:=er_sm.mp hf.sm
 have hdep:=hsm.dep
 refine enter G (f175 _) (hb175 _) (ws:=[]) (fun h _=>by simp only[VRs]) rfl ?_
 unfold b175 x175
 walk_at "wp"
 refine c73 G (by omega) ht hsm fun r1 H1 s1 e1=>?_
 have none':¬(one∈t.panes∧other∈t.panes)→Tr.swapT (er t) one other=none:=fun h=>by
  unfold Tr.swapT;rw[er_panes,if_neg h]
 refine⟨one,r1,true,t.panes,rfl,rfl,e1,fun h1=>⟨fun _=>q0 (none' fun z=>?_) _ s1,fun z=>by cases z⟩,fun h1=>⟨other,r1,true,t.panes,rfl,rfl,e1,fun h2=>q0 (none' fun z=>?_) _ s1,fun h2=>?_⟩⟩
 ·simp[z.1]at h1
 ·simp[z.2]at h2
 have h1:one∈t.panes:=by simpa using h1
 have h2:other∈t.panes:=by simpa using h2
 refine⟨[(one,.int other),(other,.int one)],rfl,by simp,fun r2 hr2=>?_⟩
 have s2:Sb H1 (H1.set r2 (.dI (([(one,AV.int other),(other,.int one)]:List (Int × AV)).foldl (fun es p=>putS es p.1 p.2) []))):=.new hr2
 generalize hH2:H1.set r2 (.dI (([(one,AV.int other),(other,.int one)]:List (Int × AV)).foldl (fun es p=>putS es p.1 p.2) []))=H2 at s2
 have e2:H2 r2=some (false,.dI (([(one,AV.int other),(other,.int one)]:List (Int × AV)).foldl (fun es p=>putS es p.1 p.2) [])):=by rw[←hH2];exact AH.set_same _ _ _
 have lk:∀p:Int,((([(one,AV.int other),(other,.int one)]:List (Int × AV)).foldl (fun es p=>putS es p.1 p.2) []).lookup p).getD (.int p)=.int (Tr.swf one other p):=fun p=>by
  unfold Tr.swf
  simp only[List.foldl,putS]
  by_cases h:one=other
  ·subst h
   simp only[if_true,List.lookup_cons,List.lookup_nil]
   by_cases hp:p=one
   ·simp[hp]
   ·simp[hp,beq_false_of_ne hp]
  ·rw[if_neg h]
   simp only[List.lookup_cons,List.lookup_nil,putS]
   by_cases hp:p=other
   ·subst hp
    rw[beq_false_of_ne fun z=>h z.symm];simp
   ·by_cases hp2:p=one
    ·subst hp2;simp[hp]
    ·simp[hp,hp2,beq_false_of_ne hp,beq_false_of_ne hp2]
 refine comp_on (g:=AV.int) (cs:=t.panes) (cap_le20 hsm.len) (fun pre out H'=>H'=H2∧out=pre.map fun p=>.int (Tr.swf one other p)) ⟨rfl,rfl⟩ ?_ ?_ ?_
 ·rintro pre out H' ⟨rfl,rfl⟩
  exact⟨⟨true,s2.list e1⟩,by simp⟩
 ·rintro pre u suf out H' hcs ⟨rfl,rfl⟩
  walk_at "wp"
  refine⟨⟨_,_,_,rfl,e2⟩,_,e2,?_⟩
  exact⟨rfl,by rw[lk];simp⟩
 ·rintro out H' ⟨rfl,rfl⟩ r3 hr3
  have s3:Sb H' (H'.set r3 (.list (t.panes.map fun p=>.int (Tr.swf one other p)))):=.new hr3
  have S3:Sb H (H'.set r3 (.list (t.panes.map fun p=>.int (Tr.swf one other p)))):=(s1.trans s2).trans s3
  refine c170 G (ns:=t.panes.map (Tr.swf one other)) (g:=false) (by omega) (ht.sb S3) hsm nd (by rw[AH.set_same];simp) (by simp) fun t' H4 h4 s4 l4=>?_
  refine q1 t' H4 ?_ (S3.trans s4) l4
  unfold Tr.swapT
  rw[er_panes,if_pos ⟨h1,h2⟩,h4]
theorem cut_d1 {α:Type} {f:α→AV} {xs:List α} (h:xs≠[]):cut (xs.map f) (some 1) none=(xs.drop 1).map f:=by
 unfold cut clipAt
 have hl:1≤xs.length:=by cases xs with|nil=>exact absurd rfl h|cons=>simp
 simp
 have:(max 0 (min 1 (xs.length:Int))).toNat=1:=by omega
 rw[this]
 rw[←List.map_drop,List.take_of_length_le (by simp)];simp
theorem cut_t1 {α:Type} {f:α→AV} {xs:List α} (h:xs≠[]):cut (xs.map f) none (some 1)=(xs.take 1).map f:=by
 unfold cut clipAt
 have hl:1≤xs.length:=by cases xs with|nil=>exact absurd rfl h|cons=>simp
 simp
 have:(max 0 (min 1 (xs.length:Int))).toNat=1:=by omega
 rw[this]
theorem cut_dm {α:Type} {f:α→AV} {xs:List α} (h:xs≠[]):cut (xs.map f) (some (-1)) none=(xs.drop (xs.length-1)).map f:=by
 unfold cut clipAt
 have hl:1≤xs.length:=by cases xs with|nil=>exact absurd rfl h|cons=>simp
 simp
 have:(max 0 (min (-1+(xs.length:Int)) (xs.length:Int))).toNat=xs.length-1:=by omega
 rw[this]
 rw[←List.map_drop,List.take_of_length_le (by simp)]
theorem cut_tm {α:Type} {f:α→AV} {xs:List α} (h:xs≠[]):cut (xs.map f) none (some (-1))=(xs.take (xs.length-1)).map f:=by
 unfold cut clipAt
 have hl:1≤xs.length:=by cases xs with|nil=>exact absurd rfl h|cons=>simp
 simp
 have:(max 0 (min (-1+(xs.length:Int)) (xs.length:Int))).toNat=xs.length-1:=by omega
 rw[this];omega
theorem c183 (G:GD W) {t:L} {f back:Bool} (hm:40≤m) (ht:LR f H t) (hf:(er t).Fine) (nd:t.panes.Nodup) (q:∀t' H',er t'=Tr.rotT back (er t)→Sb H H'→LR true H' t'→Q (.ref t'.tag.1) H'):CallF W 183 [.ref t.tag.1,.bool back] m H Q:=by
 obtain⟨n,rfl,hn⟩:=pos_of (show 39+1≤m from hm)
 have hsm:t.Sm:=er_sm.mp hf.sm
 have hdep:=hsm.dep
 have hne:t.panes≠[]:=fun z=>by have:=Tr.leaves_pos hsm.ok;rw[z]at this;simp at this
 have hlen:=hsm.len
 refine enter G (f183 _) (hb183 _) (ws:=[]) (fun h _=>by simp only[VRs]) rfl ?_
 unfold b183 x183
 walk_at "wp"
 refine c73 G (by omega) ht hsm fun r1 H1 s1 e1=>?_
 have key:∀(xs ys:List Int) (ra rb:Addr) (H2:AH),Sb H1 H2→H2 ra=some (false,.list (xs.map .int))→H2 rb=some (false,.list (ys.map .int))→xs++ys=Tr.rot back t.panes→xs.length+ys.length=t.panes.length→
   BinR .add (.ref ra) (.ref rb) H2 fun v H=>CallF W 170 [.ref t.tag.1,v] n H Q:=by
  intro xs ys ra rb H2 s2 ea eb hxy hl
  refine⟨false,false,_,_,ea,eb,by simp only[List.length_map];unfold cap;omega,fun r hr=>?_⟩
  have s3:Sb H2 (H2.set r (.list (xs.map .int++ys.map .int))):=.new hr
  have S3:Sb H (H2.set r (.list (xs.map .int++ys.map .int))):=(s1.trans s2).trans s3
  refine c170 G (ns:=Tr.rot back t.panes) (g:=false) (by omega) (ht.sb S3) hsm nd (by rw[AH.set_same,←hxy];simp) (by rw[←hxy,List.length_append];exact hl) fun t' H4 h4 s4 l4=>?_
  refine q t' H4 ?_ (S3.trans s4) l4
  unfold Tr.rotT
  rw[er_panes];exact h4
 have hcap:(t.panes.map AV.int).length≤cap:=by simp only[List.length_map];unfold cap;omega
 have two:∀(c1 c2:List AV) (ra rb:Addr),H1 ra=none→(H1.set ra (.list c1)) rb=none→Sb H1 ((H1.set ra (.list c1)).set rb (.list c2))∧((H1.set ra (.list c1)).set rb (.list c2)) ra=some (false,.list c1)∧((H1.set ra (.list c1)).set rb (.list c2)) rb=some (false,.list c2):=fun c1 c2 ra rb ha hb=>
  ⟨(Sb.new ha).trans (Sb.new hb),(AH.set_ne _ _ (ne_of_none hb (AH.set_same _ _ _))).trans (AH.set_same _ _ _),AH.set_same _ _ _⟩
 cases back with
 |true=>
  refine⟨fun _=>⟨r1,true,_,some 1,none,rfl,e1,hcap,by decide,rfl,fun ra ha=>⟨r1,true,_,none,some 1,rfl,(AH.set_ne _ _ (ne_of_none ha e1)).trans e1,hcap,rfl,by decide,fun rb hb=>?_⟩⟩,fun z=>by cases z⟩
  rw[cut_d1 hne]at hb ⊢
  rw[cut_t1 hne]
  obtain⟨k1,k2,k3⟩:=two _ ((t.panes.take 1).map AV.int) ra rb ha hb
  exact key _ _ ra rb _ k1 k2 k3 rfl (by simp only[List.length_drop,List.length_take];omega)
 |false=>
  refine⟨(fun z=>by cases z),fun _=>⟨r1,true,_,some (-1),none,rfl,e1,hcap,by decide,rfl,fun ra ha=>⟨r1,true,_,none,some (-1),rfl,(AH.set_ne _ _ (ne_of_none ha e1)).trans e1,hcap,rfl,by decide,fun rb hb=>?_⟩⟩⟩
  rw[cut_dm hne]at hb ⊢
  rw[cut_tm hne]
  obtain⟨k1,k2,k3⟩:=two _ ((t.panes.take (t.panes.length-1)).map AV.int) ra rb ha hb
  exact key _ _ ra rb _ k1 k2 k3 rfl (by simp only[List.length_drop,List.length_take];omega)
end
end
section
def toU (x:Int):UInt8:=x.toNat.toUInt8
def digs:Nat→Int→List Int
 |0,_=>[]
 |k+1,r=>if 0<r then(48+r.fmod 10)::digs k (r.fdiv 10)else []
def decL (n:Int):List Int:=(48+n.fmod 10)::digs 10 (n.fdiv 10)
def decB (n:Int):Array UInt8:=((decL n).reverse.map toU).toArray
theorem digs_len:∀{k r},(digs k r).length≤k
 |0,_=>Nat.le_refl _
 |k+1,r=>by
  unfold digs;split
  ·have:=digs_len (k:=k) (r:=r.fdiv 10);simp only[List.length_cons];omega
  ·simp
theorem fmod10 (r:Int):0≤r.fmod 10∧r.fmod 10<10:=⟨Int.fmod_nonneg_of_pos _ (by omega),Int.fmod_lt_of_pos _ (by omega)⟩
theorem digs_rng:∀{k r x},x∈digs k r→0≤x∧x<256
 |0,_,_,h=>by simp[digs]at h
 |k+1,r,x,h=>by
  unfold digs at h;split at h
  ·rcases List.mem_cons.mp h with rfl|h
   ·have:=fmod10 r;omega
   ·exact digs_rng h
  ·simp at h
theorem decL_len {n:Int}:(decL n).length≤11:=by have:=digs_len (k:=10) (r:=n.fdiv 10);simp only[decL,List.length_cons];omega
theorem decB_size {n:Int}:(decB n).size≤11:=by have:=decL_len (n:=n);simp[decB];omega
theorem decL_rng {n x:Int} (h:x∈decL n):0≤x∧x<256:=by
 rcases List.mem_cons.mp h with rfl|h
 ·have:=fmod10 n;omega
 ·exact digs_rng h
def comma:Array UInt8:=#[44]
def headB (w h x y:Int):Array UInt8:=joinB comma [decB w++#[120]++decB h,decB x,decB y]
mutual
def octB:T→Array UInt8
 |.leaf _ w h x y p=>headB w h x y++comma++decB p
 |.node _ r w h x y cs=>if r then headB w h x y++#[123]++joinB comma (octBs cs)++#[125]else headB w h x y++#[91]++joinB comma (octBs cs)++#[93]
def octBs:List T→List (Array UInt8)
 |[]=>[]
 |c::cs=>octB c::octBs cs
end
theorem octBs_eq:∀{cs:List T},octBs cs=cs.map octB
 |[]=>rfl
 |c::cs=>by simp[octBs,octBs_eq (cs:=cs)]
theorem join_size {s:Array UInt8}:∀{l:List (Array UInt8)},(joinB s l).size≤(l.map Array.size).sum+l.length * s.size
 |[]=>by simp[joinB]
 |[x]=>by simp[joinB]
 |x::y::r=>by
  have:=join_size (s:=s) (l:=y::r)
  simp only[joinB,Array.size_append,List.map_cons,List.sum_cons,List.length_cons]at this ⊢
  rw[Nat.add_mul (r.length+1) 1];omega
theorem headB_size {w h x y:Int}:(headB w h x y).size≤50:=by
 have h1:=join_size (s:=comma) (l:=[decB w++#[120]++decB h,decB x,decB y])
 have h2:=decB_size (n:=w)
 have h3:=decB_size (n:=h)
 have h4:=decB_size (n:=x)
 have h5:=decB_size (n:=y)
 simp only[List.map_cons,List.map_nil,List.sum_cons,List.sum_nil,Array.size_append,List.length_cons,List.length_nil]at h1
 have h6:comma.size=1:=rfl
 have h7:(#[120]:Array UInt8).size=1:=rfl
 unfold headB
 rw[h6,h7]at h1
 omega
theorem octB_size:∀{t:T},t.ok→(octB t).size+100≤200 * t.panes.length:=by
 intro t
 induction t using Tr.rec' with
 |step t ih=>
  intro ho
  cases t with
  |leaf a w h x y p=>
   have h1:=headB_size (w:=w) (h:=h) (x:=x) (y:=y)
   have h2:=decB_size (n:=p)
   have h6:comma.size=1:=rfl
   simp only[octB,Array.size_append,Tr.panes_leaf,List.length_cons,List.length_nil,h6];omega
  |node a r w h x y cs=>
   rw[Tr.ok_node]at ho
   have h1:=headB_size (w:=w) (h:=h) (x:=x) (y:=y)
   have h2:=join_size (s:=comma) (l:=octBs cs)
   have h6:comma.size=1:=rfl
   have h3:∀l:List T,(∀c∈l,c∈cs)→((octBs l).map Array.size).sum+100 * l.length≤200 * (l.flatMap Tr.panes).length∧(octBs l).length=l.length:=by
    intro l
    induction l with
    |nil=>intro _;simp[octBs]
    |cons c l ih2=>
     intro h
     have a1:=ih c (h c (.head _)) (ho.2 c (h c (.head _)))
     obtain⟨a2,a3⟩:=ih2 fun c hc=>h c (.tail _ hc)
     simp only[octBs,List.map_cons,List.sum_cons,List.length_cons,List.flatMap_cons,List.length_append];omega
   obtain⟨h4,h5⟩:=h3 cs fun _ h=>h
   rw[h6,h5]at h2
   have k1:(#[123]:Array UInt8).size=1:=rfl
   have k2:(#[125]:Array UInt8).size=1:=rfl
   have k3:(#[91]:Array UInt8).size=1:=rfl
   have k4:(#[93]:Array UInt8).size=1:=rfl
   rw[Tr.panes_node]
   simp only[octB]
   split<;>simp only[Array.size_append,k1,k2,k3,k4]<;>omega
def sumL (l:List Int):Int:=l.foldl (fun a o=>(a.fdiv 2+a % 2 * 2 ^ 15+o) % 65536) 0
def hexI (n s:Int):Int:=((hexB[((n.fdiv (2 ^ s.toNat)) % 16).toNat]?).getD 0).toNat
def hexO (n:Int):Array UInt8:=(([12,8,4,0].map (hexI n)).map toU).toArray
def octs (t:T):Array UInt8:=hexO (sumL (bInts (octB t)))++comma++octB t
section
variable {W:Wd} {n m:Nat} {H:AH} {Q:AV→AH→Prop}
theorem c28 (G:GD W) {v:Int} (hm:1≤m) (h0:0≤v) (h1:v<1000) (q:∀H',Sb H H'→Q (.bytes (decB v)) H'):CallF W 28 [.int v] m H Q:=by
 obtain⟨n,rfl,hn⟩:=pos_of hm
 refine enter G (f28 _) (hb28 _) (ws:=[]) (fun h _=>by simp only[VRs]) rfl ?_
 unfold b28 x28
 walk_at "wp"
 refine⟨_,_,rfl,rfl,fun _=>?_,fun z=>absurd h0 (of_decide_eq_false z)⟩
 simp only[bi_mod,bi_add,bi_fdiv]
 refine⟨by decide,by decide,fun a ha=>⟨by decide,by omega,by decide,?_⟩⟩
 have hv:v.fdiv 10<2 ^ 10∧0≤v.fdiv 10:=by
  rw[Int.fdiv_eq_ediv_of_nonneg _ (by omega)];omega
 refine⟨fun μ ρ H'=>∃(r:Int) (pre:List Int) (k:Nat),μ=r.toNat∧ρ.lookup 7=some (.int v)∧ρ.lookup 23=some (.int r)∧ρ.lookup 24=some (.ref a)∧H' a=some (false,.list (pre.map .int))∧pre++digs k r=decL v∧0≤r∧r<2 ^ k∧k≤10∧Sb H H',
  _,⟨v.fdiv 10,[48+v.fmod 10],10,rfl,rfl,rfl,rfl,AH.set_same _ _ _,rfl,hv.2,hv.1,Nat.le_refl _,.new ha⟩,?_⟩
 rintro μ ρ H' ⟨r,pre,k,rfl,g1,g2,g3,g4,g5,g6,g7,g8,g9⟩
 walk_at "wp"
 simp only[g1,g2,g3,Option.some.injEq,exists_eq_left',bi_mod,bi_add,bi_fdiv]
 have hlen:pre.length≤11:=by
  have:=congrArg List.length g5
  have:=decL_len (n:=v)
  simp only[List.length_append]at *;omega
 refine⟨_,_,rfl,rfl,fun hz=>?_,fun hz=>?_⟩
 ·have hr:¬0<r:=of_decide_eq_false hz
  have e5:pre=decL v:=by
   rw[←g5]
   have:digs k r=[]:=by cases k<;>simp[digs,hr]
   rw[this];simp
  subst e5
  refine⟨_,_,rfl,rfl,fun z=>absurd (of_decide_eq_true z) (by omega),fun _=>?_⟩
  refine⟨a,false,_,rfl,g4,by simp only[List.length_map];unfold cap;omega,fun b hb=>?_⟩
  have e:(H'.set b (.list ((decL v).map AV.int).reverse)) b=some (false,.list ((decL v).reverse.map AV.int)):=by rw[AH.set_same,List.map_reverse]
  exact⟨false,(decL v).reverse,e,fun x hx=>decL_rng (List.mem_reverse.mp hx),by simp only[List.length_reverse];unfold cap;omega,q _ (g9.trans (Sb.new hb))⟩
 ·have hr:0<r:=of_decide_eq_true hz
  have hk:∃k',k=k'+1:=by
   cases k with
   |zero=>simp at g7;omega
   |succ k=>exact⟨k,rfl⟩
  obtain⟨k',rfl⟩:=hk
  refine⟨⟨a,false,_,rfl,g4⟩,by decide,pre.map .int,g4,by simp only[List.length_map];unfold cap;omega,?_⟩
  have hd:=Int.fdiv_eq_ediv_of_nonneg r (b:=10) (by omega)
  have p1:(2:Int) ^ (k'+1)=2 * 2 ^ k':=by rw[Int.pow_succ];omega
  have p2:(2:Int) ^ k'≤2 ^ 10:=by
   have:=Nat.pow_le_pow_right (n:=2) (by omega) (show k'≤10 by omega)
   exact_mod_cast this
  refine⟨by decide,by omega,by decide,_,?_,r.fdiv 10,pre++[48+r.fmod 10],k',rfl,trivial,rfl,trivial,by rw[AH.set_same];simp,?_,by omega,by omega,by omega,fun b f o nn eb _=>(AH.set_ne _ _ (ne_of_none ha eb)).trans (g9 b f o nn eb (by simp))⟩
  ·omega
  ·rw[←g5];simp[digs,hr]
theorem c190 (G:GD W) {b:Array UInt8} (hm:1≤m) (q:Q (.int (sumL (bInts b))) H):CallF W 190 [.bytes b] m H Q:=by
 obtain⟨n,rfl,hn⟩:=pos_of hm
 refine enter G (f190 _) (hb190 _) (ws:=[]) (fun h _=>by simp only[VRs]) rfl ?_
 unfold b190 x190
 walk_at "wp"
 refine for_list (xs:=(bInts b).map .int) trivial (fun pre ρ H'=>H'=H∧∃is:List Int,pre=is.map .int∧ρ.lookup 24=some (.int (sumL is))∧0≤sumL is∧sumL is<65536) ⟨rfl,[],rfl,rfl,by decide,by decide⟩ (fun pre ρ H' _=>rfl) ?_ ?_
 ·rintro pre u suf ρ H' hcs ⟨rfl,is,rfl,g1,g2,g3⟩
  obtain⟨s,c,t,e1,e2,e3,e4⟩:=map_split hcs
  subst e3
  walk_at "wp"
  simp only[g1,Option.some.injEq,exists_eq_left']
  have es:sumL (is++[c])=((sumL is).fdiv 2+sumL is % 2 * 2 ^ 15+c) % 65536:=by simp[sumL]
  refine⟨by decide,by decide,?_⟩
  dsimp only
  rw[bi_band,bitAnd_m1]
  refine⟨by decide,by decide,by omega,?_⟩
  dsimp only
  rw[bi_add,bi_add,bi_band,bitAnd_m16]
  refine⟨rfl,is++[c],by simp,?_,by rw[es];omega,by rw[es];omega⟩
  rw[es];rfl
 ·rintro ρ H' ⟨rfl,is,e,g1,g2,g3⟩
  have:bInts b=is:=by
   have:=congrArg (List.map fun v=>match v with|AV.int i=>i|_=>0) e
   simpa[Function.comp_def]using this
  subst this
  exact⟨_,g1,q⟩
theorem hex_get (k:Int) (h0:0≤k) (h1:k<16):∃c,hexB[k.toNat]?=some c:=by
 have:k.toNat<hexB.size:=by show k.toNat<16;omega
 exact⟨_,Array.getElem?_eq_getElem this⟩
theorem c195 (G:GD W) {v:Int} (hm:1≤m) (q:∀H',Sb H H'→Q (.bytes (hexO v)) H'):CallF W 195 [.int v] m H Q:=by
 obtain⟨n,rfl,hn⟩:=pos_of hm
 refine enter G (f195 _) (hb195 _) (ws:=[]) (fun h _=>by simp only[VRs]) rfl ?_
 unfold b195 x195
 walk_at "wp"
 refine⟨by decide,comp_map (xs:=[.int 12,.int 8,.int 4,.int 0]) (F:=fun u=>match u with|.int s=>.int (hexI v s)|u=>u) trivial (by decide) rfl (fun u hu Q' hq=>?_) fun r hr=>?_⟩
 ·simp only[List.mem_cons,List.not_mem_nil,or_false]at hu
  have key:∀s:Int,0≤s→s<64→Q' (.int (hexI v s)) H→BinR .shr (.int v) (.int s) H fun x H=>BinR .band x (.int 15) H fun y H=>GetI (.bytes #[48,49,50,51,52,53,54,55,56,57,97,98,99,100,101,102]) y H Q':=by
   intro s h0 h1 hq
   refine⟨h0,h1,?_⟩
   dsimp only
   rw[bi_band,bitAnd_m4]
   obtain⟨c,hc⟩:=hex_get ((v.fdiv (2 ^ s.toNat)) % 16) (by omega) (by omega)
   refine⟨by omega,by decide,c,hc,?_⟩
   unfold hexI at hq
   rw[hc]at hq
   exact hq
  rcases hu with rfl|rfl|rfl|rfl<;>walk_at "wp"<;>exact key _ (by decide) (by decide) hq
 ·have e:(H.set r (.list ([AV.int 12,.int 8,.int 4,.int 0].map fun u=>match u with|.int s=>.int (hexI v s)|u=>u))) r=some (false,.list (([12,8,4,0].map (hexI v)).map .int)):=by rw[AH.set_same];rfl
  refine⟨false,_,e,fun x hx=>?_,by simp;decide,q _ (Sb.new hr)⟩
  obtain⟨s,_,rfl⟩:=List.mem_map.mp hx
  unfold hexI
  have:=UInt8.toNat_lt ((hexB[((v.fdiv (2 ^ s.toNat)) % 16).toNat]?).getD 0)
  omega
theorem er_leaf {a:Addr × Addr} {w h x y p:Int}:er (.leaf a w h x y p)=.leaf () w h x y p:=rfl
theorem join_cons {H:AH} {b:Addr} {f:Bool} {l:List (Array UInt8)} (e:H b=some (f,.list (l.map .bytes))) (hs:(joinB comma l).size≤cap) (hl:l.length≤cap) (q:Q (.bytes (joinB comma l)) H):BMeth .join (.bytes #[44]) [.ref b] H Q:=
 ⟨f,l,e,hs,by decide,hl,q⟩
theorem c200 (G:GD W):∀{t:L} {f:Bool} {m:Nat} {H:AH} {Q:AV→AH→Prop},t.dep+2≤m→LR f H t→t.Sm→t.box 64→(∀p∈t.panes,0≤p∧p<1000)→(∀H',Sb H H'→Q (.bytes (octB (er t))) H')→CallF W 200 [.ref t.tag.1] m H Q:=by
 intro t
 induction t using Tr.rec' with
 |step t ih=>
  intro f m H Q hm ht hs hb hp q
  obtain⟨n,rfl,hn⟩:=pos_of hm
  obtain⟨⟨dx,e⟩,el⟩:=ht.nd
  obtain⟨bx,bk⟩:=Tr.box_iff.mp hb
  obtain⟨b1,b2,b3,b4,b5,b6,b7,b8⟩:=bx
  refine enter G (f200 _) (hb200 _) (ws:=[]) (fun h _=>by simp only[VRs]) rfl ?_
  unfold b200 x200
  walk_at "wp"
  rw[gw e]
  refine c28 G (by omega) (by omega) (by omega) fun H1 s1=>?_
  rw[bi_bytes]
  have z1:=decB_size (n:=t.w)
  have z2:=decB_size (n:=t.h)
  have z3:=decB_size (n:=t.x)
  have z4:=decB_size (n:=t.y)
  refine⟨by simp;unfold cap;omega,?_⟩
  rw[gh (s1.inst e)]
  refine c28 G (by omega) (by omega) (by omega) fun H2 s2=>?_
  rw[bi_bytes]
  refine⟨by simp;unfold cap;omega,⟨_,rfl⟩,?_⟩
  have S2:=s1.trans s2
  rw[gx (S2.inst e (by simp))]
  refine c28 G (by omega) (by omega) (by omega) fun H3 s3=>?_
  have S3:Sb H H3:=S2.trans s3
  rw[gy (S3.inst e)]
  refine c28 G (by omega) (by omega) (by omega) fun H4 s4=>⟨by decide,fun r5 hr5=>?_⟩
  have S4:Sb H H4:=S3.trans s4
  have s5:Sb H4 (H4.set r5 (.list [.bytes (decB t.w++#[120]++decB t.h),.bytes (decB t.x),.bytes (decB t.y)])):=.new hr5
  have hh:=headB_size (w:=t.w) (h:=t.h) (x:=t.x) (y:=t.y)
  refine join_cons (l:=[decB t.w++#[120]++decB t.h,decB t.x,decB t.y]) (AH.set_same _ _ _) (by unfold headB at hh;unfold cap;omega) (by simp[cap]) ?_
  have eh:joinB comma [decB t.w++#[120]++decB t.h,decB t.x,decB t.y]=headB t.w t.h t.x t.y:=rfl
  rw[eh]
  have S5:Sb H (H4.set r5 (.list [.bytes (decB t.w++#[120]++decB t.h),.bytes (decB t.x),.bytes (decB t.y)])):=S4.trans s5
  generalize H4.set r5 (.list [.bytes (decB t.w++#[120]++decB t.h),.bytes (decB t.x),.bytes (decB t.y)])=H5 at S5
  rw[gk (S5.inst e),aeq_str]
  cases t with
  |leaf a w h x y p=>
   refine⟨fun _=>?_,fun hk=>absurd rfl (of_decide_eq_false hk)⟩
   rw[bi_bytes]
   refine⟨by simp;unfold cap;omega,?_⟩
   rw[gp (S5.inst e)]
   have hpp:=hp p (by simp[Tr.panes_leaf])
   have z5:=decB_size (n:=p)
   refine c28 G (by omega) hpp.1 hpp.2 fun H6 s6=>?_
   rw[bi_bytes]
   exact⟨by simp only[Array.size_append];have:(#[44]:Array UInt8).size=1:=rfl;unfold cap;omega,q _ (S5.trans s6)⟩
  |node a k w h x y cs=>
   refine⟨fun hk=>absurd (of_decide_eq_true hk) (kd_ne k),fun _=>⟨⟨_,rfl⟩,?_⟩⟩
   rw[gl (S5.inst e)]
   refine comp_on (g:=rf) (cs:=cs) (cap_le20 hs.kids) (fun pre out H'=>out=pre.map (fun c=>.bytes (octB (er c)))∧Sb H H') ⟨rfl,S5⟩ ?_ ?_ ?_
   ·rintro pre out H' ⟨rfl,h1⟩
    exact⟨⟨f,h1.list el⟩,by simp⟩
   ·rintro pre u suf out H' hcs ⟨rfl,h1⟩
    have hu:u∈(Tr.node a k w h x y cs).cs:=by rw[hcs];simp[Tr.cs]
    walk_at "wp"
    exact ih u hu (by have:=Tr.dep_kid hu;omega) ((ht.kid hu).sb h1) (hs.kid hu) (bk u hu) (fun p' hp'=>hp p' (by rw[Tr.panes_node];exact List.mem_flatMap.mpr ⟨u,hu,hp'⟩)) fun H'' k1=>⟨by simp,h1.trans k1⟩
   ·rintro out H' ⟨rfl,h1⟩ r hr
    have k1:Sb H' (H'.set r (.list (cs.map fun c=>.bytes (octB (er c))))):=.new hr
    have S6:Sb H (H'.set r (.list (cs.map fun c=>.bytes (octB (er c))))):=h1.trans k1
    have ho:(er (.node a k w h x y cs)).ok:=Tr.map_ok.mpr hs.ok
    have hsz:=octB_size ho
    rw[er_panes]at hsz
    have hpl:=hs.len
    have he:octB (er (.node a k w h x y cs))=if k then headB w h x y++#[123]++joinB comma ((cs.map er).map octB)++#[125]else headB w h x y++#[91]++joinB comma ((cs.map er).map octB)++#[93]:=by
     rw[er_node,octB,octBs_eq]
    have hj:(joinB comma ((cs.map er).map octB)).size≤4000:=by
     rw[he]at hsz
     split at hsz<;>simp only[Array.size_append]at hsz<;>omega
    refine join_cons (f:=false) (l:=(cs.map er).map octB) (by rw[AH.set_same];simp[Function.comp_def]) (by unfold cap;omega) (by simp only[List.length_map];exact cap_le20 hs.kids) ?_
    rw[gk (S6.inst e),aeq_str]
    have hkr:decide ((Tr.node a k w h x y cs).kind=Str.ofString "row")=k:=kd_row k
    rw[hkr]
    simp only[bi_bytes]
    have hw':headB (Tr.node a k w h x y cs).w (Tr.node a k w h x y cs).h (Tr.node a k w h x y cs).x (Tr.node a k w h x y cs).y=headB w h x y:=rfl
    rw[hw']at hh ⊢
    have y1:(#[123]:Array UInt8).size=1:=rfl
    have y2:(#[125]:Array UInt8).size=1:=rfl
    have y3:(#[91]:Array UInt8).size=1:=rfl
    have y4:(#[93]:Array UInt8).size=1:=rfl
    have qq:=q _ S6
    rw[he]at qq
    refine⟨fun hk=>?_,fun hk=>?_⟩
    ·rw[if_pos hk]at qq
     exact⟨by simp only[y1];unfold cap;omega,by simp only[Array.size_append,y1];unfold cap;omega,by simp only[Array.size_append,y1,y2];unfold cap;omega,qq⟩
    ·rw[if_neg (by simp[hk])]at qq
     exact⟨by simp only[y3];unfold cap;omega,by simp only[Array.size_append,y3];unfold cap;omega,by simp only[Array.size_append,y3,y4];unfold cap;omega,qq⟩
theorem c207 (G:GD W) {t:L} {f:Bool} (hm:40≤m) (ht:LR f H t) (hf:(er t).Fine) (hb:t.box 64) (hp:∀p∈t.panes,0≤p∧p<1000) (q:∀H',Sb H H'→Q (.bytes (octs (er t))) H'):CallF W 207 [.ref t.tag.1] m H Q:=by
 obtain⟨n,rfl,hn⟩:=pos_of (show 39+1≤m from hm)
 have hsm:t.Sm:=er_sm.mp hf.sm
 have hdep:=hsm.dep
 refine enter G (f207 _) (hb207 _) (ws:=[]) (fun h _=>by simp only[VRs]) rfl ?_
 unfold b207 x207
 walk_at "wp"
 refine c200 G (by omega) ht hsm hb hp fun H1 s1=>?_
 refine c190 G (by omega) ?_
 refine c195 G (by omega) fun H2 s2=>?_
 have hsz:=octB_size hf.ok
 have hl:=hf.sm.len
 have y1:(#[44]:Array UInt8).size=1:=rfl
 have y2:(hexO (sumL (bInts (octB (er t))))).size=4:=rfl
 simp only[bi_bytes]
 exact⟨by simp only[y1,y2];unfold cap;omega,by simp only[Array.size_append,y1,y2];unfold cap;omega,q _ (s1.trans s2)⟩
end
end
section
structure Win where
 tr:T
 act:Int
 last:Option Int
 zoom:Bool
def pfl (n r c:Int):List (Nat × AV):=[(7,.int n),(8,.none),(9,.int r),(10,.int c),(11,.int 0),(12,.bytes #[]),(13,.bool false),(14,.none)]
def wfl (num:Int) (nm:Array UInt8) (lp act:Addr) (last:AV) (lay:Addr) (z:Bool):List (Nat × AV):=
 [(7,.int num),(15,.bytes nm),(16,.ref lp),(17,.ref act),(18,last),(19,.ref lay),(20,.bool z),(21,.bool false),(22,.bool false),(14,.none)]
def lastV (pa:Int→Addr):Option Int→AV
 |none=>.none
 |some p=>.ref (pa p)
def PN (H:AH) (pa:Int→Addr) (n:Int) (sz:Int × Int):Prop:=∃dx,H (pa n)=some (false,.inst 239 dx (pfl n sz.1 sz.2))
def RO (f:Bool) (H:AH) (pa:Int→Addr) (r:Addr) (num:Int) (v:Win) (t:L) (ps:List Int):Prop:=
 (∃dx nm lp,H r=some (false,.inst 420 dx (wfl num nm lp (pa v.act) (lastV pa v.last) t.tag.1 v.zoom))∧H lp=some (f,.list (ps.map fun n=>.ref (pa n))))∧LR true H t∧er t=v.tr
def RW (H:AH) (pa:Int→Addr) (r:Addr) (num:Int) (v:Win):Prop:=∃t,RO true H pa r num v t v.tr.panes
def leafSz (t:T) (n:Int):Int × Int:=match t.leaves.find? fun u=>u.pane==n with
 |some u=>(u.h,u.w)
 |none=>(0,0)
def szOf (v:Win) (n:Int):Int × Int:=if v.zoom&&n==v.act then(v.tr.h,v.tr.w)else leafSz v.tr n
structure FW (H:AH) (pa:Int→Addr) (r:Addr) (num:Int) (v:Win):Prop where
 rw:RW H pa r num v
 sz:∀n∈v.tr.panes,PN H pa n (szOf v n)
structure WOK (v:Win):Prop where
 fine:v.tr.Fine
 nd:v.tr.panes.Nodup
 act:v.act∈v.tr.panes
 last:∀l,v.last=some l→l∈v.tr.panes
 rng:∀p∈v.tr.panes,0≤p∧p<1000
theorem PN.inj {H:AH} {pa:Int→Addr} {n k:Int} {s s':Int × Int} (h:PN H pa n s) (h':PN H pa k s') (e:pa n=pa k):n=k:=by
 obtain⟨dx,h⟩:=h
 obtain⟨dx',h'⟩:=h'
 rw[e,h']at h
 simp[pfl]at h
 exact h.2.1.symm
def Mu (H:AH) (X:List Addr):Prop:=∀a∈X,∃o,H a=some (false,o)
theorem Mu.nil {H:AH}:Mu H []:=fun _ h=>by cases h
theorem Mu.cons {H:AH} {a:Addr} {o:AO} {X:List Addr} (e:H a=some (false,o)) (h:Mu H X):Mu H (a::X):=fun b hb=>by
 rcases List.mem_cons.mp hb with rfl|hb
 ·exact⟨o,e⟩
 ·exact h b hb
theorem Mu.append {H:AH} {X Y:List Addr} (h:Mu H X) (k:Mu H Y):Mu H (X++Y):=fun a ha=>by
 rcases List.mem_append.mp ha with q|q
 ·exact h a q
 ·exact k a q
theorem Mu.out {H:AH} {X:List Addr} (h:Mu H X) {a:Addr} {o:AO} (e:H a=some (true,o)):a∉X:=fun z=>by
 obtain⟨o',e'⟩:=h a z
 rw[e]at e';cases e'
theorem LR.mu {H H':AH} {X:List Addr} {t:L} (h:LR true H t) (k:Ex X H H') (m:Mu H X):LR true H' t:=h.ex k fun a ha hz=>by
 obtain⟨o,e,_⟩:=h.some a ha
 exact m.out e hz
theorem Ex.fz {H H':AH} {X:List Addr} (k:Ex X H H') (m:Mu H X) {a:Addr} {o:AO} (n:no o) (e:H a=some (true,o)):H' a=some (true,o):=k a _ _ n e (m.out e)
theorem PN.ex {H H':AH} {X:List Addr} {pa:Int→Addr} {n:Int} {s:Int × Int} (h:PN H pa n s) (k:Ex X H H') (q:pa n∉X):PN H' pa n s:=let ⟨dx,e⟩:=h;⟨dx,k.inst e q⟩
theorem PN.sb {H H':AH} {pa:Int→Addr} {n:Int} {s:Int × Int} (h:PN H pa n s) (k:Sb H H'):PN H' pa n s:=h.ex k (by simp)
theorem PN.own {H:AH} {pa:Int→Addr} {n:Int} {s:Int × Int} (h:PN H pa n s):∃p,H (pa n)=some p∧p.2≠.opq:=let ⟨dx,e⟩:=h;⟨_,e,fun z=>by cases z⟩
theorem PN.mu {H:AH} {pa:Int→Addr} {ns:List Int} (h:∀n∈ns,∃s,PN H pa n s):Mu H (ns.map pa):=fun a ha=>by
 obtain⟨n,hn,rfl⟩:=List.mem_map.mp ha
 obtain⟨s,dx,e⟩:=h n hn
 exact⟨_,e⟩
theorem pa_out {H:AH} {pa:Int→Addr} {ns:List Int} {n:Int} {s:Int × Int} (h:PN H pa n s) (hs:∀n∈ns,∃s,PN H pa n s) (hn:n∉ns):pa n∉ns.map pa:=fun z=>by
 obtain⟨k,hk,e⟩:=List.mem_map.mp z
 obtain⟨s',h'⟩:=hs k hk
 exact hn (h.inj h' e.symm▸hk)
theorem RO.ex {f:Bool} {H H':AH} {X:List Addr} {pa:Int→Addr} {r:Addr} {num:Int} {v:Win} {t:L} {ps:List Int} (h:RO f H pa r num v t ps) (k:Ex X H H') (m:Mu H X) (hr:r∉X) (hf:f=true∨∀a∈X,∀vs,H a≠some (f,.list vs)):RO f H' pa r num v t ps:=by
 obtain⟨⟨dx,nm,lp,e1,e2⟩,h2,h3⟩:=h
 refine⟨⟨dx,nm,lp,k.inst e1 hr,k.list e2 fun z=>?_⟩,h2.mu k m,h3⟩
 rcases hf with rfl|hf
 ·exact m.out e2 z
 ·exact hf lp z _ e2
theorem RW.ex {H H':AH} {X:List Addr} {pa:Int→Addr} {r:Addr} {num:Int} {v:Win} (h:RW H pa r num v) (k:Ex X H H') (m:Mu H X) (hr:r∉X):RW H' pa r num v:=
 let ⟨t,h⟩:=h;⟨t,h.ex k m hr (.inl rfl)⟩
theorem RW.sb {H H':AH} {pa:Int→Addr} {r:Addr} {num:Int} {v:Win} (h:RW H pa r num v) (k:Sb H H'):RW H' pa r num v:=h.ex k .nil (by simp)
theorem win_out {f:Bool} {H:AH} {pa:Int→Addr} {r:Addr} {num:Int} {v:Win} {t:L} {ps ns:List Int} (h:RO f H pa r num v t ps) (hs:∀n∈ns,∃s,PN H pa n s):r∉ns.map pa:=fun z=>by
 obtain⟨k,hk,e⟩:=List.mem_map.mp z
 obtain⟨s,dx,e'⟩:=hs k hk
 obtain⟨⟨dx',nm,lp,e1,_⟩,_⟩:=h
 rw[e,e1]at e';cases e'
theorem FW.ex {H H':AH} {X:List Addr} {pa:Int→Addr} {r:Addr} {num:Int} {v:Win} (h:FW H pa r num v) (k:Ex X H H') (m:Mu H X) (hr:r∉X) (hp:∀n∈v.tr.panes,pa n∉X):FW H' pa r num v:=
 ⟨h.rw.ex k m hr,fun n hn=>(h.sz n hn).ex k (hp n hn)⟩
theorem FW.sb {H H':AH} {pa:Int→Addr} {r:Addr} {num:Int} {v:Win} (h:FW H pa r num v) (k:Sb H H'):FW H' pa r num v:=h.ex k .nil (by simp) (by simp)
section
variable {W:Wd} {n m:Nat} {H:AH} {Q:AV→AH→Prop} {QS:AH→Prop}
section
variable {a:Addr} {b:Bool} {dx:Addr} {k r c:Int} (e:H a=some (b,.inst 239 dx (pfl k r c)))
include e
theorem gpn:GetA W (.ref a) 7 n H Q=Q (.int k) H:=g_attr e (by decide) rfl (by decide)
theorem gpt:GetA W (.ref a) 8 n H Q=Q .none H:=g_attr e (by decide) rfl (by decide)
theorem gpr:GetA W (.ref a) 9 n H Q=Q (.int r) H:=g_attr e (by decide) rfl (by decide)
theorem gpc:GetA W (.ref a) 10 n H Q=Q (.int c) H:=g_attr e (by decide) rfl (by decide)
end
section
variable {a:Addr} {b:Bool} {dx lp act lay:Addr} {num:Int} {nm:Array UInt8} {last:AV} {z:Bool} (e:H a=some (b,.inst 420 dx (wfl num nm lp act last lay z)))
include e
theorem gwn:GetA W (.ref a) 7 n H Q=Q (.int num) H:=g_attr e (by decide) rfl (by decide)
theorem gwp:GetA W (.ref a) 16 n H Q=Q (.ref lp) H:=g_attr e (by decide) rfl (by decide)
theorem gwa:GetA W (.ref a) 17 n H Q=Q (.ref act) H:=g_attr e (by decide) rfl (by decide)
theorem gwl:GetA W (.ref a) 18 n H Q=Q last H:=g_attr e (by decide) rfl (by decide)
theorem gwt:GetA W (.ref a) 19 n H Q=Q (.ref lay) H:=g_attr e (by decide) rfl (by decide)
theorem gwz:GetA W (.ref a) 20 n H Q=Q (.bool z) H:=g_attr e (by decide) rfl (by decide)
end
section
variable {a:Addr} {dx lp act lay x:Addr} {num:Int} {nm:Array UInt8} {last u:AV} {z z':Bool} (e:H a=some (false,.inst 420 dx (wfl num nm lp act last lay z)))
include e
theorem swp:SetA (.ref a) 16 (.ref x) H QS=QS (H.set a (.inst 420 dx (wfl num nm x act last lay z))):=s_attr e (by decide) (by simp[wfl])
theorem swa:SetA (.ref a) 17 (.ref x) H QS=QS (H.set a (.inst 420 dx (wfl num nm lp x last lay z))):=s_attr e (by decide) (by simp[wfl])
theorem swl:SetA (.ref a) 18 u H QS=QS (H.set a (.inst 420 dx (wfl num nm lp act u lay z))):=s_attr e (by decide) (by simp[wfl])
theorem swt:SetA (.ref a) 19 (.ref x) H QS=QS (H.set a (.inst 420 dx (wfl num nm lp act last x z))):=s_attr e (by decide) (by simp[wfl])
theorem swz:SetA (.ref a) 20 (.bool z') H QS=QS (H.set a (.inst 420 dx (wfl num nm lp act last lay z'))):=s_attr e (by decide) (by simp[wfl])
end
theorem c250 (G:GD W) {l:Addr} {f:Bool} {pa:Int→Addr} {ns:List Int} {k:Int} (hm:1≤m) (el:H l=some (f,.list (ns.map fun n=>.ref (pa n)))) (hp:∀n∈ns,∃s,PN H pa n s) (q:Q (if k∈ns then .ref (pa k)else .none) H):CallF W 250 [.ref l,.int k] m H Q:=by
 obtain⟨n,rfl,hn⟩:=pos_of hm
 refine enter G (f250 _) (hb250 _) (ws:=[]) (fun h _=>by simp only[VRs]) rfl ?_
 unfold b250 x250
 walk_at "wp"
 refine for_map (g:=fun n=>.ref (pa n)) (cs:=ns) (fun pre ρ H'=>H'=H∧ρ.lookup 7=some (.int k)∧k∉pre) ⟨rfl,rfl,by simp⟩ (fun pre ρ H' hJ=>⟨f,by rw[hJ.1];exact el⟩) ?_ ?_
 ·rintro pre u suf ρ H' hcs ⟨rfl,h2,h3⟩
  obtain⟨s,dx,e⟩:=hp u (by rw[hcs];simp)
  walk_at "wp"
  simp only[h2,Option.some.injEq,exists_eq_left']
  rw[gpn e,aeq_ii]
  refine⟨fun hk=>?_,fun hk=>⟨rfl,trivial,?_⟩⟩
  ·have hk:u=k:=by simpa using hk
   subst hk
   rwa [if_pos (by rw[hcs];simp)]at q
  ·have hk:u≠k:=by simpa using hk
   simp only[List.mem_append,List.mem_singleton,not_or]
   exact⟨h3,fun z=>hk z.symm⟩
 ·rintro ρ H' ⟨rfl,h2,h3⟩
  rwa [if_neg h3]at q
theorem c301 (G:GD W) {f:Bool} {pa:Int→Addr} {r:Addr} {num p:Int} {v:Win} {t:L} {ps:List Int} (hm:2≤m) (hR:RO f H pa r num v t ps) (hps:∀n∈ps,∃s,PN H pa n s) (hp:∃s,PN H pa p s) (q:Q (.bool (decide (p∈ps))) H):CallF W 301 [.ref r,.ref (pa p)] m H Q:=by
 obtain⟨n,rfl,hn⟩:=pos_of hm
 obtain⟨⟨dx,nm,lp,e1,e2⟩,_⟩:=hR
 obtain⟨s,dxp,ep⟩:=hp
 refine enter G (f301 _) (hb301 _) (ws:=[]) (fun h _=>by simp only[VRs]) rfl ?_
 unfold b301 x301
 walk_at "wp"
 rw[gwp e1,gpn ep]
 refine c250 G hn e2 hps ?_
 by_cases h:p∈ps
 ·rw[if_pos h]
  refine⟨true,by simp[ais],⟨⟨_,ep,fun z=>by cases z⟩,_,ep⟩,?_⟩
  simpa[h]using q
 ·rw[if_neg h]
  exact⟨false,rfl,trivial,by simpa[h]using q⟩
theorem c229 (G:GD W) {pa:Int→Addr} {p a b:Int} (hm:1≤m) (hp:∃s,PN H pa p s) (q:∀v H',Ex [pa p] H H'→PN H' pa p (a,b)→Q v H'):CallF W 229 [.ref (pa p),.int a,.int b] m H Q:=by
 obtain⟨n,rfl,hn⟩:=pos_of hm
 obtain⟨s,dx,e⟩:=hp
 refine enter G (f229 _) (hb229 _) (ws:=[]) (fun h _=>by simp only[VRs]) rfl ?_
 unfold b229 x229
 walk_at "wp"
 refine⟨by decide,?_⟩
 rw[gpr e,gpc e]
 refine⟨by decide,?_⟩
 refine⟨_,rfl,fun h=>?_,fun h=>?_⟩
 ·have h:a=s.1∧b=s.2:=by simpa using h
  exact q _ H .refl ⟨dx,by rw[e,h.1,h.2]⟩
 ·refine⟨by decide,?_⟩
  rw[s_attr e (by decide) (by simp[pfl])]
  have e2:(H.set (pa p) (.inst 239 dx (put (pfl p s.1 s.2) 9 (.int a)))) (pa p)=some (false,.inst 239 dx (pfl p a s.2)):=AH.set_same _ _ _
  rw[s_attr e2 (by decide) (by simp[pfl]),AH.set_set]
  have e3:(H.set (pa p) (.inst 239 dx (put (pfl p a s.2) 10 (.int b)))) (pa p)=some (false,.inst 239 dx (pfl p a b)):=AH.set_same _ _ _
  rw[gpt e3]
  refine⟨true,rfl,trivial,(fun z=>by cases z),fun _=>?_⟩
  exact q _ _ Ex.put ⟨dx,e3⟩
theorem find_leaf {α:Type}:∀{us:List (Tr α)} {u:Tr α},(us.map Tr.pane).Nodup→u∈us→us.find? (fun c=>c.pane==u.pane)=some u
 |[],_,_,h=>by cases h
 |c::us,u,nd,h=>by
  rw[List.map_cons,List.nodup_cons]at nd
  rcases List.mem_cons.mp h with rfl|h
  ·simp
  ·have hne:c.pane≠u.pane:=fun z=>nd.1 (z▸List.mem_map.mpr ⟨u,h,rfl⟩)
   rw[List.find?_cons_of_neg (by simpa using hne)]
   exact find_leaf nd.2 h
theorem leafSz_er {t:L} {u:L} (nd:t.panes.Nodup) (hu:u∈t.leaves):leafSz (er t) u.pane=(u.h,u.w):=by
 unfold leafSz
 have hl:(er t).leaves=t.leaves.map er:=Tr.map_leaves
 have hp:∀c:L,(er c).pane=c.pane:=fun c=>Tr.map_pane
 have nd':((er t).leaves.map Tr.pane).Nodup:=by
  have:(er t).panes.Nodup:=by rw[er_panes];exact nd
  exact this
 have:=find_leaf nd' (u:=er u) (by rw[hl];exact List.mem_map.mpr ⟨u,hu,rfl⟩)
 rw[hp]at this
 rw[this]
 exact Prod.ext Tr.map_h Tr.map_w
theorem c287 (G:GD W) {f:Bool} {pa:Int→Addr} {r:Addr} {num:Int} {v:Win} {t:L} (hm:30≤m) (hR:RO f H pa r num v t v.tr.panes) (hps:∀n∈v.tr.panes,∃s,PN H pa n s) (ha:∃s,PN H pa v.act s) (hsm:v.tr.Sm) (nd:v.tr.panes.Nodup)
  (q:∀H',Ex (v.tr.panes.map pa) H H'→(∀n∈v.tr.panes,PN H' pa n (szOf v n))→Q .none H'):CallF W 287 [.ref r] m H Q:=by
 obtain⟨n,rfl,hn⟩:=pos_of (show 29+1≤m from hm)
 obtain⟨⟨dx,nm,lp,e1,e2⟩,hL,he⟩:=id hR
 have hst:t.Sm:=er_sm.mp (he▸hsm)
 have ept:t.panes=v.tr.panes:=by rw[←he,er_panes]
 have ndt:t.panes.Nodup:=by rw[ept];exact nd
 refine enter G (f287 _) (hb287 _) (ws:=[]) (fun h _=>by simp only[VRs]) rfl ?_
 unfold b287 x287
 walk_at "wp"
 rw[gwt e1]
 refine c68z G (by have:=hst.dep;omega) hL hst fun rl H1 s1 el=>?_
 have P1:∀n∈v.tr.panes,∃s,PN H1 pa n s:=fun n hn=>let ⟨s,h⟩:=hps n hn;⟨s,h.sb s1⟩
 have M1:Mu H1 (v.tr.panes.map pa):=PN.mu P1
 have R1:RO f H1 pa r num v t v.tr.panes:=hR.ex s1 .nil (by simp) (.inr fun a ha=>by cases ha)
 have nli:∀a∈v.tr.panes.map pa,∀vs,H1 a≠some (f,.list vs):=fun a ha vs z=>by
  obtain⟨k,hk,rfl⟩:=List.mem_map.mp ha
  obtain⟨s,dx,e⟩:=P1 k hk
  rw[z]at e;cases e
 have hszv:∀u∈t.leaves,szOf v u.pane=if v.zoom&&u.pane==v.act then(t.h,t.w)else(u.h,u.w):=fun u hu=>by
  unfold szOf
  rw[←he,leafSz_er ndt hu]
  have h1:(er t).h=t.h:=Tr.map_h
  have h2:(er t).w=t.w:=Tr.map_w
  rw[h1,h2]
 have hpm:∀u∈t.leaves,u.pane∈v.tr.panes:=fun u hu=>by rw[←ept];exact List.mem_map.mpr ⟨u,hu,rfl⟩
 refine for_map (g:=rf) (cs:=t.leaves) (fun pre ρ H'=>ρ.lookup 71=some (.ref r)∧Ex (v.tr.panes.map pa) H1 H'∧(∀n∈v.tr.panes,∃s,PN H' pa n s)∧(∃s,PN H' pa v.act s)∧∀u∈pre,PN H' pa u.pane (szOf v u.pane))
  ⟨rfl,.refl,P1,let ⟨s,h⟩:=ha;⟨s,h.sb s1⟩,by simp⟩ (fun pre ρ H' hJ=>⟨true,hJ.2.1.fz M1 no_list el⟩) ?_ ?_
 ·rintro pre u suf ρ H' hcs ⟨h1,h2,h3,h4,h5⟩
  have hu:u∈t.leaves:=by rw[hcs];simp
  have R2:=R1.ex h2 M1 (win_out R1 P1) (.inr nli)
  obtain⟨⟨dx2,nm2,lp2,e3,e4⟩,hL2,_⟩:=id R2
  obtain⟨a,w,h,x,y,p,rfl,hLu⟩:=hL2.leaf hu
  obtain⟨⟨dxu,eu⟩,_⟩:=hLu.nd
  obtain⟨⟨dxt,et⟩,_⟩:=hL2.nd
  have hpv:p∈v.tr.panes:=hpm _ hu
  obtain⟨sp,hpp⟩:=h3 p hpv
  obtain⟨sa,hpa⟩:=h4
  walk_at "wp"
  simp only[h1,Option.some.injEq,exists_eq_left']
  simp only[rf]
  rw[gwp e3,gp eu]
  refine c250 G (by omega) e4 h3 ?_
  rw[if_pos hpv,gwz e3]
  have hand:∀(s1 s2:Int),szOf v p=(s1,s2)→CallF W 229 [.ref (pa p),.int s1,.int s2] n H' fun _ H=>True∧Ex (v.tr.panes.map pa) H1 H∧(∀n∈v.tr.panes,∃s,PN H pa n s)∧(∃s,PN H pa v.act s)∧∀u∈pre++[Tr.leaf a w h x y p],PN H pa u.pane (szOf v u.pane):=by
   intro a1 a2 hs
   refine c229 G (by omega) ⟨sp,hpp⟩ fun _ H2 k2 p2=>?_
   have keep:∀k,k≠p→∀s,PN H' pa k s→PN H2 pa k s:=fun k hk s hks=>hks.ex k2 fun z=>hk (hks.inj hpp (List.mem_singleton.mp z))
   refine⟨trivial,h2.trans (k2.mono fun b hb=>by rw[List.mem_singleton.mp hb];exact List.mem_map.mpr ⟨p,hpv,rfl⟩),fun k hk=>?_,?_,fun u' hu'=>?_⟩
   ·by_cases hkp:k=p
    ·subst hkp;exact⟨_,p2⟩
    ·obtain⟨s,hs⟩:=h3 k hk
     exact⟨s,keep k hkp s hs⟩
   ·by_cases hkp:v.act=p
    ·rw[hkp];exact⟨_,p2⟩
    ·exact⟨sa,keep _ hkp sa hpa⟩
   ·rcases List.mem_append.mp hu' with hu'|hu'
    ·by_cases hkp:u'.pane=p
     ·rw[hkp,hs];exact p2
     ·exact keep _ hkp _ (h5 u' hu')
    ·rw[List.mem_singleton.mp hu']
     show PN H2 pa p (szOf v p)
     rw[hs];exact p2
  obtain⟨dxp,ep⟩:=id hpp
  obtain⟨dxa,ea⟩:=id hpa
  have hsz:=hszv _ hu
  have hpane:(Tr.leaf a w h x y p:L).pane=p:=rfl
  rw[hpane]at hsz
  have small:(v.zoom&&p==v.act)=false→∃a1 f C dx fs g,AV.ref (pa p)=.ref a1∧H' a1=some (f,.inst C dx fs)∧mtab.lookup (C,82)=some g∧fs.lookup 82=none∧GetA W (.ref (Tr.leaf a w h x y p).tag.1) 2 n H' fun v1 H=>GetA W (.ref (Tr.leaf a w h x y p).tag.1) 1 n H fun v2 H=>CallF W g [.ref (pa p),v1,v2] n H fun _ H=>
    True∧Ex (v.tr.panes.map pa) H1 H∧(∀n∈v.tr.panes,∃s,PN H pa n s)∧(∃s,PN H pa v.act s)∧∀u∈pre++[Tr.leaf a w h x y p],PN H pa u.pane (szOf v u.pane):=fun hc=>by
   refine⟨pa p,_,_,_,_,229,rfl,ep,rfl,rfl,?_⟩
   rw[gh eu,gw eu]
   refine hand _ _ ?_
   rw[hsz,hc];rfl
  refine⟨_,rfl,fun hz=>⟨(fun z=>by cases z),fun _=>small (by rw[hz];rfl)⟩,fun hz=>?_⟩
  rw[gwa e3]
  refine⟨_,rfl,⟨⟨_,ep,fun z=>by cases z⟩,_,ea⟩,fun hd=>?_,fun hd=>?_⟩
  ·have hd:=of_decide_eq_true hd
   have hpact:p=v.act:=PN.inj hpp hpa hd
   refine⟨pa p,_,_,_,_,229,rfl,ep,rfl,rfl,?_⟩
   rw[gwt e3,gh et,gwt e3,gw et]
   refine hand _ _ ?_
   rw[hsz,hz,hpact];simp
  ·have hd:=of_decide_eq_false hd
   have hpact:p≠v.act:=fun z=>hd (by rw[z])
   exact small (by simp[hpact])
 ·rintro ρ H' ⟨h1,h2,h3,h4,h5⟩
  refine q H' (s1.ex.trans h2) fun n hn=>?_
  rw[←ept]at hn
  obtain⟨u,hu,rfl⟩:=List.mem_map.mp hn
  exact h5 u hu
end
end
section
theorem lp_eq {f:Bool} {H:AH} {pa:Int→Addr} {lp:Addr} {ps:List Int} (e:H lp=some (f,.list (ps.map fun n=>.ref (pa n)))) {H':AH} (k:Sb H H'):H' lp=some (f,.list (ps.map fun n=>.ref (pa n))):=k.list e
theorem fz_exw {X as:List Addr} {H H':AH} (k:Ex X H H') (h:Nw H as):Ex X H (fz as H'):=fun a f o n e hx=>fz_out n (k a f o n e hx) fun z=>h a z f o n e
theorem Nw.ex {X as:List Addr} {H H':AH} (k:Ex X H H') (hx:∀a∈as,a∉X) (h:Nw H' as):Nw H as:=fun a ha f o n e=>h a ha f o n (k a f o n e (hx a ha))
theorem fz_le {as:List Addr} {H:AH}:Le H (fz as H):=fun a o e=>frz_true e
theorem PN.fz {as:List Addr} {H:AH} {pa:Int→Addr} {n:Int} {s:Int × Int} (h:PN H pa n s) (q:pa n∉as):PN (Mine.fz as H) pa n s:=let ⟨dx,e⟩:=h;⟨dx,fz_out no_inst e q⟩
def OB (H:AH) (pa:Int→Addr) (r:Addr) (num:Int) (lp:Addr) (a:Int) (l:Option Int) (lay:Addr) (z:Bool):Prop:=∃dx nm,H r=some (false,.inst 420 dx (wfl num nm lp (pa a) (lastV pa l) lay z))
section
variable {W:Wd} {n m:Nat} {H:AH} {Q:AV→AH→Prop} {QS:AH→Prop}
theorem lay_body (G:GD W) {pa:Int→Addr} {r lp lay:Addr} {num a:Int} {l:Option Int} {z:Bool} {ps ms:List Int} {t:L} {mv:AV} {QS:Rho→AH→Prop} (hn:35≤n) (hO:OB H pa r num lp a l lay z) (hlp:H lp=some (true,.list (ps.map fun n=>.ref (pa n))))
  (hmv:∀Q':AV→AH→Prop,(∀rr,H rr=none→Q' (.ref rr) (H.set rr (.list (ms.map fun n=>.ref (pa n)))))→BFun .list [mv] H Q')
  (hL:LR true H t) (hsm:t.Sm) (nd:t.panes.Nodup) (hk:∀n∈t.panes,n∈ps++ms) (hp:∀n∈ps++ms,∃s,PN H pa n s) (ha:∃s,PN H pa a s) (hl:ps.length+ms.length≤100)
  (q:∀H',Ex (r::t.panes.map pa) H H'→FW H' pa r num ⟨er t,a,l,false⟩→Q .none H') (hQS:∀ρ H',(∃as:List Addr,Q .none (fz as H'))→QS ρ H') :
  wpB W n b294 (x294.zip [.ref r,.ref t.tag.1,mv]) H QS fun v H=>∃as:List Addr,Q v (fz as H):=by
 obtain⟨dx,nm,e⟩:=hO
 unfold b294 x294
 walk_at "wp"
 rw[gwp e]
 refine hmv _ fun rr hrr=>?_
 have s1:Sb H (H.set rr (.list (ms.map fun n=>.ref (pa n)))):=.new hrr
 generalize hH1:H.set rr (.list (ms.map fun n=>.ref (pa n)))=H1 at s1
 have e1:H1 rr=some (false,.list (ms.map fun n=>.ref (pa n))):=by rw[←hH1];exact AH.set_same _ _ _
 refine⟨true,false,_,_,s1.list hlp,e1,by simp only[List.length_map];unfold cap;omega,fun rk hrk=>?_⟩
 have s2:Sb H1 (H1.set rk (.list (ps.map (fun n=>.ref (pa n))++ms.map fun n=>.ref (pa n)))):=.new hrk
 generalize hH2:H1.set rk (.list (ps.map (fun n=>.ref (pa n))++ms.map fun n=>.ref (pa n)))=H2 at s2
 have e2:H2 rk=some (false,.list ((ps++ms).map fun n=>.ref (pa n))):=by rw[←hH2,AH.set_same,List.map_append]
 have S2:Sb H H2:=s1.trans s2
 dsimp only
 rw[swt (S2.inst e)]
 have x3:Ex [r] H2 (H2.set r (.inst 420 dx (wfl num nm lp (pa a) (lastV pa l) t.tag.1 z))):=Ex.put
 generalize hH3:H2.set r (.inst 420 dx (wfl num nm lp (pa a) (lastV pa l) t.tag.1 z))=H3 at x3
 have e3:H3 r=some (false,.inst 420 dx (wfl num nm lp (pa a) (lastV pa l) t.tag.1 z)):=by rw[←hH3];exact AH.set_same _ _ _
 have M3:Mu H [r]:=.cons e .nil
 have X3:Ex [r] H H3:=S2.ex.trans x3
 have pr:∀n s,PN H pa n s→pa n≠r:=fun n s h z=>by
  obtain⟨d,h⟩:=h
  rw[z,e]at h;cases h
 have P3:∀n∈ps++ms,∃s,PN H3 pa n s:=fun n hn=>let ⟨s,h⟩:=hp n hn;⟨s,h.ex X3 fun z=>pr n s h (List.mem_singleton.mp z)⟩
 have A3:∃s,PN H3 pa a s:=let ⟨s,h⟩:=ha;⟨s,h.ex X3 fun z=>pr a s h (List.mem_singleton.mp z)⟩
 have L3:LR true H3 t:=hL.mu X3 M3
 have k3:=x3.list e2 (fun z=>by rw[List.mem_singleton.mp z,S2.inst e]at e2;cases e2)
 refine c73 G (by have:=hsm.dep;omega) L3 hsm fun rn H4 s4 e4=>?_
 have X4:Ex [r] H H4:=X3.trans s4.ex
 have P4:∀n∈ps++ms,∃s,PN H4 pa n s:=fun n hn=>let ⟨s,h⟩:=P3 n hn;⟨s,h.sb s4⟩
 have A4:∃s,PN H4 pa a s:=let ⟨s,h⟩:=A3;⟨s,h.sb s4⟩
 refine comp_on (g:=AV.int) (cs:=t.panes) (cap_le20 hsm.len) (fun pre out H'=>H'=H4∧out=pre.map fun n=>.ref (pa n)) ⟨rfl,rfl⟩ ?_ ?_ ?_
 ·rintro pre out H' ⟨rfl,rfl⟩
  exact⟨⟨true,e4⟩,by simp⟩
 ·rintro pre u suf out H' hcs ⟨rfl,rfl⟩
  have hu:u∈t.panes:=by rw[hcs];simp
  walk_at "wp"
  refine c250 G (by omega) (s4.list k3) P4 ?_
  rw[if_pos (hk u hu)]
  exact⟨rfl,by simp⟩
 ·rintro out H' ⟨rfl,rfl⟩ rl hrl
  have s5:Sb H' (H'.set rl (.list (t.panes.map fun n=>.ref (pa n)))):=.new hrl
  generalize hH5:H'.set rl (.list (t.panes.map fun n=>.ref (pa n)))=H5 at s5
  have e5:H5 rl=some (false,.list (t.panes.map fun n=>.ref (pa n))):=by rw[←hH5];exact AH.set_same _ _ _
  rw[swp (s5.inst (s4.inst e3))]
  have hrlr:rl≠r:=fun z=>by rw[z,s4.inst e3]at hrl;cases hrl
  have e6:=AH.set_same H5 r (.inst 420 dx (wfl num nm rl (pa a) (lastV pa l) t.tag.1 z))
  rw[swz e6,AH.set_set]
  have x7:Ex [r] H5 (H5.set r (.inst 420 dx (wfl num nm rl (pa a) (lastV pa l) t.tag.1 false))):=Ex.put
  generalize hH7:H5.set r (.inst 420 dx (wfl num nm rl (pa a) (lastV pa l) t.tag.1 false))=H7 at x7
  have e7:H7 r=some (false,.inst 420 dx (wfl num nm rl (pa a) (lastV pa l) t.tag.1 false)):=by rw[←hH7];exact AH.set_same _ _ _
  have X7:Ex [r] H H7:=(X4.trans s5.ex).trans x7
  have R7:RO false H7 pa r num ⟨er t,a,l,false⟩ t (er t).panes:=⟨⟨dx,nm,rl,e7,by rw[er_panes];exact x7.list e5 (fun z=>hrlr (List.mem_singleton.mp z))⟩,hL.mu X7 M3,rfl⟩
  have P7:∀n∈ps++ms,∃s,PN H7 pa n s:=fun n hn=>let ⟨s,h⟩:=hp n hn;⟨s,h.ex X7 fun z=>pr n s h (List.mem_singleton.mp z)⟩
  have A7:∃s,PN H7 pa a s:=let ⟨s,h⟩:=ha;⟨s,h.ex X7 fun z=>pr a s h (List.mem_singleton.mp z)⟩
  have P7':∀n∈(er t).panes,∃s,PN H7 pa n s:=fun n hn=>P7 n (hk n (by rwa [er_panes]at hn))
  refine⟨r,_,_,_,_,287,rfl,e7,rfl,rfl,?_⟩
  refine c287 G (by omega) R7 P7' A7 (er_sm.mpr hsm) (by rw[er_panes];exact nd) fun H8 x8 h8=>hQS _ _ ⟨[rl],q _ ?_ ?_⟩
  ·rw[er_panes]at x8
   have hN:Nw H [rl]:=Nw.ex X4 (fun b hb hz=>hrlr (by rw[←List.mem_singleton.mp hb,List.mem_singleton.mp hz])) (.of hrl)
   exact fz_exw ((X7.mono fun b hb=>by rw[List.mem_singleton.mp hb];exact .head _).trans (x8.mono fun b hb=>.tail _ hb)) hN
  ·have rout:r∉(er t).panes.map pa:=win_out R7 P7'
   have rlout:rl∉(er t).panes.map pa:=fun z=>by
    obtain⟨k,hk,ek⟩:=List.mem_map.mp z
    obtain⟨s,d,e'⟩:=P7' k hk
    rw[ek,x7.list e5 (fun z=>hrlr (List.mem_singleton.mp z))]at e';cases e'
   refine⟨⟨t,⟨⟨dx,nm,rl,fz_out no_inst (x8.inst e7 rout) (fun z=>hrlr (List.mem_singleton.mp z).symm),?_⟩,((hL.mu X7 M3).mu x8 (PN.mu P7')).le fz_le,rfl⟩⟩,fun n hn=>(h8 n hn).fz fun z=>?_⟩
   ·have:=fz_in (as:=[rl]) no_list (x8.list (x7.list e5 (fun z=>hrlr (List.mem_singleton.mp z))) rlout) (by simp)
    rw[this,er_panes]
   ·exact rlout (by rw[←List.mem_singleton.mp z];exact List.mem_map.mpr ⟨n,hn,rfl⟩)
theorem list_lst {H:AH} {a:Addr} {f:Bool} {xs:List AV} (e:H a=some (f,.list xs)) (hl:xs.length≤cap) (Q:AV→AH→Prop) (q:∀r,H r=none→Q (.ref r) (H.set r (.list xs))):BFun .list [.ref a] H Q:=⟨f,xs,e,hl,q⟩
theorem c294 (G:GD W) {pa:Int→Addr} {r lp lay lm:Addr} {fm:Bool} {num a:Int} {l:Option Int} {z:Bool} {ps ms:List Int} {t:L} (hm:36≤m) (hO:OB H pa r num lp a l lay z) (hlp:H lp=some (true,.list (ps.map fun n=>.ref (pa n))))
  (hlm:H lm=some (fm,.list (ms.map fun n=>.ref (pa n)))) (hL:LR true H t) (hsm:t.Sm) (nd:t.panes.Nodup) (hk:∀n∈t.panes,n∈ps++ms) (hp:∀n∈ps++ms,∃s,PN H pa n s) (ha:∃s,PN H pa a s) (hl:ps.length+ms.length≤100)
  (q:∀H',Ex (r::t.panes.map pa) H H'→FW H' pa r num ⟨er t,a,l,false⟩→Q .none H'):CallF W 294 [.ref r,.ref t.tag.1,.ref lm] m H Q:=by
 obtain⟨n,rfl,hn⟩:=pos_of (show 35+1≤m from hm)
 refine CallF.fz (enter G (f294 _) (hb294m _) (ws:=[]) (fun h _=>by simp only[VRs]) rfl ?_)
 exact lay_body G hn hO hlp (fun Q' q'=>list_lst hlm (by simp only[List.length_map];unfold cap;omega) Q' q') hL hsm nd hk hp ha hl q fun _ _ h=>h
theorem k_tup (P:Params):(match (KK P).lookup 288 with
  |some ⟨.type c,none,.seq us _,sl⟩=>c=="tuple"&&us.isEmpty&&sl.isEmpty
  |_=>false)=true:=by kernel_rfl
theorem tup_empty (G:GD W) {h:Heap} (S:W.St H h):VRs H h [.tup []] [.ref 288]:=by
 have k:=k_tup W.w.params
 split at k
 ·rename_i c us k' sl ho
  simp only[Bool.and_eq_true,beq_iff_eq,Array.isEmpty_iff]at k
  obtain⟨⟨rfl,rfl⟩,rfl⟩:=k
  have e:h.get? 288=some {cls:=.type "tuple",data:=.seq #[] k'}:=G.at S _ _ ho
  simp only[VRs,VR]
  refine⟨_,[],rfl,⟨288,#[],k',rfl,e,?_,rfl⟩,rfl⟩
  cases hH:H 288 with
  |none=>rfl
  |some p=>
   obtain⟨f,o⟩:=p
   have:=S.objs _ _ _ hH
   cases o with
   |list vs=>obtain⟨us,n,e',_⟩:=this;exact absurd (congrArg (fun o=>o.map Obj.cls) (e.symm.trans e')) (by simp)
   |inst C dx fs=>have:=this.1;rw[e]at this;cases this
   |dS es=>obtain⟨kvs,⟨o,ds,ep,e',r⟩,q⟩:=this;rw[e]at e';cases e';exact(dict_ne_tuple r.1.1.symm).elim
   |dI es=>obtain⟨kvs,⟨o,ds,ep,e',r⟩,q⟩:=this;rw[e]at e';cases e';exact(dict_ne_tuple r.1.1.symm).elim
   |own b=>
    obtain⟨f,C,fs,eb⟩:=this
    obtain⟨_,_,es,n,e',_⟩:=S.objs _ _ _ eb
    exact absurd (congrArg (fun o=>o.map Obj.cls) (e.symm.trans e')) (by simp)
   |opq=>obtain⟨x,y,e'⟩:=this;rw[e]at e';cases e'
 ·cases k
theorem c294d (G:GD W) {pa:Int→Addr} {r lp lay:Addr} {num a:Int} {l:Option Int} {z:Bool} {ps:List Int} {t:L} (hm:36≤m) (hO:OB H pa r num lp a l lay z) (hlp:H lp=some (true,.list (ps.map fun n=>.ref (pa n))))
  (hL:LR true H t) (hsm:t.Sm) (nd:t.panes.Nodup) (hk:∀n∈t.panes,n∈ps) (hp:∀n∈ps,∃s,PN H pa n s) (ha:∃s,PN H pa a s) (hl:ps.length≤100)
  (q:∀H',Ex (r::t.panes.map pa) H H'→FW H' pa r num ⟨er t,a,l,false⟩→Q .none H'):CallF W 294 [.ref r,.ref t.tag.1] m H Q:=by
 obtain⟨n,rfl,hn⟩:=pos_of (show 35+1≤m from hm)
 refine CallF.fz (enter G (f294 _) (hb294 _) (ws:=[.tup []]) (fun h S=>tup_empty G S) rfl ?_)
 exact lay_body G (ms:=[]) hn hO hlp (fun Q' q'=>⟨by decide,fun rr hrr=>q' rr hrr⟩) hL hsm nd (by simpa using hk) (by simpa using hp) ha (by simpa using hl) q fun _ _ h=>h
end
end
section
def selW (p:Int) (v:Win):Win:=if p∈v.tr.panes∧p≠v.act then⟨v.tr,p,some v.act,false⟩else v
theorem selW_tr {p:Int} {v:Win}:(selW p v).tr=v.tr:=by unfold selW;split<;>rfl
theorem selW_ok {p:Int} {v:Win} (h:WOK v):WOK (selW p v):=by
 unfold selW;split
 ·rename_i hp
  exact⟨h.fine,h.nd,hp.1,fun l e=>by cases e;exact h.act,h.rng⟩
 ·exact h
theorem szOf_z {t:T} {a b:Int} {l k:Option Int} {n:Int}:szOf ⟨t,a,l,false⟩ n=szOf ⟨t,b,k,false⟩ n:=rfl
theorem FW.pn {H:AH} {pa:Int→Addr} {r:Addr} {num:Int} {v:Win} (h:FW H pa r num v):∀n∈v.tr.panes,∃s,PN H pa n s:=fun n hn=>⟨_,h.sz n hn⟩
theorem FW.out {H:AH} {pa:Int→Addr} {r:Addr} {num:Int} {v:Win} (h:FW H pa r num v) {ns:List Int} (hs:∀n∈ns,∃s,PN H pa n s):r∉ns.map pa:=let ⟨t,R⟩:=h.rw;win_out R hs
theorem FW.mu {H:AH} {pa:Int→Addr} {r:Addr} {num:Int} {v:Win} (h:FW H pa r num v):Mu H (r::v.tr.panes.map pa):=by
 obtain⟨t,⟨dx,nm,lp,e1,e2⟩,_⟩:=h.rw
 exact .cons e1 (PN.mu h.pn)
section
variable {W:Wd} {n m:Nat} {H:AH} {Q:AV→AH→Prop} {QS:AH→Prop}
theorem c308 (G:GD W) {pa:Int→Addr} {r:Addr} {num p:Int} {v:Win} (hm:32≤m) (hF:FW H pa r num v) (hv:WOK v) (hp:∃s,PN H pa p s)
  (q:∀H',Ex (r::v.tr.panes.map pa) H H'→FW H' pa r num (selW p v)→Q (.bool (decide (p∈v.tr.panes))) H'):CallF W 308 [.ref r,.ref (pa p)] m H Q:=by
 obtain⟨n,rfl,hn⟩:=pos_of (show 31+1≤m from hm)
 obtain⟨t,R⟩:=hF.rw
 obtain⟨⟨dx,nm,lp,e1,e2⟩,hL,he⟩:=id R
 obtain⟨s,dxp,ep⟩:=id hp
 obtain⟨dxa,ea⟩:=hF.sz v.act hv.act
 refine enter G (f308 _) (hb308 _) (ws:=[]) (fun h _=>by simp only[VRs]) rfl ?_
 unfold b308 x308
 walk_at "wp"
 refine⟨r,_,_,_,_,301,rfl,e1,rfl,rfl,c301 G (by omega) R hF.pn hp ⟨_,rfl,fun h=>?_,fun h=>?_⟩⟩
 ·have h:p∉v.tr.panes:=by simpa using h
  have:=q H .refl (by unfold selW;rw[if_neg fun z=>h z.1];exact hF)
  simpa[h]using this
 have h:p∈v.tr.panes:=by simpa using h
 have qq:∀H',Ex (r::v.tr.panes.map pa) H H'→FW H' pa r num (selW p v)→Q (.bool true) H':=fun H' k f=>by simpa[h]using q H' k f
 rw[gwa e1]
 refine⟨_,rfl,⟨⟨_,ep,fun z=>by cases z⟩,_,ea⟩,fun hd=>?_,fun hd=>?_⟩
 ·have hne:p≠v.act:=fun z=>by rw[z]at hd;simp at hd
  have eW:selW p v=⟨v.tr,p,some v.act,false⟩:=if_pos ⟨h,hne⟩
  rw[eW]at qq
  rw[gwa e1,swl e1,swa (AH.set_same _ _ _),AH.set_set]
  have x2:Ex [r] H (H.set r (.inst 420 dx (wfl num nm lp (pa p) (.ref (pa v.act)) t.tag.1 v.zoom))):=Ex.put
  have e3:(H.set r (.inst 420 dx (wfl num nm lp (pa p) (.ref (pa v.act)) t.tag.1 v.zoom))) r=some (false,.inst 420 dx (wfl num nm lp (pa p) (.ref (pa v.act)) t.tag.1 v.zoom)):=AH.set_same _ _ _
  generalize H.set r (.inst 420 dx (wfl num nm lp (pa p) (.ref (pa v.act)) t.tag.1 v.zoom))=H2 at x2 e3
  have M1:Mu H [r]:=.cons e1 .nil
  have rout:=hF.out hF.pn
  have P2:∀n∈v.tr.panes,PN H2 pa n (szOf v n):=fun n hn=>(hF.sz n hn).ex x2 fun z=>rout (by rw[←List.mem_singleton.mp z];exact List.mem_map.mpr ⟨n,hn,rfl⟩)
  rw[gwz e3]
  refine⟨_,rfl,fun hz=>?_,fun hz=>?_⟩
  ·rw[swz e3]
   have x3:Ex [r] H2 (H2.set r (.inst 420 dx (wfl num nm lp (pa p) (.ref (pa v.act)) t.tag.1 false))):=Ex.put
   have e4:(H2.set r (.inst 420 dx (wfl num nm lp (pa p) (.ref (pa v.act)) t.tag.1 false))) r=some (false,.inst 420 dx (wfl num nm lp (pa p) (.ref (pa v.act)) t.tag.1 false)):=AH.set_same _ _ _
   generalize H2.set r (.inst 420 dx (wfl num nm lp (pa p) (.ref (pa v.act)) t.tag.1 false))=H3 at x3 e4
   have X3:Ex [r] H H3:=x2.trans x3
   have R3:RO true H3 pa r num ⟨v.tr,p,some v.act,false⟩ t v.tr.panes:=⟨⟨dx,nm,lp,e4,X3.fz M1 no_list e2⟩,hL.mu X3 M1,he⟩
   have P3:∀n∈v.tr.panes,∃s,PN H3 pa n s:=fun n hn=>⟨_,(hF.sz n hn).ex X3 fun z=>rout (by rw[←List.mem_singleton.mp z];exact List.mem_map.mpr ⟨n,hn,rfl⟩)⟩
   refine⟨r,_,_,_,_,287,rfl,e4,rfl,rfl,c287 G (by omega) R3 P3 (P3 p h) hv.fine.sm hv.nd fun H5 x5 h5=>qq H5 ?_ ⟨⟨t,R3.ex x5 (PN.mu P3) (win_out R3 P3) (.inl rfl)⟩,h5⟩⟩
   exact(X3.mono fun b hb=>by rw[List.mem_singleton.mp hb];exact .head _).trans (x5.mono fun b hb=>.tail _ hb)
  ·rw[hz]at e3
   refine qq H2 (x2.mono fun b hb=>by rw[List.mem_singleton.mp hb];exact .head _) ⟨⟨t,⟨dx,nm,lp,e3,x2.fz M1 no_list e2⟩,hL.mu x2 M1,he⟩,fun n hn=>?_⟩
   have:=P2 n hn
   obtain⟨a,b,c,d⟩:=v
   dsimp only at hz
   subst hz
   exact this
 ·have heq:p=v.act:=by
   have:pa p=pa v.act:=by simpa using hd
   exact PN.inj ⟨dxp,ep⟩ ⟨dxa,ea⟩ this
  exact qq H .refl (by unfold selW;rw[if_neg fun z=>z.2 heq];exact hF)
def selL (v:Win):Win:=match v.last with
 |none=>v
 |some l=>selW l v
theorem c315 (G:GD W) {pa:Int→Addr} {r:Addr} {num:Int} {v:Win} (hm:33≤m) (hF:FW H pa r num v) (hv:WOK v) (q:∀H',Ex (r::v.tr.panes.map pa) H H'→FW H' pa r num (selL v)→Q (.bool v.last.isSome) H'):CallF W 315 [.ref r] m H Q:=by
 obtain⟨n,rfl,hn⟩:=pos_of (show 32+1≤m from hm)
 obtain⟨t,R⟩:=hF.rw
 obtain⟨⟨dx,nm,lp,e1,e2⟩,hL,he⟩:=id R
 refine enter G (f315 _) (hb315 _) (ws:=[]) (fun h _=>by simp only[VRs]) rfl ?_
 unfold b315 x315
 walk_at "wp"
 rw[gwl e1]
 unfold selL at q
 cases hl:v.last with
 |none=>
  rw[hl]at q e1
  exact⟨true,rfl,trivial,fun _=>q H .refl hF,fun z=>by cases z⟩
 |some l=>
  rw[hl]at q e1
  refine⟨false,rfl,trivial,(fun z=>by cases z),fun _=>⟨r,_,_,_,_,308,rfl,e1,rfl,rfl,?_⟩⟩
  rw[gwl e1]
  have hlm:=hv.last l hl
  exact c308 G hn hF hv (hF.pn l hlm) fun H' k f=>by simpa[hlm]using q H' k f
def nextP (v:Win) (many:Int):Int:=(v.tr.panes[(((v.tr.panes.idxOf v.act:Nat)+many).fmod v.tr.panes.length).toNat]?).getD 0
theorem nextP_mem {v:Win} (hv:WOK v) (many:Int):∃j:Nat,((v.tr.panes.idxOf v.act:Nat)+many).fmod v.tr.panes.length=j∧v.tr.panes[j]?=some (nextP v many):=by
 have hl:0<v.tr.panes.length:=List.length_pos_of_mem hv.act
 have h1:=Int.fmod_nonneg_of_pos ((v.tr.panes.idxOf v.act:Nat)+many) (b:=(v.tr.panes.length:Int)) (by omega)
 have h2:=Int.fmod_lt_of_pos ((v.tr.panes.idxOf v.act:Nat)+many) (b:=(v.tr.panes.length:Int)) (by omega)
 refine⟨_,(Int.toNat_of_nonneg h1).symm,?_⟩
 unfold nextP
 have:(((v.tr.panes.idxOf v.act:Nat)+many).fmod v.tr.panes.length).toNat<v.tr.panes.length:=by omega
 rw[List.getElem?_eq_getElem this];rfl
theorem c330 (G:GD W) {pa:Int→Addr} {r:Addr} {num many:Int} {v:Win} (hm:33≤m) (hF:FW H pa r num v) (hv:WOK v) (q:∀H',Ex (r::v.tr.panes.map pa) H H'→FW H' pa r num (selW (nextP v many) v)→Q (.bool true) H'):CallF W 330 [.ref r,.int many] m H Q:=by
 obtain⟨n,rfl,hn⟩:=pos_of (show 32+1≤m from hm)
 obtain⟨t,R⟩:=hF.rw
 obtain⟨⟨dx,nm,lp,e1,e2⟩,hL,he⟩:=id R
 have hsm:t.Sm:=er_sm.mp (he▸hv.fine.sm)
 have ept:t.panes=v.tr.panes:=by rw[←he,er_panes]
 refine enter G (f330 _) (hb330 _) (ws:=[]) (fun h _=>by simp only[VRs]) rfl ?_
 unfold b330 x330
 walk_at "wp"
 rw[gwt e1]
 refine c73 G (by have:=hsm.dep;omega) hL hsm fun r1 H1 s1 e3=>⟨⟨_,_,_,rfl,e3⟩,?_⟩
 rw[gwa (s1.inst e1)]
 obtain⟨dxa,ea⟩:=(hF.sz v.act hv.act).sb s1
 rw[gpn ea]
 have hlen:=hv.fine.sm.len
 refine⟨true,t.panes,e3,by rw[ept];exact hv.act,by rw[ept];unfold cap;omega,r,_,_,_,_,308,rfl,s1.inst e1,rfl,rfl,?_⟩
 rw[gwp (s1.inst e1),bi_add,gwp (s1.inst e1)]
 refine len_list (s1.list e2) (by simp only[List.length_map];unfold cap;omega) ?_
 rw[bi_mod,List.length_map,ept]
 obtain⟨j,h1,h2⟩:=nextP_mem hv many
 have hl:0<v.tr.panes.length:=List.length_pos_of_mem hv.act
 refine⟨by omega,gi_nat (j:=j) (u:=.ref (pa (nextP v many))) (s1.list e2) h1 (by simp only[List.length_map];unfold cap;omega) (by rw[List.getElem?_map,h2];rfl) ?_⟩
 have hmem:=List.mem_of_getElem? h2
 have F1:=hF.sb s1
 exact c308 G hn F1 hv (F1.pn _ hmem) fun H' k f=>by simpa[hmem]using q H' (s1.ex.trans k) f
def zoomW (v:Win):Win:=⟨v.tr,v.act,v.last,!v.zoom&&decide (1<v.tr.panes.length)⟩
theorem c337 (G:GD W) {pa:Int→Addr} {r:Addr} {num:Int} {v:Win} (hm:33≤m) (hF:FW H pa r num v) (hv:WOK v) (q:∀H',Ex (r::v.tr.panes.map pa) H H'→FW H' pa r num (zoomW v)→Q (.bool (zoomW v).zoom) H'):CallF W 337 [.ref r] m H Q:=by
 obtain⟨n,rfl,hn⟩:=pos_of (show 32+1≤m from hm)
 obtain⟨t,R⟩:=hF.rw
 obtain⟨⟨dx,nm,lp,e1,e2⟩,hL,he⟩:=id R
 refine enter G (f337 _) (hb337 _) (ws:=[]) (fun h _=>by simp only[VRs]) rfl ?_
 unfold b337 x337
 walk_at "wp"
 rw[gwz e1,gwp e1]
 have hlen:=hv.fine.sm.len
 have fin:∀z,z=(zoomW v).zoom→SetA (.ref r) 20 (.bool z) H fun H=>∃a f C dx fs g,r=a∧H a=some (f,.inst C dx fs)∧mtab.lookup (C,83)=some g∧fs.lookup 83=none∧CallF W g [.ref r] n H fun _ H=>GetA W (.ref r) 20 n H Q:=by
  rintro z rfl
  rw[swz e1]
  have x2:Ex [r] H (H.set r (.inst 420 dx (wfl num nm lp (pa v.act) (lastV pa v.last) t.tag.1 (zoomW v).zoom))):=Ex.put
  have e3:(H.set r (.inst 420 dx (wfl num nm lp (pa v.act) (lastV pa v.last) t.tag.1 (zoomW v).zoom))) r=some (false,.inst 420 dx (wfl num nm lp (pa v.act) (lastV pa v.last) t.tag.1 (zoomW v).zoom)):=AH.set_same _ _ _
  generalize H.set r (.inst 420 dx (wfl num nm lp (pa v.act) (lastV pa v.last) t.tag.1 (zoomW v).zoom))=H2 at x2 e3
  have M1:Mu H [r]:=.cons e1 .nil
  have rout:=hF.out hF.pn
  have R3:RO true H2 pa r num (zoomW v) t v.tr.panes:=⟨⟨dx,nm,lp,e3,x2.fz M1 no_list e2⟩,hL.mu x2 M1,he⟩
  have P3:∀n∈v.tr.panes,∃s,PN H2 pa n s:=fun n hn=>⟨_,(hF.sz n hn).ex x2 fun z=>rout (by rw[←List.mem_singleton.mp z];exact List.mem_map.mpr ⟨n,hn,rfl⟩)⟩
  refine⟨r,_,_,_,_,287,rfl,e3,rfl,rfl,c287 G (by omega) R3 P3 (P3 v.act hv.act) hv.fine.sm hv.nd fun H5 x5 h5=>?_⟩
  rw[gwz (x5.inst e3 (win_out R3 P3))]
  exact q H5 ((x2.mono fun b hb=>by rw[List.mem_singleton.mp hb];exact .head _).trans (x5.mono fun b hb=>.tail _ hb)) ⟨⟨t,R3.ex x5 (PN.mu P3) (win_out R3 P3) (.inl rfl)⟩,h5⟩
 refine⟨_,rfl,fun hz=>fin _ (by unfold zoomW;simp at hz;simp[hz]),fun hz=>len_list e2 (by simp only[List.length_map];unfold cap;omega) ⟨_,_,rfl,rfl,fin _ ?_⟩⟩
 unfold zoomW
 simp at hz
 simp[hz]
 omega
end
end
section
def layW (v:Win) (t':T):Win:=⟨t',v.act,v.last,false⟩
def spW (v:Win) (p fresh:Int) (d:Bool) (size:Option Int) (before active:Bool):Option Win:=(Tr.splitT v.tr p fresh d size before).map fun t'=>if active then selW fresh (layW v t')else layW v t'
def dropV (v:Win) (p:Int) (t':T):Win:=
 let l1:=if v.last=some p then none else v.last
 if v.act=p then⟨t',(match l1 with|none=>(t'.panes[v.tr.panes.idxOf p-1]?).getD 0|some l=>l),none,false⟩else⟨t',v.act,l1,false⟩
def dropW (v:Win) (p:Int):Option Win:=if p∈v.tr.panes then(Tr.closeT v.tr p).map (dropV v p)else none
def rsW (v:Win) (w h:Int):Win:=⟨Tr.fitT w h v.tr,v.act,v.last,v.zoom⟩
def swW (v:Win) (one other:Int):Option Win:=(Tr.swapT v.tr one other).map (layW v)
def roW (v:Win) (back:Bool):Win:=selW (((Tr.rotT back v.tr).panes[v.tr.panes.idxOf v.act]?).getD 0) (layW v (Tr.rotT back v.tr))
theorem FW.re {H:AH} {pa:Int→Addr} {r:Addr} {num a:Int} {l:Option Int} {t':T} (hF:FW H pa r num ⟨t',a,l,false⟩):∃dx nm lp lay,H r=some (false,.inst 420 dx (wfl num nm lp (pa a) (lastV pa l) lay false))∧H lp=some (true,.list (t'.panes.map fun n=>.ref (pa n))) ∧
  ∀a' l' H',Ex [r] H H'→H' r=some (false,.inst 420 dx (wfl num nm lp (pa a') (lastV pa l') lay false))→FW H' pa r num ⟨t',a',l',false⟩:=by
 obtain⟨t,⟨dx,nm,lp,e1,e2⟩,hL,he⟩:=hF.rw
 have M1:Mu H [r]:=.cons e1 .nil
 have rout:=hF.out hF.pn
 exact⟨dx,nm,lp,t.tag.1,e1,e2,fun a' l' H' k e'=>⟨⟨t,⟨dx,nm,lp,e',k.fz M1 no_list e2⟩,hL.mu k M1,he⟩,fun n hn=>(hF.sz n hn).ex k fun z=>rout (by rw[←List.mem_singleton.mp z];exact List.mem_map.mpr ⟨n,hn,rfl⟩)⟩⟩
section
variable {W:Wd} {n m:Nat} {H:AH} {Q:AV→AH→Prop} {QS:AH→Prop}
theorem c345 (G:GD W) {pa:Int→Addr} {r:Addr} {num p fresh:Int} {d before active:Bool} {size:Option Int} {v:Win} (hm:45≤m) (hF:FW H pa r num v) (hv:WOK v) (hl:v.tr.panes.length+1≤20) (hp:∃s,PN H pa p s) (hfr:∃s,PN H pa fresh s) (hfg:0≤fresh∧fresh<1000)
  (q0:spW v p fresh d size before active=none→∀H',Sb H H'→Q (.bool false) H')
  (q1:∀v',spW v p fresh d size before active=some v'→∀H',Ex (r::v'.tr.panes.map pa) H H'→FW H' pa r num v'→WOK v'→Q (.bool true) H'):CallF W 345 [.ref r,.ref (pa p),.ref (pa fresh),.bool d,optV size,.bool before,.bool active] m H Q:=by
 obtain⟨n,rfl,hn⟩:=pos_of (show 44+1≤m from hm)
 obtain⟨t,R⟩:=hF.rw
 obtain⟨⟨dx,nm,lp,e1,e2⟩,hL,he⟩:=id R
 obtain⟨s,dxp,ep⟩:=id hp
 obtain⟨s',dxf,ef⟩:=id hfr
 refine enter G (f345 _) (hb345 _) (ws:=[]) (fun h _=>by simp only[VRs]) rfl ?_
 unfold b345 x345
 walk_at "wp"
 rw[gwt e1,gpn ep,gpn ef]
 refine c142 G (by omega) hL (he▸hv.fine) (fun hs H1 s1=>?_) fun t' hs H1 s1 l1=>?_
 ·rw[he]at hs
  exact⟨true,rfl,trivial,fun _=>q0 (by unfold spW;rw[hs];rfl) H1 s1,fun z=>by cases z⟩
 rw[he]at hs
 obtain⟨k1,k2,k3,pre,post,k4,k5⟩:=Tr.split_good hv.fine hs hl
 have hmem:∀x,x∈(er t').panes↔x∈v.tr.panes∨x=fresh:=fun x=>by
  rw[k4,k5];cases before<;>simp<;>grind
 have hnd:(er t').panes.Nodup:=by
  have a1:=hv.nd
  have a2:=k3
  rw[k4]at a1 a2
  rw[k5]
  simp only[List.mem_append,List.mem_cons,not_or]at a2
  rw[List.nodup_append,List.nodup_cons]at a1
  obtain⟨b1,⟨b2,b3⟩,b4⟩:=a1
  have c1:∀x∈pre,x≠p:=fun x hx=>b4 x hx p (.head _)
  have c2:∀x∈pre,∀y∈post,x≠y:=fun x hx y hy=>b4 x hx y (.tail _ hy)
  have c3:∀x∈pre,x≠fresh:=fun x hx z=>a2.1 (z▸hx)
  cases before
  ·simp only[Bool.false_eq_true,if_false,List.append_assoc,List.cons_append,List.nil_append]
   rw[List.nodup_append,List.nodup_cons,List.nodup_cons]
   refine⟨b1,⟨fun z=>?_,a2.2.2,b3⟩,fun x hx y hy=>?_⟩
   ·rcases List.mem_cons.mp z with z|z
    ·exact a2.2.1 z.symm
    ·exact b2 z
   ·rcases List.mem_cons.mp hy with rfl|hy
    ·exact c1 x hx
    ·rcases List.mem_cons.mp hy with rfl|hy
     ·exact c3 x hx
     ·exact c2 x hx y hy
  ·simp only[if_true,List.append_assoc,List.cons_append,List.nil_append]
   rw[List.nodup_append,List.nodup_cons,List.nodup_cons]
   refine⟨b1,⟨fun z=>?_,b2,b3⟩,fun x hx y hy=>?_⟩
   ·rcases List.mem_cons.mp z with z|z
    ·exact a2.2.1 z
    ·exact a2.2.2 z
   ·rcases List.mem_cons.mp hy with rfl|hy
    ·exact c3 x hx
    ·rcases List.mem_cons.mp hy with rfl|hy
     ·exact c1 x hx
     ·exact c2 x hx y hy
 have hW:WOK (layW v (er t')):=⟨k1,hnd,(hmem _).mpr (.inl hv.act),fun l e=>(hmem l).mpr (.inl (hv.last l e)),fun x hx=>by
  rcases(hmem x).mp hx with h|rfl
  ·exact hv.rng x h
  ·exact hfg⟩
 have F1:=hF.sb s1
 have et':t'.panes=(er t').panes:=er_panes.symm
 refine⟨false,rfl,trivial,(fun z=>by cases z),fun _=>⟨r,_,_,_,_,294,rfl,s1.inst e1,rfl,rfl,by decide,fun lm hlm=>?_⟩⟩
 have s2:Sb H1 (H1.set lm (.list [.ref (pa fresh)])):=.new hlm
 have em:(H1.set lm (.list [.ref (pa fresh)])) lm=some (false,.list ([fresh].map fun n=>.ref (pa n))):=AH.set_same _ _ _
 generalize H1.set lm (.list [.ref (pa fresh)])=H2 at s2 em
 have S2:Sb H H2:=s1.trans s2
 refine c294 G (ps:=v.tr.panes) (ms:=[fresh]) (by omega) ⟨dx,nm,S2.inst e1⟩ (S2.list e2) em (l1.sb s2) (er_sm.mp k1.sm) (by rw[et'];exact hnd) (fun x hx=>?_) (fun x hx=>?_) ?_ (by simp;omega) fun H3 x3 f3=>?_
 ·rw[et']at hx
  rcases(hmem x).mp hx with h|rfl
  ·exact List.mem_append_left _ h
  ·exact List.mem_append_right _ (.head _)
 ·rcases List.mem_append.mp hx with hx|hx
  ·exact⟨_,((hF.sz x hx).sb S2)⟩
  ·rw[List.mem_singleton.mp hx];exact⟨s',⟨dxf,S2.inst ef⟩⟩
 ·exact⟨_,(hF.sz v.act hv.act).sb S2⟩
 rw[et']at x3
 have X3:Ex (r::(er t').panes.map pa) H H3:=S2.ex.trans x3
 refine⟨fun ha=>?_,fun ha=>?_⟩
 ·have hfm:fresh∈(er t').panes:=(hmem _).mpr (.inr rfl)
  obtain⟨t3,⟨dx3,nm3,lp3,e3,_⟩,_⟩:=f3.rw
  refine⟨r,_,_,_,_,308,rfl,e3,rfl,rfl,c308 G (v:=layW v (er t')) (by omega) f3 hW (f3.pn _ hfm) fun H4 x4 f4=>?_⟩
  refine q1 (selW fresh (layW v (er t'))) (by unfold spW;rw[hs];simp[ha]) H4 ?_ f4 (selW_ok hW)
  rw[selW_tr]
  exact X3.trans x4
 ·exact q1 (layW v (er t')) (by unfold spW;rw[hs];simp[ha]) H3 X3 f3 hW
theorem drop_ok {v:Win} {p:Int} {t':T} (hv:WOK v) (hp:p∈v.tr.panes) (hs:Tr.closeT v.tr p=some t'):WOK (dropV v p t')∧(∀x,x∈t'.panes↔x∈v.tr.panes∧x≠p)∧t'.Fine∧t'.panes.Nodup∧(dropV v p t').tr=t'∧t'.panes=v.tr.panes.filter (fun x=>x != p)∧(∀d,t'.side d=v.tr.side d):=by
 have h1:v.tr.panes.length≠1:=fun z=>by rw[Tr.close_none hv.fine.ok (.inr z)]at hs;cases hs
 obtain⟨t2,e1,e2,e3,pre,post,k4,k5⟩:=Tr.close_good hv.fine hp h1
 rw[hs]at e1;cases e1
 have nd:=hv.nd
 rw[k4]at nd
 have nd2:=nd
 rw[List.nodup_append,List.nodup_cons]at nd
 obtain⟨b1,⟨b2,b3⟩,b4⟩:=nd
 have hmem:∀x,x∈t'.panes↔x∈v.tr.panes∧x≠p:=fun x=>by
  rw[k4,k5]
  simp only[List.mem_append,List.mem_cons]
  constructor
  ·rintro(h|h)
   ·exact⟨.inl h,b4 x h p (.head _)⟩
   ·exact⟨.inr (.inr h),fun z=>b2 (z▸h)⟩
  ·rintro⟨h|rfl|h,hne⟩
   ·exact .inl h
   ·exact absurd rfl hne
   ·exact .inr h
 have hnd:t'.panes.Nodup:=by
  rw[k5,List.nodup_append]
  exact⟨b1,b3,fun x hx y hy=>b4 x hx y (.tail _ hy)⟩
 have hidx:v.tr.panes.idxOf p=pre.length:=by
  rw[k4,List.idxOf_append,if_neg fun z=>b4 p z p (.head _) rfl]
  simp
 have hfil:t'.panes=v.tr.panes.filter (fun x=>x != p):=by
  rw[k4,k5,List.filter_append,List.filter_cons]
  simp only[bne_self_eq_false,Bool.false_eq_true,if_false]
  rw[List.filter_eq_self.mpr fun x hx=>by simpa using b4 x hx p (.head _),List.filter_eq_self.mpr fun x hx=>by simp only[bne_iff_ne];exact fun z=>b2 (z▸hx)]
 have hlen:pre.length-1<t'.panes.length:=by
  rw[k5,List.length_append]
  have:v.tr.panes.length=pre.length+(post.length+1):=by rw[k4];simp
  omega
 refine⟨?_,hmem,e2,hnd,by unfold dropV;dsimp only;split<;>rfl,hfil,e3⟩
 unfold dropV
 dsimp only
 have hl1:∀l,(if v.last=some p then none else v.last)=some l→l∈t'.panes:=fun l hl=>by
  split at hl
  ·cases hl
  ·rename_i hne
   exact(hmem l).mpr ⟨hv.last l hl,fun z=>hne (z▸hl)⟩
 split
 ·refine⟨e2,hnd,?_,(fun l h=>by cases h),fun x hx=>hv.rng x ((hmem x).mp hx).1⟩
  generalize (if v.last=some p then none else v.last)=l1 at hl1
  cases l1 with
  |none=>
   dsimp only
   rw[hidx,List.getElem?_eq_getElem hlen]
   exact List.getElem_mem _
  |some l=>exact hl1 l rfl
 ·rename_i hne
  exact⟨e2,hnd,(hmem _).mpr ⟨hv.act,hne⟩,hl1,fun x hx=>hv.rng x ((hmem x).mp hx).1⟩
theorem c352 (G:GD W) {pa:Int→Addr} {r:Addr} {num p:Int} {v:Win} (hm:45≤m) (hF:FW H pa r num v) (hv:WOK v) (hp:∃s,PN H pa p s) (q0:dropW v p=none→∀H',Sb H H'→Q (.bool false) H')
  (q1:∀v',dropW v p=some v'→p∈v.tr.panes→∀H',Ex (r::v'.tr.panes.map pa) H H'→FW H' pa r num v'→WOK v'→Q (.bool true) H'):CallF W 352 [.ref r,.ref (pa p)] m H Q:=by
 obtain⟨n,rfl,hn⟩:=pos_of (show 44+1≤m from hm)
 obtain⟨t,R⟩:=hF.rw
 obtain⟨⟨dx,nm,lp,e1,e2⟩,hL,he⟩:=id R
 obtain⟨s,dxp,ep⟩:=id hp
 have hsm:t.Sm:=er_sm.mp (he▸hv.fine.sm)
 have ept:t.panes=v.tr.panes:=by rw[←he,er_panes]
 have hlen:=hv.fine.sm.len
 refine enter G (f352 _) (hb352 _) (ws:=[]) (fun h _=>by simp only[VRs]) rfl ?_
 unfold b352 x352
 walk_at "wp"
 refine⟨r,_,_,_,_,301,rfl,e1,rfl,rfl,c301 G (by omega) R hF.pn hp ⟨_,rfl,fun h=>?_,fun h=>?_⟩⟩
 rotate_left
 ·have h:p∉v.tr.panes:=by simpa using h
  exact⟨true,rfl,trivial,fun _=>q0 (if_neg h) H .refl,fun z=>by cases z⟩
 have h:p∈v.tr.panes:=by simpa using h
 rw[gwt e1,gpn ep]
 refine c156 G (by omega) hL (he▸hv.fine) (fun hs H1 s1=>?_) fun t' hs H1 s1 l1=>?_
 ·rw[he]at hs
  exact⟨true,rfl,trivial,fun _=>q0 (by unfold dropW;rw[if_pos h,hs];rfl) H1 s1,fun z=>by cases z⟩
 rw[he]at hs
 obtain⟨hW,hmem,k1,hnd,etr,hfil,_⟩:=drop_ok hv h hs
 have hq:=fun H'=>q1 (dropV v p (er t')) (by unfold dropW;rw[if_pos h,hs];rfl) h H'
 rw[etr]at hq
 have F1:=hF.sb s1
 have et':t'.panes=(er t').panes:=er_panes.symm
 refine⟨false,rfl,trivial,(fun z=>by cases z),fun _=>?_⟩
 rw[gwt (s1.inst e1)]
 refine c73 G (by have:=hsm.dep;omega) (hL.sb s1) hsm fun r2 H2 s2 e3=>⟨⟨_,_,_,rfl,e3⟩,?_⟩
 have S2:Sb H H2:=s1.trans s2
 rw[gpn (S2.inst ep)]
 refine⟨true,t.panes,e3,by rw[ept];exact h,by rw[ept];unfold cap;omega,r,_,_,_,_,294,rfl,S2.inst e1,rfl,rfl,?_⟩
 refine c294d G (ps:=v.tr.panes) (by omega) ⟨dx,nm,S2.inst e1⟩ (S2.list e2) (l1.sb s2) (er_sm.mp k1.sm) (by rw[et'];exact hnd) (fun x hx=>((hmem x).mp (by rwa [et']at hx)).1) (fun x hx=>⟨_,(hF.sz x hx).sb S2⟩) ⟨_,(hF.sz v.act hv.act).sb S2⟩ (by omega) fun H3 x3 f3=>?_
 rw[et']at x3
 have X3:Ex (r::(er t').panes.map pa) H H3:=S2.ex.trans x3
 obtain⟨dx3,nm3,lp3,lay3,g1,g2,g3⟩:=f3.re
 have pno:pa p∉r::(er t').panes.map pa:=fun z=>by
  rcases List.mem_cons.mp z with z|z
  ·rw[z,e1]at ep;cases ep
  ·obtain⟨k,hk,ek⟩:=List.mem_map.mp z
   obtain⟨hk1,hk2⟩:=(hmem k).mp hk
   exact hk2 ((hF.sz k hk1).inj ⟨dxp,ep⟩ ek)
 have ep3:=X3.inst ep pno
 have own:∀k∈v.tr.panes,∃o,H3 (pa k)=some o∧o.2≠.opq:=fun k hk=>by
  by_cases hkp:k=p
  ·subst hkp;exact⟨_,ep3,fun z=>by cases z⟩
  ·obtain⟨d,e⟩:=f3.sz k ((hmem k).mpr ⟨hk,hkp⟩)
   exact⟨_,e,fun z=>by cases z⟩
 have inj:∀k∈v.tr.panes,pa k=pa p→k=p:=fun k hk e=>(hF.sz k hk).inj ⟨dxp,ep⟩ e
 rw[gwl g1]
 have stepLast:∀(P:AH→Prop),(∀H4,Ex [r] H3 H4→H4 r=some (false,.inst 420 dx3 (wfl num nm3 lp3 (pa v.act) (lastV pa (if v.last=some p then none else v.last)) lay3 false))→P H4)→
   ∃b,ais (lastV pa v.last) (.ref (pa p))=some b∧isOK H3 (lastV pa v.last) (.ref (pa p))∧(b=true→SetA (.ref r) 18 .none H3 P)∧(b=false→P H3):=by
  intro P hP
  cases hl:v.last with
  |none=>
   refine⟨false,rfl,trivial,(fun z=>by cases z),fun _=>hP H3 .refl ?_⟩
   have e:(if v.last=some p then none else v.last)=none:=by rw[hl];simp
   rw[e]
   rw[hl]at g1;exact g1
  |some l=>
   have hlm:=hv.last l hl
   refine⟨decide (pa l=pa p),rfl,⟨own l hlm,(own p h).imp fun _ z=>z.1⟩,fun hd=>?_,fun hd=>hP H3 .refl ?_⟩
   ·have:l=p:=inj l hlm (of_decide_eq_true hd)
    subst this
    rw[hl]at g1
    rw[swl g1]
    refine hP _ Ex.put ?_
    rw[AH.set_same];simp[lastV,hl]
   ·have:l≠p:=fun z=>by rw[z]at hd;simp at hd
    rw[hl]at g1
    have:¬(some l=some p):=fun z=>this (by simpa using z)
    rw[hl,if_neg this];exact g1
 refine stepLast _ fun H4 x4 e4=>?_
 generalize hl1:(if v.last=some p then none else v.last)=l1 at e4
 have hl1m:∀l,l1=some l→l∈(er t').panes:=fun l hl=>by
  subst hl
  split at hl1
  ·cases hl1
  ·rename_i hne
   exact(hmem l).mpr ⟨hv.last l hl1,fun z=>hne (z▸hl1)⟩
 have F4:FW H4 pa r num ⟨er t',v.act,l1,false⟩:=g3 v.act l1 H4 x4 e4
 have M3:Mu H3 [r]:=.cons g1 .nil
 have g24:=x4.fz M3 no_list g2
 have own4:∀k∈v.tr.panes,∃o,H4 (pa k)=some o∧o.2≠.opq:=fun k hk=>by
  by_cases hkp:k=p
  ·subst hkp;exact⟨_,x4.inst ep3 (fun z=>pno (by rw[List.mem_singleton.mp z];exact .head _)),fun z=>by cases z⟩
  ·obtain⟨d,e⟩:=F4.sz k ((hmem k).mpr ⟨hk,hkp⟩)
   exact⟨_,e,fun z=>by cases z⟩
 have X4:Ex (r::(er t').panes.map pa) H H4:=X3.trans (x4.mono fun b hb=>by rw[List.mem_singleton.mp hb];exact .head _)
 rw[gwa e4]
 refine⟨decide (pa v.act=pa p),rfl,⟨own4 _ hv.act,(own4 p h).imp fun _ z=>z.1⟩,fun hd=>?_,fun hd=>?_⟩
 ·have hact:v.act=p:=inj _ hv.act (of_decide_eq_true hd)
  have fin:∀a,dropV v p (er t')=⟨er t',a,none,false⟩→SetA (.ref r) 17 (.ref (pa a)) H4 fun H=>SetA (.ref r) 18 .none H fun H=>Q (.bool true) H:=by
   intro a ha
   rw[swa e4,swl (AH.set_same _ _ _),AH.set_set]
   have x5:Ex [r] H4 (H4.set r (.inst 420 dx3 (wfl num nm3 lp3 (pa a) .none lay3 false))):=Ex.put
   refine hq _ (X4.trans (x5.mono fun b hb=>by rw[List.mem_singleton.mp hb];exact .head _)) ?_ hW
   rw[ha]
   exact g3 a none _ (x4.trans x5) (AH.set_same _ _ _)
  rw[gwl e4]
  cases hl1c:l1 with
  |none=>
   subst hl1c
   refine⟨true,rfl,trivial,(fun _=>?_),fun z=>by cases z⟩
   rw[gwp e4,bi_sub,bf_max]
   have hidx:Tr.mx 0 (((t.panes.idxOf p:Nat):Int)-1)=((v.tr.panes.idxOf p-1:Nat):Int):=by rw[ept];unfold Tr.mx;split<;>omega
   have hj:∃a,(er t').panes[v.tr.panes.idxOf p-1]?=some a:=by
    have:v.tr.panes.idxOf p<v.tr.panes.length:=List.idxOf_lt_length_iff.mpr h
    have hlt:(er t').panes.length+1=v.tr.panes.length∨v.tr.panes.idxOf p-1<(er t').panes.length:=by
     right
     have hc:=hW.act
     unfold dropV at hc
     dsimp only at hc
     rw[if_pos hact,hl1]at hc
     dsimp only at hc
     cases hx:(er t').panes[v.tr.panes.idxOf p-1]? with
     |some a=>exact(List.getElem?_eq_some_iff.mp hx).1
     |none=>
      exfalso
      have hge:=List.getElem?_eq_none_iff.mp hx
      have:v.tr.panes.length≤(er t').panes.length+1:=by
       obtain⟨pre,post,k4,k5⟩:∃pre post,v.tr.panes=pre++p::post∧(er t').panes=pre++post:=by
        have h1:v.tr.panes.length≠1:=fun z=>by rw[Tr.close_none hv.fine.ok (.inr z)]at hs;cases hs
        obtain⟨t2,e1,_,_,pre,post,k4,k5⟩:=Tr.close_good hv.fine h h1
        rw[hs]at e1;cases e1
        exact⟨pre,post,k4,k5⟩
       rw[k4,k5];simp;omega
      have h1:v.tr.panes.length≠1:=fun z=>by rw[Tr.close_none hv.fine.ok (.inr z)]at hs;cases hs
      omega
    rcases hlt with hlt|hlt
    ·have h1:v.tr.panes.length≠1:=fun z=>by rw[Tr.close_none hv.fine.ok (.inr z)]at hs;cases hs
     exact⟨_,List.getElem?_eq_getElem (by omega)⟩
    ·exact⟨_,List.getElem?_eq_getElem hlt⟩
   obtain⟨a,ha⟩:=hj
   refine gi_nat (j:=v.tr.panes.idxOf p-1) (u:=.ref (pa a)) g24 hidx (by have:=k1.sm.len;simp only[List.length_map];unfold cap;omega) (by rw[List.getElem?_map,ha];rfl) (fin a ?_)
   unfold dropV
   dsimp only
   rw[if_pos hact,hl1]
   simp only[ha,Option.getD_some]
  |some l=>
   subst hl1c
   refine⟨false,rfl,trivial,(fun z=>by cases z),fun _=>?_⟩
   rw[gwl e4]
   refine fin l ?_
   unfold dropV
   dsimp only
   rw[if_pos hact,hl1]
 ·have hact:v.act≠p:=fun z=>by rw[z]at hd;simp at hd
  refine hq H4 X4 ?_ hW
  unfold dropV
  dsimp only
  rw[if_neg hact,hl1]
  exact F4
end
end
section
theorem rs_ok {v:Win} {w h:Int} (hv:WOK v) (hw:w≤64) (hh:h≤64):WOK (rsW v w h)∧(rsW v w h).tr.panes=v.tr.panes:=by
 obtain⟨k1,k2⟩:=Tr.fit_good (w:=w) (h:=h) hv.fine hw hh
 have e:(rsW v w h).tr.panes=v.tr.panes:=k2
 exact⟨⟨k1,by rw[e];exact hv.nd,by rw[e];exact hv.act,fun l hl=>by rw[e];exact hv.last l hl,fun p hp=>hv.rng p (by rw[e]at hp;exact hp)⟩,e⟩
theorem lay_ok {v:Win} {t':T} (hv:WOK v) (hf:t'.Fine) (hp:t'.panes.Perm v.tr.panes):WOK (layW v t'):=
 ⟨hf,hp.nodup_iff.mpr hv.nd,hp.mem_iff.mpr hv.act,fun l hl=>hp.mem_iff.mpr (hv.last l hl),fun p hq=>hv.rng p (hp.mem_iff.mp hq)⟩
theorem swf_perm {one other:Int} {l:List Int} (nd:l.Nodup) (h1:one∈l) (h2:other∈l):(l.map (Tr.swf one other)).Perm l:=by
 have inv:∀p,Tr.swf one other (Tr.swf one other p)=p:=fun p=>by unfold Tr.swf;grind
 have mem:∀p∈l,Tr.swf one other p∈l:=fun p hp=>by unfold Tr.swf;grind
 have nd':(l.map (Tr.swf one other)).Nodup:=by
  refine List.Pairwise.map _ (fun a b hab z=>hab ?_) nd
  have:=congrArg (Tr.swf one other) z
  rwa [inv,inv]at this
 refine(List.perm_ext_iff_of_nodup nd' nd).mpr fun p=>⟨fun h=>?_,fun h=>?_⟩
 ·obtain⟨q,hq,rfl⟩:=List.mem_map.mp h;exact mem q hq
 ·exact List.mem_map.mpr ⟨_,mem p h,inv p⟩
theorem rot_perm {back:Bool} {l:List Int}:(Tr.rot back l).Perm l:=by
 unfold Tr.rot
 split
 ·exact List.perm_append_comm.trans (by rw[List.take_append_drop])
 ·exact List.perm_append_comm.trans (by rw[List.take_append_drop])
theorem swap_good {v:Win} {one other:Int} {t':T} (hv:WOK v) (h:Tr.swapT v.tr one other=some t'):t'.Fine∧t'.panes.Perm v.tr.panes:=by
 unfold Tr.swapT at h
 split at h
 ·rename_i hm
  cases h
  obtain⟨k1,k2,_⟩:=Tr.ren_good (ns:=v.tr.panes.map (Tr.swf one other)) hv.fine hv.nd (by simp)
  exact⟨k1,by rw[k2];exact swf_perm hv.nd hm.1 hm.2⟩
 ·cases h
theorem rot_good {v:Win} {back:Bool} (hv:WOK v):(Tr.rotT back v.tr).Fine∧(Tr.rotT back v.tr).panes.Perm v.tr.panes:=by
 obtain⟨k1,k2,_⟩:=Tr.ren_good (ns:=Tr.rot back v.tr.panes) hv.fine hv.nd (rot_perm.length_eq)
 exact⟨k1,by unfold Tr.rotT;rw[k2];exact rot_perm⟩
section
variable {W:Wd} {n m:Nat} {H:AH} {Q:AV→AH→Prop} {QS:AH→Prop}
theorem c359 (G:GD W) {pa:Int→Addr} {r:Addr} {num w h:Int} {v:Win} (hm:45≤m) (hF:FW H pa r num v) (hv:WOK v) (hw:w≤64) (hh:h≤64) (q:∀H',Ex (r::v.tr.panes.map pa) H H'→FW H' pa r num (rsW v w h)→Q .none H'):CallF W 359 [.ref r,.int w,.int h] m H Q:=by
 obtain⟨n,rfl,hn⟩:=pos_of (show 44+1≤m from hm)
 obtain⟨t,R⟩:=hF.rw
 obtain⟨⟨dx,nm,lp,e1,e2⟩,hL,he⟩:=id R
 obtain⟨hv',ep'⟩:=rs_ok hv hw hh
 refine enter G (f359 _) (hb359 _) (ws:=[]) (fun h _=>by simp only[VRs]) rfl ?_
 unfold b359 x359
 walk_at "wp"
 rw[gwt e1]
 refine c163 G (by omega) hL (he▸hv.fine) fun t' H1 ht s1 l1=>?_
 rw[he]at ht
 rw[swt (s1.inst e1)]
 have x2:Ex [r] H1 (H1.set r (.inst 420 dx (wfl num nm lp (pa v.act) (lastV pa v.last) t'.tag.1 v.zoom))):=Ex.put
 have e3:(H1.set r (.inst 420 dx (wfl num nm lp (pa v.act) (lastV pa v.last) t'.tag.1 v.zoom))) r=some (false,.inst 420 dx (wfl num nm lp (pa v.act) (lastV pa v.last) t'.tag.1 v.zoom)):=AH.set_same _ _ _
 generalize H1.set r (.inst 420 dx (wfl num nm lp (pa v.act) (lastV pa v.last) t'.tag.1 v.zoom))=H2 at x2 e3
 have M1:Mu H1 [r]:=.cons (s1.inst e1) .nil
 have X2:Ex [r] H H2:=s1.ex.trans x2
 have M0:Mu H [r]:=.cons e1 .nil
 have rout:=hF.out hF.pn
 have R3:RO true H2 pa r num (rsW v w h) t' (rsW v w h).tr.panes:=⟨⟨dx,nm,lp,e3,by rw[ep'];exact X2.fz M0 no_list e2⟩,l1.mu x2 M1,ht⟩
 have P3:∀n∈(rsW v w h).tr.panes,∃s,PN H2 pa n s:=fun n hn=>by
  rw[ep']at hn
  exact⟨_,(hF.sz n hn).ex X2 fun z=>rout (by rw[←List.mem_singleton.mp z];exact List.mem_map.mpr ⟨n,hn,rfl⟩)⟩
 refine⟨r,_,_,_,_,287,rfl,e3,rfl,rfl,c287 G (by omega) R3 P3 (P3 v.act (by rw[ep'];exact hv.act)) hv'.fine.sm hv'.nd fun H5 x5 h5=>?_⟩
 refine q H5 ?_ ⟨⟨t',R3.ex x5 (PN.mu P3) (win_out R3 P3) (.inl rfl)⟩,h5⟩
 rw[ep']at x5
 exact(X2.mono fun b hb=>by rw[List.mem_singleton.mp hb];exact .head _).trans (x5.mono fun b hb=>.tail _ hb)
theorem c380 (G:GD W) {pa:Int→Addr} {r:Addr} {num one other:Int} {v:Win} (hm:45≤m) (hF:FW H pa r num v) (hv:WOK v) (h1:∃s,PN H pa one s) (h2:∃s,PN H pa other s) (q0:swW v one other=none→∀H',Sb H H'→Q (.bool false) H')
  (q1:∀v',swW v one other=some v'→∀H',Ex (r::v.tr.panes.map pa) H H'→FW H' pa r num v'→WOK v'→Q (.bool true) H'):CallF W 380 [.ref r,.ref (pa one),.ref (pa other)] m H Q:=by
 obtain⟨n,rfl,hn⟩:=pos_of (show 44+1≤m from hm)
 obtain⟨t,R⟩:=hF.rw
 obtain⟨⟨dx,nm,lp,e1,e2⟩,hL,he⟩:=id R
 obtain⟨s,dxp,ep⟩:=id h1
 obtain⟨s',dxo,eo⟩:=id h2
 have ept:t.panes=v.tr.panes:=by rw[←he,er_panes]
 have hlen:=hv.fine.sm.len
 refine enter G (f380 _) (hb380 _) (ws:=[]) (fun h _=>by simp only[VRs]) rfl ?_
 unfold b380 x380
 walk_at "wp"
 rw[gwt e1,gpn ep,gpn eo]
 refine c175 G (by omega) hL (he▸hv.fine) (by rw[ept];exact hv.nd) (fun hs H1 s1=>?_) fun t' H1 hs s1 l1=>?_
 ·rw[he]at hs
  refine⟨true,rfl,trivial,(fun z=>by cases z),fun _=>⟨true,rfl,trivial,?_⟩⟩
  exact q0 (by unfold swW;rw[hs];rfl) H1 s1
 rw[he]at hs
 obtain⟨k1,k2⟩:=swap_good hv hs
 have et':t'.panes=(er t').panes:=er_panes.symm
 have hW:=lay_ok hv k1 k2
 refine⟨false,rfl,trivial,(fun _=>⟨r,_,_,_,_,294,rfl,s1.inst e1,rfl,rfl,?_⟩),fun z=>by cases z⟩
 refine c294d G (ps:=v.tr.panes) (by omega) ⟨dx,nm,s1.inst e1⟩ (s1.list e2) l1 (er_sm.mp k1.sm) (by rw[et'];exact hW.nd) (fun x hx=>k2.mem_iff.mp (by rwa [et']at hx)) (fun x hx=>⟨_,(hF.sz x hx).sb s1⟩) ⟨_,(hF.sz v.act hv.act).sb s1⟩ (by omega) fun H3 x3 f3=>⟨false,rfl,trivial,?_⟩
 rw[et']at x3
 exact q1 (layW v (er t')) (by unfold swW;rw[hs];rfl) H3 ((s1.ex.trans x3).mono fun b hb=>by
  rcases List.mem_cons.mp hb with rfl|hb
  ·exact .head _
  ·obtain⟨k,hk,rfl⟩:=List.mem_map.mp hb
   exact .tail _ (List.mem_map.mpr ⟨k,k2.mem_iff.mp hk,rfl⟩)) f3 hW
theorem ro_ok {v:Win} {back:Bool} (hv:WOK v):WOK (roW v back)∧(roW v back).tr=Tr.rotT back v.tr:=by
 obtain⟨k1,k2⟩:=rot_good (back:=back) hv
 exact⟨selW_ok (lay_ok hv k1 k2),selW_tr⟩
theorem c388 (G:GD W) {pa:Int→Addr} {r:Addr} {num:Int} {back:Bool} {v:Win} (hm:45≤m) (hF:FW H pa r num v) (hv:WOK v) (q:∀H',Ex (r::v.tr.panes.map pa) H H'→FW H' pa r num (roW v back)→Q .none H'):CallF W 388 [.ref r,.bool back] m H Q:=by
 obtain⟨n,rfl,hn⟩:=pos_of (show 44+1≤m from hm)
 obtain⟨t,R⟩:=hF.rw
 obtain⟨⟨dx,nm,lp,e1,e2⟩,hL,he⟩:=id R
 have hsm:t.Sm:=er_sm.mp (he▸hv.fine.sm)
 have ept:t.panes=v.tr.panes:=by rw[←he,er_panes]
 have hlen:=hv.fine.sm.len
 refine enter G (f388 _) (hb388 _) (ws:=[]) (fun h _=>by simp only[VRs]) rfl ?_
 unfold b388 x388
 walk_at "wp"
 rw[gwt e1]
 refine c73 G (by have:=hsm.dep;omega) hL hsm fun r1 H1 s1 e3=>⟨⟨_,_,_,rfl,e3⟩,?_⟩
 rw[gwa (s1.inst e1)]
 obtain⟨dxa,ea⟩:=(hF.sz v.act hv.act).sb s1
 rw[gpn ea]
 refine⟨true,t.panes,e3,by rw[ept];exact hv.act,by rw[ept];unfold cap;omega,r,_,_,_,_,294,rfl,s1.inst e1,rfl,rfl,?_⟩
 rw[gwt (s1.inst e1)]
 refine c183 G (back:=back) (by omega) (hL.sb s1) (he▸hv.fine) (by rw[ept];exact hv.nd) fun t' H2 hs s2 l2=>?_
 rw[he]at hs
 obtain⟨k1,k2⟩:=rot_good (back:=back) hv
 rw[←hs]at k1 k2
 have et':t'.panes=(er t').panes:=er_panes.symm
 have hW:=lay_ok hv k1 k2
 have S2:Sb H H2:=s1.trans s2
 refine c294d G (ps:=v.tr.panes) (by omega) ⟨dx,nm,S2.inst e1⟩ (S2.list e2) l2 (er_sm.mp k1.sm) (by rw[et'];exact hW.nd) (fun x hx=>k2.mem_iff.mp (by rwa [et']at hx)) (fun x hx=>⟨_,(hF.sz x hx).sb S2⟩) ⟨_,(hF.sz v.act hv.act).sb S2⟩ (by omega) fun H3 x3 f3=>?_
 rw[et']at x3
 obtain⟨t3,⟨dx3,nm3,lp3,g1,g2⟩,_⟩:=f3.rw
 refine⟨r,_,_,_,_,308,rfl,g1,rfl,rfl,?_⟩
 rw[gwp g1,ept]
 have hi:v.tr.panes.idxOf v.act<(er t').panes.length:=by rw[k2.length_eq];exact List.idxOf_lt_length_iff.mpr hv.act
 have hget:=List.getElem?_eq_getElem hi
 have hmem:=List.getElem_mem hi
 generalize (er t').panes[v.tr.panes.idxOf v.act]'hi=a at hget hmem
 have hkl:=k1.sm.len
 refine gi_nat (j:=v.tr.panes.idxOf v.act) (u:=.ref (pa a)) g2 rfl (by simp only[List.length_map];unfold cap;omega) (by rw[List.getElem?_map,hget];rfl) ?_
 refine c308 G (v:=layW v (er t')) (by omega) f3 hW (f3.pn a hmem) fun H4 x4 f4=>?_
 have hro:roW v back=selW a (layW v (er t')):=by
  unfold roW
  rw[←hs,hget];rfl
 refine q H4 ?_ (hro▸f4)
 refine((S2.ex.trans x3).trans x4).mono fun b hb=>?_
 rcases List.mem_cons.mp hb with rfl|hb
 ·exact .head _
 ·obtain⟨k,hk,rfl⟩:=List.mem_map.mp hb
  exact .tail _ (List.mem_map.mpr ⟨k,k2.mem_iff.mp hk,rfl⟩)
theorem newPane (G:GD W) {k:Int} (hm:2≤m) (q:∀a H',H a=none→Sb H H'→(∃dx,H' a=some (false,.inst 239 dx (pfl k 0 0)))→Q (.ref a) H'):NewC W 239 [.int k] m H Q:=by
 obtain⟨n,rfl,hn⟩:=pos_of hm
 obtain⟨n,rfl,_⟩:=pos_of hn
 refine⟨222,n+1,rfl,rfl,fun a dx ha hd hne=>?_⟩
 refine enter G (f222 _) (hb222 _) (ws:=[.none]) (fun h _=>by simp only[VRs,VR];exact⟨_,_,rfl,rfl,rfl⟩) rfl ?_
 unfold b222 x222
 walk_at "wp"
 have e0:((H.set dx (.own a)).set a (.inst 239 dx [])) a=some (false,.inst 239 dx []):=AH.set_same _ _ _
 have st:∀{H:AH} {fs:List (Nat × AV)} {f:Nat} {u:AV} {QS:AH→Prop},H a=some (false,.inst 239 dx fs)→isField 239 f=true→fs.length≤100→QS (H.set a (.inst 239 dx (put fs f u)))→SetA (.ref a) f u H QS:=fun e hf hl q=>by
  rw[s_attr e hf hl];exact q
 refine st e0 (by decide) (by simp) (st (AH.set_same _ _ _) (by decide) (by simp[put]) (st (AH.set_same _ _ _) (by decide) (by simp[put]) (st (AH.set_same _ _ _) (by decide) (by simp[put]) (st (AH.set_same _ _ _) (by decide) (by simp[put]) (st (AH.set_same _ _ _) (by decide) (by simp[put]) (st (AH.set_same _ _ _) (by decide) (by simp[put]) (st (AH.set_same _ _ _) (by decide) (by simp[put]) ?_)))))))
 simp only[AH.set_set]
 refine q a _ ha (fun b f o n e _=>?_) ⟨dx,AH.set_same _ _ _⟩
 rw[AH.set_ne _ _ (ne_of_none ha e),AH.set_ne _ _ (ne_of_none hd e)];exact e
end
end
section
def oneW (p w h:Int):Win:=⟨.leaf () w h 0 0 p,p,none,false⟩
theorem one_ok {p w h:Int} (hp:0≤p∧p<1000) (hw:1≤w∧w≤64) (hh:1≤h∧h≤64):WOK (oneW p w h):=by
 refine⟨⟨⟨⟨hw.1,hh.1⟩,by simp[oneW,Tr.panes_leaf]⟩,by simp[oneW,Tr.geo],hw.2,hh.2,fun s hs=>?_⟩,by simp[oneW,Tr.panes_leaf],by simp[oneW,Tr.panes_leaf],(fun l e=>by cases e),fun q hq=>?_⟩
 ·simp only[oneW,Tr.subs,List.mem_singleton]at hs
  subst hs
  exact⟨hw.1,hw.2,hh.1,hh.2,by simp[Tr.x],by simp[Tr.x],by simp[Tr.y],by simp[Tr.y]⟩
 ·simp only[oneW,Tr.panes_leaf,List.mem_singleton]at hq
  subst hq;exact hp
section
variable {W:Wd} {n m:Nat} {H:AH} {Q:AV→AH→Prop} {QS:AH→Prop}
theorem newWin (G:GD W) {pa:Int→Addr} {num p w h:Int} {nm:Array UInt8} (hm:38≤m) (hp:∃s,PN H pa p s) (hw:1≤w∧w≤64) (hh:1≤h∧h≤64)
  (q:∀a H',H a=none→Ex [pa p] H H'→FW H' pa a num (oneW p w h)→Q (.ref a) H'):NewC W 420 [.int num,.bytes nm,.ref (pa p),.int w,.int h] m H Q:=by
 obtain⟨n,rfl,hn⟩:=pos_of (show 37+1≤m from hm)
 obtain⟨n,rfl,hn⟩:=pos_of (show 36+1≤n from hn)
 refine⟨264,n+1,rfl,rfl,fun a dx ha hd hne=>?_⟩
 refine CallF.fz (enter G (f264 _) (hb264 _) (ws:=[]) (fun h _=>by simp only[VRs]) rfl ?_)
 obtain⟨s,dxp,ep⟩:=hp
 have s0:Sb H ((H.set dx (.own a)).set a (.inst 420 dx [])):=fun b f o n e _=>by
  rw[AH.set_ne _ _ (ne_of_none ha e),AH.set_ne _ _ (ne_of_none hd e)];exact e
 have e0:((H.set dx (.own a)).set a (.inst 420 dx [])) a=some (false,.inst 420 dx []):=AH.set_same _ _ _
 generalize (H.set dx (.own a)).set a (.inst 420 dx [])=H0 at s0 e0
 have apa:pa p≠a:=fun z=>by rw[z,ha]at ep;cases ep
 unfold b264 x264
 walk_at "wp"
 have st:∀{H:AH} {fs:List (Nat × AV)} {f:Nat} {u:AV} {QS:AH→Prop},H a=some (false,.inst 420 dx fs)→isField 420 f=true→fs.length≤100→(∀H',Ex [a] H H'→H' a=some (false,.inst 420 dx (put fs f u))→QS H')→SetA (.ref a) f u H QS:=fun e hf hl q=>by
  rw[s_attr e hf hl];exact q _ Ex.put (AH.set_same _ _ _)
 refine st e0 (by decide) (by simp) fun H1 x1 e1=>st e1 (by decide) (by simp[put]) fun H2 x2 e2=>⟨by decide,fun rl hrl=>?_⟩
 have s3:Sb H2 (H2.set rl (.list [.ref (pa p)])):=.new hrl
 have el3:(H2.set rl (.list [.ref (pa p)])) rl=some (false,.list ([p].map fun n=>.ref (pa n))):=AH.set_same _ _ _
 generalize H2.set rl (.list [.ref (pa p)])=H3 at s3 el3
 have rla:rl≠a:=fun z=>by rw[z,e2]at hrl;cases hrl
 refine st (s3.inst e2) (by decide) (by simp[put]) fun H4 x4 e4=>st e4 (by decide) (by simp[put]) fun H5 x5 e5=>st e5 (by decide) (by simp[put]) fun H6 x6 e6=>?_
 have X2:Ex [a] H H2:=s0.ex.trans (x1.trans x2)
 have X6:Ex [a] H H6:=X2.trans (s3.ex.trans (x4.trans (x5.trans x6)))
 rw[gpn (X6.inst ep (fun z=>apa (List.mem_singleton.mp z)))]
 refine c56 G (by omega) fun la ll H7 hla hll s7 l7=>?_
 refine st (s7.inst e6) (by decide) (by simp[put]) fun H8 x8 e8=>st e8 (by decide) (by simp[put]) fun H9 x9 e9=>st e9 (by decide) (by simp[put]) fun H10 x10 e10=>st e10 (by decide) (by simp[put]) fun H11 x11 e11=>st e11 (by decide) (by simp[put]) fun H12 x12 e12=>?_
 have Y:Ex [a] H7 H12:=x8.trans (x9.trans (x10.trans (x11.trans x12)))
 have X12:Ex [a] H H12:=X6.trans (s7.ex.trans Y)
 have e12':H12 a=some (false,.inst 420 dx (wfl num nm rl (pa p) (lastV pa none) la false)):=e12
 have M7:Mu H7 [a]:=.cons (s7.inst e6) .nil
 have hl12:H12 rl=some (false,.list ([p].map fun n=>.ref (pa n))):=by
  have k:Ex [a] H3 H12:=(x4.trans (x5.trans x6)).trans (s7.ex.trans Y)
  exact k.list el3 (fun z=>rla (List.mem_singleton.mp z))
 have R:RO false H12 pa a num (oneW p w h) (.leaf (la,ll) w h 0 0 p) (oneW p w h).tr.panes:=⟨⟨dx,nm,rl,e12',hl12⟩,l7.mu Y M7,rfl⟩
 have P:∀n∈(oneW p w h).tr.panes,∃s,PN H12 pa n s:=fun n hn=>by
  simp only[oneW,Tr.panes_leaf,List.mem_singleton]at hn
  subst hn
  exact⟨s,dxp,X12.inst ep (fun z=>apa (List.mem_singleton.mp z))⟩
 refine⟨a,_,_,_,_,287,rfl,e12',rfl,rfl,?_⟩
 refine c287 G (by omega) R P (P p (by simp[oneW,Tr.panes_leaf])) ⟨⟨hw.1,hh.1⟩,by simp[oneW,Tr.panes_leaf]⟩ (by simp[oneW,Tr.panes_leaf]) fun H13 x13 h13=>⟨[rl],q a _ ha ?_ ?_⟩
 ·have hN:Nw H [rl]:=Nw.ex X2 (fun b hb hz=>rla (by rw[←List.mem_singleton.mp hb,List.mem_singleton.mp hz])) (.of hrl)
  have k:Ex [a,pa p] H H13:=(X12.mono fun b hb=>by rw[List.mem_singleton.mp hb];simp).trans (x13.mono fun b hb=>by simpa[oneW,Tr.panes_leaf]using Or.inr hb)
  have k':Ex [pa p] H H13:=fun b f o no e hb=>k b f o no e fun z=>by
   simp only[List.mem_cons,List.not_mem_nil,or_false]at z
   rcases z with z|z
   ·rw[z,ha]at e;cases e
   ·exact hb (by simp[z])
  exact fz_exw k' hN
 ·have rout:a∉(oneW p w h).tr.panes.map pa:=win_out R P
  have rlout:rl∉(oneW p w h).tr.panes.map pa:=fun z=>by
   obtain⟨k,hk,ek⟩:=List.mem_map.mp z
   obtain⟨s,d,e'⟩:=P k hk
   rw[ek,hl12]at e';cases e'
  refine⟨⟨.leaf (la,ll) w h 0 0 p,⟨⟨dx,nm,rl,fz_out no_inst (x13.inst e12' rout) (fun z=>rla (List.mem_singleton.mp z).symm),?_⟩,((l7.mu Y M7).mu x13 (PN.mu P)).le fz_le,rfl⟩⟩,fun n hn=>(h13 n hn).fz fun z=>?_⟩
  ·exact fz_in (as:=[rl]) no_list (x13.list hl12 rlout) (by simp)
  ·exact rlout (by rw[←List.mem_singleton.mp z];exact List.mem_map.mpr ⟨n,hn,rfl⟩)
theorem prop_w (G:GD W) {pa:Int→Addr} {r:Addr} {num:Int} {v:Win} (hm:2≤m) (hR:RW H pa r num v) (q:Q (.int v.tr.w) H):GetA W (.ref r) 1 m H Q:=by
 obtain⟨n,rfl,hn⟩:=pos_of hm
 obtain⟨n,rfl,hn⟩:=pos_of hn
 obtain⟨t,⟨dx,nm,lp,e1,e2⟩,hL,he⟩:=hR
 obtain⟨⟨dxt,et⟩,_⟩:=hL.nd
 refine⟨r,_,_,_,_,rfl,e1,.inr ⟨271,n+1,rfl,rfl,enter G (f271 _) (hb271 _) (ws:=[]) (fun h _=>by simp only[VRs]) rfl ?_⟩⟩
 unfold b271 x271
 walk_at "wp"
 rw[gwt e1,gw et]
 rw[←he]at q
 have:(er t).w=t.w:=Tr.map_w
 rwa [this]at q
theorem prop_h (G:GD W) {pa:Int→Addr} {r:Addr} {num:Int} {v:Win} (hm:2≤m) (hR:RW H pa r num v) (q:Q (.int v.tr.h) H):GetA W (.ref r) 2 m H Q:=by
 obtain⟨n,rfl,hn⟩:=pos_of hm
 obtain⟨n,rfl,hn⟩:=pos_of hn
 obtain⟨t,⟨dx,nm,lp,e1,e2⟩,hL,he⟩:=hR
 obtain⟨⟨dxt,et⟩,_⟩:=hL.nd
 refine⟨r,_,_,_,_,rfl,e1,.inr ⟨279,n+1,rfl,rfl,enter G (f279 _) (hb279 _) (ws:=[]) (fun h _=>by simp only[VRs]) rfl ?_⟩⟩
 unfold b279 x279
 walk_at "wp"
 rw[gwt e1,gh et]
 rw[←he]at q
 have:(er t).h=t.h:=Tr.map_h
 rwa [this]at q
theorem fine_wh {t:T} (h:t.Fine):(1≤t.w∧t.w≤64)∧1≤t.h∧t.h≤64:=
 ⟨⟨by rw[Tr.side_w];exact Tr.geo_pos h.ok h.geo true,h.bw⟩,by rw[Tr.side_h];exact Tr.geo_pos h.ok h.geo false,h.bh⟩
theorem c431 (G:GD W) {pa:Int→Addr} {r:Addr} {num num2 p:Int} {nm:Array UInt8} {v:Win} (hm:50≤m) (hF:FW H pa r num v) (hv:WOK v) (hp:∃s,PN H pa p s) (q0:dropW v p=none→∀H',Sb H H'→Q .none H')
  (q1:∀v',dropW v p=some v'→∀a H',Ex (r::v.tr.panes.map pa) H H'→(∀f o,no o→H a≠some (f,o))→FW H' pa r num v'→WOK v'→FW H' pa a num2 (oneW p v.tr.w v.tr.h)→Q (.ref a) H'):CallF W 431 [.ref r,.ref (pa p),.int num2,.bytes nm] m H Q:=by
 obtain⟨n,rfl,hn⟩:=pos_of (show 49+1≤m from hm)
 refine enter G (f431 _) (hb431 _) (ws:=[]) (fun h _=>by simp only[VRs]) rfl ?_
 unfold b431 x431
 walk_at "wp"
 obtain⟨t,R⟩:=hF.rw
 obtain⟨⟨dx,nm',lp,e1,e2⟩,hL,he⟩:=id R
 obtain⟨fw,fh⟩:=fine_wh hv.fine
 refine prop_w G (by omega) hF.rw (prop_h G (by omega) hF.rw ⟨by decide,r,_,_,_,_,352,rfl,e1,rfl,rfl,?_⟩)
 refine c352 G (by omega) hF hv hp (fun hd H1 s1=>⟨_,rfl,fun _=>q0 hd H1 s1,fun z=>by cases z⟩) fun v' hd hpm H1 x1 f1 w1=>⟨_,rfl,(fun z=>by cases z),fun _=>?_⟩
 have hd':=hd
 unfold dropW at hd'
 rw[if_pos hpm]at hd'
 cases hc:Tr.closeT v.tr p with
 |none=>rw[hc]at hd';cases hd'
 |some t'=>
  rw[hc]at hd'
  cases hd'
  obtain⟨_,hmem,k1,hnd,etr,hfil,_⟩:=drop_ok hv hpm hc
  rw[etr]at x1
  obtain⟨s,dxp,ep⟩:=id hp
  have pno:pa p∉r::t'.panes.map pa:=fun z=>by
   rcases List.mem_cons.mp z with z|z
   ·rw[z,e1]at ep;cases ep
   ·obtain⟨k,hk,ek⟩:=List.mem_map.mp z
    obtain⟨hk1,hk2⟩:=(hmem k).mp hk
    exact hk2 ((hF.sz k hk1).inj ⟨dxp,ep⟩ ek)
  have sub:∀b∈r::t'.panes.map pa,b∈r::v.tr.panes.map pa:=fun b hb=>by
   rcases List.mem_cons.mp hb with rfl|hb
   ·exact .head _
   ·obtain⟨k,hk,rfl⟩:=List.mem_map.mp hb
    exact .tail _ (List.mem_map.mpr ⟨k,((hmem k).mp hk).1,rfl⟩)
  refine newWin G (by omega) ⟨s,dxp,x1.inst ep pno⟩ fw fh fun a H2 ha x2 f2=>?_
  have m2:Mu H1 [pa p]:=.cons (x1.inst ep pno) .nil
  have f1':FW H2 pa r num (dropV v p t'):=f1.ex x2 m2 (fun z=>by
   rw[←List.mem_singleton.mp z]at pno;exact pno (.head _)) fun k hk z=>by
    rw[etr]at hk
    have:pa k=pa p:=List.mem_singleton.mp z
    exact pno (by rw[←this];exact .tail _ (List.mem_map.mpr ⟨k,hk,rfl⟩))
  refine q1 _ hd a H2 ((x1.mono sub).trans (x2.mono fun b hb=>by rw[List.mem_singleton.mp hb];exact .tail _ (List.mem_map.mpr ⟨p,hpm,rfl⟩))) (fun f o no e=>?_) f1' w1 f2
  by_cases hx:a∈r::t'.panes.map pa
  ·rcases List.mem_cons.mp hx with rfl|hx
   ·obtain⟨_,⟨_,_,_,g,_⟩,_⟩:=f1.rw
    rw[ha]at g;cases g
   ·obtain⟨k,hk,rfl⟩:=List.mem_map.mp hx
    obtain⟨d,g⟩:=f1.sz k (by rw[etr];exact hk)
    rw[ha]at g;cases g
  ·have:=x1 a f o no e hx
   rw[ha]at this;cases this
end
end
section
theorem split_mem {t t':T} {p fresh:Int} {d before:Bool} {size:Option Int} (hf:t.Fine) (nd:t.panes.Nodup) (hs:Tr.splitT t p fresh d size before=some t') (hl:t.panes.length+1≤20) :
  t'.Fine∧t'.panes.Nodup∧(∀x,x∈t'.panes↔x∈t.panes∨x=fresh)∧fresh∉t.panes∧t'.panes.length=t.panes.length+1∧∀d,t'.side d=t.side d:=by
 obtain⟨k1,k2,k3,pre,post,k4,k5⟩:=Tr.split_good hf hs hl
 have per:t'.panes.Perm (fresh::t.panes):=by
  rw[k4,k5]
  cases before
  ·simp only[Bool.false_eq_true,if_false,List.append_assoc,List.cons_append,List.nil_append]
   have h:(pre++p::fresh::post)=(pre++[p])++fresh::post:=by simp
   rw[h]
   exact List.perm_middle.trans (by simp)
  ·simp only[if_true,List.append_assoc,List.cons_append,List.nil_append]
   exact List.perm_middle
 refine⟨k1,per.nodup_iff.mpr (List.nodup_cons.mpr ⟨k3,nd⟩),fun x=>by rw[per.mem_iff,List.mem_cons,or_comm],k3,by rw[per.length_eq];simp,k2⟩
def joinS (v:Win) (p b:Int) (d:Bool) (size:Option Int) (before:Bool):Option Win:=
 if p∈v.tr.panes∧b∈v.tr.panes∧p≠b then(Tr.closeT v.tr p).bind fun g=>(Tr.splitT g b p d size before).map fun t'=>selW p (layW v t')else none
def joinD (v1 v2:Win) (p b:Int) (d:Bool) (size:Option Int) (before:Bool):Option (Win × Win):=
 if p∈v1.tr.panes∧b∈v2.tr.panes∧p≠b then(Tr.splitT v2.tr b p d size before).bind fun t'=>(dropW v1 p).map fun v1'=>(v1',selW p (layW v2 t'))else none
theorem joinS_ok {v:Win} {p b:Int} {t' g:T} {d before:Bool} {size:Option Int} (hv:WOK v) (hp:p∈v.tr.panes) (hc:Tr.closeT v.tr p=some g) (hs:Tr.splitT g b p d size before=some t'):WOK (layW v t')∧∀x,x∈t'.panes↔x∈v.tr.panes:=by
 obtain⟨_,hmem,k1,hnd,_,_⟩:=drop_ok hv hp hc
 have hlen:g.panes.length+1≤20:=by
  have h1:v.tr.panes.length≠1:=fun z=>by rw[Tr.close_none hv.fine.ok (.inr z)]at hc;cases hc
  obtain⟨t2,e1,_,_,pre,post,k4,k5⟩:=Tr.close_good hv.fine hp h1
  rw[hc]at e1;cases e1
  have:=hv.fine.sm.len
  rw[k4]at this
  rw[k5]
  simp only[List.length_append,List.length_cons]at *;omega
 obtain⟨j1,j2,j3,j4,_,_⟩:=split_mem k1 hnd hs hlen
 have hm:∀x,x∈t'.panes↔x∈v.tr.panes:=fun x=>by
  rw[j3,hmem]
  constructor
  ·rintro(h|rfl)
   ·exact h.1
   ·exact hp
  ·intro h
   by_cases hx:x=p
   ·exact .inr hx
   ·exact .inl ⟨h,hx⟩
 exact⟨⟨j1,j2,(hm _).mpr hv.act,fun l hl=>(hm l).mpr (hv.last l hl),fun x hx=>hv.rng x ((hm x).mp hx)⟩,hm⟩
section
variable {W:Wd} {n m:Nat} {H:AH} {Q:AV→AH→Prop} {QS:AH→Prop}
theorem c439s (G:GD W) {pa:Int→Addr} {r:Addr} {num p b:Int} {d before:Bool} {size:Option Int} {v:Win} (hm:50≤m) (hF:FW H pa r num v) (hv:WOK v) (hp:∃s,PN H pa p s) (hb:∃s,PN H pa b s) (q0:joinS v p b d size before=none→∀H',Sb H H'→Q (.bool false) H')
  (q1:∀v',joinS v p b d size before=some v'→∀H',Ex (r::v.tr.panes.map pa) H H'→FW H' pa r num v'→WOK v'→Q (.bool true) H'):CallF W 439 [.ref r,.ref (pa p),.ref r,.ref (pa b),.bool d,optV size,.bool before] m H Q:=by
 obtain⟨n,rfl,hn⟩:=pos_of (show 49+1≤m from hm)
 obtain⟨t,R⟩:=hF.rw
 obtain⟨⟨dx,nm,lp,e1,e2⟩,hL,he⟩:=id R
 obtain⟨sp,dxp,ep⟩:=id hp
 obtain⟨sb,dxb,eb⟩:=id hb
 have hlen:=hv.fine.sm.len
 refine enter G (f439 _) (hb439 _) (ws:=[.bool true]) (fun h _=>by simp only[VRs,VR];exact⟨_,_,rfl,rfl,rfl⟩) rfl ?_
 unfold b439 x439
 walk_at "wp"
 have no:¬(p∈v.tr.panes∧b∈v.tr.panes∧p≠b)→Q (.bool false) H:=fun h=>q0 (if_neg h) H .refl
 refine⟨r,_,_,_,_,301,rfl,e1,rfl,rfl,c301 G (by omega) R hF.pn hp ⟨_,rfl,fun h=>⟨fun _=>no fun z=>?_,fun z=>by cases z⟩,fun h=>⟨r,_,_,_,_,301,rfl,e1,rfl,rfl,c301 G (by omega) R hF.pn hb ⟨_,rfl,fun h2=>⟨fun _=>no fun z=>?_,fun z=>by cases z⟩,fun h2=>?_⟩⟩⟩⟩
 ·simp[z.1]at h
 ·simp[z.2.1]at h2
 have h:p∈v.tr.panes:=by simpa using h
 have h2:b∈v.tr.panes:=by simpa using h2
 refine⟨decide (pa p=pa b),rfl,⟨⟨_,ep,fun z=>by cases z⟩,_,eb⟩,fun hd=>no fun z=>z.2.2 ((hF.sz p h).inj (hF.sz b h2) (of_decide_eq_true hd)),fun hd=>?_⟩
 have hpb:p≠b:=fun z=>by rw[z]at hd;simp at hd
 have h1:v.tr.panes.length≠1:=fun z=>by
  obtain⟨x,hx⟩:=List.length_eq_one_iff.mp z
  rw[hx]at h h2
  rw[List.mem_singleton.mp h,List.mem_singleton.mp h2]at hpb
  exact hpb rfl
 rw[gwt e1]
 have hdec:decide (r=r)=true:=by simp
 refine⟨decide (r=r),rfl,⟨⟨_,e1,fun z=>by cases z⟩,_,e1⟩,fun _=>?_,fun z=>by rw[hdec]at z;cases z⟩
 rw[gpn ep]
 obtain⟨g,hc,_⟩:=Tr.close_good hv.fine h h1
 refine c156 G (by omega) hL (he▸hv.fine) (fun hs H1 s1=>by rw[he,hc]at hs;cases hs) fun g' hs H1 s1 l1=>?_
 rw[he,hc]at hs
 cases hs
 obtain⟨_,hmem,k1,hnd,_,_⟩:=drop_ok hv h hc
 rw[gpn (s1.inst eb),gpn (s1.inst ep)]
 refine c142 G (by omega) l1 k1 (fun hs H2 s2=>?_) fun t' hs H2 s2 l2=>?_
 ·exact⟨true,rfl,trivial,fun _=>q0 (by unfold joinS;rw[if_pos ⟨h,h2,hpb⟩,hc];simp[hs]) H2 (s1.trans s2),fun z=>by cases z⟩
 obtain⟨hW,hm'⟩:=joinS_ok hv h hc hs
 have et':t'.panes=(er t').panes:=er_panes.symm
 have S2:Sb H H2:=s1.trans s2
 refine⟨false,rfl,trivial,(fun z=>by cases z),fun _=>⟨decide (r=r),rfl,⟨⟨_,S2.inst e1,fun z=>by cases z⟩,_,S2.inst e1⟩,(fun z=>by rw[hdec]at z;cases z),fun _=>⟨r,_,_,_,_,294,rfl,S2.inst e1,rfl,rfl,by decide,fun lm hlm=>?_⟩⟩⟩
 have s3:Sb H2 (H2.set lm (.list [.ref (pa p)])):=.new hlm
 have em:(H2.set lm (.list [.ref (pa p)])) lm=some (false,.list ([p].map fun n=>.ref (pa n))):=AH.set_same _ _ _
 generalize H2.set lm (.list [.ref (pa p)])=H3 at s3 em
 have S3:Sb H H3:=S2.trans s3
 refine c294 G (ps:=v.tr.panes) (ms:=[p]) (by omega) ⟨dx,nm,S3.inst e1⟩ (S3.list e2) em (l2.sb s3) (er_sm.mp hW.fine.sm) (by rw[et'];exact hW.nd) (fun x hx=>List.mem_append_left _ ((hm' x).mp (by rwa [et']at hx))) (fun x hx=>?_) ⟨_,(hF.sz v.act hv.act).sb S3⟩ (by simp;omega) fun H4 x4 f4=>?_
 ·rcases List.mem_append.mp hx with hx|hx
  ·exact⟨_,(hF.sz x hx).sb S3⟩
  ·rw[List.mem_singleton.mp hx];exact⟨_,(hF.sz p h).sb S3⟩
 rw[et']at x4
 have hpm:p∈(er t').panes:=(hm' p).mpr h
 obtain⟨t4,⟨dx4,nm4,lp4,g4,_⟩,_⟩:=f4.rw
 have sub:∀b∈r::(er t').panes.map pa,b∈r::v.tr.panes.map pa:=fun b hb=>by
  rcases List.mem_cons.mp hb with rfl|hb
  ·exact .head _
  ·obtain⟨k,hk,rfl⟩:=List.mem_map.mp hb
   exact .tail _ (List.mem_map.mpr ⟨k,(hm' k).mp hk,rfl⟩)
 refine⟨fun _=>⟨r,_,_,_,_,308,rfl,g4,rfl,rfl,c308 G (v:=layW v (er t')) (by omega) f4 hW (f4.pn p hpm) fun H5 x5 f5=>?_⟩,fun z=>by cases z⟩
 exact q1 _ (by unfold joinS;rw[if_pos ⟨h,h2,hpb⟩,hc];simp[hs]) H5 ((S3.ex.trans (x4.trans x5)).mono sub) f5 (selW_ok hW)
theorem c439d (G:GD W) {pa:Int→Addr} {r r2:Addr} {num num2 p b:Int} {d before:Bool} {size:Option Int} {v v2:Win} (hm:50≤m) (hF:FW H pa r num v) (hv:WOK v) (hF2:FW H pa r2 num2 v2) (hv2:WOK v2) (hrr:r≠r2) (dis:∀x∈v.tr.panes,x∉v2.tr.panes) (hl1:v.tr.panes.length≠1)
  (hl2:v2.tr.panes.length+1≤20) (hp:∃s,PN H pa p s) (hb:∃s,PN H pa b s) (q0:joinD v v2 p b d size before=none→∀H',Sb H H'→Q (.bool false) H')
  (q1:∀w,joinD v v2 p b d size before=some w→∀H',Ex (r::r2::(v.tr.panes++v2.tr.panes).map pa) H H'→FW H' pa r num w.1→WOK w.1→FW H' pa r2 num2 w.2→WOK w.2→Q (.bool true) H'):CallF W 439 [.ref r,.ref (pa p),.ref r2,.ref (pa b),.bool d,optV size,.bool before] m H Q:=by
 obtain⟨n,rfl,hn⟩:=pos_of (show 49+1≤m from hm)
 obtain⟨t,R⟩:=hF.rw
 obtain⟨⟨dx,nm,lp,e1,e2⟩,hL,he⟩:=id R
 obtain⟨u,R2⟩:=hF2.rw
 obtain⟨⟨dx2,nm2,lp2,g1,g2⟩,hL2,he2⟩:=id R2
 obtain⟨sp,dxp,ep⟩:=id hp
 obtain⟨sb,dxb,eb⟩:=id hb
 have hlen:=hv.fine.sm.len
 refine enter G (f439 _) (hb439 _) (ws:=[.bool true]) (fun h _=>by simp only[VRs,VR];exact⟨_,_,rfl,rfl,rfl⟩) rfl ?_
 unfold b439 x439
 walk_at "wp"
 have no:¬(p∈v.tr.panes∧b∈v2.tr.panes∧p≠b)→Q (.bool false) H:=fun h=>q0 (if_neg h) H .refl
 refine⟨r,_,_,_,_,301,rfl,e1,rfl,rfl,c301 G (by omega) R hF.pn hp ⟨_,rfl,fun h=>⟨fun _=>no fun z=>?_,fun z=>by cases z⟩,fun h=>⟨r2,_,_,_,_,301,rfl,g1,rfl,rfl,c301 G (by omega) R2 hF2.pn hb ⟨_,rfl,fun h2=>⟨fun _=>no fun z=>?_,fun z=>by cases z⟩,fun h2=>?_⟩⟩⟩⟩
 ·simp[z.1]at h
 ·simp[z.2.1]at h2
 have h:p∈v.tr.panes:=by simpa using h
 have h2:b∈v2.tr.panes:=by simpa using h2
 have hpb:p≠b:=fun z=>dis p h (z▸h2)
 refine⟨decide (pa p=pa b),rfl,⟨⟨_,ep,fun z=>by cases z⟩,_,eb⟩,(fun hd=>absurd ((hF.sz p h).inj (hF2.sz b h2) (of_decide_eq_true hd)) hpb),fun _=>?_⟩
 rw[gwt g1]
 have hdec:decide (r=r2)=false:=by simpa using hrr
 refine⟨decide (r=r2),rfl,⟨⟨_,e1,fun z=>by cases z⟩,_,g1⟩,(fun z=>by rw[hdec]at z;cases z),fun _=>?_⟩
 rw[gpn eb,gpn ep]
 refine c142 G (by omega) hL2 (he2▸hv2.fine) (fun hs H2 s2=>?_) fun t' hs H2 s2 l2=>?_
 ·rw[he2]at hs
  exact⟨true,rfl,trivial,fun _=>q0 (by unfold joinD;rw[if_pos ⟨h,h2,hpb⟩];simp[hs]) H2 s2,fun z=>by cases z⟩
 rw[he2]at hs
 obtain⟨j1,j2,j3,j4,_,_⟩:=split_mem hv2.fine hv2.nd hs hl2
 have et':t'.panes=(er t').panes:=er_panes.symm
 have hW:WOK (layW v2 (er t')):=⟨j1,j2,(j3 _).mpr (.inl hv2.act),fun l e=>(j3 l).mpr (.inl (hv2.last l e)),fun x hx=>by
  rcases(j3 x).mp hx with h'|rfl
  ·exact hv2.rng x h'
  ·exact hv.rng x h⟩
 have F1:=hF.sb s2
 obtain⟨g,hc,_⟩:=Tr.close_good hv.fine h hl1
 have hdrop:dropW v p=some (dropV v p g):=by unfold dropW;rw[if_pos h,hc];rfl
 obtain⟨hWd,hmem,k1,hnd,etr,hfil,_⟩:=drop_ok hv h hc
 refine⟨false,rfl,trivial,(fun z=>by cases z),fun _=>⟨decide (r=r2),rfl,⟨⟨_,s2.inst e1,fun z=>by cases z⟩,_,s2.inst g1⟩,fun _=>⟨r,_,_,_,_,352,rfl,s2.inst e1,rfl,rfl,?_⟩,fun z=>by rw[hdec]at z;cases z⟩⟩
 refine c352 G (by omega) F1 hv (F1.pn p h) (fun hd=>by rw[hdrop]at hd;cases hd) fun v' hd _ H3 x3 f3 w3=>⟨r2,?_⟩
 rw[hdrop]at hd
 cases hd
 rw[etr]at x3
 have pin:∀k∈v.tr.panes,∀k'∈v2.tr.panes,pa k≠pa k':=fun k hk k' hk' z=>dis k hk ((hF.sz k hk).inj (hF2.sz k' hk') z▸hk')
 have rp2:r2∉v.tr.panes.map pa:=hF2.out hF.pn
 have rp1:r∉v2.tr.panes.map pa:=hF.out hF2.pn
 have x3s:Ex (r::v.tr.panes.map pa) H2 H3:=x3.mono fun b hb=>by
  rcases List.mem_cons.mp hb with rfl|hb
  ·exact .head _
  ·obtain⟨k,hk,rfl⟩:=List.mem_map.mp hb
   exact .tail _ (List.mem_map.mpr ⟨k,((hmem k).mp hk).1,rfl⟩)
 have m3:Mu H2 (r::v.tr.panes.map pa):=F1.mu
 have nin2:∀k∈v2.tr.panes,pa k∉r::v.tr.panes.map pa:=fun k hk z=>by
  rcases List.mem_cons.mp z with z|z
  ·exact rp1 (by rw[←z];exact List.mem_map.mpr ⟨k,hk,rfl⟩)
  ·obtain⟨k',hk',e⟩:=List.mem_map.mp z
   exact pin k' hk' k hk e
 have r2n:r2∉r::v.tr.panes.map pa:=fun z=>by
  rcases List.mem_cons.mp z with z|z
  ·exact hrr z.symm
  ·exact rp2 z
 have F3:FW H3 pa r2 num2 v2:=(hF2.sb s2).ex x3s m3 r2n nin2
 have e3:=x3s.inst (s2.inst g1) r2n
 have g3:=x3s.fz m3 no_list (s2.list g2)
 have l3:=l2.mu x3s m3
 refine⟨_,_,_,_,294,rfl,e3,rfl,rfl,by decide,fun lm hlm=>?_⟩
 have s4:Sb H3 (H3.set lm (.list [.ref (pa p)])):=.new hlm
 have em:(H3.set lm (.list [.ref (pa p)])) lm=some (false,.list ([p].map fun n=>.ref (pa n))):=AH.set_same _ _ _
 generalize H3.set lm (.list [.ref (pa p)])=H4 at s4 em
 have pp3:∃s,PN H3 pa p s:=⟨_,dxp,x3.inst (s2.inst ep) fun z=>by
  rcases List.mem_cons.mp z with z|z
  ·rw[z,e1]at ep;cases ep
  ·obtain⟨k,hk,ek⟩:=List.mem_map.mp z
   obtain⟨hk1,hk2⟩:=(hmem k).mp hk
   exact hk2 ((hF.sz k hk1).inj ⟨dxp,ep⟩ ek)⟩
 refine c294 G (ps:=v2.tr.panes) (ms:=[p]) (by omega) ⟨dx2,nm2,s4.inst e3⟩ (s4.list g3) em (l3.sb s4) (er_sm.mp j1.sm) (by rw[et'];exact j2) (fun x hx=>?_) (fun x hx=>?_) ⟨_,(F3.sz v2.act hv2.act).sb s4⟩ (by simp;omega) fun H5 x5 f5=>?_
 ·rw[et']at hx
  rcases(j3 x).mp hx with hx|rfl
  ·exact List.mem_append_left _ hx
  ·exact List.mem_append_right _ (.head _)
 ·rcases List.mem_append.mp hx with hx|hx
  ·exact⟨_,(F3.sz x hx).sb s4⟩
  ·rw[List.mem_singleton.mp hx]
   obtain⟨s,hs⟩:=pp3
   exact⟨s,hs.sb s4⟩
 rw[et']at x5
 have hpm:p∈(er t').panes:=(j3 p).mpr (.inr rfl)
 obtain⟨t5,⟨dx5,nm5,lp5,g5,_⟩,_⟩:=f5.rw
 refine⟨fun _=>⟨r2,_,_,_,_,308,rfl,g5,rfl,rfl,c308 G (v:=layW v2 (er t')) (by omega) f5 hW (f5.pn p hpm) fun H6 x6 f6=>?_⟩,fun z=>by cases z⟩
 have X56:Ex (r2::(er t').panes.map pa) H4 H6:=x5.trans x6
 have f34:=f3.sb s4
 have P4:∀k∈(er t').panes,∃s,PN H4 pa k s:=fun k hk=>by
  rcases(j3 k).mp hk with hk|rfl
  ·exact⟨_,(F3.sz k hk).sb s4⟩
  ·obtain⟨s,hs⟩:=pp3
   exact⟨s,hs.sb s4⟩
 have m4:Mu H4 (r2::(er t').panes.map pa):=.cons (s4.inst e3) (PN.mu P4)
 have f36:FW H6 pa r num (dropV v p g):=f34.ex X56 m4 (fun z=>by
  rcases List.mem_cons.mp z with z|z
  ·exact hrr z
  ·exact f34.out P4 z) fun k hk z=>by
  rw[etr]at hk
  obtain⟨hk1,hk2⟩:=(hmem k).mp hk
  rcases List.mem_cons.mp z with z|z
  ·exact rp2 (by rw[←z];exact List.mem_map.mpr ⟨k,hk1,rfl⟩)
  ·obtain⟨k',hk',ek⟩:=List.mem_map.mp z
   obtain⟨s',hs'⟩:=P4 k' hk'
   have:k'=k:=hs'.inj (f34.sz k (by rw[etr];exact hk)) ek
   subst this
   rcases(j3 k').mp hk' with hk'|hk'
   ·exact dis k' hk1 hk'
   ·exact hk2 hk'
 refine q1 (dropV v p g,selW p (layW v2 (er t'))) (by unfold joinD;rw[if_pos ⟨h,h2,hpb⟩];simp[hs,hdrop]) H6 ?_ f36 w3 f6 (selW_ok hW)
 refine((s2.ex.trans x3s).mono fun b hb=>?_).trans (s4.ex.trans (X56.mono fun b hb=>?_))
 ·rcases List.mem_cons.mp hb with rfl|hb
  ·exact .head _
  ·rw[List.map_append];exact .tail _ (.tail _ (List.mem_append_left _ hb))
 ·rcases List.mem_cons.mp hb with rfl|hb
  ·exact .tail _ (.head _)
  ·obtain⟨k,hk,rfl⟩:=List.mem_map.mp hb
   rw[List.map_append]
   rcases(j3 k).mp hk with hk|rfl
   ·exact .tail _ (.tail _ (List.mem_append_right _ (List.mem_map.mpr ⟨k,hk,rfl⟩)))
   ·exact .tail _ (.tail _ (List.mem_append_left _ (List.mem_map.mpr ⟨k,h,rfl⟩)))
end
end
section
def roleW (v:Win) (gone fresh:Int):Win:=
 ⟨Tr.renT (v.tr.panes.map fun x=>if x=gone then fresh else x) v.tr,if v.act=gone then fresh else v.act,if v.last=some gone then some fresh else v.last,false⟩
theorem role_ok {v:Win} {gone fresh:Int} (hv:WOK v) (hg:gone∈v.tr.panes) (hf:fresh∉v.tr.panes) (hr:0≤fresh∧fresh<1000) :
  WOK (roleW v gone fresh)∧(roleW v gone fresh).tr.panes=v.tr.panes.map (fun x=>if x=gone then fresh else x)∧∀x,x∈(roleW v gone fresh).tr.panes↔(x∈v.tr.panes∧x≠gone)∨x=fresh:=by
 obtain⟨k1,k2,_⟩:=Tr.ren_good (ns:=v.tr.panes.map fun x=>if x=gone then fresh else x) hv.fine hv.nd (by simp)
 have e:(roleW v gone fresh).tr.panes=v.tr.panes.map (fun x=>if x=gone then fresh else x):=k2
 have hm:∀x,x∈(roleW v gone fresh).tr.panes↔(x∈v.tr.panes∧x≠gone)∨x=fresh:=fun x=>by
  rw[e,List.mem_map]
  constructor
  ·rintro⟨y,hy,rfl⟩
   by_cases h:y=gone
   ·rw[if_pos h];exact .inr rfl
   ·rw[if_neg h];exact .inl ⟨hy,h⟩
  ·rintro(⟨h1,h2⟩|rfl)
   ·exact⟨x,h1,if_neg h2⟩
   ·exact⟨gone,hg,if_pos rfl⟩
 have nd:(roleW v gone fresh).tr.panes.Nodup:=by
  rw[e]
  refine List.pairwise_map.mpr (hv.nd.imp_of_mem fun {a b} ha hb hab z=>?_)
  split at z<;>split at z
  ·rename_i h1 h2;exact hab (h1.trans h2.symm)
  ·rename_i h1 h2;rw[z]at hf;exact hf hb
  ·rename_i h1 h2;rw[←z]at hf;exact hf ha
  ·exact hab z
 refine⟨⟨k1,nd,?_,fun l hl=>?_,fun x hx=>?_⟩,e,hm⟩
 ·rw[hm]
  by_cases h:v.act=gone
  ·exact .inr (if_pos h)
  ·exact .inl ⟨by show(if v.act=gone then fresh else v.act)∈_;rw[if_neg h];exact hv.act,by show(if v.act=gone then fresh else v.act)≠_;rw[if_neg h];exact h⟩
 ·rw[hm]
  have hl:(if v.last=some gone then some fresh else v.last)=some l:=hl
  split at hl
  ·cases hl;exact .inr rfl
  ·rename_i h;exact .inl ⟨hv.last l hl,fun z=>h (z▸hl)⟩
 ·rcases(hm x).mp hx with h|rfl
  ·exact hv.rng x h.1
  ·exact hr
def xb:List CS:=[
  .assign (.name 43) (.comp (.ite (.cmp .eq (.loc 7) (.attr (.loc 75) 7)) (.attr (.loc 32) 7) (.loc 7)) 7 (.call 73 [(.attr (.loc 52) 19)]) (.k (.bool true))),
  .ite (.cmp .is (.attr (.loc 52) 17) (.loc 75)) [
   .assign (.attr (.loc 52) 17) (.loc 32)] [
],
  .ite (.cmp .is (.attr (.loc 52) 18) (.loc 75)) [
   .assign (.attr (.loc 52) 18) (.loc 32)] [
],
  .expr (.meth (.loc 52) 84 [(.call 170 [(.attr (.loc 52) 19),(.loc 43)]),(.list [(.loc 32)])])]
section
variable {W:Wd} {n m:Nat} {H:AH} {Q:AV→AH→Prop} {QS:AH→Prop}
theorem xbody (G:GD W) {ρ:Rho} {QS:Rho→AH→Prop} {RR:AV→AH→Prop} {pa:Int→Addr} {r:Addr} {num gone fresh:Int} {v:Win} (hn:40≤n) (h52:ρ.lookup 52=some (.ref r)) (h75:ρ.lookup 75=some (.ref (pa gone))) (h32:ρ.lookup 32=some (.ref (pa fresh)))
  (hR:RW H pa r num v) (hv:WOK v) (hps:∀n∈v.tr.panes,∃s,PN H pa n s) (hfr:∃s,PN H pa fresh s) (hg:gone∈v.tr.panes) (hf:fresh∉v.tr.panes) (hrg:0≤fresh∧fresh<1000)
  (q:∀ρ' H',Ex (r::(roleW v gone fresh).tr.panes.map pa) H H'→FW H' pa r num (roleW v gone fresh)→QS ρ' H'):wpB W n xb ρ H QS RR:=by
 obtain⟨t,⟨dx,nm,lp,e1,e2⟩,hL,he⟩:=hR
 obtain⟨hW,hpan,hm'⟩:=role_ok hv hg hf hrg
 have hsm:t.Sm:=er_sm.mp (he▸hv.fine.sm)
 have ept:t.panes=v.tr.panes:=by rw[←he,er_panes]
 have hlen:=hv.fine.sm.len
 obtain⟨sg,dxg,eg⟩:=hps gone hg
 obtain⟨sf,dxf,ef⟩:=hfr
 unfold xb
 walk_at "wp"
 simp only[h52,h75,h32,Option.some.injEq,exists_eq_left']
 rw[gwt e1]
 refine c73 G (by have:=hsm.dep;omega) hL hsm fun r1 H1 s1 el=>?_
 refine comp_on (g:=AV.int) (cs:=t.panes) (cap_le20 hsm.len) (fun pre out H'=>H'=H1∧out=pre.map fun x=>.int (if x=gone then fresh else x)) ⟨rfl,rfl⟩ ?_ ?_ ?_
 ·rintro pre out H' ⟨rfl,rfl⟩
  exact⟨⟨true,el⟩,by simp⟩
 ·rintro pre u suf out H' hcs ⟨rfl,rfl⟩
  walk_at "wp"
  simp only[h75,h32,Option.some.injEq,exists_eq_left']
  rw[gpn (s1.inst eg),aeq_ii]
  refine⟨fun hc=>?_,fun hc=>?_⟩
  ·rw[gpn (s1.inst ef)]
   have hc:u=gone:=by simpa using hc
   simp[hc]
  ·have hc:u≠gone:=by simpa using hc
   simp[hc]
 ·rintro out H' ⟨rfl,rfl⟩ r2 hr2
  have s2:Sb H' (H'.set r2 (.list (t.panes.map fun x=>.int (if x=gone then fresh else x)))):=.new hr2
  have el2:(H'.set r2 (.list (t.panes.map fun x=>.int (if x=gone then fresh else x)))) r2=some (false,.list ((v.tr.panes.map fun x=>if x=gone then fresh else x).map .int)):=by rw[AH.set_same,ept];simp
  generalize H'.set r2 (.list (t.panes.map fun x=>.int (if x=gone then fresh else x)))=H2 at s2 el2
  have S2:Sb H H2:=s1.trans s2
  have P2:∀n∈v.tr.panes,∃s,PN H2 pa n s:=fun n hn=>let ⟨s,h⟩:=hps n hn;⟨s,h.sb S2⟩
  have f2:PN H2 pa fresh sf:=⟨dxf,S2.inst ef⟩
  have g2:PN H2 pa gone sg:=⟨dxg,S2.inst eg⟩
  have inj:∀k∈v.tr.panes,pa k=pa gone→k=gone:=fun k hk e=>let ⟨s,h⟩:=P2 k hk;h.inj g2 e
  rw[gwa (S2.inst e1)]
  have rno:∀k s,PN H2 pa k s→pa k≠r:=fun k s h z=>by
   obtain⟨d,h⟩:=h
   rw[z,S2.inst e1]at h;cases h
  have M2:Mu H2 [r]:=.cons (S2.inst e1) .nil
  have st1:∀(P:AH→Prop),(∀H3,Ex [r] H2 H3→H3 r=some (false,.inst 420 dx (wfl num nm lp (pa (if v.act=gone then fresh else v.act)) (lastV pa v.last) t.tag.1 v.zoom))→P H3)→
    ∃b,ais (.ref (pa v.act)) (.ref (pa gone))=some b∧isOK H2 (.ref (pa v.act)) (.ref (pa gone))∧(b=true→SetA (.ref r) 17 (.ref (pa fresh)) H2 P)∧(b=false→P H2):=by
   intro P hP
   obtain⟨sa,da,ea⟩:=P2 v.act hv.act
   refine⟨decide (pa v.act=pa gone),rfl,⟨⟨_,ea,fun z=>by cases z⟩,_,S2.inst eg⟩,fun hd=>?_,fun hd=>hP H2 .refl ?_⟩
   ·rw[swa (S2.inst e1)]
    refine hP _ Ex.put ?_
    rw[AH.set_same,if_pos (inj _ hv.act (of_decide_eq_true hd))]
   ·have:v.act≠gone:=fun z=>by rw[z]at hd;simp at hd
    rw[if_neg this];exact S2.inst e1
  refine st1 _ fun H3 x3 e3=>?_
  have P3:∀n∈v.tr.panes,∃s,PN H3 pa n s:=fun n hn=>let ⟨s,h⟩:=P2 n hn;⟨s,h.ex x3 fun z=>rno n s h (List.mem_singleton.mp z)⟩
  have g3:PN H3 pa gone sg:=g2.ex x3 fun z=>rno _ _ g2 (List.mem_singleton.mp z)
  rw[gwl e3]
  have st2:∀(P:AH→Prop),(∀H4,Ex [r] H3 H4→H4 r=some (false,.inst 420 dx (wfl num nm lp (pa (if v.act=gone then fresh else v.act)) (lastV pa (if v.last=some gone then some fresh else v.last)) t.tag.1 v.zoom))→P H4)→
    ∃b,ais (lastV pa v.last) (.ref (pa gone))=some b∧isOK H3 (lastV pa v.last) (.ref (pa gone))∧(b=true→SetA (.ref r) 18 (.ref (pa fresh)) H3 P)∧(b=false→P H3):=by
   intro P hP
   cases hl:v.last with
   |none=>
    refine⟨false,rfl,trivial,(fun z=>by cases z),fun _=>hP H3 .refl ?_⟩
    have e:(if v.last=some gone then some fresh else v.last)=none:=by rw[hl];simp
    rw[e]
    rw[hl]at e3;exact e3
   |some l=>
    have hlm:=hv.last l hl
    obtain⟨sl,dl,el'⟩:=P3 l hlm
    obtain⟨dg,eg'⟩:=id g3
    refine⟨decide (pa l=pa gone),rfl,⟨⟨_,el',fun z=>by cases z⟩,_,eg'⟩,fun hd=>?_,fun hd=>hP H3 .refl ?_⟩
    ·have:l=gone:=inj l hlm (of_decide_eq_true hd)
     subst this
     have e:(if v.last=some l then some fresh else v.last)=some fresh:=by rw[hl];simp
     rw[swl e3]
     refine hP _ Ex.put ?_
     rw[e,AH.set_same];rfl
    ·have hne:l≠gone:=fun z=>by rw[z]at hd;simp at hd
     have e:(if v.last=some gone then some fresh else v.last)=some l:=by rw[hl];simp[hne]
     rw[e]
     rw[hl]at e3;exact e3
  refine st2 _ fun H4 x4 e4=>?_
  have X4:Ex [r] H2 H4:=x3.trans x4
  refine⟨r,_,_,_,_,294,rfl,e4,rfl,rfl,?_⟩
  rw[gwt e4]
  have el4:=X4.list el2 (fun z=>by rw[List.mem_singleton.mp z,S2.inst e1]at el2;cases el2)
  refine c170 G (by omega) ((hL.sb S2).mu X4 M2) hsm (by rw[ept];exact hv.nd) el4 (by rw[List.length_map,ept]) fun t' H5 ht s5 l5=>⟨by decide,fun lm hlm=>?_⟩
  rw[he]at ht
  have s6:Sb H5 (H5.set lm (.list [.ref (pa fresh)])):=.new hlm
  have em:(H5.set lm (.list [.ref (pa fresh)])) lm=some (false,.list ([fresh].map fun n=>.ref (pa n))):=AH.set_same _ _ _
  generalize H5.set lm (.list [.ref (pa fresh)])=H6 at s6 em
  have S6:Sb H4 H6:=s5.trans s6
  have tr':er t'=(roleW v gone fresh).tr:=ht
  have et':t'.panes=(roleW v gone fresh).tr.panes:=by rw[←tr',er_panes]
  have P6:∀x∈v.tr.panes++[fresh],∃s,PN H6 pa x s:=fun x hx=>by
   rcases List.mem_append.mp hx with hx|hx
   ·obtain⟨s,h⟩:=P2 x hx
    exact⟨s,(h.ex X4 fun z=>rno x s h (List.mem_singleton.mp z)).sb S6⟩
   ·rw[List.mem_singleton.mp hx]
    exact⟨sf,(f2.ex X4 fun z=>rno _ _ f2 (List.mem_singleton.mp z)).sb S6⟩
  have hact:(if v.act=gone then fresh else v.act)∈v.tr.panes++[fresh]:=by
   split
   ·simp
   ·exact List.mem_append_left _ hv.act
  refine c294 G (ps:=v.tr.panes) (ms:=[fresh]) (a:=if v.act=gone then fresh else v.act) (l:=if v.last=some gone then some fresh else v.last) (by omega) ⟨dx,nm,S6.inst e4⟩ (S6.list (X4.fz M2 no_list (S2.list e2))) em (l5.sb s6) (er_sm.mp (tr'▸hW.fine.sm)) (by rw[et'];exact hW.nd) (fun x hx=>?_) P6 (P6 _ hact) (by simp;omega) fun H7 x7 f7=>?_
  ·rw[et']at hx
   rcases(hm' x).mp hx with h|rfl
   ·exact List.mem_append_left _ h.1
   ·exact List.mem_append_right _ (.head _)
  ·rw[et']at x7
   have f7':FW H7 pa r num (roleW v gone fresh):=by
    have:(⟨er t',if v.act=gone then fresh else v.act,if v.last=some gone then some fresh else v.last,false⟩:Win)=roleW v gone fresh:=by rw[tr'];rfl
    rwa [this]at f7
   exact q _ H7 ((S2.ex.trans ((X4.mono fun b hb=>by rw[List.mem_singleton.mp hb];exact .head _).trans S6.ex)).trans x7) f7'
def exW (v v2:Win) (p q:Int):Option (Win × Win):=if p∈v.tr.panes∧q∈v2.tr.panes then some (roleW v p q,roleW v2 q p)else none
theorem c444s (G:GD W) {pa:Int→Addr} {r:Addr} {num p b:Int} {v:Win} (hm:50≤m) (hF:FW H pa r num v) (hv:WOK v) (hp:∃s,PN H pa p s) (hb:∃s,PN H pa b s) (q0:swW v p b=none→∀H',Sb H H'→Q (.bool false) H')
  (q1:∀v',swW v p b=some v'→∀H',Ex (r::v.tr.panes.map pa) H H'→FW H' pa r num v'→WOK v'→Q (.bool true) H'):CallF W 444 [.ref r,.ref (pa p),.ref r,.ref (pa b)] m H Q:=by
 obtain⟨n,rfl,hn⟩:=pos_of (show 49+1≤m from hm)
 obtain⟨t,R⟩:=hF.rw
 obtain⟨⟨dx,nm,lp,e1,e2⟩,hL,he⟩:=id R
 refine enter G (f444 _) (hb444 _) (ws:=[]) (fun h _=>by simp only[VRs]) rfl ?_
 unfold b444 x444
 walk_at "wp"
 have no:¬(p∈v.tr.panes∧b∈v.tr.panes)→Q (.bool false) H:=fun h=>q0 (by unfold swW Tr.swapT;rw[if_neg h];rfl) H .refl
 refine⟨r,_,_,_,_,301,rfl,e1,rfl,rfl,c301 G (by omega) R hF.pn hp ⟨_,rfl,fun h=>⟨fun _=>no fun z=>?_,fun z=>by cases z⟩,fun h=>⟨r,_,_,_,_,301,rfl,e1,rfl,rfl,c301 G (by omega) R hF.pn hb ⟨_,rfl,fun h2=>no fun z=>?_,fun h2=>?_⟩⟩⟩⟩
 ·simp[z.1]at h
 ·simp[z.2]at h2
 have hdec:decide (r=r)=true:=by simp
 refine⟨decide (r=r),rfl,⟨⟨_,e1,fun z=>by cases z⟩,_,e1⟩,(fun _=>⟨r,_,_,_,_,380,rfl,e1,rfl,rfl,c380 G (by omega) hF hv hp hb q0 q1⟩),fun z=>by rw[hdec]at z;cases z⟩
theorem c444d (G:GD W) {pa:Int→Addr} {r r2:Addr} {num num2 p b:Int} {v v2:Win} (hm:50≤m) (hF:FW H pa r num v) (hv:WOK v) (hF2:FW H pa r2 num2 v2) (hv2:WOK v2) (hrr:r≠r2) (dis:∀x∈v.tr.panes,x∉v2.tr.panes)
  (hp:∃s,PN H pa p s) (hb:∃s,PN H pa b s) (q0:exW v v2 p b=none→∀H',Sb H H'→Q (.bool false) H')
  (q1:∀w,exW v v2 p b=some w→p∈v.tr.panes→b∈v2.tr.panes→∀H',Ex (r::r2::(v.tr.panes++v2.tr.panes).map pa) H H'→FW H' pa r num w.1→WOK w.1→FW H' pa r2 num2 w.2→WOK w.2→Q (.bool true) H'):CallF W 444 [.ref r,.ref (pa p),.ref r2,.ref (pa b)] m H Q:=by
 obtain⟨n,rfl,hn⟩:=pos_of (show 49+1≤m from hm)
 obtain⟨t,R⟩:=hF.rw
 obtain⟨⟨dx,nm,lp,e1,e2⟩,hL,he⟩:=id R
 obtain⟨u,R2⟩:=hF2.rw
 obtain⟨⟨dx2,nm2,lp2,g1,g2⟩,hL2,he2⟩:=id R2
 refine enter G (f444 _) (hb444 _) (ws:=[]) (fun h _=>by simp only[VRs]) rfl ?_
 have hx:[CS.assign (.name 43) (.comp (.ite (.cmp .eq (.loc 7) (.attr (.loc 75) 7)) (.attr (.loc 32) 7) (.loc 7)) 7 (.call 73 [(.attr (.loc 52) 19)]) (.k (.bool true))),
  .ite (.cmp .is (.attr (.loc 52) 17) (.loc 75)) [.assign (.attr (.loc 52) 17) (.loc 32)] [],
  .ite (.cmp .is (.attr (.loc 52) 18) (.loc 75)) [.assign (.attr (.loc 52) 18) (.loc 32)] [],
  .expr (.meth (.loc 52) 84 [(.call 170 [(.attr (.loc 52) 19),(.loc 43)]),(.list [(.loc 32)])])]=xb:=rfl
 unfold b444 x444
 rw[hx]
 walk_at "wp"
 have no:¬(p∈v.tr.panes∧b∈v2.tr.panes)→Q (.bool false) H:=fun h=>q0 (if_neg h) H .refl
 refine⟨r,_,_,_,_,301,rfl,e1,rfl,rfl,c301 G (by omega) R hF.pn hp ⟨_,rfl,fun h=>⟨fun _=>no fun z=>?_,fun z=>by cases z⟩,fun h=>⟨r2,_,_,_,_,301,rfl,g1,rfl,rfl,c301 G (by omega) R2 hF2.pn hb ⟨_,rfl,fun h2=>no fun z=>?_,fun h2=>?_⟩⟩⟩⟩
 ·simp[z.1]at h
 ·simp[z.2]at h2
 have h:p∈v.tr.panes:=by simpa using h
 have h2:b∈v2.tr.panes:=by simpa using h2
 have hdec:decide (r=r2)=false:=by simpa using hrr
 refine⟨decide (r=r2),rfl,⟨⟨_,e1,fun z=>by cases z⟩,_,g1⟩,(fun z=>by rw[hdec]at z;cases z),fun _=>⟨by decide,by decide,by decide,for_tup ⟨_,_,rfl,rfl,?_⟩⟩⟩
 have hbv:b∉v.tr.panes:=fun z=>dis b z h2
 have hpv:p∉v2.tr.panes:=dis p h
 obtain⟨hW,hpan,hm1⟩:=role_ok hv h hbv (hv2.rng b h2)
 obtain⟨hW2,hpan2,hm2⟩:=role_ok hv2 h2 hpv (hv.rng p h)
 have rp2:r2∉v.tr.panes.map pa:=hF2.out hF.pn
 have rp1:r∉v2.tr.panes.map pa:=hF.out hF2.pn
 have all1:∀x∈(roleW v p b).tr.panes,∃s,PN H pa x s:=fun x hx=>by
  rcases(hm1 x).mp hx with hx|rfl
  ·exact hF.pn x hx.1
  ·exact hF2.pn x h2
 refine xbody G (r:=r) (num:=num) (gone:=p) (fresh:=b) (v:=v) (by omega) (by simp[lk_put]) (by simp[lk_put]) (by simp[lk_put]) hF.rw hv hF.pn (hF2.pn b h2) h hbv (hv2.rng b h2) fun ρ' H1 x1 f1=>⟨_,_,rfl,rfl,?_⟩
 have m1:Mu H (r::(roleW v p b).tr.panes.map pa):=.cons e1 (PN.mu all1)
 have pn1:∀x s,PN H pa x s→∃s,PN H1 pa x s:=fun x s hs=>by
  by_cases hx:x∈(roleW v p b).tr.panes
  ·exact⟨_,f1.sz x hx⟩
  ·refine⟨s,hs.ex x1 fun z=>?_⟩
   rcases List.mem_cons.mp z with z|z
   ·obtain⟨d,e⟩:=hs
    rw[z,e1]at e;cases e
   ·exact pa_out hs all1 hx z
 have r2n:r2∉r::(roleW v p b).tr.panes.map pa:=fun z=>by
  rcases List.mem_cons.mp z with z|z
  ·exact hrr z.symm
  ·exact hF2.out all1 z
 have R21:RW H1 pa r2 num2 v2:=hF2.rw.ex x1 m1 r2n
 have P21:∀x∈v2.tr.panes,∃s,PN H1 pa x s:=fun x hx=>let ⟨s,hs⟩:=hF2.pn x hx;pn1 x s hs
 have Pp1:∃s,PN H1 pa p s:=let ⟨s,hs⟩:=hF.pn p h;pn1 p s hs
 refine xbody G (r:=r2) (num:=num2) (gone:=b) (fresh:=p) (v:=v2) (by omega) (by simp[lk_put]) (by simp[lk_put]) (by simp[lk_put]) R21 hv2 P21 Pp1 h2 hpv (hv.rng p h) fun ρ2 H2 x2 f2=>?_
 unfold forU
 have all2:∀x∈(roleW v2 b p).tr.panes,∃s,PN H1 pa x s:=fun x hx=>by
  rcases(hm2 x).mp hx with hx|rfl
  ·exact P21 x hx.1
  ·exact Pp1
 have m2:Mu H1 (r2::(roleW v2 b p).tr.panes.map pa):=by
  obtain⟨t2,⟨d,n2,l2,e,_⟩,_⟩:=R21
  exact .cons e (PN.mu all2)
 have f12:FW H2 pa r num (roleW v p b):=f1.ex x2 m2 (fun z=>by
  rcases List.mem_cons.mp z with z|z
  ·exact hrr z
  ·exact f1.out all2 z) fun k hk z=>by
  rcases List.mem_cons.mp z with z|z
  ·obtain⟨t2,⟨d,n2,l2,e,_⟩,_⟩:=R21
   obtain⟨d',e'⟩:=f1.sz k hk
   rw[z,e]at e';cases e'
  ·have hkn:k∉(roleW v2 b p).tr.panes:=fun z=>by
    rcases(hm1 k).mp hk with a|a<;>rcases(hm2 k).mp z with c|c
    ·exact dis k a.1 c.1
    ·exact a.2 c
    ·exact c.2 a
    ·rw[a]at c;rw[c]at h2;exact hpv h2
   exact pa_out (f1.sz k hk) all2 hkn z
 have sub1:∀b'∈r::(roleW v p b).tr.panes.map pa,b'∈r::r2::(v.tr.panes++v2.tr.panes).map pa:=fun b' hb=>by
  rcases List.mem_cons.mp hb with rfl|hb
  ·exact .head _
  ·obtain⟨k,hk,rfl⟩:=List.mem_map.mp hb
   refine .tail _ (.tail _ (List.mem_map.mpr ⟨k,?_,rfl⟩))
   rcases(hm1 k).mp hk with hk|rfl
   ·exact List.mem_append_left _ hk.1
   ·exact List.mem_append_right _ h2
 have sub2:∀b'∈r2::(roleW v2 b p).tr.panes.map pa,b'∈r::r2::(v.tr.panes++v2.tr.panes).map pa:=fun b' hb=>by
  rcases List.mem_cons.mp hb with rfl|hb
  ·exact .tail _ (.head _)
  ·obtain⟨k,hk,rfl⟩:=List.mem_map.mp hb
   refine .tail _ (.tail _ (List.mem_map.mpr ⟨k,?_,rfl⟩))
   rcases(hm2 k).mp hk with hk|rfl
   ·exact List.mem_append_right _ hk.1
   ·exact List.mem_append_left _ h
 exact q1 (roleW v p b,roleW v2 b p) (if_pos ⟨h,h2⟩) h h2 H2 ((x1.mono sub1).trans (x2.mono sub2)) f12 hW f2 hW2
end
end
section
def sNum:Str:=Str.ofString "number"
def sReal:Str:=Str.ofString "real"
def sLay:Str:=Str.ofString "layout"
def sAct:Str:=Str.ofString "active"
def sLast:Str:=Str.ofString "last"
def sZoom:Str:=Str.ofString "zoom"
def sCells:Str:=Str.ofString "cells"
def sAt:Str:=Str.ofString "at"
def sPanes:Str:=Str.ofString "panes"
def sWins:Str:=Str.ofString "windows"
def mfl (num:Int) (r lay:Addr) (act:Int) (last:Option Int) (z:Bool):List (Str × AV):=[(sNum,.int num),(sReal,.ref r),(sLay,.ref lay),(sAct,.int act),(sLast,optV last),(sZoom,.bool z)]
def MW (H:AH) (a r:Addr) (num:Int) (v:Win):Prop:=∃t:L,H a=some (false,.dS (mfl num r t.tag.1 v.act v.last v.zoom))∧LR true H t∧er t=v.tr
theorem MW.ex {H H':AH} {X:List Addr} {a r:Addr} {num:Int} {v:Win} (h:MW H a r num v) (k:Ex X H H') (m:Mu H X) (ha:a∉X):MW H' a r num v:=let ⟨t,e,l,q⟩:=h;⟨t,k.dS e ha,l.mu k m,q⟩
theorem MW.sb {H H':AH} {a r:Addr} {num:Int} {v:Win} (h:MW H a r num v) (k:Sb H H'):MW H' a r num v:=h.ex k .nil (by simp)
section
variable {W:Wd} {n m:Nat} {H:AH} {Q:AV→AH→Prop} {QS:AH→Prop}
theorem gi_dS {a:Addr} {f:Bool} {es:List (Str × AV)} {k:Str} {u:AV} (e:H a=some (f,.dS es)) (hl:es.lookup k=some u):GetI (.ref a) (.str k) H Q=Q u H:=by
 refine propext ⟨fun h=>?_,fun q=>⟨f,es,u,e,hl,q⟩⟩
 obtain⟨f',es',u',h1,h2,h3⟩:=h
 rw[e]at h1;cases h1
 rw[hl]at h2;cases h2
 exact h3
theorem si_dS {a:Addr} {es:List (Str × AV)} {k:Str} {u:AV} (e:H a=some (false,.dS es)) (hl:es.length≤10):SetI (.ref a) (.str k) u H QS=QS (H.set a (.dS (putS es k u))):=by
 refine propext ⟨fun h=>?_,fun q=>⟨es,e,by unfold cap;omega,q⟩⟩
 obtain⟨es',h1,_,h3⟩:=h
 rw[e]at h1;cases h1
 exact h3
section
variable {a r lay:Addr} {f:Bool} {num act:Int} {last:Option Int} {z:Bool} (e:H a=some (f,.dS (mfl num r lay act last z)))
include e
theorem gmN:GetI (.ref a) (.str (Str.ofString "number")) H Q=Q (.int num) H:=gi_dS e rfl
theorem gmR:GetI (.ref a) (.str (Str.ofString "real")) H Q=Q (.ref r) H:=gi_dS e rfl
theorem gmL:GetI (.ref a) (.str (Str.ofString "layout")) H Q=Q (.ref lay) H:=gi_dS e rfl
theorem gmA:GetI (.ref a) (.str (Str.ofString "active")) H Q=Q (.int act) H:=gi_dS e rfl
theorem gmT:GetI (.ref a) (.str (Str.ofString "last")) H Q=Q (optV last) H:=gi_dS e rfl
theorem gmZ:GetI (.ref a) (.str (Str.ofString "zoom")) H Q=Q (.bool z) H:=gi_dS e rfl
end
section
variable {a r lay lay':Addr} {num act act':Int} {last last':Option Int} {z z':Bool} (e:H a=some (false,.dS (mfl num r lay act last z)))
include e
theorem smL:SetI (.ref a) (.str (Str.ofString "layout")) (.ref lay') H QS=QS (H.set a (.dS (mfl num r lay' act last z))):=si_dS e (by simp[mfl])
theorem smA:SetI (.ref a) (.str (Str.ofString "active")) (.int act') H QS=QS (H.set a (.dS (mfl num r lay act' last z))):=si_dS e (by simp[mfl])
theorem smT:SetI (.ref a) (.str (Str.ofString "last")) (optV last') H QS=QS (H.set a (.dS (mfl num r lay act last' z))):=si_dS e (by simp[mfl])
theorem smZ:SetI (.ref a) (.str (Str.ofString "zoom")) (.bool z') H QS=QS (H.set a (.dS (mfl num r lay act last z'))):=si_dS e (by simp[mfl])
end
theorem smI {a r lay:Addr} {num act i:Int} {last:Option Int} {z:Bool} (e:H a=some (false,.dS (mfl num r lay act last z))):SetI (.ref a) (.str (Str.ofString "last")) (.int i) H QS=QS (H.set a (.dS (mfl num r lay act (some i) z))):=smT e (last':=some i)
theorem sm0 {a r lay:Addr} {num act:Int} {last:Option Int} {z:Bool} (e:H a=some (false,.dS (mfl num r lay act last z))):SetI (.ref a) (.str (Str.ofString "last")) .none H QS=QS (H.set a (.dS (mfl num r lay act none z))):=smT e (last':=none)
theorem c477 (G:GD W) {a r:Addr} {num p:Int} {v:Win} (hm:30≤m) (hM:MW H a r num v) (hs:v.tr.Sm) (q:∀H',Ex [a] H H'→MW H' a r num (selW p v)→Q (.bool (decide (p∈v.tr.panes))) H'):CallF W 477 [.ref a,.int p] m H Q:=by
 obtain⟨n,rfl,hn⟩:=pos_of (show 29+1≤m from hm)
 obtain⟨t,e,hL,he⟩:=id hM
 have hst:t.Sm:=er_sm.mp (he▸hs)
 have ept:t.panes=v.tr.panes:=by rw[←he,er_panes]
 refine enter G (f477 _) (hb477 _) (ws:=[]) (fun h _=>by simp only[VRs]) rfl ?_
 unfold b477 x477
 walk_at "wp"
 rw[gmL e]
 refine c73 G (by have:=hst.dep;omega) hL hst fun r1 H1 s1 el=>⟨p,r1,true,t.panes,rfl,rfl,el,fun h=>?_,fun h=>?_⟩
 ·have h:p∉v.tr.panes:=by rw[←ept];simpa using h
  have:=q H1 s1.ex (by unfold selW;rw[if_neg fun z=>h z.1];exact hM.sb s1)
  simpa[h]using this
 ·have h:p∈v.tr.panes:=by rw[←ept];simpa using h
  rw[gmA (s1.dS e),aeq_ii]
  refine⟨fun hc=>?_,fun hc=>?_⟩
  ·have hc:p≠v.act:=by simpa using hc
   rw[gmA (s1.dS e)]
   refine⟨by decide,?_⟩
   rw[smA (s1.dS e),smI (AH.set_same _ _ _),smZ (AH.set_same _ _ _),AH.set_set,AH.set_set]
   have m1:Mu H1 [a]:=.cons (s1.dS e) .nil
   have:=q _ (s1.ex.trans Ex.put) ⟨t,by rw[show selW p v=⟨v.tr,p,some v.act,false⟩from if_pos ⟨h,hc⟩];exact AH.set_same _ _ _,(hL.sb s1).mu Ex.put m1,by rw[selW_tr];exact he⟩
   simpa[h]using this
  ·have hc:p=v.act:=by simpa using hc
   have:=q H1 s1.ex (by unfold selW;rw[if_neg fun z=>z.2 hc];exact hM.sb s1)
   simpa[h]using this
def laidW (v:Win) (t':T) (p:Int):Win:=if v.act≠p then⟨t',p,some v.act,false⟩else⟨t',v.act,v.last,false⟩
theorem c489 (G:GD W) {a r:Addr} {num p:Int} {v:Win} {t':L} (hm:2≤m) (hM:MW H a r num v) (hL':LR true H t') (q:∀H',Ex [a] H H'→MW H' a r num (laidW v (er t') p)→Q (.bool true) H'):CallF W 489 [.ref a,.ref t'.tag.1,.int p] m H Q:=by
 obtain⟨n,rfl,hn⟩:=pos_of hm
 obtain⟨t,e,hL,he⟩:=id hM
 refine enter G (f489 _) (hb489 _) (ws:=[]) (fun h _=>by simp only[VRs]) rfl ?_
 unfold b489 x489
 walk_at "wp"
 have m1:Mu H [a]:=.cons e .nil
 refine⟨false,rfl,trivial,(fun z=>by cases z),fun _=>⟨by decide,?_⟩⟩
 rw[smL e,smZ (AH.set_same _ _ _),AH.set_set]
 have e1:=AH.set_same H a (.dS (mfl num r t'.tag.1 v.act v.last false))
 rw[gmA e1,aeq_ii]
 refine⟨fun hc=>?_,fun hc=>?_⟩
 ·have hc:v.act≠p:=by simpa using hc
  rw[gmA e1]
  refine⟨by decide,?_⟩
  rw[smA e1,smI (AH.set_same _ _ _),AH.set_set,AH.set_set]
  exact q _ Ex.put ⟨t',by rw[show laidW v (er t') p=⟨er t',p,some v.act,false⟩from if_pos hc];exact AH.set_same _ _ _,hL'.mu Ex.put m1,by unfold laidW;rw[if_pos hc]⟩
 ·have hc:¬v.act≠p:=by simpa using hc
  exact q _ Ex.put ⟨t',by rw[show laidW v (er t') p=⟨er t',v.act,v.last,false⟩from if_neg hc];exact e1,hL'.mu Ex.put m1,by unfold laidW;rw[if_neg hc]⟩
theorem c489n (G:GD W) {a:Addr} {p:Int} (hm:2≤m) (q:Q (.bool false) H):CallF W 489 [.ref a,.none,.int p] m H Q:=by
 obtain⟨n,rfl,hn⟩:=pos_of hm
 refine enter G (f489 _) (hb489 _) (ws:=[]) (fun h _=>by simp only[VRs]) rfl ?_
 unfold b489 x489
 walk_at "wp"
 exact⟨true,rfl,trivial,fun _=>q,fun z=>by cases z⟩
theorem c510 (G:GD W) {a r:Addr} {num one other:Int} {v:Win} (hm:45≤m) (hM:MW H a r num v) (hv:WOK v) (q:∀H',Ex [a] H H'→MW H' a r num ((swW v one other).getD v)→Q (.bool (swW v one other).isSome) H'):CallF W 510 [.ref a,.int one,.int other] m H Q:=by
 obtain⟨n,rfl,hn⟩:=pos_of (show 44+1≤m from hm)
 obtain⟨t,e,hL,he⟩:=id hM
 have hst:t.Sm:=er_sm.mp (he▸hv.fine.sm)
 have ept:t.panes=v.tr.panes:=by rw[←he,er_panes]
 refine enter G (f510 _) (hb510 _) (ws:=[]) (fun h _=>by simp only[VRs]) rfl ?_
 unfold b510 x510
 walk_at "wp"
 rw[gmL e]
 refine c73 G (by have:=hst.dep;omega) hL hst fun r1 H1 s1 el=>?_
 have no:¬(one∈v.tr.panes∧other∈v.tr.panes)→Q (.bool false) H1:=fun h=>by
  have e0:swW v one other=none:=by unfold swW Tr.swapT;rw[if_neg h];rfl
  have:=q H1 s1.ex (by rw[e0];exact hM.sb s1)
  rwa [e0]at this
 refine⟨one,r1,true,t.panes,rfl,rfl,el,fun h=>⟨fun _=>no fun z=>?_,fun z=>by cases z⟩,fun h=>⟨other,r1,true,t.panes,rfl,rfl,el,fun h2=>no fun z=>?_,fun h2=>?_⟩⟩
 ·rw[ept]at h;simp[z.1]at h
 ·rw[ept]at h2;simp[z.2]at h2
 have h:one∈v.tr.panes:=by rw[←ept];simpa using h
 have h2:other∈v.tr.panes:=by rw[←ept];simpa using h2
 rw[gmL (s1.dS e)]
 refine c175 G (by omega) (hL.sb s1) (he▸hv.fine) (by rw[ept];exact hv.nd) (fun hs=>?_) fun t' H2 hs s2 l2=>⟨by decide,?_⟩
 ·rw[he]at hs;unfold Tr.swapT at hs;rw[if_pos ⟨h,h2⟩]at hs;cases hs
 ·rw[he]at hs
  have e0:swW v one other=some (layW v (er t')):=by unfold swW;rw[hs];rfl
  have S2:Sb H H2:=s1.trans s2
  rw[smL (S2.dS e),smZ (AH.set_same _ _ _),AH.set_set]
  have m1:Mu H2 [a]:=.cons (S2.dS e) .nil
  have:=q _ (S2.ex.trans Ex.put) ⟨t',by rw[e0];exact AH.set_same _ _ _,l2.mu Ex.put m1,by rw[e0];rfl⟩
  rwa [e0]at this
theorem c515 (G:GD W) {a r:Addr} {num p b:Int} {v:Win} (hm:45≤m) (hM:MW H a r num v) (hv:WOK v) (q:∀H',Ex [a] H H'→MW H' a r num (roleW v p b)→Q .none H'):CallF W 515 [.ref a,.int p,.int b] m H Q:=by
 obtain⟨n,rfl,hn⟩:=pos_of (show 44+1≤m from hm)
 obtain⟨t,e,hL,he⟩:=id hM
 have hst:t.Sm:=er_sm.mp (he▸hv.fine.sm)
 have ept:t.panes=v.tr.panes:=by rw[←he,er_panes]
 refine enter G (f515 _) (hb515 _) (ws:=[]) (fun h _=>by simp only[VRs]) rfl ?_
 unfold b515 x515
 walk_at "wp"
 rw[gmL e]
 refine c73 G (by have:=hst.dep;omega) hL hst fun r1 H1 s1 el=>?_
 refine comp_on (g:=AV.int) (cs:=t.panes) (cap_le20 hst.len) (fun pre out H'=>H'=H1∧out=pre.map fun x=>.int (if x=p then b else x)) ⟨rfl,rfl⟩ ?_ ?_ ?_
 ·rintro pre out H' ⟨rfl,rfl⟩
  exact⟨⟨true,el⟩,by simp⟩
 ·rintro pre u suf out H' hcs ⟨rfl,rfl⟩
  walk_at "wp"
  refine⟨fun hc=>?_,fun hc=>?_⟩
  ·have hc:u=p:=by simpa using hc
   simp[hc]
  ·have hc:u≠p:=by simpa using hc
   simp[hc]
 ·rintro out H' ⟨rfl,rfl⟩ r2 hr2
  have s2:Sb H' (H'.set r2 (.list (t.panes.map fun x=>.int (if x=p then b else x)))):=.new hr2
  have el2:(H'.set r2 (.list (t.panes.map fun x=>.int (if x=p then b else x)))) r2=some (false,.list ((v.tr.panes.map fun x=>if x=p then b else x).map .int)):=by rw[AH.set_same,ept];simp
  generalize H'.set r2 (.list (t.panes.map fun x=>.int (if x=p then b else x)))=H2 at s2 el2
  have S2:Sb H H2:=s1.trans s2
  rw[gmL (S2.dS e)]
  refine c170 G (by omega) (hL.sb S2) hst (by rw[ept];exact hv.nd) el2 (by rw[List.length_map,ept]) fun t' H3 ht s3 l3=>⟨by decide,?_⟩
  rw[he]at ht
  have S3:Sb H H3:=S2.trans s3
  rw[smL (S3.dS e),smZ (AH.set_same _ _ _),AH.set_set]
  have e4:=AH.set_same H3 a (.dS (mfl num r t'.tag.1 v.act v.last false))
  have m3:Mu H3 [a]:=.cons (S3.dS e) .nil
  have x4:Ex [a] H3 (H3.set a (.dS (mfl num r t'.tag.1 v.act v.last false))):=Ex.put
  generalize H3.set a (.dS (mfl num r t'.tag.1 v.act v.last false))=H4 at e4 x4
  rw[gmA e4,aeq_ii]
  have st:SetI (.ref a) (.str (Str.ofString "active")) (.int (if v.act=p then b else v.act)) H4 fun H=>GetI (.ref a) (.str (Str.ofString "last")) H fun x H=>aeq H x (.int p) fun t=>(t=true→SetI (.ref a) (.str (Str.ofString "last")) (.int b) H fun H=>Q .none H)∧(t=false→GetI (.ref a) (.str (Str.ofString "last")) H fun u H=>SetI (.ref a) (.str (Str.ofString "last")) u H fun H=>Q .none H):=by
   rw[smA e4]
   have e5:=AH.set_same H4 a (.dS (mfl num r t'.tag.1 (if v.act=p then b else v.act) v.last false))
   have x5:Ex [a] H4 (H4.set a (.dS (mfl num r t'.tag.1 (if v.act=p then b else v.act) v.last false))):=Ex.put
   generalize H4.set a (.dS (mfl num r t'.tag.1 (if v.act=p then b else v.act) v.last false))=H5 at e5 x5
   rw[gmT e5]
   have fin:∀H6,Ex [a] H5 H6→H6 a=some (false,.dS (mfl num r t'.tag.1 (if v.act=p then b else v.act) (if v.last=some p then some b else v.last) false))→Q .none H6:=fun H6 x6 e6=>
    q H6 ((S3.ex.trans (x4.trans x5)).trans x6) ⟨t',e6,l3.mu ((x4.trans x5).trans x6) m3,ht⟩
   cases hl:v.last with
   |none=>
    rw[hl]at e5
    rw[show optV none=AV.none from rfl,aeq_ni]
    refine⟨(fun z=>by cases z),fun _=>?_⟩
    rw[gmT e5,show optV none=AV.none from rfl,sm0 e5]
    exact fin _ Ex.put (by rw[AH.set_same,hl];simp)
   |some l=>
    rw[hl]at e5
    rw[show optV (some l)=AV.int l from rfl,aeq_ii]
    refine⟨fun hc=>?_,fun hc=>?_⟩
    ·have hc:l=p:=by simpa using hc
     rw[smI e5]
     exact fin _ Ex.put (by rw[AH.set_same,hl];simp[hc])
    ·have hc:l≠p:=by simpa using hc
     rw[gmT e5,show optV (some l)=AV.int l from rfl,smI e5]
     exact fin _ Ex.put (by rw[AH.set_same,hl];simp[hc])
  refine⟨fun hc=>?_,fun hc=>?_⟩
  ·have hc:v.act=p:=by simpa using hc
   rw[if_pos hc]at st
   exact st
  ·have hc:v.act≠p:=by simpa using hc
   rw[if_neg hc]at st
   rw[gmA e4]
   exact st
end
end
section
section
variable {W:Wd} {n m:Nat} {H:AH} {Q:AV→AH→Prop} {QS:AH→Prop}
theorem c482 (G:GD W) {a r:Addr} {num p:Int} {v:Win} (hm:45≤m) (hM:MW H a r num v) (hv:WOK v) (q:∀H',Ex [a] H H'→MW H' a r num ((dropW v p).getD v)→Q (.bool (dropW v p).isSome) H'):CallF W 482 [.ref a,.int p] m H Q:=by
 obtain⟨n,rfl,hn⟩:=pos_of (show 44+1≤m from hm)
 obtain⟨t,e,hL,he⟩:=id hM
 have hst:t.Sm:=er_sm.mp (he▸hv.fine.sm)
 have ept:t.panes=v.tr.panes:=by rw[←he,er_panes]
 have hlen:=hst.len
 refine enter G (f482 _) (hb482 _) (ws:=[]) (fun h _=>by simp only[VRs]) rfl ?_
 unfold b482 x482
 walk_at "wp"
 rw[gmL e]
 refine c73 G (by have:=hst.dep;omega) hL hst fun r1 H1 s1 el=>?_
 have no:dropW v p=none→Q (.bool false) H1:=fun h=>by
  have:=q H1 s1.ex (by rw[h];exact hM.sb s1)
  rwa [h]at this
 refine⟨p,r1,true,t.panes,rfl,rfl,el,fun h=>⟨fun _=>no (if_neg ?_),fun z=>by cases z⟩,fun h=>?_⟩
 ·rw[ept]at h;simpa using h
 have h:p∈v.tr.panes:=by rw[←ept];simpa using h
 refine len_list el (by simp only[List.length_map];unfold cap;omega) ?_
 rw[aeq_ii]
 refine⟨fun h1=>no ?_,fun h1=>?_⟩
 ·have h1:t.panes.length=1:=by simp at h1;omega
  unfold dropW
  rw[if_pos h,Tr.close_none hv.fine.ok (.inr (by rw[←ept];exact h1))];rfl
 have h1:v.tr.panes.length≠1:=fun z=>by rw[←ept]at z;simp[z]at h1
 obtain⟨g,hc,_⟩:=Tr.close_good hv.fine h h1
 obtain⟨hWd,hmem,k1,hnd,etr,hfil,_⟩:=drop_ok hv h hc
 have hd:dropW v p=some (dropV v p g):=by unfold dropW;rw[if_pos h,hc];rfl
 rw[hd]at q
 refine⟨⟨_,_,_,rfl,el⟩,true,t.panes,el,by rw[ept];exact h,by unfold cap;omega,?_⟩
 refine comp_if (xs:=t.panes.map .int) trivial (by simp only[List.length_map];unfold cap;omega) (fun pre out H'=>H'=H1∧∃is:List Int,pre=is.map .int∧out=(is.filter fun x=>x != p).map .int) ⟨rfl,[],rfl,rfl⟩ ?_ ?_ ?_
 ·rintro pre out H' ⟨rfl,is,rfl,rfl⟩
  refine⟨by simp[curI,el],?_⟩
  simp only[List.length_map];exact List.length_filter_le _ _
 ·rintro pre u suf out H' hcs ⟨rfl,is,rfl,rfl⟩
  obtain⟨s',c,t',e1,e2,e3,e4⟩:=map_split hcs
  subst e3
  walk_at "wp"
  refine⟨fun hz=>?_,fun hz=>?_⟩
  ·refine⟨is++[c],by simp,?_⟩
   have:c≠p:=by simpa using hz
   simp[this]
  ·refine⟨is++[c],by simp,?_⟩
   have:c=p:=by simpa using hz
   simp[this]
 ·rintro out H' ⟨rfl,is,e1,rfl⟩ r2 hr2
  have:t.panes=is:=by
   have:=congrArg (List.map fun v=>match v with|AV.int i=>i|_=>0) e1
   simpa[Function.comp_def]using this
  subst this
  have s2:Sb H' (H'.set r2 (.list ((t.panes.filter fun x=>x != p).map .int))):=.new hr2
  have el2:(H'.set r2 (.list ((t.panes.filter fun x=>x != p).map .int))) r2=some (false,.list (g.panes.map .int)):=by rw[AH.set_same,hfil,ept]
  generalize H'.set r2 (.list ((t.panes.filter fun x=>x != p).map .int))=H2 at s2 el2
  have S2:Sb H H2:=s1.trans s2
  refine⟨by decide,?_⟩
  rw[gmL (S2.dS e)]
  refine c156 G (by omega) (hL.sb S2) (he▸hv.fine) (fun hs=>by rw[he,hc]at hs;cases hs) fun t' hs H3 s3 l3=>⟨by decide,?_⟩
  rw[he,hc]at hs
  cases hs
  have S3:Sb H H3:=S2.trans s3
  rw[smL (S3.dS e),smZ (AH.set_same _ _ _),AH.set_set]
  have e4:=AH.set_same H3 a (.dS (mfl num r t'.tag.1 v.act v.last false))
  have m3:Mu H3 [a]:=.cons (S3.dS e) .nil
  have x4:Ex [a] H3 (H3.set a (.dS (mfl num r t'.tag.1 v.act v.last false))):=Ex.put
  generalize H3.set a (.dS (mfl num r t'.tag.1 v.act v.last false))=H4 at e4 x4
  have el4:=x4.list (s3.list el2) (fun z=>by
   have z:=List.mem_singleton.mp z
   rw[z]at el2
   rw[S2.dS e]at el2;cases el2)
  rw[gmT e4]
  have step:∀(P:AH→Prop),(∀H5,Ex [a] H4 H5→H5 a=some (false,.dS (mfl num r t'.tag.1 v.act (if v.last=some p then none else v.last) false))→P H5)→
    aeq H4 (optV v.last) (.int p) fun b=>(b=true→SetI (.ref a) (.str (Str.ofString "last")) .none H4 P)∧(b=false→P H4):=by
   intro P hP
   cases hl:v.last with
   |none=>
    rw[hl]at e4
    rw[show optV none=AV.none from rfl,aeq_ni]
    exact⟨(fun z=>by cases z),fun _=>hP H4 .refl (by rw[hl];simpa using e4)⟩
   |some l=>
    rw[hl]at e4
    rw[show optV (some l)=AV.int l from rfl,aeq_ii]
    refine⟨fun hz=>?_,fun hz=>hP H4 .refl ?_⟩
    ·have hz:l=p:=by simpa using hz
     rw[sm0 e4]
     exact hP _ Ex.put (by rw[AH.set_same,hl,hz];simp)
    ·have hz:l≠p:=by simpa using hz
     rw[hl];simpa[hz]using e4
  refine step _ fun H5 x5 e5=>?_
  rw[gmA e5,aeq_ii]
  have l5:LR true H5 t':=l3.mu (x4.trans x5) m3
  have X5:Ex [a] H H5:=S3.ex.trans (x4.trans x5)
  have el5:H5 r2=some (false,.list ((er t').panes.map .int)):=x5.list el4 (fun z=>by
   have z:=List.mem_singleton.mp z
   rw[z]at el2
   rw[S2.dS e]at el2;cases el2)
  have fin:∀H6 w,Ex [a] H5 H6→dropV v p (er t')=w→H6 a=some (false,.dS (mfl num r t'.tag.1 w.act w.last w.zoom))→Q (.bool true) H6:=fun H6 w x6 hw e6=>by
   subst hw
   have m5:Mu H5 [a]:=.cons e5 .nil
   exact q H6 (X5.trans x6) ⟨t',e6,l5.mu x6 m5,etr.symm⟩
  refine⟨fun hz=>?_,fun hz=>?_⟩
  ·have hz:v.act=p:=by simpa using hz
   rw[gmT e5]
   generalize hl1:(if v.last=some p then none else v.last)=l1 at e5
   have put:∀i,dropV v p (er t')=⟨er t',i,none,false⟩→2≤cap∧SetI (.ref a) (.str (Str.ofString "active")) (.int i) H5 fun H=>SetI (.ref a) (.str (Str.ofString "last")) .none H fun H=>Q (.bool true) H:=fun i hi=>by
    refine⟨by decide,?_⟩
    rw[smA e5,sm0 (AH.set_same _ _ _),AH.set_set]
    exact fin _ _ Ex.put hi (AH.set_same _ _ _)
   cases l1 with
   |none=>
    refine⟨true,rfl,trivial,(fun _=>?_),fun z=>by cases z⟩
    rw[bi_sub,bf_max]
    have hidx:Tr.mx (((t.panes.idxOf p:Nat):Int)-1) 0=((v.tr.panes.idxOf p-1:Nat):Int):=by rw[ept];unfold Tr.mx;split<;>omega
    have hact:=hWd.act
    have hdv:dropV v p (er t')=⟨er t',((er t').panes[v.tr.panes.idxOf p-1]?).getD 0,none,false⟩:=by
     unfold dropV;dsimp only;rw[if_pos hz,hl1]
    have hj:∃i,(er t').panes[v.tr.panes.idxOf p-1]?=some i:=by
     have h2:v.tr.panes.idxOf p<v.tr.panes.length:=List.idxOf_lt_length_iff.mpr h
     obtain⟨t2,e1,_,_,pre,post,k4,k5⟩:=Tr.close_good hv.fine h h1
     rw[hc]at e1;cases e1
     have:(er t').panes.length+1=v.tr.panes.length:=by rw[k4,k5];simp;omega
     exact⟨_,List.getElem?_eq_getElem (by omega)⟩
    obtain⟨i,hi⟩:=hj
    refine gi_nat (j:=v.tr.panes.idxOf p-1) (u:=.int i) el5 hidx (by have:=k1.sm.len;simp only[List.length_map];unfold cap;omega) (by rw[List.getElem?_map,hi];rfl) (put i ?_)
    rw[hdv,hi];rfl
   |some l=>
    refine⟨false,rfl,trivial,(fun z=>by cases z),fun _=>?_⟩
    rw[gmT e5]
    refine put l ?_
    unfold dropV;dsimp only;rw[if_pos hz,hl1]
  ·have hz:v.act≠p:=by simpa using hz
   refine fin H5 ⟨er t',v.act,if v.last=some p then none else v.last,false⟩ .refl ?_ e5
   unfold dropV;dsimp only;rw[if_neg hz]
end
structure Cx where
 D:Addr
 Lc:Addr
 Wd:Addr
 Pd:Addr
 Wl:Addr
 mi:Nat→Addr
 ri:Nat→Addr
 pa:Int→Addr
 cells:List Int
structure S where
 rw:List Win
 mw:List Win
 ks:List Int
 kb:Nat
structure WI (c:Cx) (H:AH) (s:S):Prop where
 deck:∃k:Nat,k≤s.kb∧H c.D=some (false,.dS [(sCells,.ref c.Lc),(sAt,.int k)])
 cells:H c.Lc=some (true,.list (c.cells.map .int))
 clen:c.cells.length≤200
 world:H c.Wd=some (false,.dS [(sPanes,.ref c.Pd),(sWins,.ref c.Wl)])
 panes:H c.Pd=some (false,.dI (s.ks.map fun n=>(n,.ref (c.pa n))))
 wlist:H c.Wl=some (false,.list ((List.range s.mw.length).map fun i=>.ref (c.mi i)))
 real:∀i v,s.rw[i]?=some v→FW H c.pa (c.ri i) i v
 mine:∀i v,s.mw[i]?=some v→MW H (c.mi i) (c.ri i) i v
 pn:∀n∈s.ks,∃sz,PN H c.pa n sz
structure PI (s:S):Prop where
 ok:∀v∈s.rw,WOK v
 nd:s.ks.Nodup
 sub:∀v∈s.rw,∀n∈v.tr.panes,n∈s.ks
 dis:∀(i j:Nat) (v w:Win),i≠j→s.rw[i]?=some v→s.rw[j]?=some w→∀x∈v.tr.panes,x∉w.tr.panes
 key:∀n∈s.ks,n=90∨(0≤n∧n<s.ks.length)
 stray:90∈s.ks
 klen:s.ks.length≤15
 wlen:1≤s.rw.length∧s.rw.length≤3
theorem nodup_len:∀{a b:List Int},a.Nodup→(∀x∈a,x∈b)→a.length≤b.length
 |[],_,_,_=>Nat.zero_le _
 |x::a,b,nd,h=>by
  rw[List.nodup_cons]at nd
  have:=nodup_len (a:=a) (b:=b.erase x) nd.2 fun y hy=>(List.mem_erase_of_ne fun z=>nd.1 (by rw[←z];exact hy)).mpr (h y (.tail _ hy))
  rw[List.length_erase_of_mem (h x (.head _))]at this
  have:=List.length_pos_of_mem (h x (.head _))
  simp only[List.length_cons];omega
theorem PI.len {s:S} (h:PI s) {v:Win} (hv:v∈s.rw):v.tr.panes.length≤15:=by
 have:v.tr.panes.length≤s.ks.length:=nodup_len (h.ok v hv).nd (h.sub v hv)
 have:=h.klen;omega
theorem WI.keep {c:Cx} {H H':AH} {s:S} {X:List Addr} {rw' mw':List Win} (h:WI c H s) (k:Ex X H H') (m:Mu H X) (hD:c.D∉X) (hW:c.Wd∉X) (hP:c.Pd∉X) (hl:c.Wl∉X) (hlen:mw'.length=s.mw.length) (hr:∀i v,rw'[i]?=some v→FW H' c.pa (c.ri i) i v)
  (hm:∀i v,mw'[i]?=some v→MW H' (c.mi i) (c.ri i) i v) (hp:∀n∈s.ks,∃sz,PN H' c.pa n sz):WI c H' ⟨rw',mw',s.ks,s.kb⟩:=
 ⟨let ⟨kk,h1,h2⟩:=h.deck;⟨kk,h1,k.dS h2 hD⟩,k.fz m no_list h.cells,h.clen,k.dS h.world hW,k.dI h.panes hP,by rw[hlen];exact k.list h.wlist hl,hr,hm,hp⟩
theorem WI.sb {c:Cx} {H H':AH} {s:S} (h:WI c H s) (k:Sb H H'):WI c H' s:=
 h.keep (rw':=s.rw) (mw':=s.mw) k .nil (by simp) (by simp) (by simp) (by simp) rfl (fun i v e=>(h.real i v e).sb k) (fun i v e=>(h.mine i v e).sb k) fun n hn=>let ⟨sz,e⟩:=h.pn n hn;⟨sz,e.sb k⟩
def Is (H:AH) (X:List Addr):Prop:=∀a∈X,∃C dx fs,H a=some (false,.inst C dx fs)
theorem Is.mu {H:AH} {X:List Addr} (h:Is H X):Mu H X:=fun a ha=>let ⟨_,_,_,e⟩:=h a ha;⟨_,e⟩
theorem Is.out {H:AH} {X:List Addr} (h:Is H X) {a:Addr} {f:Bool} {o:AO} (e:H a=some (f,o)) (ho:∀C dx fs,o≠.inst C dx fs):a∉X:=fun z=>by
 obtain⟨C,dx,fs,e'⟩:=h a z
 rw[e]at e';injection e' with e';injection e' with _ e';exact ho _ _ _ e'
theorem Is.pn {H:AH} {pa:Int→Addr} {ns:List Int} (h:∀n∈ns,∃s,PN H pa n s):Is H (ns.map pa):=fun a ha=>by
 obtain⟨n,hn,rfl⟩:=List.mem_map.mp ha
 obtain⟨s,dx,e⟩:=h n hn
 exact⟨_,_,_,e⟩
theorem Is.cons {H:AH} {a:Addr} {C dx:Addr} {fs:List (Nat × AV)} {X:List Addr} (e:H a=some (false,.inst C dx fs)) (h:Is H X):Is H (a::X):=fun b hb=>by
 rcases List.mem_cons.mp hb with rfl|hb
 ·exact⟨_,_,_,e⟩
 ·exact h b hb
theorem FW.is {H:AH} {pa:Int→Addr} {r:Addr} {num:Int} {v:Win} (h:FW H pa r num v) {X:List Addr} (k:Is H X):Is H (r::X):=by
 obtain⟨t,⟨dx,nm,lp,e1,_⟩,_⟩:=h.rw
 exact .cons e1 k
theorem MW.out {H:AH} {X:List Addr} (h:Is H X) {a r:Addr} {num:Int} {v:Win} (e:MW H a r num v):a∉X:=by
 obtain⟨t,e,_⟩:=e
 exact h.out e (fun _ _ _ z=>by cases z)
theorem WI.inst {c:Cx} {H H':AH} {s:S} {X:List Addr} {rw':List Win} (h:WI c H s) (k:Ex X H H') (m:Is H X) (hr:∀i v,rw'[i]?=some v→FW H' c.pa (c.ri i) i v) (hp:∀n∈s.ks,∃sz,PN H' c.pa n sz):WI c H' ⟨rw',s.mw,s.ks,s.kb⟩:=
 h.keep k m.mu (let ⟨_,_,e⟩:=h.deck;m.out e (fun _ _ _ z=>by cases z)) (m.out h.world (fun _ _ _ z=>by cases z)) (m.out h.panes (fun _ _ _ z=>by cases z)) (m.out h.wlist (fun _ _ _ z=>by cases z)) rfl hr (fun i v e=>(h.mine i v e).ex k m.mu (MW.out m (h.mine i v e))) hp
end
section
theorem dS_ne {H:AH} {a b:Addr} {f g:Bool} {xs ys:List (Str × AV)} (h1:H a=some (f,.dS xs)) (h2:H b=some (g,.dS ys)) (hx:xs.map (·.1)≠ys.map (·.1)):a≠b:=fun z=>by
 rw[z,h2]at h1;cases h1;exact hx rfl
theorem mfl_keys {num:Int} {r lay:Addr} {act:Int} {last:Option Int} {z:Bool}:(mfl num r lay act last z).map (·.1)=[sNum,sReal,sLay,sAct,sLast,sZoom]:=rfl
theorem ne_kind {H:AH} {a b:Addr} {p q:Bool × AO} (h1:H a=some p) (h2:H b=some q) (hx:p≠q):a≠b:=fun z=>by
 rw[z,h2]at h1;cases h1;exact hx rfl
theorem MW.inj {H:AH} {a b r r':Addr} {k k':Int} {v v':Win} (h:MW H a r k v) (h':MW H b r' k' v') (e:a=b):k=k':=by
 obtain⟨t,h,_⟩:=h
 obtain⟨t',h',_⟩:=h'
 rw[e,h']at h
 simp[mfl]at h
 exact h.1.symm
theorem FW.inj {H:AH} {pa:Int→Addr} {a b:Addr} {k k':Int} {v v':Win} (h:FW H pa a k v) (h':FW H pa b k' v') (e:a=b):k=k':=by
 obtain⟨t,⟨dx,nm,lp,e1,_⟩,_⟩:=h.rw
 obtain⟨t',⟨dx',nm',lp',e1',_⟩,_⟩:=h'.rw
 rw[e,e1']at e1
 simp[wfl]at e1
 exact e1.2.1.symm
theorem single {a b:Addr} (h:a≠b):a∉[b]:=fun z=>h (List.mem_singleton.mp z)
theorem FW.one {H H':AH} {a:Addr} {o:AO} (k:Ex [a] H H') (e:H a=some (false,o)) (ho:∀C dx fs,o≠.inst C dx fs) {pa:Int→Addr} {r:Addr} {num:Int} {v:Win} (h:FW H pa r num v):FW H' pa r num v:=by
 obtain⟨t,⟨dx,nm,lp,e1,_⟩,_⟩:=h.rw
 exact h.ex k (.cons e .nil) (single (ne_kind e1 e fun z=>ho _ _ _ (Prod.mk.inj z).2.symm)) fun n hn=>by
  obtain⟨d,en⟩:=h.sz n hn
  exact single (ne_kind en e fun z=>ho _ _ _ (Prod.mk.inj z).2.symm)
theorem PN.one {H H':AH} {a:Addr} {o:AO} (k:Ex [a] H H') (e:H a=some (false,o)) (ho:∀C dx fs,o≠.inst C dx fs) {pa:Int→Addr} {n:Int} {s:Int × Int} (h:PN H pa n s):PN H' pa n s:=by
 obtain⟨d,en⟩:=id h
 exact h.ex k (single (ne_kind en e fun z=>ho _ _ _ (Prod.mk.inj z).2.symm))
theorem WI.setD {c:Cx} {H H':AH} {s:S} {kb:Nat} (h:WI c H s) (k:Ex [c.D] H H') (e:∃k':Nat,k'≤kb∧H' c.D=some (false,.dS [(sCells,.ref c.Lc),(sAt,.int k')])):WI c H' ⟨s.rw,s.mw,s.ks,kb⟩:=by
 obtain⟨k0,_,e0⟩:=h.deck
 have m:Mu H [c.D]:=.cons e0 .nil
 have ho:∀C dx fs,AO.dS [(sCells,AV.ref c.Lc),(sAt,.int k0)]≠.inst C dx fs:=fun _ _ _ z=>by cases z
 refine⟨e,k.fz m no_list h.cells,h.clen,k.dS h.world (single (dS_ne h.world e0 (by simp only[List.map_cons,List.map_nil];decide))),k.dI h.panes (single (ne_kind h.panes e0 fun z=>by cases z)),k.list h.wlist (single (ne_kind h.wlist e0 fun z=>by cases z)),fun i v hv=>(h.real i v hv).one k e0 ho,fun i v hv=>?_,fun n hn=>let ⟨sz,q⟩:=h.pn n hn;⟨sz,q.one k e0 ho⟩⟩
 have hM:=h.mine i v hv
 obtain⟨t,em,_⟩:=id hM
 exact hM.ex k m (single (dS_ne em e0 (by rw[mfl_keys];simp only[List.map_cons,List.map_nil];decide)))
theorem WI.setM {c:Cx} {H H':AH} {s:S} {i:Nat} {v v':Win} (h:WI c H s) (hi:s.mw[i]?=some v) (k:Ex [c.mi i] H H') (e:MW H' (c.mi i) (c.ri i) i v'):WI c H' ⟨s.rw,s.mw.set i v',s.ks,s.kb⟩:=by
 obtain⟨t,e0,_⟩:=h.mine i v hi
 have m:Mu H [c.mi i]:=.cons e0 .nil
 have ho:∀C dx fs,AO.dS (mfl i (c.ri i) t.tag.1 v.act v.last v.zoom)≠.inst C dx fs:=fun _ _ _ z=>by cases z
 obtain⟨k0,_,ed⟩:=h.deck
 refine h.keep k m (single (dS_ne ed e0 (by rw[mfl_keys];simp only[List.map_cons,List.map_nil];decide))) (single (dS_ne h.world e0 (by rw[mfl_keys];simp only[List.map_cons,List.map_nil];decide))) (single (ne_kind h.panes e0 fun z=>by cases z)) (single (ne_kind h.wlist e0 fun z=>by cases z)) (by simp) (fun j w hw=>(h.real j w hw).one k e0 ho) (fun j w hw=>?_) fun n hn=>let ⟨sz,q⟩:=h.pn n hn;⟨sz,q.one k e0 ho⟩
 by_cases hj:i=j
 ·subst hj
  have hlt:=(List.getElem?_eq_some_iff.mp hi).1
  rw[List.getElem?_set_self hlt]at hw
  cases hw;exact e
 ·rw[List.getElem?_set_ne hj]at hw
  have hM:=h.mine j w hw
  refine hM.ex k m (single fun z=>hj ?_)
  have:=hM.inj (h.mine i v hi) z
  omega
theorem WI.setR {c:Cx} {H H':AH} {s:S} {i:Nat} {v v':Win} {ps:List Int} (h:WI c H s) (hi:s.rw[i]?=some v) (k:Ex (c.ri i::ps.map c.pa) H H') (hps:∀x∈ps,x∈s.ks) (e:FW H' c.pa (c.ri i) i v') (hsz:∀x∈ps,∃z,PN H' c.pa x z)
  (dis:∀j w,j≠i→s.rw[j]?=some w→∀x∈w.tr.panes,x∉ps):WI c H' ⟨s.rw.set i v',s.mw,s.ks,s.kb⟩:=by
 have hI:Is H (c.ri i::ps.map c.pa):=(h.real i v hi).is (Is.pn fun n hn=>h.pn n (hps n hn))
 have keepR:∀j w,j≠i→s.rw[j]?=some w→FW H' c.pa (c.ri j) j w:=fun j w hj hw=>by
  have hF:=h.real j w hw
  refine hF.ex k hI.mu (fun z=>?_) fun n hn z=>?_
  ·rcases List.mem_cons.mp z with z|z
   ·have:=hF.inj (h.real i v hi) z;omega
   ·exact hF.out (fun n hn=>h.pn n (hps n hn)) z
  ·rcases List.mem_cons.mp z with z|z
   ·have:=(h.real i v hi).out (ns:=w.tr.panes) hF.pn
    exact this (by rw[←z];exact List.mem_map.mpr ⟨n,hn,rfl⟩)
   ·exact pa_out (hF.sz n hn) (fun n hn=>h.pn n (hps n hn)) (dis j w hj hw n hn) z
 refine h.inst k hI (fun j w hw=>?_) fun n hn=>?_
 ·by_cases hj:i=j
  ·subst hj
   have hlt:=(List.getElem?_eq_some_iff.mp hi).1
   rw[List.getElem?_set_self hlt]at hw
   cases hw;exact e
  ·rw[List.getElem?_set_ne hj]at hw
   exact keepR j w (fun z=>hj z.symm) hw
 ·by_cases hx:n∈ps
  ·exact hsz n hx
  ·obtain⟨sz,q⟩:=h.pn n hn
   refine⟨sz,q.ex k fun z=>?_⟩
   rcases List.mem_cons.mp z with z|z
   ·obtain⟨d,q⟩:=q
    obtain⟨t,⟨dx,nm,lp,e1,_⟩,_⟩:=(h.real i v hi).rw
    rw[z,e1]at q;cases q
   ·exact pa_out q (fun n hn=>h.pn n (hps n hn)) hx z
section
variable {W:Wd} {n m:Nat} {H:AH} {Q:AV→AH→Prop} {c:Cx} {s:S}
theorem c456 (G:GD W) {many:Int} (hm:1≤m) (h:WI c H s) (hb:s.kb≤10000) (h0:0<many) (q:∀v H',0≤v→v<many→Ex [c.D] H H'→WI c H' ⟨s.rw,s.mw,s.ks,s.kb+1⟩→Q (.int v) H'):CallF W 456 [.ref c.D,.int many] m H Q:=by
 obtain⟨n,rfl,hn⟩:=pos_of hm
 obtain⟨k,hk,e⟩:=h.deck
 refine enter G (f456 _) (hb456 _) (ws:=[]) (fun h _=>by simp only[VRs]) rfl ?_
 unfold b456 x456
 walk_at "wp"
 rw[gi_dS (u:=.int k) e rfl,bi_add,si_dS e (by simp)]
 have x1:Ex [c.D] H (H.set c.D (.dS (putS [(sCells,.ref c.Lc),(sAt,.int k)] (Str.ofString "at") (.int (k+1))))):=Ex.put
 have e1:(H.set c.D (.dS (putS [(sCells,.ref c.Lc),(sAt,.int k)] (Str.ofString "at") (.int (k+1))))) c.D=some (false,.dS [(sCells,.ref c.Lc),(sAt,.int ((k+1:Nat):Int))]):=AH.set_same _ _ _
 generalize H.set c.D (.dS (putS [(sCells,.ref c.Lc),(sAt,.int k)] (Str.ofString "at") (.int (k+1))))=H1 at x1 e1
 have h1:WI c H1 ⟨s.rw,s.mw,s.ks,s.kb+1⟩:=h.setD x1 ⟨k+1,by omega,e1⟩
 have fin:∀x:Int,BinR .mod (.int x) (.int many) H1 Q:=fun x=>by
  rw[bi_mod]
  exact⟨by omega,q _ H1 (Int.fmod_nonneg_of_pos _ h0) (Int.fmod_lt_of_pos _ h0) x1 h1⟩
 rw[gi_dS (u:=.ref c.Lc) e1 rfl]
 have hc:=h1.clen
 refine len_list h1.cells (by simp only[List.length_map];unfold cap;omega) ⟨_,_,rfl,rfl,fun hz=>?_,fun hz=>?_⟩
 ·have hz:=of_decide_eq_true hz
  rw[gi_dS (u:=.ref c.Lc) e1 rfl]
  simp only[List.length_map]at hz
  have hlt:k<c.cells.length:=by omega
  refine gi_nat (j:=k) (u:=.int c.cells[k]) h1.cells rfl (by simp only[List.length_map];unfold cap;omega) (by rw[List.getElem?_map,List.getElem?_eq_getElem hlt];rfl) (fin _)
 ·rw[bi_mul]
  refine⟨by decide,by omega,?_⟩
  rw[bi_fdiv]
  refine⟨by decide,by omega,by decide,?_⟩
  rw[bi_add]
  exact fin _
theorem range_get {n i:Nat} (h:i<n):(List.range n)[i]?=some i:=by simp[h]
theorem c470 (G:GD W) {i:Nat} {v:Win} (hm:35≤m) (h:WI c H s) (hb:s.kb≤10000) (hi:s.mw[i]?=some v) (hs:v.tr.Sm) (q:∀p H',(p∈v.tr.panes∨p=90)→Ex [c.D] H H'→WI c H' ⟨s.rw,s.mw,s.ks,s.kb+1⟩→Q (.int p) H'):CallF W 470 [.ref c.D,.ref (c.mi i)] m H Q:=by
 obtain⟨n,rfl,hn⟩:=pos_of (show 34+1≤m from hm)
 obtain⟨t,e,hL,he⟩:=h.mine i v hi
 have hst:t.Sm:=er_sm.mp (he▸hs)
 have ept:t.panes=v.tr.panes:=by rw[←he,er_panes]
 have hlen:=hst.len
 refine enter G (f470 _) (hb470 _) (ws:=[]) (fun h _=>by simp only[VRs]) rfl ?_
 unfold b470 x470
 walk_at "wp"
 rw[gmL e]
 refine c73 G (by have:=hst.dep;omega) hL hst fun r1 H1 s1 e1=>⟨true,true,_,_,e1,e1,by simp only[List.length_map];unfold cap;omega,fun r2 hr2=>⟨by decide,fun r3 hr3=>?_⟩⟩
 have s2:Sb H1 (H1.set r2 (.list (t.panes.map .int++t.panes.map .int))):=.new hr2
 have e2:(H1.set r2 (.list (t.panes.map .int++t.panes.map .int))) r2=some (false,.list (t.panes.map .int++t.panes.map .int)):=AH.set_same _ _ _
 generalize H1.set r2 (.list (t.panes.map .int++t.panes.map .int))=H2 at s2 e2 hr3
 have s3:Sb H2 (H2.set r3 (.list [.int 90])):=.new hr3
 have e3:(H2.set r3 (.list [.int 90])) r3=some (false,.list [.int 90]):=AH.set_same _ _ _
 generalize H2.set r3 (.list [.int 90])=H3 at s3 e3
 refine⟨false,false,_,_,s3.list e2,e3,by simp only[List.length_append,List.length_map,List.length_cons,List.length_nil];unfold cap;omega,fun r4 hr4=>?_⟩
 have s4:Sb H3 (H3.set r4 (.list (t.panes.map .int++t.panes.map .int++[.int 90]))):=.new hr4
 have e4:(H3.set r4 (.list (t.panes.map .int++t.panes.map .int++[.int 90]))) r4=some (false,.list ((t.panes++t.panes++[90]).map .int)):=by rw[AH.set_same];simp
 generalize H3.set r4 (.list (t.panes.map .int++t.panes.map .int++[.int 90]))=H4 at s4 e4
 have S4:Sb H H4:=(s1.trans s2).trans (s3.trans s4)
 have s14:Sb H1 H4:=s2.trans (s3.trans s4)
 refine len_list (s14.list e1) (by simp only[List.length_map];unfold cap;omega) ?_
 rw[bi_mul]
 refine⟨by decide,by simp only[List.length_map];omega,?_⟩
 rw[bi_add]
 have h4:=h.sb S4
 refine c456 G (by omega) h4 hb (by simp only[List.length_map];omega) fun k H5 hk0 hk1 x5 h5=>?_
 simp only[List.length_map]at hk1
 obtain⟨k0,_,ed⟩:=h4.deck
 have e5:=x5.list e4 (single (ne_kind e4 ed fun z=>by cases z))
 have hkl:k.toNat<(t.panes++t.panes++[90]).length:=by simp only[List.length_append,List.length_cons,List.length_nil];omega
 refine gi_nat (j:=k.toNat) (u:=.int (t.panes++t.panes++[90])[k.toNat]) e5 (by omega) (by simp only[List.length_map,List.length_append,List.length_cons,List.length_nil];unfold cap;omega) (by rw[List.getElem?_map,List.getElem?_eq_getElem hkl];rfl) (q _ H5 ?_ (S4.ex.trans x5) h5)
 have:=List.getElem_mem hkl
 generalize (t.panes++t.panes++[90])[k.toNat]=p at this ⊢
 rw[←ept]
 simpa using this
end
end
section
theorem PI.set {s:S} {i:Nat} {v v':Win} {mw:List Win} {kb:Nat} (h:PI s) (hi:s.rw[i]?=some v) (ok:WOK v') (sub:∀x∈v'.tr.panes,x∈s.ks) (dis:∀j w,j≠i→s.rw[j]?=some w→∀x∈w.tr.panes,x∉v'.tr.panes):PI ⟨s.rw.set i v',mw,s.ks,kb⟩:=by
 have hlt:=(List.getElem?_eq_some_iff.mp hi).1
 have mem:∀w∈s.rw.set i v',w=v'∨w∈s.rw:=fun w hw=>(List.mem_or_eq_of_mem_set hw).symm
 refine⟨fun w hw=>?_,h.nd,fun w hw=>?_,fun j k a b hjk ha hb x hx=>?_,h.key,h.stray,h.klen,by simp only[List.length_set];exact h.wlen⟩
 ·rcases mem w hw with rfl|hw
  ·exact ok
  ·exact h.ok w hw
 ·rcases mem w hw with rfl|hw
  ·exact sub
  ·exact h.sub w hw
 ·by_cases hij:i=j
  ·subst hij
   rw[List.getElem?_set_self hlt]at ha
   cases ha
   rw[List.getElem?_set_ne hjk]at hb
   exact fun z=>dis k b (fun z=>hjk z.symm) hb x z hx
  ·rw[List.getElem?_set_ne hij]at ha
   by_cases hik:i=k
   ·subst hik
    rw[List.getElem?_set_self hlt]at hb
    cases hb
    exact dis j a (fun z=>hij z.symm) ha x hx
   ·rw[List.getElem?_set_ne hik]at hb
    exact h.dis j k a b hjk ha hb x hx
structure Post (c:Cx) (s:S) (c':Cx) (H':AH) (s':S):Prop where
 wi:WI c' H' s'
 pi:PI s'
 eq:s'.mw=s'.rw
 kb:s'.kb≤s.kb+20
 ks:s'.ks.length≤s.ks.length+1
 hD:c'.D=c.D
 hW:c'.Wd=c.Wd
def Told (v:AV):Prop:=(∃b,v=.tup [.bool b,.bool b])∨v=.tup [.none,.none]
abbrev DeedQ (c:Cx) (s:S) (Q:AV→AH→Prop):Prop:=∀v c' s' H',Told v→Post c s c' H' s'→Q v H'
theorem lk_map {pa:Int→Addr} {p:Int}:∀{ks:List Int},p∈ks→(ks.map fun n=>(n,AV.ref (pa n))).lookup p=some (.ref (pa p))
 |k::ks,h=>by
  rw[List.map_cons,List.lookup_cons]
  by_cases hk:p=k
  ·subst hk;simp
  ·rw[beq_false_of_ne hk]
   rcases List.mem_cons.mp h with z|h
   ·exact absurd z hk
   ·exact lk_map h
section
variable {W:Wd} {n m:Nat} {H:AH} {Q:AV→AH→Prop} {c:Cx} {s:S}
theorem wi_panes (h:WI c H s):GetI (.ref c.Wd) (.str (Str.ofString "panes")) H Q=Q (.ref c.Pd) H:=gi_dS h.world rfl
theorem wi_wins (h:WI c H s):GetI (.ref c.Wd) (.str (Str.ofString "windows")) H Q=Q (.ref c.Wl) H:=gi_dS h.world rfl
theorem wi_pane (h:WI c H s) {p:Int} (hp:p∈s.ks) (q:Q (.ref (c.pa p)) H):GetI (.ref c.Pd) (.int p) H Q:=.inr ⟨false,_,_,h.panes,lk_map hp,q⟩
theorem wi_win (h:WI c H s) {k:Int} {i:Nat} (hk:k=(i:Int)) (hi:i<s.mw.length) (hl:s.mw.length≤100) (q:Q (.ref (c.mi i)) H):GetI (.ref c.Wl) (.int k) H Q:=
 gi_nat (j:=i) h.wlist hk (by simp only[List.length_map,List.length_range];unfold cap;omega) (by rw[List.getElem?_map,range_get hi];rfl) q
theorem wi_plen (h:WI c H s) (hl:s.ks.length≤100) (q:Q (.int s.ks.length) H):BFun .len [.ref c.Pd] H Q:=.inr ⟨_,h.panes,by simp only[List.length_map];unfold cap;omega,by simpa using q⟩
theorem wi_wlen (h:WI c H s) (hl:s.mw.length≤100) (q:Q (.int s.mw.length) H):BFun .len [.ref c.Wl] H Q:=len_list h.wlist (by simp only[List.length_map,List.length_range];unfold cap;omega) (by simpa using q)
theorem size_of {k:Int} {xs:List AV} (h0:0≤k) (h1:k<xs.length) (hl:xs.length≤100) (hx:∀x∈xs,∃o,x=optV o) (q:∀o,Q (optV o) H):GetI (.tup xs) (.int k) H Q:=by
 have hlt:k.toNat<xs.length:=by omega
 obtain⟨o,ho⟩:=hx _ (List.getElem_mem hlt)
 refine⟨k.toNat,xs[k.toNat],by omega,by omega,?_,List.getElem?_eq_getElem hlt,by rw[ho];exact q o⟩
 unfold seqIndex?
 simp only[show ¬k<0 by omega,if_false]
 rw[if_pos (by simp;omega)]
theorem FW.pa_congr {H:AH} {pa pa':Int→Addr} {r:Addr} {num:Int} {v:Win} (h:FW H pa r num v) (hv:WOK v) (e:∀x∈v.tr.panes,pa' x=pa x):FW H pa' r num v:=by
 obtain⟨t,⟨dx,nm,lp,e1,e2⟩,hL,he⟩:=h.rw
 have hl:lastV pa' v.last=lastV pa v.last:=by
  cases hl:v.last with
  |none=>rfl
  |some l=>simp[lastV,e l (hv.last l hl)]
 refine⟨⟨t,⟨dx,nm,lp,by rw[e _ hv.act,hl];exact e1,by rw[e2];congr 3;exact List.map_congr_left fun x hx=>by rw[e x hx]⟩,hL,he⟩,fun x hx=>?_⟩
 obtain⟨d,q⟩:=h.sz x hx
 exact⟨d,by rw[e x hx];exact q⟩
theorem put_new {k:Int} {u:AV}:∀{es:List (Int × AV)},k∉es.map (·.1)→putS es k u=es++[(k,u)]
 |[],_=>rfl
 |(j,w)::es,h=>by
  simp only[List.map_cons,List.mem_cons,not_or]at h
  simp only[putS,List.cons_append]
  rw[if_neg fun z=>h.1 z.symm,put_new h.2]
theorem WI.addP (h:WI c H s) (hp:PI s) {a:Addr} {H1 H2:AH} {k:Int} (hk:k∉s.ks) (ha:H a=none) (s1:Sb H H1) (e1:∃dx,H1 a=some (false,.inst 239 dx (pfl k 0 0))) (x2:Ex [c.Pd] H1 H2) (e2:H2 c.Pd=some (false,.dI ((s.ks.map fun n=>(n,.ref (c.pa n)))++[(k,.ref a)]))) :
  WI {c with pa:=fun n=>if n=k then a else c.pa n} H2 ⟨s.rw,s.mw,s.ks++[k],s.kb⟩:=by
 have h1:=h.sb s1
 have ep:=h1.panes
 have m:Mu H1 [c.Pd]:=.cons ep .nil
 have ho:∀C dx fs,AO.dI (s.ks.map fun n=>(n,AV.ref (c.pa n)))≠.inst C dx fs:=fun _ _ _ z=>by cases z
 have pe:∀x∈s.ks,(if x=k then a else c.pa x)=c.pa x:=fun x hx=>if_neg fun z=>hk (by rw[←z];exact hx)
 obtain⟨k0,hk0,ed⟩:=h1.deck
 refine⟨⟨k0,hk0,x2.dS ed (single (ne_kind ed ep fun z=>by cases z))⟩,x2.fz m no_list h1.cells,h1.clen,x2.dS h1.world (single (ne_kind h1.world ep fun z=>by cases z)),?_,x2.list h1.wlist (single (ne_kind h1.wlist ep fun z=>by cases z)),fun i v hv=>?_,fun i v hv=>?_,fun x hx=>?_⟩
 ·show H2 c.Pd=some (false,.dI ((s.ks++[k]).map fun n=>(n,AV.ref (if n=k then a else c.pa n))))
  rw[e2,List.map_append,List.map_congr_left (l:=s.ks) (f:=fun n=>(n,AV.ref (if n=k then a else c.pa n))) (g:=fun n=>(n,AV.ref (c.pa n))) (fun x hx=>by rw[pe x hx])];simp
 ·have hm:=List.mem_of_getElem? hv
  exact((h1.real i v hv).one x2 ep ho).pa_congr (hp.ok v hm) fun x hx=>pe x (hp.sub v hm x hx)
 ·have hM:=h1.mine i v hv
  obtain⟨t,em,_⟩:=id hM
  exact hM.ex x2 m (single (ne_kind em ep fun z=>by cases z))
 ·rcases List.mem_append.mp hx with hx|hx
  ·obtain⟨sz,q⟩:=h1.pn x hx
   obtain⟨d,q⟩:=q.one x2 ep ho
   exact⟨sz,d,by show H2 (if x=k then a else c.pa x)=_;rw[pe x hx];exact q⟩
  ·obtain⟨dx,e1⟩:=e1
   rw[List.mem_singleton.mp hx]
   refine⟨(0,0),dx,?_⟩
   show H2 (if k=k then a else c.pa k)=_
   rw[if_pos rfl]
   exact x2.inst e1 (single (ne_kind e1 ep fun z=>by cases z))
theorem PI.addP {s:S} (h:PI s) (hl:s.ks.length<15):(s.ks.length:Int)∉s.ks∧PI ⟨s.rw,s.mw,s.ks++[(s.ks.length:Int)],s.kb⟩:=by
 have hk:(s.ks.length:Int)∉s.ks:=fun z=>by
  rcases h.key _ z with e|e<;>omega
 refine⟨hk,h.ok,?_,fun v hv x hx=>List.mem_append_left _ (h.sub v hv x hx),h.dis,fun x hx=>?_,List.mem_append_left _ h.stray,by simp;omega,h.wlen⟩
 ·rw[List.nodup_append]
  exact⟨h.nd,by simp,fun a ha b hb z=>hk (by rw[←List.mem_singleton.mp hb,←z];exact ha)⟩
 ·simp only[List.length_append,List.length_cons,List.length_nil]
  rcases List.mem_append.mp hx with hx|hx
  ·rcases h.key x hx with e|e
   ·exact .inl e
   ·exact .inr ⟨e.1,by omega⟩
  ·rw[List.mem_singleton.mp hx];exact .inr ⟨by omega,by omega⟩
theorem laid_sel {v:Win} {t':T} {p:Int} (h:p∈t'.panes):laidW v t' p=selW p (layW v t'):=by
 unfold laidW selW layW
 by_cases e:v.act=p
 ·subst e
  rw[if_neg fun z=>z rfl,if_neg fun z=>z.2 rfl]
 ·rw[if_pos e,if_pos ⟨h,fun z=>e z.symm⟩]
theorem laid_act {v:Win} {t':T}:laidW v t' v.act=layW v t':=if_neg fun z=>z rfl
theorem c496 (G:GD W) {i:Nat} {v:Win} (hm:60≤m) (h:WI c H s) (hp:PI s) (heq:s.mw=s.rw) (hb:s.kb≤9000) (hl:s.ks.length<15) (hi:s.rw[i]?=some v) (q:DeedQ c s Q):CallF W 496 [.ref c.D,.ref c.Wd,.ref (c.mi i)] m H Q:=by
 obtain⟨n,rfl,hn⟩:=pos_of (show 59+1≤m from hm)
 have hvm:=List.mem_of_getElem? hi
 have hv:=hp.ok v hvm
 have hmi:s.mw[i]?=some v:=by rw[heq];exact hi
 refine enter G (f496 _) (hb496 _) (ws:=[]) (fun h _=>by simp only[VRs]) rfl ?_
 unfold b496 x496
 walk_at "wp"
 refine c470 G (by omega) h (by omega) hmi hv.fine.sm fun p H1 hpp x1 h1=>?_
 rw[wi_panes h1]
 refine wi_plen h1 (by show s.ks.length≤100;omega) ?_
 refine c456 G (by omega) h1 (by show s.kb+1≤_;omega) (by decide) fun k2 H2 _ _ x2 h2=>?_
 rw[aeq_ii]
 refine⟨by decide,by decide,?_⟩
 refine c456 G (by omega) h2 (by show s.kb+2≤_;omega) (by decide) fun k3 H3 a3 b3 x3 h3=>?_
 refine size_of a3 b3 (by decide) (fun x hx=>?_) fun size=>?_
 ·simp only[List.mem_cons,List.not_mem_nil,or_false]at hx
  rcases hx with rfl|rfl|rfl|rfl
  ·exact⟨none,rfl⟩
  ·exact⟨none,rfl⟩
  ·exact⟨some 1,rfl⟩
  ·exact⟨some 3,rfl⟩
 refine c456 G (by omega) h3 (by show s.kb+3≤_;omega) (by decide) fun k4 H4 _ _ x4 h4=>?_
 rw[aeq_ii]
 refine c456 G (by omega) h4 (by show s.kb+4≤_;omega) (by decide) fun k5 H5 _ _ x5 h5=>⟨_,_,rfl,rfl,by decide,?_⟩
 replace h5:WI c H5 ⟨s.rw,s.mw,s.ks,s.kb+5⟩:=h5
 generalize (k2==0)=d
 generalize (k4==1)=before
 generalize decide (k5<2)=active
 clear x1 x2 x3 x4 x5 h1 h2 h3 h4
 have hp5:PI ⟨s.rw,s.mw,s.ks,s.kb+5⟩:=⟨hp.ok,hp.nd,hp.sub,hp.dis,hp.key,hp.stray,hp.klen,hp.wlen⟩
 obtain⟨hfk,hp6⟩:=hp5.addP hl
 refine newPane G (by omega) fun a H6 ha s6 e6=>?_
 have h6:=h5.sb s6
 rw[wi_panes h6]
 refine .inr ⟨_,h6.panes,by simp only[List.length_map];unfold cap;omega,?_⟩
 have hput:putS (s.ks.map fun n=>(n,AV.ref (c.pa n))) (s.ks.length:Int) (.ref a)=(s.ks.map fun n=>(n,AV.ref (c.pa n)))++[((s.ks.length:Int),.ref a)]:=put_new (by simpa using hfk)
 dsimp only
 rw[hput]
 have x7:Ex [c.Pd] H6 (H6.set c.Pd (.dI ((s.ks.map fun n=>(n,AV.ref (c.pa n)))++[((s.ks.length:Int),.ref a)]))):=Ex.put
 have h7:=h5.addP hp5 (k:=(s.ks.length:Int)) hfk ha s6 e6 x7 (AH.set_same _ _ _)
 generalize H6.set c.Pd (.dI ((s.ks.map fun n=>(n,AV.ref (c.pa n)))++[((s.ks.length:Int),.ref a)]))=H7 at h7
 clear x7 e6 ha h6 s6
 generalize hc':({c with pa:=fun n=>if n=(s.ks.length:Int)then a else c.pa n}:Cx)=c' at h7
 have cD:c'.D=c.D:=by rw[←hc']
 have cW:c'.Wd=c.Wd:=by rw[←hc']
 have cm:c'.mi=c.mi:=by rw[←hc']
 rw[←cW,←cm]
 obtain⟨t,em,hL,he⟩:=h7.mine i v hmi
 rw[gmR em]
 obtain⟨tt,⟨dxr,nmr,lpr,er1,_⟩,_⟩:=(h7.real i v hi).rw
 have hpks:p∈s.ks++[(s.ks.length:Int)]:=by
  rcases hpp with z|rfl
  ·exact List.mem_append_left _ (hp.sub v hvm p z)
  ·exact List.mem_append_left _ hp.stray
 have hfks:(s.ks.length:Int)∈s.ks++[(s.ks.length:Int)]:=by simp
 refine⟨c'.ri i,_,_,_,_,345,rfl,er1,rfl,rfl,?_⟩
 rw[wi_panes h7]
 refine wi_pane h7 hpks ?_
 rw[wi_panes h7]
 refine wi_pane h7 hfks ?_
 have vl:=hp.len hvm
 refine c345 G (by omega) (h7.real i v hi) hv (by omega) (h7.pn p hpks) (h7.pn _ hfks) ⟨by omega,by omega⟩ (fun hs H8 s8=>?_) fun v' hs H8 x8 f8 w8=>?_
 ·have h8:=h7.sb s8
  obtain⟨t,em,hL,he⟩:=h8.mine i v hmi
  rw[gmL em]
  have hs':Tr.splitT v.tr p (s.ks.length:Int) d size before=none:=by
   unfold spW at hs
   exact Option.map_eq_none_iff.mp hs
  refine c142 G (by omega) hL (he▸hv.fine) (fun _ H9 s9=>?_) fun t' hz=>by rw[he,hs']at hz;cases hz
  have h9:=h8.sb s9
  obtain⟨t9,em9,_⟩:=h9.mine i v hmi
  have fin:∀k,CallF W 489 [.ref (c'.mi i),.none,.int k] n H9 fun v_1 H=>2≤cap∧Q (.tup [.bool false,v_1]) H:=fun k=>c489n G (by omega) ⟨by decide,q _ c' _ H9 (.inl ⟨false,rfl⟩) ⟨h9,hp6,heq,by show s.kb+5≤s.kb+20;omega,by simp,cD,cW⟩⟩
  exact⟨fun _=>fin _,fun _=>by rw[gmA em9];exact fin _⟩
 ·unfold spW at hs
  obtain⟨t2,hs2,hv'⟩:=Option.map_eq_some_iff.mp hs
  obtain⟨j1,j2,j3,j4,_,_⟩:=split_mem hv.fine hv.nd hs2 (by omega)
  have htr:v'.tr=t2:=by
   rw[←hv']
   split
   ·exact selW_tr
   ·rfl
  have sub8:∀x∈v'.tr.panes,x∈s.ks++[(s.ks.length:Int)]:=fun x hx=>by
   rw[htr]at hx
   rcases(j3 x).mp hx with z|rfl
   ·exact List.mem_append_left _ (hp.sub v hvm x z)
   ·exact hfks
  have dis8:∀j w,j≠i→s.rw[j]?=some w→∀x∈w.tr.panes,x∉v'.tr.panes:=fun j w hj hw x hx z=>by
   rw[htr]at z
   rcases(j3 x).mp z with z|rfl
   ·exact hp.dis j i w v hj hw hi x hx z
   ·exact hfk (hp.sub w (List.mem_of_getElem? hw) _ hx)
  have h8:=h7.setR hi x8 sub8 f8 (fun x hx=>f8.pn x hx) dis8
  have hp8:PI ⟨s.rw.set i v',s.mw,s.ks++[(s.ks.length:Int)],s.kb+5⟩:=hp6.set hi w8 sub8 dis8
  obtain⟨t,em,hL,he⟩:=h8.mine i v hmi
  rw[gmL em]
  refine c142 G (by omega) hL (he▸hv.fine) (fun hz=>by rw[he,hs2]at hz;cases hz) fun t' hz H9 s9 l9=>?_
  rw[he,hs2]at hz
  cases hz
  have h9:=h8.sb s9
  obtain⟨t9,em9,_⟩:=id (h9.mine i v hmi)
  have fin:∀k,laidW v (er t') k=v'→CallF W 489 [.ref (c'.mi i),.ref t'.tag.1,.int k] n H9 fun v_1 H=>2≤cap∧Q (.tup [.bool true,v_1]) H:=fun k hk=>by
   refine c489 G (by omega) (h9.mine i v hmi) l9 fun H10 x10 m10=>⟨by decide,?_⟩
   rw[hk]at m10
   have h10:=h9.setM hmi x10 m10
   exact q _ c' _ H10 (.inl ⟨true,rfl⟩) ⟨h10,⟨hp8.ok,hp8.nd,hp8.sub,hp8.dis,hp8.key,hp8.stray,hp8.klen,hp8.wlen⟩,by show s.mw.set i v'=s.rw.set i v';rw[heq],by show s.kb+5≤s.kb+20;omega,by simp,cD,cW⟩
  refine⟨fun ha=>fin _ ?_,fun ha=>?_⟩
  ·rw[if_pos ha]at hv'
   rw[←hv']
   exact laid_sel ((j3 _).mpr (.inr rfl))
  ·rw[if_neg (by rw[ha];simp)]at hv'
   rw[gmA em9]
   exact fin _ (by rw[←hv'];exact laid_act)
end
end
section
theorem PI.set2 {s:S} {i j:Nat} {v u v' u':Win} {mw:List Win} {kb:Nat} (h:PI s) (hij:i≠j) (hi:s.rw[i]?=some v) (hj:s.rw[j]?=some u) (ok:WOK v') (ok2:WOK u') (sub:∀x∈v'.tr.panes,x∈s.ks) (sub2:∀x∈u'.tr.panes,x∈s.ks) (d12:∀x∈v'.tr.panes,x∉u'.tr.panes)
  (dis:∀k w,k≠i→k≠j→s.rw[k]?=some w→∀x∈w.tr.panes,x∉v'.tr.panes∧x∉u'.tr.panes):PI ⟨(s.rw.set i v').set j u',mw,s.ks,kb⟩:=by
 have hil:=(List.getElem?_eq_some_iff.mp hi).1
 have hjl:=(List.getElem?_eq_some_iff.mp hj).1
 have mem:∀w∈(s.rw.set i v').set j u',w=u'∨w=v'∨w∈s.rw:=fun w hw=>by
  rcases List.mem_or_eq_of_mem_set hw with hw|hw
  ·rcases List.mem_or_eq_of_mem_set hw with hw|hw
   ·exact .inr (.inr hw)
   ·exact .inr (.inl hw)
  ·exact .inl hw
 have get:∀k,((s.rw.set i v').set j u')[k]?=if k=j then some u' else if k=i then some v' else s.rw[k]?:=fun k=>by
  by_cases h1:k=j
  ·subst h1;rw[if_pos rfl,List.getElem?_set_self (by simpa using hjl)]
  ·rw[if_neg h1,List.getElem?_set_ne (fun z=>h1 z.symm)]
   by_cases h2:k=i
   ·subst h2;rw[if_pos rfl,List.getElem?_set_self hil]
   ·rw[if_neg h2,List.getElem?_set_ne (fun z=>h2 z.symm)]
 refine⟨fun w hw=>?_,h.nd,fun w hw=>?_,fun a b x y hab ha hb z hz=>?_,h.key,h.stray,h.klen,by simp only[List.length_set];exact h.wlen⟩
 ·rcases mem w hw with rfl|rfl|hw
  ·exact ok2
  ·exact ok
  ·exact h.ok w hw
 ·rcases mem w hw with rfl|rfl|hw
  ·exact sub2
  ·exact sub
  ·exact h.sub w hw
 ·rw[get]at ha hb
  split at ha
  ·rename_i e1;cases ha
   split at hb
   ·rename_i e2;exact absurd (e1.trans e2.symm) hab
   ·split at hb
    ·cases hb;exact fun q=>d12 z q hz
    ·rename_i e2 e3;exact fun q=>(dis b y e3 e2 hb z q).2 hz
  ·split at ha
   ·rename_i e1 e2;cases ha
    split at hb
    ·cases hb;exact d12 z hz
    ·split at hb
     ·rename_i e3 e4;exact absurd (e2.trans e4.symm) hab
     ·rename_i e3 e4;exact fun q=>(dis b y e4 e3 hb z q).1 hz
   ·rename_i e1 e2
    split at hb
    ·cases hb;exact(dis a x e2 e1 ha z hz).2
    ·split at hb
     ·cases hb;exact(dis a x e2 e1 ha z hz).1
     ·exact h.dis a b x y hab ha hb z hz
theorem WI.setR2 {c:Cx} {H H':AH} {s:S} {i j:Nat} {v u v' u':Win} {ps:List Int} (h:WI c H s) (hij:i≠j) (hi:s.rw[i]?=some v) (hj:s.rw[j]?=some u) (k:Ex (c.ri i::c.ri j::ps.map c.pa) H H') (hps:∀x∈ps,x∈s.ks) (e:FW H' c.pa (c.ri i) i v') (e2:FW H' c.pa (c.ri j) j u')
  (hsz:∀x∈ps,∃z,PN H' c.pa x z) (dis:∀k w,k≠i→k≠j→s.rw[k]?=some w→∀x∈w.tr.panes,x∉ps):WI c H' ⟨(s.rw.set i v').set j u',s.mw,s.ks,s.kb⟩:=by
 have hil:=(List.getElem?_eq_some_iff.mp hi).1
 have hjl:=(List.getElem?_eq_some_iff.mp hj).1
 have hI:Is H (c.ri i::c.ri j::ps.map c.pa):=(h.real i v hi).is ((h.real j u hj).is (Is.pn fun n hn=>h.pn n (hps n hn)))
 have nri:∀x z,PN H c.pa x z→c.pa x≠c.ri i∧c.pa x≠c.ri j:=fun x z q=>by
  obtain⟨d,q⟩:=q
  obtain⟨t,⟨dx,nm,lp,e1,_⟩,_⟩:=(h.real i v hi).rw
  obtain⟨t',⟨dx',nm',lp',e1',_⟩,_⟩:=(h.real j u hj).rw
  exact⟨(fun z=>by rw[z,e1]at q;cases q),(fun z=>by rw[z,e1']at q;cases q)⟩
 have keepR:∀k w,k≠i→k≠j→s.rw[k]?=some w→FW H' c.pa (c.ri k) k w:=fun a w hai haj hw=>by
  have hF:=h.real a w hw
  refine hF.ex k hI.mu (fun z=>?_) fun n hn z=>?_
  ·rcases List.mem_cons.mp z with z|z
   ·have:=hF.inj (h.real i v hi) z;omega
   ·rcases List.mem_cons.mp z with z|z
    ·have:=hF.inj (h.real j u hj) z;omega
    ·exact hF.out (fun n hn=>h.pn n (hps n hn)) z
  ·rcases List.mem_cons.mp z with z|z
   ·exact(nri n _ (hF.sz n hn)).1 z
   ·rcases List.mem_cons.mp z with z|z
    ·exact(nri n _ (hF.sz n hn)).2 z
    ·exact pa_out (hF.sz n hn) (fun n hn=>h.pn n (hps n hn)) (dis a w hai haj hw n hn) z
 refine h.inst k hI (fun a w hw=>?_) fun n hn=>?_
 ·by_cases h1:a=j
  ·subst h1
   rw[List.getElem?_set_self (by simpa using hjl)]at hw
   cases hw;exact e2
  ·rw[List.getElem?_set_ne (fun z=>h1 z.symm)]at hw
   by_cases h2:a=i
   ·subst h2
    rw[List.getElem?_set_self hil]at hw
    cases hw;exact e
   ·rw[List.getElem?_set_ne (fun z=>h2 z.symm)]at hw
    exact keepR a w h2 h1 hw
 ·by_cases hx:n∈ps
  ·exact hsz n hx
  ·obtain⟨sz,q⟩:=h.pn n hn
   refine⟨sz,q.ex k fun z=>?_⟩
   rcases List.mem_cons.mp z with z|z
   ·exact(nri n _ q).1 z
   ·rcases List.mem_cons.mp z with z|z
    ·exact(nri n _ q).2 z
    ·exact pa_out q (fun n hn=>h.pn n (hps n hn)) hx z
section
variable {W:Wd} {n m:Nat} {H:AH} {Q:AV→AH→Prop} {c:Cx} {s:S}
theorem PI.kb {s:S} (h:PI s) (kb:Nat):PI ⟨s.rw,s.mw,s.ks,kb⟩:=⟨h.ok,h.nd,h.sub,h.dis,h.key,h.stray,h.klen,h.wlen⟩
theorem WI.mi_inj (h:WI c H s) {i j:Nat} {v u:Win} (hi:s.mw[i]?=some v) (hj:s.mw[j]?=some u) (hij:i≠j):c.mi i≠c.mi j:=fun z=>hij (by
 have:=(h.mine i v hi).inj (h.mine j u hj) z;omega)
theorem WI.mi_own (h:WI c H s) {i:Nat} {v:Win} (hi:s.mw[i]?=some v):∃p,H (c.mi i)=some p∧p.2≠.opq:=let ⟨t,e,_⟩:=h.mine i v hi;⟨_,e,fun z=>by cases z⟩
theorem WI.ri_at (h:WI c H s) {i:Nat} {v:Win} (hi:s.rw[i]?=some v):∃dx fs,H (c.ri i)=some (false,.inst 420 dx fs)∧∀m,m∈[82,83,84,85,86,87,88,89,90,91,92,93,94]→fs.lookup m=none:=by
 obtain⟨t,⟨dx,nm,lp,e,_⟩,_⟩:=(h.real i v hi).rw
 exact⟨dx,_,e,fun m hm=>by
  simp only[List.mem_cons,List.not_mem_nil,or_false]at hm
  rcases hm with rfl|rfl|rfl|rfl|rfl|rfl|rfl|rfl|rfl|rfl|rfl|rfl|rfl<;>rfl⟩
theorem told_b {b:Bool}:Told (.tup [.bool b,.bool b]):=.inl ⟨b,rfl⟩
theorem told_n:Told (.tup [.none,.none]):=.inr rfl
theorem perm_sub {c:Cx} {ps qs:List Int} {r:Addr} (h:∀x∈ps,x∈qs):∀b∈r::ps.map c.pa,b∈r::qs.map c.pa:=fun b hb=>by
 rcases List.mem_cons.mp hb with rfl|hb
 ·exact .head _
 ·obtain⟨k,hk,rfl⟩:=List.mem_map.mp hb
  exact .tail _ (List.mem_map.mpr ⟨k,h k hk,rfl⟩)
theorem c536 (G:GD W) {i:Nat} {v:Win} (hm:60≤m) (h:WI c H s) (hp:PI s) (heq:s.mw=s.rw) (hb:s.kb≤9000) (hi:s.rw[i]?=some v) (q:DeedQ c s Q):CallF W 536 [.ref c.D,.ref (c.mi i)] m H Q:=by
 obtain⟨n,rfl,hn⟩:=pos_of (show 59+1≤m from hm)
 have hvm:=List.mem_of_getElem? hi
 have hv:=hp.ok v hvm
 have hmi:s.mw[i]?=some v:=by rw[heq];exact hi
 refine enter G (f536 _) (hb536 _) (ws:=[]) (fun h _=>by simp only[VRs]) rfl ?_
 unfold b536 x536
 walk_at "wp"
 refine c456 G (by omega) h (by omega) (by decide) fun k1 H1 _ _ x1 h1=>?_
 rw[aeq_ii]
 generalize (k1==1)=back
 replace h1:WI c H1 ⟨s.rw,s.mw,s.ks,s.kb+1⟩:=h1
 obtain⟨t,em,hL,he⟩:=h1.mine i v hmi
 have hst:t.Sm:=er_sm.mp (he▸hv.fine.sm)
 have ept:t.panes=v.tr.panes:=by rw[←he,er_panes]
 have hlen:=hst.len
 rw[gmL em]
 refine c73 G (by have:=hst.dep;omega) hL hst fun r2 H2 s2 el=>⟨⟨_,_,_,rfl,el⟩,?_⟩
 have h2:=h1.sb s2
 rw[gmA (s2.dS em)]
 refine⟨true,t.panes,el,by rw[ept];exact hv.act,by unfold cap;omega,by decide,?_⟩
 rw[gmR (s2.dS em),ept]
 obtain⟨dx,fs,er,hfs⟩:=h2.ri_at hi
 obtain⟨wro,tro⟩:=ro_ok (back:=back) hv
 obtain⟨k1,k2⟩:=rot_good (back:=back) hv
 refine⟨_,_,_,_,_,388,rfl,er,rfl,hfs _ (by simp),c388 G (by omega) (h2.real i v hi) hv fun H3 x3 f3=>?_⟩
 have h3:=h2.setR hi x3 (hp.sub v hvm) f3 (fun x hx=>f3.pn x (by rw[tro];exact k2.mem_iff.mpr hx)) fun j w hj hw x hx=>hp.dis j i w v hj hw hi x hx
 have p3:PI ⟨s.rw.set i (roW v back),s.mw,s.ks,s.kb+1⟩:=hp.set hi wro (fun x hx=>hp.sub v hvm x (k2.mem_iff.mp (by rwa [tro]at hx))) fun j w hj hw x hx z=>hp.dis j i w v hj hw hi x hx (k2.mem_iff.mp (by rwa [tro]at z))
 obtain⟨t3,em3,hL3,he3⟩:=h3.mine i v hmi
 have ept3:t3.panes=v.tr.panes:=by rw[←he3,er_panes]
 rw[gmL em3]
 refine c183 G (back:=back) (by omega) hL3 (he3▸hv.fine) (by rw[ept3];exact hv.nd) fun t4 H4 ht s4 l4=>⟨by decide,?_⟩
 rw[he3]at ht
 have h4:=h3.sb s4
 rw[smL (s4.dS em3),smZ (AH.set_same _ _ _),AH.set_set]
 have x5:Ex [c.mi i] H4 (H4.set (c.mi i) (.dS (mfl i (c.ri i) t4.tag.1 v.act v.last false))):=Ex.put
 have e5:=AH.set_same H4 (c.mi i) (.dS (mfl i (c.ri i) t4.tag.1 v.act v.last false))
 generalize H4.set (c.mi i) (.dS (mfl i (c.ri i) t4.tag.1 v.act v.last false))=H5 at x5 e5
 have m4:Mu H4 [c.mi i]:=.cons (s4.dS em3) .nil
 have M5:MW H5 (c.mi i) (c.ri i) i (layW v (Tr.rotT back v.tr)):=⟨t4,e5,l4.mu x5 m4,ht⟩
 have h5:=h4.setM hmi x5 M5
 have hil:i<s.mw.length:=(List.getElem?_eq_some_iff.mp hmi).1
 rw[gmL e5]
 have hst4:t4.Sm:=er_sm.mp (ht▸k1.sm)
 have ept4:t4.panes=(Tr.rotT back v.tr).panes:=by rw[←ht,er_panes]
 refine c73 G (by have:=hst4.dep;omega) (l4.mu x5 m4) hst4 fun r6 H6 s6 e6=>?_
 have h6:=h5.sb s6
 have hidx:v.tr.panes.idxOf v.act<(Tr.rotT back v.tr).panes.length:=by rw[k2.length_eq];exact List.idxOf_lt_length_iff.mpr hv.act
 have hget:=List.getElem?_eq_getElem hidx
 have hmem:=List.getElem_mem hidx
 generalize (Tr.rotT back v.tr).panes[v.tr.panes.idxOf v.act]'hidx=a at hget hmem
 have hkl:=k1.sm.len
 refine gi_nat (j:=v.tr.panes.idxOf v.act) (u:=.int a) e6 rfl (by rw[ept4];simp only[List.length_map];unfold cap;omega) (by rw[ept4,List.getElem?_map,hget];rfl) ?_
 have hro:roW v back=selW a (layW v (Tr.rotT back v.tr)):=by unfold roW;rw[hget];rfl
 refine c477 G (v:=layW v (Tr.rotT back v.tr)) (by omega) (M5.sb s6) k1.sm fun H7 x7 m7=>⟨by decide,?_⟩
 rw[←hro]at m7
 have h7:=h6.setM (i:=i) (v:=layW v (Tr.rotT back v.tr)) (by show(s.mw.set i _)[i]?=_;rw[List.getElem?_set_self hil]) x7 m7
 exact q _ c _ H7 told_n ⟨h7,⟨p3.ok,p3.nd,p3.sub,p3.dis,p3.key,p3.stray,p3.klen,p3.wlen⟩,by show(s.mw.set i _).set i _=s.rw.set i _;rw[heq,List.set_set],by show s.kb+1≤s.kb+20;omega,by show s.ks.length≤_;omega,rfl,rfl⟩
end
end
section
section
variable {W:Wd} {n m:Nat} {H:AH} {Q:AV→AH→Prop} {c:Cx} {s:S}
theorem tup_at {xs:List AV} {k:Int} {j:Nat} {u:AV} (hk:k=(j:Int)) (hl:xs.length≤100) (hu:xs[j]?=some u) (q:Q u H):GetI (.tup xs) (.int k) H Q:=by
 have hlt:=(List.getElem?_eq_some_iff.mp hu).1
 refine⟨j,u,by omega,by omega,?_,hu,q⟩
 unfold seqIndex?
 simp only[show ¬k<0 by omega,if_false]
 rw[if_pos (by simp;omega),hk];simp
theorem mine503s (G:GD W) {ρ:Rho} {QS:Rho→AH→Prop} {i:Nat} {v:Win} {p b:Int} {d before told:Bool} {size:Option Int} {r1 r2:Addr} (hn:50≤n) (h6:ρ.lookup 6=some (.int p)) (h55:ρ.lookup 55=some (.int b)) (h77:ρ.lookup 77=some (.ref r1)) (h78:ρ.lookup 78=some (.ref r2)) (h64:ρ.lookup 64=some (.bool told))
  (h61:ρ.lookup 61=some (.ref (c.mi i))) (h65:ρ.lookup 65=some (.ref (c.mi i))) (h27:ρ.lookup 27=some (.bool d)) (h34:ρ.lookup 34=some (optV size)) (h35:ρ.lookup 35=some (.bool before)) (h:WI c H s) (hv:WOK v) (hi:s.mw[i]?=some v)
  (e1:H r1=some (true,.list (v.tr.panes.map .int))) (e2:H r2=some (true,.list (v.tr.panes.map .int))) (ht:told=(joinS v p b d size before).isSome)
  (q:∀H',WI c H' ⟨s.rw,s.mw.set i ((joinS v p b d size before).getD v),s.ks,s.kb⟩→Q (.tup [.bool told,.bool told]) H'):wpB W n (b503.drop 6) ρ H QS Q:=by
 unfold b503
 simp only[List.drop_succ_cons,List.drop_zero]
 walk_at "wp"
 simp only[h6,h55,h77,h78,h64,h61,h65,h27,h34,h35,Option.some.injEq,exists_eq_left']
 have set0:s.mw.set i v=s.mw:=by
  have:=List.getElem?_eq_some_iff.mp hi
  obtain⟨hl,e⟩:=this
  rw[←e];exact List.set_getElem_self hl
 have no:¬(p∈v.tr.panes∧b∈v.tr.panes∧p≠b)→2≤cap∧Q (.tup [.bool told,.bool false]) H:=fun z=>by
  have e0:joinS v p b d size before=none:=if_neg z
  rw[e0]at ht q
  subst ht
  exact⟨by decide,q H (by show WI c H ⟨s.rw,s.mw.set i v,s.ks,s.kb⟩;rw[set0];exact h)⟩
 rw[aeq_ii]
 refine⟨fun hz=>⟨fun _=>no fun z=>?_,fun z=>by cases z⟩,fun hz=>⟨p,r1,true,v.tr.panes,rfl,rfl,e1,fun hy=>⟨fun _=>no fun z=>?_,fun z=>by cases z⟩,fun hy=>⟨b,r2,true,v.tr.panes,rfl,rfl,e2,fun hx=>no fun z=>?_,fun hx=>?_⟩⟩⟩
 ·exact z.2.2 (by simpa using hz)
 ·simp[z.1]at hy
 ·simp[z.2.1]at hx
 have hpb:p≠b:=by simpa using hz
 have hpm:p∈v.tr.panes:=by simpa using hy
 have hbm:b∈v.tr.panes:=by simpa using hx
 have h1:v.tr.panes.length≠1:=fun z=>by
  obtain⟨x,hx⟩:=List.length_eq_one_iff.mp z
  rw[hx]at hpm hbm
  exact hpb ((List.mem_singleton.mp hpm).trans (List.mem_singleton.mp hbm).symm)
 obtain⟨g,hc,_⟩:=Tr.close_good hv.fine hpm h1
 obtain⟨_,hmem,k1,hnd,_,_⟩:=drop_ok hv hpm hc
 obtain⟨t,em,hL,he⟩:=h.mine i v hi
 have own:=h.mi_own hi
 refine⟨decide (c.mi i=c.mi i),rfl,⟨own,own.imp fun _ z=>z.1⟩,(fun _=>?_),fun z=>by simp at z⟩
 rw[gmL em]
 refine c156 G (by omega) hL (he▸hv.fine) (fun hs=>by rw[he,hc]at hs;cases hs) fun g' hs H1 s1 l1=>?_
 rw[he,hc]at hs
 cases hs
 have h1':=h.sb s1
 refine c142 G (by omega) l1 k1 (fun hs H2 s2=>?_) fun t' hs H2 s2 l2=>?_
 ·have e0:joinS v p b d size before=none:=by unfold joinS;rw[if_pos ⟨hpm,hbm,hpb⟩,hc];simp[hs]
  rw[e0]at ht q
  subst ht
  have h2:=h1'.sb s2
  refine⟨true,rfl,trivial,(fun _=>⟨(fun z=>by cases z),fun _=>?_⟩),fun z=>by cases z⟩
  exact c489n G (by omega) ⟨by decide,q H2 (by show WI c H2 ⟨s.rw,s.mw.set i v,s.ks,s.kb⟩;rw[set0];exact h2)⟩
 ·have e0:joinS v p b d size before=some (selW p (layW v (er t'))):=by unfold joinS;rw[if_pos ⟨hpm,hbm,hpb⟩,hc];simp[hs]
  rw[e0]at ht q
  subst ht
  have h2:=h1'.sb s2
  obtain⟨_,hm'⟩:=joinS_ok hv hpm hc hs
  have own2:=h2.mi_own hi
  refine⟨false,rfl,trivial,(fun z=>by cases z),fun _=>⟨decide (c.mi i=c.mi i),rfl,⟨own2,own2.imp fun _ z=>z.1⟩,(fun z=>by simp at z),fun _=>?_⟩⟩
  refine c489 G (by omega) (h2.mine i v hi) l2 fun H3 x3 m3=>⟨by decide,?_⟩
  rw[laid_sel ((hm' p).mpr hpm)]at m3
  exact q H3 (h2.setM hi x3 m3)
theorem mine503d (G:GD W) {ρ:Rho} {QS:Rho→AH→Prop} {i j:Nat} {v u:Win} {p b:Int} {d before told:Bool} {size:Option Int} {r1 r2:Addr} (hn:50≤n) (hij:i≠j) (h6:ρ.lookup 6=some (.int p)) (h55:ρ.lookup 55=some (.int b)) (h77:ρ.lookup 77=some (.ref r1)) (h78:ρ.lookup 78=some (.ref r2)) (h64:ρ.lookup 64=some (.bool told))
  (h61:ρ.lookup 61=some (.ref (c.mi i))) (h65:ρ.lookup 65=some (.ref (c.mi j))) (h27:ρ.lookup 27=some (.bool d)) (h34:ρ.lookup 34=some (optV size)) (h35:ρ.lookup 35=some (.bool before)) (h:WI c H s) (hv:WOK v) (hu:WOK u) (hi:s.mw[i]?=some v) (hj:s.mw[j]?=some u) (hul:u.tr.panes.length+1≤20) (hl1:v.tr.panes.length≠1)
  (e1:H r1=some (true,.list (v.tr.panes.map .int))) (e2:H r2=some (true,.list (u.tr.panes.map .int))) (ht:told=(joinD v u p b d size before).isSome)
  (q:∀H',WI c H' ⟨s.rw,(s.mw.set i ((joinD v u p b d size before).getD (v,u)).1).set j ((joinD v u p b d size before).getD (v,u)).2,s.ks,s.kb⟩→Q (.tup [.bool told,.bool told]) H'):wpB W n (b503.drop 6) ρ H QS Q:=by
 unfold b503
 simp only[List.drop_succ_cons,List.drop_zero]
 walk_at "wp"
 simp only[h6,h55,h77,h78,h64,h61,h65,h27,h34,h35,Option.some.injEq,exists_eq_left']
 have set0:(s.mw.set i v).set j u=s.mw:=by
  obtain⟨hl,e⟩:=List.getElem?_eq_some_iff.mp hi
  obtain⟨hl2,e2⟩:=List.getElem?_eq_some_iff.mp hj
  rw[←e,List.set_getElem_self hl,←e2,List.set_getElem_self hl2]
 have no:joinD v u p b d size before=none→∀H',WI c H' s→2≤cap∧Q (.tup [.bool told,.bool false]) H':=fun e0 H' h'=>by
  rw[e0]at ht q
  subst ht
  exact⟨by decide,q H' (by show WI c H' ⟨s.rw,(s.mw.set i v).set j u,s.ks,s.kb⟩;rw[set0];exact h')⟩
 have no':¬(p∈v.tr.panes∧b∈u.tr.panes∧p≠b)→2≤cap∧Q (.tup [.bool told,.bool false]) H:=fun z=>no (if_neg z) H h
 rw[aeq_ii]
 refine⟨fun hz=>⟨fun _=>no' fun z=>?_,fun z=>by cases z⟩,fun hz=>⟨p,r1,true,v.tr.panes,rfl,rfl,e1,fun hy=>⟨fun _=>no' fun z=>?_,fun z=>by cases z⟩,fun hy=>⟨b,r2,true,u.tr.panes,rfl,rfl,e2,fun hx=>no' fun z=>?_,fun hx=>?_⟩⟩⟩
 ·exact z.2.2 (by simpa using hz)
 ·simp[z.1]at hy
 ·simp[z.2.1]at hx
 have hpb:p≠b:=by simpa using hz
 have hpm:p∈v.tr.panes:=by simpa using hy
 have hbm:b∈u.tr.panes:=by simpa using hx
 obtain⟨g,hc,_⟩:=Tr.close_good hv.fine hpm hl1
 have hdrop:dropW v p=some (dropV v p g):=by unfold dropW;rw[if_pos hpm,hc];rfl
 obtain⟨tu,eu,hLu,heu⟩:=h.mine j u hj
 have own:=h.mi_own hi
 have ownj:=h.mi_own hj
 have mne:=h.mi_inj hi hj hij
 have hdec:decide (c.mi i=c.mi j)=false:=by simpa using mne
 refine⟨decide (c.mi i=c.mi j),rfl,⟨own,ownj.imp fun _ z=>z.1⟩,(fun z=>by rw[hdec]at z;cases z),fun _=>?_⟩
 rw[gmL eu]
 refine c142 G (by omega) hLu (heu▸hu.fine) (fun hs H2 s2=>?_) fun t' hs H2 s2 l2=>?_
 ·rw[heu]at hs
  have e0:joinD v u p b d size before=none:=by unfold joinD;rw[if_pos ⟨hpm,hbm,hpb⟩];simp[hs]
  have h2:=h.sb s2
  refine⟨true,rfl,trivial,(fun _=>⟨(fun z=>by cases z),fun _=>?_⟩),fun z=>by cases z⟩
  exact c489n G (by omega) (no e0 H2 h2)
 ·rw[heu]at hs
  have e0:joinD v u p b d size before=some (dropV v p g,selW p (layW u (er t'))):=by unfold joinD;rw[if_pos ⟨hpm,hbm,hpb⟩];simp[hs,hdrop]
  rw[e0]at ht q
  subst ht
  have h2:=h.sb s2
  obtain⟨j1,j2,j3,j4,_,_⟩:=split_mem hu.fine hu.nd hs hul
  have own2:=h2.mi_own hi
  have ownj2:=h2.mi_own hj
  refine⟨false,rfl,trivial,(fun z=>by cases z),fun _=>⟨decide (c.mi i=c.mi j),rfl,⟨own2,ownj2.imp fun _ z=>z.1⟩,(fun _=>?_),fun z=>by rw[hdec]at z;cases z⟩⟩
  refine c482 G (by omega) (h2.mine i v hi) hv fun H3 x3 m3=>?_
  rw[hdrop]at m3
  have h3:=h2.setM hi x3 m3
  have hj3:(s.mw.set i (dropV v p g))[j]?=some u:=by rw[List.getElem?_set_ne hij];exact hj
  obtain⟨ti,ei,_⟩:=h2.mine i v hi
  have mu3:Mu H2 [c.mi i]:=.cons ei .nil
  refine c489 G (by omega) (h3.mine j u hj3) (l2.mu x3 mu3) fun H4 x4 m4=>⟨by decide,?_⟩
  rw[laid_sel ((j3 p).mpr (.inr rfl))]at m4
  exact q H4 (h3.setM hj3 x4 m4)
theorem c503 (G:GD W) {i j:Nat} {v u:Win} (hm:60≤m) (h:WI c H s) (hp:PI s) (heq:s.mw=s.rw) (hb:s.kb≤9000) (hi:s.rw[i]?=some v) (hj:s.rw[j]?=some u) (q:DeedQ c s Q):CallF W 503 [.ref c.D,.ref c.Wd,.ref (c.mi i),.ref (c.mi j)] m H Q:=by
 obtain⟨n,rfl,hn⟩:=pos_of (show 59+1≤m from hm)
 have hvm:=List.mem_of_getElem? hi
 have hum:=List.mem_of_getElem? hj
 have hv:=hp.ok v hvm
 have hu:=hp.ok u hum
 have hmi:s.mw[i]?=some v:=by rw[heq];exact hi
 have hmj:s.mw[j]?=some u:=by rw[heq];exact hj
 refine enter G (f503 _) (hb503 _) (ws:=[]) (fun h _=>by simp only[VRs]) rfl ?_
 have hd:b503=b503.take 6++b503.drop 6:=rfl
 rw[hd,b_app]
 generalize hT:b503.drop 6=T6
 unfold b503 x503
 simp only[List.take_succ_cons,List.take_zero]
 walk_at "wp"
 refine c470 G (by omega) h (by omega) hmi hv.fine.sm fun p H1 hpp x1 h1=>?_
 refine c470 G (by omega) h1 (by show s.kb+1≤_;omega) hmj hu.fine.sm fun b H2 hbb x2 h2=>?_
 refine c456 G (by omega) h2 (by show s.kb+2≤_;omega) (by decide) fun k3 H3 _ _ x3 h3=>?_
 rw[aeq_ii]
 refine⟨by decide,by decide,?_⟩
 refine c456 G (by omega) h3 (by show s.kb+3≤_;omega) (by decide) fun k4 H4 a4 b4 x4 h4=>?_
 refine size_of a4 b4 (by decide) (fun x hx=>?_) fun size=>?_
 ·simp only[List.mem_cons,List.not_mem_nil,or_false]at hx
  rcases hx with rfl|rfl
  ·exact⟨none,rfl⟩
  ·exact⟨some 2,rfl⟩
 refine c456 G (by omega) h4 (by show s.kb+4≤_;omega) (by decide) fun k5 H5 _ _ x5 h5=>?_
 rw[aeq_ii]
 refine⟨by decide,?_⟩
 replace h5:WI c H5 ⟨s.rw,s.mw,s.ks,s.kb+5⟩:=h5
 generalize (k3==0)=d
 generalize (k5==1)=before
 clear x1 x2 x3 x4 x5 h1 h2 h3 h4
 have vl:=hp.len hvm
 have ul:=hp.len hum
 obtain⟨t,em,hL,he⟩:=h5.mine i v hmi
 have hst:t.Sm:=er_sm.mp (he▸hv.fine.sm)
 have ept:t.panes=v.tr.panes:=by rw[←he,er_panes]
 rw[gmL em]
 refine c73 G (by have:=hst.dep;omega) hL hst fun r1 H6 s6 e6=>?_
 have h6:=h5.sb s6
 obtain⟨t2,em2,hL2,he2⟩:=h6.mine j u hmj
 have hst2:t2.Sm:=er_sm.mp (he2▸hu.fine.sm)
 have ept2:t2.panes=u.tr.panes:=by rw[←he2,er_panes]
 rw[gmL em2]
 refine c73 G (by have:=hst2.dep;omega) hL2 hst2 fun r2 H7 s7 e7=>⟨by decide,?_⟩
 have h7:=h6.sb s7
 rw[ept]at e6
 rw[ept2]at e7
 have e6':=s7.list e6
 have own:=h7.mi_own hmi
 have ownj:=h7.mi_own hmj
 have hpks:p∈s.ks:=by
  rcases hpp with z|rfl
  ·exact hp.sub v hvm p z
  ·exact hp.stray
 have hbks:b∈s.ks:=by
  rcases hbb with z|rfl
  ·exact hp.sub u hum b z
  ·exact hp.stray
 refine⟨decide (c.mi i=c.mi j),rfl,⟨own,ownj.imp fun _ z=>z.1⟩,?_⟩
 by_cases hij:i=j
 ·subst hij
  rw[hi]at hj
  cases hj
  refine⟨fun _=>⟨(fun z=>by cases z),fun _=>?_⟩,fun z=>by simp at z⟩
  rw[wi_panes h7]
  refine wi_pane h7 hpks ?_
  rw[wi_panes h7]
  refine wi_pane h7 hbks ⟨by decide,?_⟩
  obtain⟨tm,em7,_⟩:=h7.mine i v hmi
  rw[gmR em7]
  refine tup_at (j:=0) rfl (by simp) rfl ?_
  rw[gmR em7]
  refine tup_at (j:=1) rfl (by simp) rfl ?_
  have done:∀told o H8,joinS v p b d size before=o→told=o.isSome→Le H7 H8→WI c H8 ⟨s.rw.set i (o.getD v),s.mw,s.ks,s.kb+5⟩→PI ⟨s.rw.set i (o.getD v),s.mw,s.ks,s.kb+5⟩→∀ρ:Rho,ρ.lookup 6=some (.int p)→ρ.lookup 55=some (.int b)→ρ.lookup 77=some (.ref r1)→ρ.lookup 78=some (.ref r2)→ρ.lookup 64=some (.bool told)→
    ρ.lookup 61=some (.ref (c.mi i))→ρ.lookup 65=some (.ref (c.mi i))→ρ.lookup 27=some (.bool d)→ρ.lookup 34=some (optV size)→ρ.lookup 35=some (.bool before)→wpB W n T6 ρ H8 (fun _ H=>Q .none H) Q:=by
   intro told o H8 ho ht le h8 p8 ρ g6 g55 g77 g78 g64 g61 g65 g27 g34 g35
   subst hT
   subst ho
   refine mine503s G (by omega) g6 g55 g77 g78 g64 g61 g65 g27 g34 g35 h8 hv hmi (le _ _ e6') (le _ _ e7) ht fun H9 h9=>?_
   exact q _ c _ H9 told_b ⟨h9,⟨p8.ok,p8.nd,p8.sub,p8.dis,p8.key,p8.stray,p8.klen,p8.wlen⟩,by show s.mw.set i _=s.rw.set i _;rw[heq],by show s.kb+5≤s.kb+20;omega,by show s.ks.length≤_;omega,rfl,rfl⟩
  have set0:s.rw.set i v=s.rw:=by
   obtain⟨hl,e⟩:=List.getElem?_eq_some_iff.mp hi
   rw[←e];exact List.set_getElem_self hl
  refine CallF.le (c439s G (by omega) (h7.real i v hi) hv (h7.pn p hpks) (h7.pn b hbks) (fun hz H8 s8 le=>?_) fun v' hz H8 x8 f8 w8 le=>?_)
  ·refine done false none H8 hz rfl le ?_ ?_ _ ?_ ?_ ?_ ?_ ?_ ?_ ?_ ?_ ?_ ?_
   ·show WI c H8 ⟨s.rw.set i v,s.mw,s.ks,s.kb+5⟩
    rw[set0];exact h7.sb s8
   ·show PI ⟨s.rw.set i v,s.mw,s.ks,s.kb+5⟩
    rw[set0];exact hp.kb _
   all_goals rfl
  ·have hz':=hz
   unfold joinS at hz'
   split at hz'
   ·rename_i hc
    obtain⟨g,hg,hz'⟩:=Option.bind_eq_some_iff.mp hz'
    obtain⟨t',ht',hz'⟩:=Option.map_eq_some_iff.mp hz'
    obtain⟨_,hm'⟩:=joinS_ok hv hc.1 hg ht'
    have htr:v'.tr.panes=t'.panes:=by rw[←hz',selW_tr];rfl
    have sub':∀x∈v'.tr.panes,x∈v.tr.panes:=fun x hx=>(hm' x).mp (by rwa [htr]at hx)
    have all':∀x∈v.tr.panes,∃z,PN H8 c.pa x z:=fun x hx=>f8.pn x (by rw[htr];exact(hm' x).mpr hx)
    refine done true (some v') H8 hz rfl le ?_ ?_ _ ?_ ?_ ?_ ?_ ?_ ?_ ?_ ?_ ?_ ?_
    ·exact h7.setR hi x8 (hp.sub v hvm) f8 all' fun j w hj hw x hx=>hp.dis j i w v hj hw hi x hx
    ·exact hp.set hi w8 (fun x hx=>hp.sub v hvm x (sub' x hx)) fun j w hj hw x hx z=>hp.dis j i w v hj hw hi x hx (sub' x z)
    all_goals rfl
   ·cases hz'
 ·have mne:=h7.mi_inj hmi hmj hij
  have hdec:decide (c.mi i=c.mi j)=false:=by simpa using mne
  refine⟨(fun z=>by rw[hdec]at z;cases z),fun _=>?_⟩
  refine len_list e6' (by simp only[List.length_map];unfold cap;omega) ?_
  rw[aeq_ii]
  refine⟨fun _=>⟨by decide,q _ c _ H7 told_b ⟨h7,hp.kb _,heq,by show s.kb+5≤s.kb+20;omega,by show s.ks.length≤_;omega,rfl,rfl⟩⟩,fun hl1=>?_⟩
  have hl1:v.tr.panes.length≠1:=fun z=>by simp[z]at hl1
  rw[wi_panes h7]
  refine wi_pane h7 hpks ?_
  rw[wi_panes h7]
  refine wi_pane h7 hbks ⟨by decide,?_⟩
  obtain⟨tm,em7,_⟩:=h7.mine i v hmi
  obtain⟨tm2,em72,_⟩:=h7.mine j u hmj
  rw[gmR em7]
  refine tup_at (j:=0) rfl (by simp) rfl ?_
  rw[gmR em72]
  refine tup_at (j:=1) rfl (by simp) rfl ?_
  have done:∀told o H8,joinD v u p b d size before=o→told=o.isSome→Le H7 H8→WI c H8 ⟨(s.rw.set i (o.getD (v,u)).1).set j (o.getD (v,u)).2,s.mw,s.ks,s.kb+5⟩→PI ⟨(s.rw.set i (o.getD (v,u)).1).set j (o.getD (v,u)).2,s.mw,s.ks,s.kb+5⟩→∀ρ:Rho,ρ.lookup 6=some (.int p)→ρ.lookup 55=some (.int b)→ρ.lookup 77=some (.ref r1)→ρ.lookup 78=some (.ref r2)→ρ.lookup 64=some (.bool told)→
    ρ.lookup 61=some (.ref (c.mi i))→ρ.lookup 65=some (.ref (c.mi j))→ρ.lookup 27=some (.bool d)→ρ.lookup 34=some (optV size)→ρ.lookup 35=some (.bool before)→wpB W n T6 ρ H8 (fun _ H=>Q .none H) Q:=by
   intro told o H8 ho ht le h8 p8 ρ g6 g55 g77 g78 g64 g61 g65 g27 g34 g35
   subst hT
   subst ho
   refine mine503d G (by omega) hij g6 g55 g77 g78 g64 g61 g65 g27 g34 g35 h8 hv hu hmi hmj (by omega) hl1 (le _ _ e6') (le _ _ e7) ht fun H9 h9=>?_
   exact q _ c _ H9 told_b ⟨h9,⟨p8.ok,p8.nd,p8.sub,p8.dis,p8.key,p8.stray,p8.klen,p8.wlen⟩,by show(s.mw.set i _).set j _=(s.rw.set i _).set j _;rw[heq],by show s.kb+5≤s.kb+20;omega,by show s.ks.length≤_;omega,rfl,rfl⟩
  have set0:(s.rw.set i v).set j u=s.rw:=by
   obtain⟨hl,e⟩:=List.getElem?_eq_some_iff.mp hi
   obtain⟨hl2,e2⟩:=List.getElem?_eq_some_iff.mp hj
   rw[←e,List.set_getElem_self hl,←e2,List.set_getElem_self hl2]
  have rne:c.ri i≠c.ri j:=fun z=>hij (by have:=(h7.real i v hi).inj (h7.real j u hj) z;omega)
  refine CallF.le (c439d G (by omega) (h7.real i v hi) hv (h7.real j u hj) hu rne (hp.dis i j v u hij hi hj) hl1 (by omega) (h7.pn p hpks) (h7.pn b hbks) (fun hz H8 s8 le=>?_) fun w hz H8 x8 f8 w8 f8' w8' le=>?_)
  ·refine done false none H8 hz rfl le ?_ ?_ _ ?_ ?_ ?_ ?_ ?_ ?_ ?_ ?_ ?_ ?_
   ·show WI c H8 ⟨(s.rw.set i v).set j u,s.mw,s.ks,s.kb+5⟩
    rw[set0];exact h7.sb s8
   ·show PI ⟨(s.rw.set i v).set j u,s.mw,s.ks,s.kb+5⟩
    rw[set0];exact hp.kb _
   all_goals rfl
  ·have hz':=hz
   unfold joinD at hz'
   split at hz'
   ·rename_i hc
    obtain⟨t',ht',hz'⟩:=Option.bind_eq_some_iff.mp hz'
    obtain⟨v',hv',hz'⟩:=Option.map_eq_some_iff.mp hz'
    subst hz'
    obtain⟨j1,j2,j3,j4,_,_⟩:=split_mem hu.fine hu.nd ht' (by omega)
    unfold dropW at hv'
    rw[if_pos hc.1]at hv'
    obtain⟨g,hg,hv'⟩:=Option.map_eq_some_iff.mp hv'
    obtain⟨_,hmem,_,_,etr,_⟩:=drop_ok hv hc.1 hg
    have m1:∀x,x∈v'.tr.panes↔x∈v.tr.panes∧x≠p:=fun x=>by rw[←hv',etr];exact hmem x
    have m2:∀x,x∈(selW p (layW u t')).tr.panes↔x∈u.tr.panes∨x=p:=fun x=>by rw[selW_tr];exact j3 x
    have psub:∀x∈v.tr.panes++u.tr.panes,x∈s.ks:=fun x hx=>by
     rcases List.mem_append.mp hx with hx|hx
     ·exact hp.sub v hvm x hx
     ·exact hp.sub u hum x hx
    refine done true (some (v',selW p (layW u t'))) H8 hz rfl le ?_ ?_ _ ?_ ?_ ?_ ?_ ?_ ?_ ?_ ?_ ?_ ?_
    ·refine h7.setR2 hij hi hj x8 psub f8 f8' (fun x hx=>?_) fun k w h1 h2 hw x hx z=>?_
     ·by_cases hxp:x=p
      ·exact f8'.pn x ((m2 x).mpr (.inr hxp))
      ·rcases List.mem_append.mp hx with hx|hx
       ·exact f8.pn x ((m1 x).mpr ⟨hx,hxp⟩)
       ·exact f8'.pn x ((m2 x).mpr (.inl hx))
     ·rcases List.mem_append.mp z with z|z
      ·exact hp.dis k i w v h1 hw hi x hx z
      ·exact hp.dis k j w u h2 hw hj x hx z
    ·refine hp.set2 hij hi hj w8 w8' (fun x hx=>hp.sub v hvm x ((m1 x).mp hx).1) (fun x hx=>?_) (fun x hx z=>?_) fun k w h1 h2 hw x hx=>⟨fun z=>hp.dis k i w v h1 hw hi x hx ((m1 x).mp z).1,fun z=>?_⟩
     ·rcases(m2 x).mp hx with z|rfl
      ·exact hp.sub u hum x z
      ·exact hpks
     ·obtain⟨a1,a2⟩:=(m1 x).mp hx
      rcases(m2 x).mp z with z|z
      ·exact hp.dis i j v u hij hi hj x a1 z
      ·exact a2 z
     ·rcases(m2 x).mp z with z|rfl
      ·exact hp.dis k j w u h2 hw hj x hx z
      ·exact hp.dis k i w v h1 hw hi x hx hc.1
    all_goals rfl
   ·cases hz'
end
end
section
section
variable {W:Wd} {n m:Nat} {H:AH} {Q:AV→AH→Prop} {c:Cx} {s:S}
theorem set_same {l:List Win} {i:Nat} {v:Win} (hi:l[i]?=some v):l.set i v=l:=by
 obtain⟨hl,e⟩:=List.getElem?_eq_some_iff.mp hi
 rw[←e];exact List.set_getElem_self hl
theorem PI.mw {s:S} (h:PI s) (mw:List Win) (kb:Nat):PI ⟨s.rw,mw,s.ks,kb⟩:=⟨h.ok,h.nd,h.sub,h.dis,h.key,h.stray,h.klen,h.wlen⟩
theorem c522 (G:GD W) {i j:Nat} {v u:Win} (hm:60≤m) (h:WI c H s) (hp:PI s) (heq:s.mw=s.rw) (hb:s.kb≤9000) (hi:s.rw[i]?=some v) (hj:s.rw[j]?=some u) (q:DeedQ c s Q):CallF W 522 [.ref c.D,.ref c.Wd,.ref (c.mi i),.ref (c.mi j)] m H Q:=by
 obtain⟨n,rfl,hn⟩:=pos_of (show 59+1≤m from hm)
 have hvm:=List.mem_of_getElem? hi
 have hum:=List.mem_of_getElem? hj
 have hv:=hp.ok v hvm
 have hu:=hp.ok u hum
 have hmi:s.mw[i]?=some v:=by rw[heq];exact hi
 have hmj:s.mw[j]?=some u:=by rw[heq];exact hj
 refine enter G (f522 _) (hb522 _) (ws:=[]) (fun h _=>by simp only[VRs]) rfl ?_
 unfold b522 x522
 walk_at "wp"
 refine c470 G (by omega) h (by omega) hmi hv.fine.sm fun p H1 hpp x1 h1=>?_
 refine c470 G (by omega) h1 (by show s.kb+1≤_;omega) hmj hu.fine.sm fun b H2 hbb x2 h2=>⟨by decide,?_⟩
 replace h2:WI c H2 ⟨s.rw,s.mw,s.ks,s.kb+2⟩:=h2
 clear x1 x2 h1
 have hpks:p∈s.ks:=by
  rcases hpp with z|rfl
  ·exact hp.sub v hvm p z
  ·exact hp.stray
 have hbks:b∈s.ks:=by
  rcases hbb with z|rfl
  ·exact hp.sub u hum b z
  ·exact hp.stray
 obtain⟨t,em,hL,he⟩:=h2.mine i v hmi
 obtain⟨t2,em2,hL2,he2⟩:=h2.mine j u hmj
 rw[gmR em,wi_panes h2]
 refine wi_pane h2 hpks ?_
 rw[gmR em2,wi_panes h2]
 refine wi_pane h2 hbks ?_
 by_cases hij:i=j
 ·subst hij
  rw[hi]at hj
  cases hj
  have fin:∀told o H3,swW v p b=o→told=o.isSome→WI c H3 ⟨s.rw.set i (o.getD v),s.mw,s.ks,s.kb+2⟩→PI ⟨s.rw.set i (o.getD v),s.mw,s.ks,s.kb+2⟩→CallF W 510 [.ref (c.mi i),.int p,.int b] n H3 fun v H=>2≤cap∧Q (.tup [.bool told,v]) H:=by
   intro told o H3 ho ht h3 p3
   subst ho
   subst ht
   refine c510 G (by omega) (h3.mine i v hmi) hv fun H4 x4 m4=>⟨by decide,?_⟩
   exact q _ c _ H4 told_b ⟨h3.setM hmi x4 m4,p3.mw _ _,by show s.mw.set i _=s.rw.set i _;rw[heq],by show s.kb+2≤s.kb+20;omega,by show s.ks.length≤_;omega,rfl,rfl⟩
  have isdec:∀(H3:AH) (rw':List Win) (P:Bool→Prop),WI c H3 ⟨rw',s.mw,s.ks,s.kb+2⟩→P true→∃b,ais (.ref (c.mi i)) (.ref (c.mi i))=some b∧isOK H3 (.ref (c.mi i)) (.ref (c.mi i))∧P b:=fun H3 rw' P h3 hP=>by
   have own:=h3.mi_own hmi
   exact⟨true,by simp[ais],⟨own,own.imp fun _ z=>z.1⟩,hP⟩
  refine c444s G (by omega) (h2.real i v hi) hv (h2.pn p hpks) (h2.pn b hbks) (fun hz H3 s3=>?_) fun v' hz H3 x3 f3 w3=>?_
  ·have h3:=h2.sb s3
   refine isdec H3 s.rw _ h3 ⟨fun _=>fin false none H3 hz rfl ?_ ?_,fun z=>by cases z⟩
   ·show WI c H3 ⟨s.rw.set i v,s.mw,s.ks,s.kb+2⟩
    rw[set_same hi];exact h3
   ·show PI ⟨s.rw.set i v,s.mw,s.ks,s.kb+2⟩
    rw[set_same hi];exact hp.kb _
  ·have hz':=hz
   unfold swW at hz'
   obtain⟨t',ht',hz'⟩:=Option.map_eq_some_iff.mp hz'
   obtain⟨k1,k2⟩:=swap_good hv ht'
   have htr:v'.tr=t':=by rw[←hz'];rfl
   have sub':∀x∈v'.tr.panes,x∈v.tr.panes:=fun x hx=>k2.mem_iff.mp (by rwa [htr]at hx)
   have h3:=h2.setR hi x3 (hp.sub v hvm) f3 (fun x hx=>f3.pn x (by rw[htr];exact k2.mem_iff.mpr hx)) fun j w hj hw x hx=>hp.dis j i w v hj hw hi x hx
   refine isdec H3 _ _ h3 ⟨fun _=>fin true (some v') H3 hz rfl h3 ?_,fun z=>by cases z⟩
   exact hp.set hi w3 (fun x hx=>hp.sub v hvm x (sub' x hx)) fun j w hj hw x hx z=>hp.dis j i w v hj hw hi x hx (sub' x z)
 ·have rne:c.ri i≠c.ri j:=fun z=>hij (by have:=(h2.real i v hi).inj (h2.real j u hj) z;omega)
  have dvu:=hp.dis i j v u hij hi hj
  have isdec:∀(H3:AH) (rw':List Win) (P:Bool→Prop),WI c H3 ⟨rw',s.mw,s.ks,s.kb+2⟩→P false→∃b,ais (.ref (c.mi i)) (.ref (c.mi j))=some b∧isOK H3 (.ref (c.mi i)) (.ref (c.mi j))∧P b:=fun H3 rw' P h3 hP=>by
   have own:=h3.mi_own hmi
   have ownj:=h3.mi_own hmj
   have:=h3.mi_inj hmi hmj hij
   exact⟨false,by simp[ais,this],⟨own,ownj.imp fun _ z=>z.1⟩,hP⟩
  have hst:t.Sm:=er_sm.mp (he▸hv.fine.sm)
  refine c444d G (by omega) (h2.real i v hi) hv (h2.real j u hj) hu rne dvu (h2.pn p hpks) (h2.pn b hbks) (fun hz H3 s3=>?_) fun w hz hpm hbm H3 x3 f3 w3 f3' w3'=>?_
  ·have h3:=h2.sb s3
   have nm:¬(p∈v.tr.panes∧b∈u.tr.panes):=fun z=>by
    unfold exW at hz
    rw[if_pos z]at hz;cases hz
   refine isdec H3 s.rw _ h3 ⟨(fun z=>by cases z),fun _=>?_⟩
   obtain⟨t,em,hL,he⟩:=h3.mine i v hmi
   have hst:t.Sm:=er_sm.mp (he▸hv.fine.sm)
   have ept:t.panes=v.tr.panes:=by rw[←he,er_panes]
   rw[gmL em]
   refine c73 G (by have:=hst.dep;omega) hL hst fun r1 H4 s4 e4=>?_
   rw[ept]at e4
   have h4:=h3.sb s4
   have fin:∀H',WI c H' ⟨s.rw,s.mw,s.ks,s.kb+2⟩→2≤cap∧Q (.tup [.bool false,.bool false]) H':=fun H' h'=>⟨by decide,q _ c _ H' told_b ⟨h',hp.kb _,heq,by show s.kb+2≤s.kb+20;omega,by show s.ks.length≤_;omega,rfl,rfl⟩⟩
   refine⟨p,r1,true,v.tr.panes,rfl,rfl,e4,fun _=>⟨fun _=>fin H4 h4,fun z=>by cases z⟩,fun hx=>?_⟩
   obtain⟨t5,em5,hL5,he5⟩:=h4.mine j u hmj
   have hst5:t5.Sm:=er_sm.mp (he5▸hu.fine.sm)
   have ept5:t5.panes=u.tr.panes:=by rw[←he5,er_panes]
   rw[gmL em5]
   refine c73 G (by have:=hst5.dep;omega) hL5 hst5 fun r6 H6 s6 e6=>?_
   rw[ept5]at e6
   refine⟨b,r6,true,u.tr.panes,rfl,rfl,e6,fun _=>fin H6 (h4.sb s6),fun hy=>absurd ⟨by simpa using hx,by simpa using hy⟩ nm⟩
  ·unfold exW at hz
   rw[if_pos ⟨hpm,hbm⟩]at hz
   cases hz
   have hbv:b∉v.tr.panes:=fun z=>dvu b z hbm
   have hpu:p∉u.tr.panes:=dvu p hpm
   obtain⟨_,_,m1⟩:=role_ok hv hpm hbv (hu.rng b hbm)
   obtain⟨_,_,m2⟩:=role_ok hu hbm hpu (hv.rng p hpm)
   have psub:∀x∈v.tr.panes++u.tr.panes,x∈s.ks:=fun x hx=>by
    rcases List.mem_append.mp hx with hx|hx
    ·exact hp.sub v hvm x hx
    ·exact hp.sub u hum x hx
   have s1:∀x∈(roleW v p b).tr.panes,x∈v.tr.panes++u.tr.panes:=fun x hx=>by
    rcases(m1 x).mp hx with z|rfl
    ·exact List.mem_append_left _ z.1
    ·exact List.mem_append_right _ hbm
   have s2:∀x∈(roleW u b p).tr.panes,x∈v.tr.panes++u.tr.panes:=fun x hx=>by
    rcases(m2 x).mp hx with z|rfl
    ·exact List.mem_append_right _ z.1
    ·exact List.mem_append_left _ hpm
   have dk:∀k w,k≠i→k≠j→s.rw[k]?=some w→∀x∈w.tr.panes,x∉v.tr.panes++u.tr.panes:=fun k w h1 h2 hw x hx z=>by
    rcases List.mem_append.mp z with z|z
    ·exact hp.dis k i w v h1 hw hi x hx z
    ·exact hp.dis k j w u h2 hw hj x hx z
   have h3:=h2.setR2 hij hi hj x3 psub f3 f3' (fun x hx=>?_) dk
   rotate_left
   ·rcases List.mem_append.mp hx with hx|hx
    ·by_cases hxp:x=p
     ·exact f3'.pn x ((m2 x).mpr (.inr hxp))
     ·exact f3.pn x ((m1 x).mpr (.inl ⟨hx,hxp⟩))
    ·by_cases hxb:x=b
     ·exact f3.pn x ((m1 x).mpr (.inr hxb))
     ·exact f3'.pn x ((m2 x).mpr (.inl ⟨hx,hxb⟩))
   have p3:PI ⟨(s.rw.set i (roleW v p b)).set j (roleW u b p),s.mw,s.ks,s.kb+2⟩:=hp.set2 hij hi hj w3 w3' (fun x hx=>psub x (s1 x hx)) (fun x hx=>psub x (s2 x hx)) (fun x hx z=>by
    rcases(m1 x).mp hx with a|a<;>rcases(m2 x).mp z with c|c
    ·exact dvu x a.1 c.1
    ·exact a.2 c
    ·exact c.2 a
    ·rw[a]at c;rw[c]at hbm;exact hpu hbm) fun k w h1 h2 hw x hx=>⟨fun z=>dk k w h1 h2 hw x hx (s1 x z),fun z=>dk k w h1 h2 hw x hx (s2 x z)⟩
   refine isdec H3 _ _ h3 ⟨(fun z=>by cases z),fun _=>?_⟩
   obtain⟨t,em,hL,he⟩:=h3.mine i v hmi
   have hst:t.Sm:=er_sm.mp (he▸hv.fine.sm)
   have ept:t.panes=v.tr.panes:=by rw[←he,er_panes]
   rw[gmL em]
   refine c73 G (by have:=hst.dep;omega) hL hst fun r1 H4 s4 e4=>?_
   rw[ept]at e4
   have h4:=h3.sb s4
   refine⟨p,r1,true,v.tr.panes,rfl,rfl,e4,fun hx=>by simp[hpm]at hx,fun _=>?_⟩
   obtain⟨t5,em5,hL5,he5⟩:=h4.mine j u hmj
   have hst5:t5.Sm:=er_sm.mp (he5▸hu.fine.sm)
   have ept5:t5.panes=u.tr.panes:=by rw[←he5,er_panes]
   rw[gmL em5]
   refine c73 G (by have:=hst5.dep;omega) hL5 hst5 fun r6 H6 s6 e6=>?_
   rw[ept5]at e6
   have h6:=h4.sb s6
   refine⟨b,r6,true,u.tr.panes,rfl,rfl,e6,fun hx=>by simp[hbm]at hx,fun _=>?_⟩
   refine c515 G (by omega) (h6.mine i v hmi) hv fun H7 x7 m7=>?_
   have h7:=h6.setM hmi x7 m7
   have hj7:(s.mw.set i (roleW v p b))[j]?=some u:=by rw[List.getElem?_set_ne hij];exact hmj
   refine c515 G (by omega) (h7.mine j u hj7) hu fun H8 x8 m8=>⟨by decide,?_⟩
   exact q _ c _ H8 told_b ⟨h7.setM hj7 x8 m8,p3.mw _ _,by show(s.mw.set i _).set j _=(s.rw.set i _).set j _;rw[heq],by show s.kb+2≤s.kb+20;omega,by show s.ks.length≤_;omega,rfl,rfl⟩
theorem c463 (G:GD W) {a:Addr} {num p w h:Int} (hm:5≤m) (q:∀md H',Sb H H'→MW H' md a num (oneW p w h)→Q (.ref md) H'):CallF W 463 [.int num,.ref a,.int p,.int w,.int h] m H Q:=by
 obtain⟨n,rfl,hn⟩:=pos_of (show 4+1≤m from hm)
 refine enter G (f463 _) (hb463 _) (ws:=[]) (fun h _=>by simp only[VRs]) rfl ?_
 unfold b463 x463
 walk_at "wp"
 refine c56 G (by omega) fun la ll H1 hla hll s1 l1=>⟨by decide,fun md hmd=>?_⟩
 have s2:Sb H1 (H1.set md (.dS (mfl num a la p none false))):=.new hmd
 exact q md _ (s1.trans s2) ⟨.leaf (la,ll) w h 0 0 p,AH.set_same _ _ _,l1.sb s2,rfl⟩
theorem WI.addW {H':AH} {a md:Addr} {one:Win} (h:WI c H s) (hlen:s.mw.length=s.rw.length) (k:Ex [c.Wl] H H') (e:H' c.Wl=some (false,.list (((List.range s.mw.length).map fun i=>.ref (c.mi i))++[.ref md]))) (f:FW H c.pa a s.rw.length one) (g:MW H md a s.rw.length one) :
  WI {c with mi:=fun i=>if i=s.mw.length then md else c.mi i,ri:=fun i=>if i=s.rw.length then a else c.ri i} H' ⟨s.rw++[one],s.mw++[one],s.ks,s.kb⟩:=by
 have e0:=h.wlist
 have m:Mu H [c.Wl]:=.cons e0 .nil
 have ho:∀C dx fs,AO.list ((List.range s.mw.length).map fun i=>AV.ref (c.mi i))≠.inst C dx fs:=fun _ _ _ z=>by cases z
 obtain⟨k0,hk0,ed⟩:=h.deck
 have mw_one:∀{x y:Addr} {num:Int} {v:Win},MW H x y num v→MW H' x y num v:=fun hM=>by
  obtain⟨t,em,_⟩:=id hM
  exact hM.ex k m (single (ne_kind em e0 fun z=>by cases z))
 refine⟨⟨k0,hk0,k.dS ed (single (ne_kind ed e0 fun z=>by cases z))⟩,k.fz m no_list h.cells,h.clen,k.dS h.world (single (ne_kind h.world e0 fun z=>by cases z)),k.dI h.panes (single (ne_kind h.panes e0 fun z=>by cases z)),?_,fun i v hv=>?_,fun i v hv=>?_,fun n hn=>let ⟨sz,q⟩:=h.pn n hn;⟨sz,q.one k e0 ho⟩⟩
 ·show H' c.Wl=some (false,.list ((List.range (s.mw++[one]).length).map fun i=>.ref (if i=s.mw.length then md else c.mi i)))
  rw[e,List.length_append,List.length_singleton,List.range_succ,List.map_append]
  have:(List.range s.mw.length).map (fun i=>AV.ref (if i=s.mw.length then md else c.mi i))=(List.range s.mw.length).map fun i=>AV.ref (c.mi i):=List.map_congr_left fun i hi=>by
   rw[List.mem_range]at hi
   rw[if_neg (by omega)]
  rw[this];simp
 ·show FW H' c.pa (if i=s.rw.length then a else c.ri i) i v
  by_cases hi:i=s.rw.length
  ·subst hi
   simp at hv
   subst hv
   rw[if_pos rfl];exact f.one k e0 ho
  ·rw[if_neg hi]
   have hlt:i<s.rw.length:=by
    have:=(List.getElem?_eq_some_iff.mp hv).1
    simp at this;omega
   rw[List.getElem?_append_left hlt]at hv
   exact(h.real i v hv).one k e0 ho
 ·show MW H' (if i=s.mw.length then md else c.mi i) (if i=s.rw.length then a else c.ri i) i v
  by_cases hi:i=s.mw.length
  ·rw[if_pos hi,if_pos (hi.trans hlen)]
   subst hi
   simp at hv
   subst hv
   rw[hlen];exact mw_one g
  ·rw[if_neg hi,if_neg (by omega)]
   have hlt:i<s.mw.length:=by
    have:=(List.getElem?_eq_some_iff.mp hv).1
    simp at this;omega
   rw[List.getElem?_append_left hlt]at hv
   exact mw_one (h.mine i v hv)
theorem PI.addW {one:Win} {mw:List Win} (h:PI s) (ok:WOK one) (sub:∀x∈one.tr.panes,x∈s.ks) (dis:∀w∈s.rw,∀x∈w.tr.panes,x∉one.tr.panes) (hl:s.rw.length<3):PI ⟨s.rw++[one],mw,s.ks,s.kb⟩:=by
 have get:∀(i:Nat) (v:Win),(s.rw++[one])[i]?=some v→(i=s.rw.length∧v=one)∨s.rw[i]?=some v:=fun i v hv=>by
  by_cases hlt:i<s.rw.length
  ·rw[List.getElem?_append_left hlt]at hv;exact .inr hv
  ·have:=(List.getElem?_eq_some_iff.mp hv).1
   simp at this
   have hi:i=s.rw.length:=by omega
   subst hi
   simp at hv
   exact .inl ⟨rfl,hv.symm⟩
 refine⟨fun w hw=>?_,h.nd,fun w hw=>?_,fun i j v w hij hi hj x hx=>?_,h.key,h.stray,h.klen,by simp only[List.length_append,List.length_singleton];have:=h.wlen;omega⟩
 ·rcases List.mem_append.mp hw with hw|hw
  ·exact h.ok w hw
  ·rw[List.mem_singleton.mp hw];exact ok
 ·rcases List.mem_append.mp hw with hw|hw
  ·exact h.sub w hw
  ·rw[List.mem_singleton.mp hw];exact sub
 ·rcases get i v hi with⟨e1,e1'⟩|hi2<;>rcases get j w hj with⟨e2,e2'⟩|hj2
  ·exact absurd (e1.trans e2.symm) hij
  ·rw[e1']at hx;exact fun z=>dis w (List.mem_of_getElem? hj2) x z hx
  ·rw[e2'];exact dis v (List.mem_of_getElem? hi2) x hx
  ·exact h.dis i j v w hij hi2 hj2 x hx
theorem c529 (G:GD W) {i:Nat} {v:Win} (hm:60≤m) (h:WI c H s) (hp:PI s) (heq:s.mw=s.rw) (hb:s.kb≤9000) (hl3:s.rw.length<3) (hi:s.rw[i]?=some v) (q:DeedQ c s Q):CallF W 529 [.ref c.D,.ref c.Wd,.ref (c.mi i)] m H Q:=by
 obtain⟨n,rfl,hn⟩:=pos_of (show 59+1≤m from hm)
 have hvm:=List.mem_of_getElem? hi
 have hv:=hp.ok v hvm
 have hmi:s.mw[i]?=some v:=by rw[heq];exact hi
 have hlen:s.mw.length=s.rw.length:=by rw[heq]
 refine enter G (f529 _) (hb529 _) (ws:=[]) (fun h _=>by simp only[VRs]) rfl ?_
 unfold b529 x529
 walk_at "wp"
 refine c470 G (by omega) h (by omega) hmi hv.fine.sm fun p H1 hpp x1 h1=>?_
 replace h1:WI c H1 ⟨s.rw,s.mw,s.ks,s.kb+1⟩:=h1
 clear x1
 have hpks:p∈s.ks:=by
  rcases hpp with z|rfl
  ·exact hp.sub v hvm p z
  ·exact hp.stray
 rw[wi_wins h1]
 refine wi_wlen h1 (by show s.mw.length≤100;omega) ⟨by decide,?_⟩
 obtain⟨t,em,hL,he⟩:=h1.mine i v hmi
 rw[gmR em,wi_panes h1]
 refine wi_pane h1 hpks ?_
 have kb20:s.kb+1≤s.kb+20:=by omega
 have fks:s.ks.length≤s.ks.length+1:=by omega
 refine c431 G (by omega) (h1.real i v hi) hv (h1.pn p hpks) (fun hd H2 s2=>?_) fun v' hd a H2 x2 hna f2 w2 fa=>?_
 ·have h2:=h1.sb s2
  obtain⟨t2,em2,_⟩:=id (h2.mine i v hmi)
  rw[gmL em2]
  refine⟨by decide,c482 G (by omega) (h2.mine i v hmi) hv fun H3 x3 m3=>?_⟩
  rw[hd]at m3 ⊢
  have h3:=h2.setM hmi x3 m3
  refine⟨_,rfl,(fun _=>⟨true,rfl,trivial,by decide,?_⟩),fun z=>by cases z⟩
  exact q _ c _ H3 told_b ⟨h3,hp.mw _ _,by show s.mw.set i v=s.rw;rw[set_same hmi,heq],kb20,fks,rfl,rfl⟩
 ·have hd':=hd
  unfold dropW at hd'
  split at hd'
  ·rename_i hpm
   obtain⟨g,hg,hv'⟩:=Option.map_eq_some_iff.mp hd'
   obtain⟨_,hmem,_,_,etr,_⟩:=drop_ok hv hpm hg
   have m1:∀x,x∈v'.tr.panes↔x∈v.tr.panes∧x≠p:=fun x=>by rw[←hv',etr];exact hmem x
   have onep:(oneW p v.tr.w v.tr.h).tr.panes=[p]:=by simp[oneW,Tr.panes_leaf]
   have h2:=h1.setR hi x2 (hp.sub v hvm) f2 (fun x hx=>by
    by_cases hxp:x=p
    ·subst hxp;exact fa.pn x (by rw[onep];simp)
    ·exact f2.pn x ((m1 x).mpr ⟨hx,hxp⟩)) fun j w hj hw x hx=>hp.dis j i w v hj hw hi x hx
   have p2:PI ⟨s.rw.set i v',s.mw,s.ks,s.kb+1⟩:=hp.set hi w2 (fun x hx=>hp.sub v hvm x ((m1 x).mp hx).1) fun j w hj hw x hx z=>hp.dis j i w v hj hw hi x hx ((m1 x).mp z).1
   obtain⟨t2,em2,hL2,he2⟩:=id (h2.mine i v hmi)
   rw[gmL em2]
   refine⟨by decide,c482 G (by omega) (h2.mine i v hmi) hv fun H3 x3 m3=>?_⟩
   rw[hd]at m3 ⊢
   have h3:=h2.setM hmi x3 m3
   have mu2:Mu H2 [c.mi i]:=.cons em2 .nil
   have L3:LR true H3 t2:=hL2.mu x3 mu2
   have fa3:=fa.one x3 em2 (fun _ _ _ z=>by cases z)
   refine⟨_,rfl,(fun z=>by cases z),fun _=>?_⟩
   rw[wi_wins h3]
   refine⟨⟨_,_,_,rfl,h3.wlist⟩,?_⟩
   obtain⟨⟨dxt,et⟩,_⟩:=L3.nd
   rw[gw et,gh et]
   have ew:t2.w=v.tr.w:=by rw[←he2];exact Tr.map_w.symm
   have eh:t2.h=v.tr.h:=by rw[←he2];exact Tr.map_h.symm
   rw[ew,eh]
   refine c463 G (by omega) fun md H4 s4 m4=>?_
   have h4:=h3.sb s4
   have fa4:=fa3.sb s4
   refine⟨_,h4.wlist,by simp only[List.length_map,List.length_range,List.length_set];unfold cap;omega,?_⟩
   have x5:Ex [c.Wl] H4 (H4.set c.Wl (.list (((List.range (s.mw.set i v').length).map fun i=>AV.ref (c.mi i))++[.ref md]))):=Ex.put
   have e5:=AH.set_same H4 c.Wl (.list (((List.range (s.mw.set i v').length).map fun i=>AV.ref (c.mi i))++[.ref md]))
   show ∃b,ais (.ref a) .none=some b∧_
   have hn':((s.mw.length:Nat):Int)=(((s.rw.set i v').length:Nat):Int):=by rw[List.length_set,hlen]
   have h5:=h4.addW (a:=a) (md:=md) (one:=oneW p v.tr.w v.tr.h) (by simp[hlen]) x5 e5 (by rw[←hn'];exact fa4) (by rw[←hn'];exact m4)
   have dnew:∀w∈s.rw.set i v',∀x∈w.tr.panes,x∉(oneW p v.tr.w v.tr.h).tr.panes:=fun w hw x hx z=>by
    rw[onep,List.mem_singleton]at z
    subst z
    obtain⟨j,hj⟩:=List.getElem?_of_mem hw
    by_cases hji:i=j
    ·subst hji
     rw[List.getElem?_set_self (List.getElem?_eq_some_iff.mp hi).1]at hj
     cases hj
     exact((m1 x).mp hx).2 rfl
    ·rw[List.getElem?_set_ne hji]at hj
     exact hp.dis j i w v (fun z=>hji z.symm) hj hi x hx hpm
   have p5:=p2.addW (mw:=s.mw.set i v'++[oneW p v.tr.w v.tr.h]) (one_ok (hv.rng p hpm) (fine_wh hv.fine).1 (fine_wh hv.fine).2) (fun x hx=>by rw[onep,List.mem_singleton]at hx;subst hx;exact hpks) dnew (by simpa using hl3)
   refine⟨false,rfl,trivial,by decide,?_⟩
   exact q _ _ _ _ told_b ⟨h5,p5,by show s.mw.set i v'++_=s.rw.set i v'++_;rw[heq],kb20,fks,rfl,rfl⟩
  ·cases hd'
end
end
section
section
variable {W:Wd} {n m:Nat} {H:AH} {Q:AV→AH→Prop} {c:Cx} {s:S}
theorem c543 (G:GD W) {i:Nat} {v:Win} {way:Int} (hm:60≤m) (h:WI c H s) (hp:PI s) (heq:s.mw=s.rw) (hb:s.kb≤9000) (hi:s.rw[i]?=some v) (q:DeedQ c s Q):CallF W 543 [.ref c.D,.ref c.Wd,.ref (c.mi i),.int way] m H Q:=by
 obtain⟨n,rfl,hn⟩:=pos_of (show 59+1≤m from hm)
 have hvm:=List.mem_of_getElem? hi
 have hv:=hp.ok v hvm
 have hmi:s.mw[i]?=some v:=by rw[heq];exact hi
 have hlen:=hv.fine.sm.len
 refine enter G (f543 _) (hb543 _) (ws:=[]) (fun h _=>by simp only[VRs]) rfl ?_
 unfold b543 x543
 walk_at "wp"
 obtain⟨t,em,hL,he⟩:=h.mine i v hmi
 have hst:t.Sm:=er_sm.mp (he▸hv.fine.sm)
 have ept:t.panes=v.tr.panes:=by rw[←he,er_panes]
 rw[gmR em,gmL em]
 refine c73 G (by have:=hst.dep;omega) hL hst fun r1 H1 s1 e1=>⟨by decide,?_⟩
 rw[ept]at e1
 have h1:=h.sb s1
 clear hL he em hst ept t
 have ks_of:∀p,p∈v.tr.panes∨p=90→p∈s.ks:=fun p hpp=>by
  rcases hpp with z|rfl
  ·exact hp.sub v hvm p z
  ·exact hp.stray
 have disv:∀j w,j≠i→s.rw[j]?=some w→∀x∈w.tr.panes,x∉v.tr.panes:=fun j w hj hw x hx=>hp.dis j i w v hj hw hi x hx
 have fin:∀(kb:Nat) (H':AH) (v':Win) (told:AV),WI c H' ⟨s.rw.set i v',s.mw.set i v',s.ks,kb⟩→PI ⟨s.rw.set i v',s.mw,s.ks,kb⟩→kb≤s.kb+20→Told (.tup [told,told])→Q (.tup [told,told]) H':=fun kb H' v' told h' p' hk ht=>
  q _ c _ H' ht ⟨h',p'.mw _ _,by show s.mw.set i v'=s.rw.set i v';rw[heq],hk,by show s.ks.length≤_;omega,rfl,rfl⟩
 have setR:∀{kb:Nat} {H2 H3:AH} {v':Win},WI c H2 ⟨s.rw,s.mw,s.ks,kb⟩→Ex (c.ri i::v.tr.panes.map c.pa) H2 H3→FW H3 c.pa (c.ri i) i v'→WOK v'→(∀x,x∈v'.tr.panes↔x∈v.tr.panes)→WI c H3 ⟨s.rw.set i v',s.mw,s.ks,kb⟩∧PI ⟨s.rw.set i v',s.mw,s.ks,kb⟩:=fun h2 x3 f3 w3 hm'=>
  ⟨h2.setR hi x3 (hp.sub v hvm) f3 (fun x hx=>f3.pn x ((hm' x).mpr hx)) disv,hp.set hi w3 (fun x hx=>hp.sub v hvm x ((hm' x).mp hx)) fun j w hj hw x hx z=>disv j w hj hw x hx ((hm' x).mp z)⟩
 refine⟨fun _=>?_,fun _=>?_⟩
 ·
  refine c470 G (by omega) h1 (by omega) hmi hv.fine.sm fun p H2 hpp x2 h2=>?_
  replace h2:WI c H2 ⟨s.rw,s.mw,s.ks,s.kb+1⟩:=h2
  have hpks:=ks_of p hpp
  obtain⟨dx,fs,er,hfs⟩:=h2.ri_at hi
  refine⟨_,_,_,_,_,352,rfl,er,rfl,hfs _ (by simp),?_⟩
  rw[wi_panes h2]
  refine wi_pane h2 hpks ?_
  refine c352 G (by omega) (h2.real i v hi) hv (h2.pn p hpks) (fun hd H3 s3=>?_) fun v' hd hpm H3 x3 f3 w3=>?_
  ·have h3:=h2.sb s3
   refine c482 G (by omega) (h3.mine i v hmi) hv fun H4 x4 m4=>⟨by decide,?_⟩
   rw[hd]at m4 ⊢
   have h4:=h3.setM hmi x4 m4
   exact fin (s.kb+1) H4 v _ (by rw[set_same hi];exact h4) (by rw[set_same hi];exact hp.kb _) (by omega) told_b
  ·have hd':=hd
   unfold dropW at hd'
   rw[if_pos hpm]at hd'
   obtain⟨g,hg,hv'⟩:=Option.map_eq_some_iff.mp hd'
   obtain⟨_,hmem,_,_,etr,_⟩:=drop_ok hv hpm hg
   have m1:∀x,x∈v'.tr.panes↔x∈v.tr.panes∧x≠p:=fun x=>by rw[←hv',etr];exact hmem x
   have sub':∀x∈v'.tr.panes,x∈v.tr.panes:=fun x hx=>((m1 x).mp hx).1
   have h3:=h2.setR hi x3 (fun x hx=>hp.sub v hvm x (sub' x hx)) f3 (fun x hx=>f3.pn x hx) fun j w hj hw x hx z=>disv j w hj hw x hx (sub' x z)
   have p3:PI ⟨s.rw.set i v',s.mw,s.ks,s.kb+1⟩:=hp.set hi w3 (fun x hx=>hp.sub v hvm x (sub' x hx)) fun j w hj hw x hx z=>disv j w hj hw x hx (sub' x z)
   refine c482 G (by omega) (h3.mine i v hmi) hv fun H4 x4 m4=>⟨by decide,?_⟩
   rw[hd]at m4 ⊢
   exact fin (s.kb+1) H4 v' _ (h3.setM hmi x4 m4) p3 (by omega) told_b
 refine⟨fun _=>?_,fun _=>?_⟩
 ·
  refine c470 G (by omega) h1 (by omega) hmi hv.fine.sm fun p H2 hpp x2 h2=>?_
  replace h2:WI c H2 ⟨s.rw,s.mw,s.ks,s.kb+1⟩:=h2
  have hpks:=ks_of p hpp
  obtain⟨dx,fs,er,hfs⟩:=h2.ri_at hi
  refine⟨_,_,_,_,_,308,rfl,er,rfl,hfs _ (by simp),?_⟩
  rw[wi_panes h2]
  refine wi_pane h2 hpks ?_
  refine c308 G (by omega) (h2.real i v hi) hv (h2.pn p hpks) fun H3 x3 f3=>?_
  obtain⟨h3,p3⟩:=setR h2 x3 f3 (selW_ok hv) fun x=>by rw[selW_tr]
  refine c477 G (by omega) (h3.mine i v hmi) hv.fine.sm fun H4 x4 m4=>⟨by decide,?_⟩
  exact fin (s.kb+1) H4 _ _ (h3.setM hmi x4 m4) p3 (by omega) told_b
 refine⟨fun _=>?_,fun _=>?_⟩
 ·
  obtain⟨dx,fs,er,hfs⟩:=h1.ri_at hi
  refine⟨_,_,_,_,_,315,rfl,er,rfl,hfs _ (by simp),?_⟩
  refine c315 G (by omega) (h1.real i v hi) hv fun H3 x3 f3=>?_
  have wl:WOK (selL v):=by
   unfold selL
   cases v.last with
   |none=>exact hv
   |some l=>exact selW_ok hv
  have tl:(selL v).tr=v.tr:=by
   unfold selL
   cases v.last with
   |none=>rfl
   |some l=>exact selW_tr
  obtain⟨h3,p3⟩:=setR h1 x3 f3 wl fun x=>by rw[tl]
  obtain⟨t3,em3,_⟩:=id (h3.mine i v hmi)
  rw[gmT em3]
  cases hl:v.last with
  |none=>
   refine⟨true,rfl,trivial,(fun _=>⟨by decide,?_⟩),fun z=>by cases z⟩
   have e0:selL v=v:=by unfold selL;rw[hl]
   rw[e0]at h3 p3
   exact fin s.kb H3 v _ (by rw[set_same hmi];exact h3) p3 (by omega) told_b
  |some l=>
   refine⟨false,rfl,trivial,(fun z=>by cases z),fun _=>?_⟩
   rw[gmT em3,hl]
   have e0:selL v=selW l v:=by unfold selL;rw[hl]
   rw[e0]at h3 p3
   refine c477 G (by omega) (h3.mine i v hmi) hv.fine.sm fun H4 x4 m4=>⟨by decide,?_⟩
   have:decide (l∈v.tr.panes)=true:=by simpa using hv.last l hl
   rw[this]
   exact fin s.kb H4 _ _ (h3.setM hmi x4 m4) p3 (by omega) told_b
 refine⟨fun _=>?_,fun _=>?_⟩
 ·
  refine len_list e1 (by simp only[List.length_map];unfold cap;omega) ?_
  obtain⟨t1,em1,hL1,he1⟩:=id (h1.mine i v hmi)
  have zoom:∀z,z=(zoomW v).zoom→SetI (.ref (c.mi i)) (.str (Str.ofString "zoom")) (.bool z) H1 fun H=>∃a f C dx fs g,AV.ref (c.ri i)=.ref a∧H a=some (f,.inst C dx fs)∧mtab.lookup (C,89)=some g∧fs.lookup 89=none∧CallF W g [.ref (c.ri i)] n H fun v H=>GetI (.ref (c.mi i)) (.str (Str.ofString "zoom")) H fun v_1 H=>2≤cap∧Q (.tup [v,v_1]) H:=by
   rintro z rfl
   rw[smZ em1]
   have x2:Ex [c.mi i] H1 (H1.set (c.mi i) (.dS (mfl i (c.ri i) t1.tag.1 v.act v.last (zoomW v).zoom))):=Ex.put
   have e2:=AH.set_same H1 (c.mi i) (.dS (mfl i (c.ri i) t1.tag.1 v.act v.last (zoomW v).zoom))
   generalize H1.set (c.mi i) (.dS (mfl i (c.ri i) t1.tag.1 v.act v.last (zoomW v).zoom))=H2 at x2 e2
   have m1:Mu H1 [c.mi i]:=.cons em1 .nil
   have h2:=h1.setM hmi x2 (v':=zoomW v) ⟨t1,e2,hL1.mu x2 m1,he1⟩
   obtain⟨dx,fs,er,hfs⟩:=h2.ri_at hi
   refine⟨_,_,_,_,_,337,rfl,er,rfl,hfs _ (by simp),?_⟩
   refine c337 G (by omega) (h2.real i v hi) hv fun H3 x3 f3=>?_
   have wz:WOK (zoomW v):=⟨hv.fine,hv.nd,hv.act,hv.last,hv.rng⟩
   have h3:=h2.setR hi x3 (hp.sub v hvm) f3 (fun x hx=>f3.pn x hx) disv
   have p3:PI ⟨s.rw.set i (zoomW v),s.mw,s.ks,s.kb⟩:=hp.set hi wz (hp.sub v hvm) disv
   have hil:i<s.mw.length:=(List.getElem?_eq_some_iff.mp hmi).1
   obtain⟨t3,em3,_⟩:=h3.mine i (zoomW v) (by show(s.mw.set i _)[i]?=_;rw[List.getElem?_set_self hil])
   rw[gmZ em3]
   exact⟨by decide,fin s.kb H3 (zoomW v) _ h3 p3 (by omega) told_b⟩
  refine⟨_,_,rfl,rfl,fun hz=>zoom _ ?_,fun hz=>?_⟩
  ·unfold zoomW
   have:¬(1:Int)<((v.tr.panes.map AV.int).length:Nat):=of_decide_eq_false hz
   simp only[List.length_map]at this
   have:¬1<v.tr.panes.length:=by omega
   simp[this]
  ·rw[gmZ em1]
   refine⟨_,rfl,zoom _ ?_⟩
   unfold zoomW
   have:(1:Int)<((v.tr.panes.map AV.int).length:Nat):=of_decide_eq_true hz
   simp only[List.length_map]at this
   have:1<v.tr.panes.length:=by omega
   simp[this]
 refine⟨fun _=>?_,fun _=>?_⟩
 ·
  refine c470 G (by omega) h1 (by omega) hmi hv.fine.sm fun p H2 hpp x2 h2=>?_
  refine c470 G (by omega) h2 (by show s.kb+1≤_;omega) hmi hv.fine.sm fun b H3 hbb x3 h3=>⟨by decide,?_⟩
  replace h3:WI c H3 ⟨s.rw,s.mw,s.ks,s.kb+2⟩:=h3
  have hpks:=ks_of p hpp
  have hbks:=ks_of b hbb
  obtain⟨dx,fs,er,hfs⟩:=h3.ri_at hi
  refine⟨_,_,_,_,_,380,rfl,er,rfl,hfs _ (by simp),?_⟩
  rw[wi_panes h3]
  refine wi_pane h3 hpks ?_
  rw[wi_panes h3]
  refine wi_pane h3 hbks ?_
  refine c380 G (by omega) (h3.real i v hi) hv (h3.pn p hpks) (h3.pn b hbks) (fun hz H4 s4=>?_) fun v' hz H4 x4 f4 w4=>?_
  ·have h4:=h3.sb s4
   refine c510 G (by omega) (h4.mine i v hmi) hv fun H5 x5 m5=>⟨by decide,?_⟩
   rw[hz]at m5 ⊢
   exact fin (s.kb+2) H5 v _ (by rw[set_same hi];exact h4.setM hmi x5 m5) (by rw[set_same hi];exact hp.kb _) (by omega) told_b
  ·have hz':=hz
   unfold swW at hz'
   obtain⟨t',ht',hz'⟩:=Option.map_eq_some_iff.mp hz'
   obtain⟨k1,k2⟩:=swap_good hv ht'
   have htr:v'.tr=t':=by rw[←hz'];rfl
   obtain⟨h4,p4⟩:=setR h3 x4 f4 w4 fun x=>by rw[htr];exact k2.mem_iff
   refine c510 G (by omega) (h4.mine i v hmi) hv fun H5 x5 m5=>⟨by decide,?_⟩
   rw[hz]at m5 ⊢
   exact fin (s.kb+2) H5 v' _ (h4.setM hmi x5 m5) p4 (by omega) told_b
 refine⟨fun _=>?_,fun _=>?_⟩
 ·
  refine CallF.le (c456 G (by omega) h1 (by omega) (by decide) fun k H2 _ _ x2 h2 le2=>?_)
  replace h2:WI c H2 ⟨s.rw,s.mw,s.ks,s.kb+1⟩:=h2
  rw[bi_sub]
  generalize k-4=many
  obtain⟨dx,fs,er,hfs⟩:=h2.ri_at hi
  refine⟨_,_,_,_,_,330,rfl,er,rfl,hfs _ (by simp),?_⟩
  refine CallF.le (c330 G (by omega) (h2.real i v hi) hv fun H3 x3 f3 le3=>?_)
  obtain⟨h3,p3⟩:=setR h2 x3 f3 (selW_ok hv) fun x=>by rw[selW_tr]
  have e3:=le3 _ _ (le2 _ _ e1)
  obtain⟨t3,em3,_⟩:=id (h3.mine i v hmi)
  refine⟨⟨_,_,_,rfl,e3⟩,?_⟩
  rw[gmA em3]
  refine⟨true,v.tr.panes,e3,hv.act,by unfold cap;omega,?_⟩
  dsimp only
  rw[bi_add]
  refine len_list e3 (by simp only[List.length_map];unfold cap;omega) ?_
  rw[bi_mod,List.length_map]
  obtain⟨j,hj1,hj2⟩:=nextP_mem hv many
  have hl:0<v.tr.panes.length:=List.length_pos_of_mem hv.act
  refine⟨by omega,gi_nat (j:=j) (u:=.int (nextP v many)) e3 hj1 (by simp only[List.length_map];unfold cap;omega) (by rw[List.getElem?_map,hj2];rfl) ?_⟩
  refine c477 G (by omega) (h3.mine i v hmi) hv.fine.sm fun H4 x4 m4=>⟨by decide,?_⟩
  have:decide (nextP v many∈v.tr.panes)=true:=by simpa using List.mem_of_getElem? hj2
  rw[this]
  exact fin (s.kb+1) H4 _ _ (h3.setM hmi x4 m4) p3 (by omega) told_b
 ·
  refine c456 G (by omega) h1 (by omega) (by decide) fun k1 H2 a1 b1 x2 h2=>?_
  rw[bi_add]
  refine c456 G (by omega) h2 (by show s.kb+1≤_;omega) (by decide) fun k2 H3 a2 b2 x3 h3=>?_
  replace h3:WI c H3 ⟨s.rw,s.mw,s.ks,s.kb+2⟩:=h3
  rw[bi_add]
  refine⟨by decide,?_⟩
  obtain⟨t3,em3,hL3,he3⟩:=id (h3.mine i v hmi)
  rw[gmL em3]
  refine c163 G (by omega) hL3 (he3▸hv.fine) fun t' H4 ht s4 l4=>?_
  rw[he3]at ht
  have h4:=h3.sb s4
  rw[smL (s4.dS em3)]
  have x5:Ex [c.mi i] H4 (H4.set (c.mi i) (.dS (mfl i (c.ri i) t'.tag.1 v.act v.last v.zoom))):=Ex.put
  have e5:=AH.set_same H4 (c.mi i) (.dS (mfl i (c.ri i) t'.tag.1 v.act v.last v.zoom))
  generalize H4.set (c.mi i) (.dS (mfl i (c.ri i) t'.tag.1 v.act v.last v.zoom))=H5 at x5 e5
  have m4:Mu H4 [c.mi i]:=.cons (s4.dS em3) .nil
  have h5:=h4.setM hmi x5 (v':=rsW v (4+k1) (3+k2)) ⟨t',e5,l4.mu x5 m4,ht⟩
  obtain⟨wr,er'⟩:=rs_ok (w:=4+k1) (h:=3+k2) hv (by omega) (by omega)
  obtain⟨dx,fs,er,hfs⟩:=h5.ri_at hi
  refine⟨_,_,_,_,_,359,rfl,er,rfl,hfs _ (by simp),?_⟩
  refine c359 G (by omega) (h5.real i v hi) hv (by omega) (by omega) fun H6 x6 f6=>⟨by decide,?_⟩
  have h6:=h5.setR hi x6 (hp.sub v hvm) f6 (fun x hx=>f6.pn x (by rw[er'];exact hx)) disv
  have p6:PI ⟨s.rw.set i (rsW v (4+k1) (3+k2)),s.mw,s.ks,s.kb+2⟩:=hp.set hi wr (fun x hx=>hp.sub v hvm x (by rwa [er']at hx)) fun j w hj hw x hx z=>disv j w hj hw x hx (by rwa [er']at z)
  exact fin (s.kb+2) H6 _ _ h6 p6 (by omega) told_n
structure Aftd (c:Cx) (s:S) (c':Cx) (H':AH) (s':S):Prop where
 wi:WI c' H' s'
 pi:PI s'
 eq:s'.mw=s'.rw
 kb:s'.kb≤s.kb+30
 ks:s'.ks.length≤s.ks.length+1
 hD:c'.D=c.D
 hW:c'.Wd=c.Wd
theorem c550 (G:GD W) (hm:62≤m) (h:WI c H s) (hp:PI s) (heq:s.mw=s.rw) (hb:s.kb≤8000) (hl:s.ks.length<15) (q:∀v c' s' H',Told v→Aftd c s c' H' s'→Q v H'):CallF W 550 [.ref c.D,.ref c.Wd] m H Q:=by
 obtain⟨n,rfl,hn⟩:=pos_of (show 61+1≤m from hm)
 have hlen:s.mw.length=s.rw.length:=by rw[heq]
 have hwl:=hp.wlen
 refine enter G (f550 _) (hb550 _) (ws:=[]) (fun h _=>by simp only[VRs]) rfl ?_
 unfold b550 x550
 walk_at "wp"
 rw[wi_wins h]
 refine wi_wlen h (by omega) (c456 G (by omega) h (by omega) (by omega) fun k1 H1 a1 b1 x1 h1=>?_)
 refine wi_win h1 (i:=k1.toNat) (by omega) (by show k1.toNat<s.mw.length;omega) (by show s.mw.length≤100;omega) ?_
 refine wi_wlen h1 (by show s.mw.length≤100;omega) (c456 G (by omega) h1 (by show s.kb+1≤_;omega) (by show(0:Int)<(s.mw.length:Nat);omega) fun k2 H2 a2 b2 x2 h2=>?_)
 replace b2:k2<(s.mw.length:Nat):=b2
 refine wi_win h2 (i:=k2.toNat) (by omega) (by show k2.toNat<s.mw.length;omega) (by show s.mw.length≤100;omega) ⟨by decide,?_⟩
 refine c456 G (by omega) h2 (by show s.kb+2≤_;omega) (by decide) fun way H3 a3 b3 x3 h3=>?_
 replace h3:WI c H3 ⟨s.rw,s.mw,s.ks,s.kb+3⟩:=h3
 have hi:s.rw[k1.toNat]?=some (s.rw[k1.toNat]'(by omega)):=List.getElem?_eq_getElem (by omega)
 have hj:s.rw[k2.toNat]?=some (s.rw[k2.toNat]'(by omega)):=List.getElem?_eq_getElem (by omega)
 have qq:DeedQ c ⟨s.rw,s.mw,s.ks,s.kb+3⟩ Q:=fun v c' s' H' ht hpost=>by
  have z1:s'.kb≤s.kb+3+20:=hpost.kb
  have z2:s'.ks.length≤s.ks.length+1:=hpost.ks
  exact q v c' s' H' ht ⟨hpost.wi,hpost.pi,hpost.eq,by omega,z2,hpost.hD,hpost.hW⟩
 have p3:=hp.kb (s.kb+3)
 have hb3:s.kb+3≤9000:=by omega
 refine⟨_,_,rfl,rfl,fun _=>c496 G (by omega) h3 p3 heq hb3 hl hi qq,fun _=>?_⟩
 rw[aeq_ii]
 refine⟨fun _=>c536 G (by omega) h3 p3 heq hb3 hi qq,fun _=>?_⟩
 rw[aeq_ii]
 refine⟨fun _=>c503 G (by omega) h3 p3 heq hb3 hi hj qq,fun _=>?_⟩
 rw[aeq_ii]
 refine⟨fun _=>c522 G (by omega) h3 p3 heq hb3 hi hj qq,fun _=>?_⟩
 rw[aeq_ii]
 refine⟨fun _=>⟨(fun z=>by cases z),fun _=>c543 G (by omega) h3 p3 heq hb3 hi qq⟩,fun _=>?_⟩
 refine wi_wlen h3 (by show s.mw.length≤100;omega) ⟨_,_,rfl,rfl,fun h3l=>c529 G (by omega) h3 p3 heq hb3 ?_ hi qq,fun _=>c543 G (by omega) h3 p3 heq hb3 hi qq⟩
 have:((s.mw.length:Nat):Int)<3:=of_decide_eq_true h3l
 show s.rw.length<3
 omega
end
end
section
namespace Tr
variable {α β:Type}
theorem map_box {g:α→β} {M:Int}:∀{t:Tr α},box M (t.map g)↔box M t:=by
 intro t
 induction t using rec' with
 |step t ih=>
  rw[box_iff,box_iff,map_cs]
  unfold Bx
  rw[map_w,map_h,map_x,map_y]
  simp only[List.mem_map,forall_exists_index,and_imp,forall_apply_eq_imp_iff₂]
  exact and_congr_right fun _=>⟨fun k c hc=>(ih c hc).mp (k c hc),fun k c hc=>(ih c hc).mpr (k c hc)⟩
end Tr
theorem er_box {t:L} {M:Int}:(er t).box M↔t.box M:=Tr.map_box
theorem feqs_same {a:Int} {l:Option Int} {z:Bool}:feqs [.int a,optV l,.bool z] [.int a,optV l,.bool z]=some true:=by
 cases l<;>simp[feqs,feq,optV]
def sb:List CS:=[
  .assignT [(.name 60),(.name 19)] (.tup [(.sub (.loc 61) (.k (.str (Str.ofString "real")))),(.sub (.loc 61) (.k (.str (Str.ofString "layout"))))]),
  .assign (.name 18) (.ite (.cmp .is (.attr (.loc 60) 18) (.k .none)) (.k .none) (.attr (.attr (.loc 60) 18) 7)),
  .ite (.cmp .ne (.tup [(.attr (.attr (.loc 60) 17) 7),(.loc 18),(.attr (.loc 60) 20)]) (.tup [(.sub (.loc 61) (.k (.str (Str.ofString "active")))),(.sub (.loc 61) (.k (.str (Str.ofString "last")))),(.sub (.loc 61) (.k (.str (Str.ofString "zoom"))))])) [
   .ret (some (.k (.bool false)))] [
],
  .ite (.or (.cmp .ne (.call 207 [(.attr (.loc 60) 19)]) (.call 207 [(.loc 19)])) (.cmp .ne (.attr (.loc 60) 7) (.sub (.loc 61) (.k (.str (Str.ofString "number")))))) [
   .ret (some (.k (.bool false)))] [
],
  .ite (.cmp .ne (.comp (.attr (.loc 6) 7) 6 (.attr (.loc 60) 16) (.k (.bool true))) (.call 73 [(.loc 19)])) [
   .ret (some (.k (.bool false)))] [
],
  .for1 36 (.one (.call 68 [(.loc 19)])) [
   .assign (.name 79) (.ite (.and (.sub (.loc 61) (.k (.str (Str.ofString "zoom")))) (.cmp .eq (.attr (.loc 36) 6) (.sub (.loc 61) (.k (.str (Str.ofString "active")))))) (.loc 19) (.loc 36)),
   .ite (.cmp .ne (.tup [(.attr (.sub (.sub (.loc 63) (.k (.str (Str.ofString "panes")))) (.attr (.loc 36) 6)) 9),(.attr (.sub (.sub (.loc 63) (.k (.str (Str.ofString "panes")))) (.attr (.loc 36) 6)) 10)]) (.tup [(.attr (.loc 79) 2),(.attr (.loc 79) 1)])) [
    .ret (some (.k (.bool false)))] [
]]]
section
variable {W:Wd} {n m:Nat} {H:AH} {Q:AV→AH→Prop} {c:Cx} {s:S}
theorem octs_of (G:GD W) {t:L} {v:Win} (hm:40≤m) (hv:WOK v) (hL:LR true H t) (he:er t=v.tr) (q:∀H',Sb H H'→Q (.bytes (octs v.tr)) H'):CallF W 207 [.ref t.tag.1] m H Q:=by
 rw[←he]at q
 exact c207 G hm hL (he▸hv.fine) (er_box.mp (he▸hv.fine.box)) (fun p hp=>hv.rng p (by rw[←he,er_panes];exact hp)) q
theorem sbody (G:GD W) {ρ:Rho} {QS:Rho→AH→Prop} {RR:AV→AH→Prop} {i:Nat} {v:Win} (hn:50≤n) (h61:ρ.lookup 61=some (.ref (c.mi i))) (h63:ρ.lookup 63=some (.ref c.Wd)) (h:WI c H s) (hi:s.rw[i]?=some v) (hmi:s.mw[i]?=some v) (hv:WOK v) (hks:∀x∈v.tr.panes,x∈s.ks)
  (q:∀ρ' H',ρ'.lookup 63=some (.ref c.Wd)→Sb H H'→QS ρ' H'):wpB W n sb ρ H QS RR:=by
 have hd:sb=sb.take 2++sb.drop 2:=rfl
 rw[hd,b_app]
 have hlen:=hv.fine.sm.len
 have rest:∀(ρ:Rho) (t2:L),ρ.lookup 61=some (.ref (c.mi i))→ρ.lookup 63=some (.ref c.Wd)→ρ.lookup 60=some (.ref (c.ri i))→ρ.lookup 19=some (.ref t2.tag.1)→ρ.lookup 18=some (optV v.last)→
   H (c.mi i)=some (false,.dS (mfl i (c.ri i) t2.tag.1 v.act v.last v.zoom))→LR true H t2→er t2=v.tr→wpB W n (sb.drop 2) ρ H QS RR:=by
  intro ρ t2 g61 g63 g60 g19 g18 em hL2 he2
  obtain⟨t,⟨dx,nm,lp,e1,e2⟩,hL,he⟩:=(h.real i v hi).rw
  obtain⟨dxa,ea⟩:=(h.real i v hi).sz v.act hv.act
  unfold sb
  simp only[List.drop_succ_cons,List.drop_zero]
  walk_at "wp"
  simp only[g61,g63,g60,g19,g18,Option.some.injEq,exists_eq_left']
  rw[gwa e1,gpn ea,gwz e1]
  refine⟨by decide,?_⟩
  rw[gmA em,gmT em,gmZ em]
  refine⟨by decide,true,feqs_same,(fun z=>by cases z),fun _=>?_⟩
  rw[gwt e1]
  refine octs_of G (by omega) hv hL he fun H1 s1=>?_
  refine octs_of G (by omega) hv (hL2.sb s1) he2 fun H2 s2=>?_
  have S2:Sb H H2:=s1.trans s2
  rw[aeq_by]
  have hbb:(octs v.tr==octs v.tr)=true:=by simp
  refine⟨(fun z=>by rw[hbb]at z;cases z),fun _=>?_⟩
  rw[gwn (S2.inst e1),gmN (S2.dS em),aeq_ii]
  refine⟨(fun z=>by simp at z),fun _=>?_⟩
  rw[gwp (S2.inst e1)]
  have h2:=h.sb S2
  refine comp_on (g:=fun n=>.ref (c.pa n)) (cs:=v.tr.panes) (cap_le20 hlen) (fun pre out H'=>H'=H2∧out=pre.map AV.int) ⟨rfl,rfl⟩ ?_ ?_ ?_
  ·rintro pre out H' ⟨rfl,rfl⟩
   exact⟨⟨true,S2.list e2⟩,by simp⟩
  ·rintro pre u suf out H' hcs ⟨rfl,rfl⟩
   obtain⟨d,eu⟩:=(h2.real i v hi).sz u (by rw[hcs];simp)
   walk_at "wp"
   rw[gpn eu]
   exact⟨rfl,by simp⟩
  ·rintro out H' ⟨rfl,rfl⟩ r3 hr3
   have s3:Sb H' (H'.set r3 (.list (v.tr.panes.map .int))):=.new hr3
   have e3:(H'.set r3 (.list (v.tr.panes.map .int))) r3=some (false,.list (v.tr.panes.map .int)):=AH.set_same _ _ _
   generalize H'.set r3 (.list (v.tr.panes.map .int))=H3 at s3 e3
   have S3:Sb H H3:=S2.trans s3
   have hst2:t2.Sm:=er_sm.mp (he2▸hv.fine.sm)
   have ept2:t2.panes=v.tr.panes:=by rw[←he2,er_panes]
   refine c73 G (by have:=hst2.dep;omega) (hL2.sb S3) hst2 fun r4 H4 s4 e4=>?_
   rw[ept2]at e4
   have S4:Sb H H4:=S3.trans s4
   refine aeq_rr (s4.list e3) e4 ⟨(fun z=>by simp at z),fun _=>?_⟩
   refine c68z G (by have:=hst2.dep;omega) (hL2.sb S4) hst2 fun r5 H5 s5 e5=>?_
   have S5:Sb H H5:=S4.trans s5
   have h5:=h.sb S5
   have hL5:=hL2.sb S5
   have em5:=S5.dS em
   refine for_map (g:=rf) (cs:=t2.leaves) (fun pre ρ' H'=>H'=H5∧ρ'.lookup 61=some (.ref (c.mi i))∧ρ'.lookup 63=some (.ref c.Wd)∧ρ'.lookup 19=some (.ref t2.tag.1)) ⟨rfl,g61,g63,g19⟩ (fun pre ρ' H' hJ=>⟨true,by rw[hJ.1];exact e5⟩) ?_ ?_
   ·rintro pre u suf ρ' H' hcs ⟨rfl,k61,k63,k19⟩
    have hu:u∈t2.leaves:=by rw[hcs];simp
    obtain⟨a,w,hh,x,y,p,rfl,hLu⟩:=hL5.leaf hu
    obtain⟨⟨dxu,eu⟩,_⟩:=hLu.nd
    obtain⟨⟨dxt,et⟩,_⟩:=hL5.nd
    have hpv:p∈v.tr.panes:=by rw[←ept2];exact List.mem_map.mpr ⟨_,hu,rfl⟩
    obtain⟨dp,ep⟩:=(h5.real i v hi).sz p hpv
    have hszv:szOf v p=if v.zoom&&p==v.act then(t2.h,t2.w)else(hh,w):=by
     unfold szOf
     have:=leafSz_er (u:=.leaf a w hh x y p) (by rw[ept2];exact hv.nd) hu
     rw[he2]at this
     have hp':(Tr.leaf a w hh x y p:L).pane=p:=rfl
     rw[hp']at this
     rw[this]
     have h1:v.tr.h=t2.h:=by rw[←he2];exact Tr.map_h
     have h2:v.tr.w=t2.w:=by rw[←he2];exact Tr.map_w
     rw[h1,h2];rfl
    walk_at "wp"
    simp only[k61,k63,k19,Option.some.injEq,exists_eq_left']
    rw[gmZ em5]
    have rd:∀(K:AV→AV→AH→Prop),K (.int (szOf v p).1) (.int (szOf v p).2) H'→GetI (.ref c.Wd) (.str (Str.ofString "panes")) H' fun x1 H=>GetA W (rf (.leaf a w hh x y p)) 6 n H fun y1 H=>GetI x1 y1 H fun v1 H=>GetA W v1 9 n H fun a1 H=>GetI (.ref c.Wd) (.str (Str.ofString "panes")) H fun x1 H=>GetA W (rf (.leaf a w hh x y p)) 6 n H fun y1 H=>GetI x1 y1 H fun v1 H=>GetA W v1 10 n H fun a2 H=>K a1 a2 H:=by
     intro K hK
     simp only[rf]
     rw[wi_panes h5,gp eu]
     refine wi_pane h5 (hks p hpv) ?_
     rw[gpr ep,wi_panes h5,gp eu]
     refine wi_pane h5 (hks p hpv) ?_
     rw[gpc ep]
     exact hK
    have fs:∀a b:Int,feqs [.int a,.int b] [.int a,.int b]=some true:=fun a b=>by simp[feqs,feq]
    have small:(v.zoom&&p==v.act)=false→2≤cap∧GetA W (rf (.leaf a w hh x y p)) 2 n H' fun v3 H=>GetA W (rf (.leaf a w hh x y p)) 1 n H fun v4 H=>2≤cap∧∃c,feqs [.int (szOf v p).1,.int (szOf v p).2] [v3,v4]=some c∧((!c)=true→RR (.bool false) H)∧((!c)=false→H=H'∧True∧True∧True):=fun hc=>by
     rw[hszv,hc]
     refine⟨by decide,?_⟩
     simp only[rf]
     rw[gh eu,gw eu]
     exact⟨by decide,true,fs _ _,(fun z=>by cases z),fun _=>⟨rfl,trivial,trivial,trivial⟩⟩
    refine⟨_,rfl,fun hz=>⟨(fun z=>by cases z),fun _=>rd _ (small (by rw[hz];rfl))⟩,fun hz=>?_⟩
    have hrf:rf (Tr.leaf a w hh x y p)=.ref (Tr.leaf a w hh x y p:L).tag.1:=rfl
    rw[hrf,gp eu,gmA em5]
    show aeq H' (.int p) (.int v.act) _
    rw[aeq_ii]
    refine⟨fun hd=>rd _ ?_,fun hd=>rd _ (small (by rw[hd,Bool.and_false]))⟩
    rw[hszv,hz,hd]
    refine⟨by decide,?_⟩
    rw[gh et,gw et]
    exact⟨by decide,true,fs _ _,(fun z=>by cases z),fun _=>⟨rfl,trivial,trivial,trivial⟩⟩
   ·rintro ρ' H' ⟨rfl,k61,k63,k19⟩
    exact q ρ' H' k63 S5
 obtain⟨t2,em,hL2,he2⟩:=h.mine i v hmi
 obtain⟨t,⟨dx,nm,lp,e1,e2⟩,hL,he⟩:=(h.real i v hi).rw
 generalize hT:sb.drop 2=T2 at rest
 unfold sb
 simp only[List.take_succ_cons,List.take_zero]
 walk_at "wp"
 simp only[h61,Option.some.injEq,exists_eq_left']
 rw[gmR em,gmL em]
 refine⟨by decide,?_⟩
 rw[gwl e1]
 have go:∀w,w=optV v.last→wpB W n T2 (put (put (put ρ 60 (.ref (c.ri i))) 19 (.ref t2.tag.1)) 18 w) H QS RR:=fun w hw=>by
  refine rest _ t2 ?_ ?_ ?_ ?_ ?_ em hL2 he2
  ·simp[lk_put,h61]
  ·simp[lk_put,h63]
  ·simp[lk_put]
  ·simp[lk_put]
  ·simp[lk_put,hw]
 cases hl:v.last with
 |none=>exact⟨true,rfl,trivial,(fun _=>go _ (by rw[hl];rfl)),fun z=>by cases z⟩
 |some l=>
  refine⟨false,rfl,trivial,(fun z=>by cases z),fun _=>?_⟩
  rw[gwl e1,hl]
  obtain⟨d,el⟩:=(h.real i v hi).sz l (hv.last l hl)
  show GetA W (.ref (c.pa l)) 7 n H _
  rw[gpn el]
  exact go _ (by rw[hl];rfl)
theorem c555 (G:GD W) (hm:52≤m) (h:WI c H s) (hp:PI s) (heq:s.mw=s.rw) (q:∀H',WI c H' s→Q (.bool true) H'):CallF W 555 [.ref c.Wd] m H Q:=by
 obtain⟨n,rfl,hn⟩:=pos_of (show 51+1≤m from hm)
 refine enter G (f555 _) (hb555 _) (ws:=[]) (fun h _=>by simp only[VRs]) rfl ?_
 have hx:b555=[.for1 61 (.one (.sub (.loc 63) (.k (.str (Str.ofString "windows"))))) sb,.ret (some (.k (.bool true)))]:=rfl
 rw[hx]
 unfold x555
 walk_at "wp"
 rw[wi_wins h]
 refine for_map (g:=fun i=>.ref (c.mi i)) (cs:=List.range s.mw.length) (fun pre ρ H'=>ρ.lookup 63=some (.ref c.Wd)∧Sb H H') ⟨rfl,.refl⟩ (fun pre ρ H' hJ=>⟨false,hJ.2.list h.wlist⟩) ?_ ?_
 ·rintro pre u suf ρ H' hcs ⟨h1,h2⟩
  have hu:u<s.mw.length:=by
   have:u∈List.range s.mw.length:=by rw[hcs];simp
   exact List.mem_range.mp this
  have hmi:s.mw[u]?=some s.mw[u]:=List.getElem?_eq_getElem hu
  have hi:s.rw[u]?=some s.mw[u]:=by rw[←heq];exact hmi
  have hvm:=List.mem_of_getElem? hi
  refine sbody G (i:=u) (v:=s.mw[u]) (by omega) (by rw[lk_put,if_pos rfl]) (by rw[lk_put,if_neg (by decide)];exact h1) (h.sb h2) hi hmi (hp.ok _ hvm) (hp.sub _ hvm) fun ρ' H'' g1 g2=>⟨g1,h2.trans g2⟩
 ·rintro ρ H' ⟨h1,h2⟩
  exact q H' (h.sb h2)
end
end
section
section
variable {W:Wd} {n m:Nat} {H:AH} {Q:AV→AH→Prop}
theorem cut_to {xs:List AV}:cut xs none (some 120)=xs.take 120:=by
 unfold cut clipAt
 simp
 omega
theorem c449 (G:GD W) {l:Addr} {f:Bool} {ns:List Int} (hm:1≤m) (el:H l=some (f,.list (ns.map .int))) (hl:ns.length≤63) (q:∀(D Lc:Addr) (cells:List Int) (H':AH),cells.length≤200→Sb H H'→H' Lc=some (true,.list (cells.map .int))→H' D=some (false,.dS [(sCells,.ref Lc),(sAt,.int 0)])→Q (.ref D) H'):CallF W 449 [.ref l] m H Q:=by
 obtain⟨n,rfl,hn⟩:=pos_of hm
 refine CallF.fz (enter G (f449 _) (hb449 _) (ws:=[]) (fun h _=>by simp only[VRs]) rfl ?_)
 unfold b449 x449
 walk_at "wp"
 refine⟨l,f,_,none,some 120,rfl,el,by simp only[List.length_map];unfold cap;omega,rfl,by decide,fun r1 hr1=>?_⟩
 rw[cut_to,←List.map_take]
 have s1:Sb H (H.set r1 (.list ((ns.take 120).map .int))):=.new hr1
 have e1:(H.set r1 (.list ((ns.take 120).map .int))) r1=some (false,.list ((ns.take 120).map .int)):=AH.set_same _ _ _
 generalize H.set r1 (.list ((ns.take 120).map .int))=H1 at s1 e1
 generalize hns:ns.take 120=is at e1
 have hil:is.length≤63:=by rw[←hns,List.length_take];omega
 refine comp_on (g:=AV.int) (cs:=is) (by unfold cap;omega) (fun pre out H'=>H'=H1∧∃js:List Int,js.length=pre.length∧out=js.map .int) ⟨rfl,[],rfl,rfl⟩ ?_ ?_ ?_
 ·rintro pre out H' ⟨rfl,js,h1,rfl⟩
  exact⟨⟨false,e1⟩,by simp[h1]⟩
 ·rintro pre u suf out H' hcs ⟨rfl,js,h1,rfl⟩
  walk_at "wp"
  rw[bf_int,bi_mod]
  exact⟨by decide,rfl,js++[u.fmod 1000003],by simp[h1],by simp⟩
 ·rintro out H' ⟨rfl,js,h1,rfl⟩ r2 hr2
  have s2:Sb H' (H'.set r2 (.list (js.map .int))):=.new hr2
  have e2:(H'.set r2 (.list (js.map .int))) r2=some (false,.list (js.map .int)):=AH.set_same _ _ _
  generalize H'.set r2 (.list (js.map .int))=H2 at s2 e2
  refine⟨by decide,fun D hD=>⟨[r2],?_⟩⟩
  have s3:Sb H2 (H2.set D (.dS [(sCells,.ref r2),(sAt,.int 0)])):=.new hD
  have S3:Sb H (H2.set D (.dS [(sCells,.ref r2),(sAt,.int 0)])):=(s1.trans s2).trans s3
  have hne:D≠r2:=fun z=>by rw[z,e2]at hD;cases hD
  have hN:Nw H [r2]:=Nw.sb s1 (.of hr2)
  exact q D r2 js _ (by omega) (fz_sb S3 hN) (fz_in no_list (s3.list e2) (by simp)) (fz_out no_dS (AH.set_same _ _ _) (single hne))
theorem c456r (G:GD W) {D Lc:Addr} {cells:List Int} {k many:Int} (hm:1≤m) (e:H D=some (false,.dS [(sCells,.ref Lc),(sAt,.int k)])) (hc:H Lc=some (true,.list (cells.map .int))) (hcl:cells.length≤200) (hk0:0≤k) (hk:k≤10000) (h0:0<many)
  (q:∀v H',0≤v→v<many→Ex [D] H H'→H' D=some (false,.dS [(sCells,.ref Lc),(sAt,.int (k+1))])→Q (.int v) H'):CallF W 456 [.ref D,.int many] m H Q:=by
 obtain⟨n,rfl,hn⟩:=pos_of hm
 refine enter G (f456 _) (hb456 _) (ws:=[]) (fun h _=>by simp only[VRs]) rfl ?_
 unfold b456 x456
 walk_at "wp"
 rw[gi_dS (u:=.int k) e rfl,bi_add,si_dS e (by simp)]
 have x1:Ex [D] H (H.set D (.dS (putS [(sCells,.ref Lc),(sAt,.int k)] (Str.ofString "at") (.int (k+1))))):=Ex.put
 have e1:(H.set D (.dS (putS [(sCells,.ref Lc),(sAt,.int k)] (Str.ofString "at") (.int (k+1))))) D=some (false,.dS [(sCells,.ref Lc),(sAt,.int (k+1))]):=AH.set_same _ _ _
 generalize H.set D (.dS (putS [(sCells,.ref Lc),(sAt,.int k)] (Str.ofString "at") (.int (k+1))))=H1 at x1 e1
 have m0:Mu H [D]:=.cons e .nil
 have hc1:=x1.fz m0 no_list hc
 have fin:∀x:Int,BinR .mod (.int x) (.int many) H1 Q:=fun x=>by
  rw[bi_mod]
  exact⟨by omega,q _ H1 (Int.fmod_nonneg_of_pos _ h0) (Int.fmod_lt_of_pos _ h0) x1 e1⟩
 rw[gi_dS (u:=.ref Lc) e1 rfl]
 refine len_list hc1 (by simp only[List.length_map];unfold cap;omega) ⟨_,_,rfl,rfl,fun hz=>?_,fun hz=>?_⟩
 ·have hz:=of_decide_eq_true hz
  rw[gi_dS (u:=.ref Lc) e1 rfl]
  simp only[List.length_map]at hz
  have hlt:k.toNat<cells.length:=by omega
  refine gi_nat (j:=k.toNat) (u:=.int cells[k.toNat]) hc1 (by omega) (by simp only[List.length_map];unfold cap;omega) (by rw[List.getElem?_map,List.getElem?_eq_getElem hlt];rfl) (fin _)
 ·rw[bi_mul]
  refine⟨by decide,by omega,?_⟩
  rw[bi_fdiv]
  refine⟨by decide,by omega,by decide,?_⟩
  rw[bi_add]
  exact fin _
theorem for_range {x:Nat} {b:List CS} {ρ:Rho} {QS:Rho→AH→Prop} {R:AV→AH→Prop} {k:Int} {N:Nat} (hk:k=(N:Int)) (hN:N≤1000000) (J:Nat→Rho→AH→Prop) (h0:J 0 ρ H) (step:∀i ρ H,i<N→J i ρ H→wpB W n b (put ρ x (.int (Int.ofNat i))) H (J (i+1)) R) (fin:∀ρ H,J N ρ H→QS ρ H):For1R W n x b ρ (.range k) H QS R:=by
 subst hk
 refine⟨⟨by omega,by omega⟩,fun i ρ H=>i≤N∧J i ρ H,N,⟨Nat.zero_le _,h0⟩,fun i ρ H hI=>⟨hI.1,?_⟩⟩
 obtain⟨hi,hJ⟩:=hI
 by_cases hlt:i<N
 ·refine⟨some (.int (Int.ofNat i)),by simp only[nextI];rw[if_pos (by omega)],?_⟩
  have e:(fun ρ H=>i+1≤N∧J (i+1) ρ H)=J (i+1):=by
   funext ρ H;exact propext ⟨fun h=>h.2,fun h=>⟨hlt,h⟩⟩
  show wpB W n b _ H (fun ρ H=>i+1≤N∧J (i+1) ρ H) R
  rw[e]
  exact step i ρ H hlt hJ
 ·refine⟨none,by simp only[nextI];rw[if_neg (by omega)],?_⟩
  have:i=N:=by omega
  subst this
  exact fin ρ H hJ
theorem told_is {v:AV} (h:Told v):∃x,v=.tup [x,x]∧ais x x=some true∧∀H,isOK H x x:=by
 rcases h with⟨b,rfl⟩|rfl
 ·exact⟨_,rfl,by simp[ais],fun _=>trivial⟩
 ·exact⟨_,rfl,rfl,fun _=>trivial⟩
theorem c562 (G:GD W) {l:Addr} {ns:List Int} (el:H l=some (true,.list (ns.map .int))) (hl:ns.length≤63):CallF W 562 [.ref l] 200 H fun v _=>v=.bool true:=by
 refine enter G (n:=199) (f562 _) (hb562 _) (ws:=[]) (fun h _=>by simp only[VRs]) rfl ?_
 unfold b562 x562
 walk_at "wp"
 refine c449 G (by omega) el hl fun D Lc cells H1 hcl s1 eL1 eD1=>?_
 refine c456r G (by omega) eD1 eL1 hcl (by omega) (by omega) (by decide) fun k1 H2 a1 b1 x2 eD2=>?_
 have m1:Mu H1 [D]:=.cons eD1 .nil
 have eL2:=x2.fz m1 no_list eL1
 rw[bi_add]
 refine c456r G (by omega) eD2 eL2 hcl (by omega) (by omega) (by decide) fun k2 H3 a2 b2 x3 eD3=>?_
 have m2:Mu H2 [D]:=.cons eD2 .nil
 have eL3:=x3.fz m2 no_list eL2
 rw[bi_add]
 refine⟨by decide,?_⟩
 generalize hw:24+k1=w
 generalize hh:8+k2=hh'
 have hw1:1≤w∧w≤64:=by omega
 have hh1:1≤hh'∧hh'≤64:=by omega
 refine newPane G (by omega) fun a0 H4 ha0 s4 e0=>?_
 refine newPane G (by omega) fun a9 H5 ha9 s5 e9=>?_
 obtain⟨d0,e0⟩:=e0
 obtain⟨d9,e9⟩:=e9
 refine⟨[(0,.ref a0),(90,.ref a9)],rfl,by simp,fun Pd hPd=>⟨by decide,fun Wl hWl=>⟨by decide,fun Wd' hWd=>?_⟩⟩⟩
 have s6:Sb H5 (H5.set Pd (.dI [(0,.ref a0),(90,.ref a9)])):=.new hPd
 have eP:(H5.set Pd (.dI [(0,.ref a0),(90,.ref a9)])) Pd=some (false,.dI [(0,.ref a0),(90,.ref a9)]):=AH.set_same _ _ _
 have hfo:(([(0,AV.ref a0),(90,.ref a9)]:List (Int × AV)).foldl (fun es p=>putS es p.1 p.2) [])=[(0,.ref a0),(90,.ref a9)]:=rfl
 rw[hfo]at hWl hWd ⊢
 generalize H5.set Pd (.dI [(0,.ref a0),(90,.ref a9)])=H6 at s6 eP hWl hWd ⊢
 have s7:Sb H6 (H6.set Wl (.list [])):=.new hWl
 have eW:(H6.set Wl (.list [])) Wl=some (false,.list []):=AH.set_same _ _ _
 generalize H6.set Wl (.list [])=H7 at s7 eW hWd ⊢
 have s8:Sb H7 (H7.set Wd' (.dS [(sPanes,.ref Pd),(sWins,.ref Wl)])):=.new hWd
 have eX:(H7.set Wd' (.dS [(sPanes,.ref Pd),(sWins,.ref Wl)])) Wd'=some (false,.dS [(sPanes,.ref Pd),(sWins,.ref Wl)]):=AH.set_same _ _ _
 show GetI (.ref Wd') (.str (Str.ofString "windows")) (H7.set Wd' (.dS [(sPanes,.ref Pd),(sWins,.ref Wl)])) _
 generalize H7.set Wd' (.dS [(sPanes,.ref Pd),(sWins,.ref Wl)])=H8 at s8 eX ⊢
 rw[gi_dS (u:=.ref Wl) eX rfl]
 have eW8:=s8.list eW
 refine⟨⟨_,_,_,rfl,eW8⟩,?_⟩
 rw[gi_dS (u:=.ref Pd) eX rfl]
 have eP8:=s8.dI (s7.dI eP)
 refine .inr ⟨_,_,_,eP8,rfl,?_⟩
 let pa:Int→Addr:=fun n=>if n=0 then a0 else a9
 have e08:PN H8 pa 0 (0,0):=⟨d0,(s8.inst (s7.inst (s6.inst (s5.inst e0))))⟩
 have e98:PN H8 pa 90 (0,0):=⟨d9,(s8.inst (s7.inst (s6.inst e9)))⟩
 show NewC W 420 [.int 0,.bytes #[119],.ref (pa 0),.int w,.int hh'] 199 H8 _
 refine newWin G (by omega) ⟨_,e08⟩ hw1 hh1 fun a H9 ha9' x9 f9=>?_
 have m8:Mu H8 [pa 0]:=let ⟨d,e⟩:=e08;.cons e .nil
 have S38:Sb H3 H8:=(s4.trans s5).trans ((s6.trans s7).trans s8)
 have i8:Is H8 [pa 0]:=let ⟨d,e⟩:=e08;.cons e (fun _ z=>by cases z)
 refine c463 G (by omega) fun md H10 s10 m10=>?_
 have X10:Ex [pa 0] H8 H10:=x9.trans s10.ex
 have eW10:=X10.list eW8 (i8.out eW8 fun _ _ _ z=>by cases z)
 refine⟨_,eW10,by decide,?_⟩
 have x11:Ex [Wl] H10 (H10.set Wl (.list ([]++[.ref md]))):=Ex.put
 have eW11:(H10.set Wl (.list ([]++[.ref md]))) Wl=some (false,.list ((List.range 1).map fun _=>.ref md)):=AH.set_same _ _ _
 dsimp only
 generalize H10.set Wl (.list ([]++[.ref md]))=H11 at x11 eW11 ⊢
 let c:Cx:=⟨D,Lc,Wd',Pd,Wl,fun _=>md,fun _=>a,pa,cells⟩
 have ho:∀C dx fs,AO.list ([]:List AV)≠.inst C dx fs:=fun _ _ _ z=>by cases z
 have m10':Mu H10 [Wl]:=.cons eW10 .nil
 have eD10:=X10.dS (S38.dS eD3) (i8.out (S38.dS eD3) fun _ _ _ z=>by cases z)
 have eX10:=X10.dS eX (i8.out eX fun _ _ _ z=>by cases z)
 have eP10:=X10.dI eP8 (i8.out eP8 fun _ _ _ z=>by cases z)
 have f10:=f9.sb s10
 have h11:WI c H11 ⟨[oneW 0 w hh'],[oneW 0 w hh'],[0,90],3⟩:=by
  refine⟨⟨2,by show 2≤3;omega,x11.dS eD10 (single (ne_kind eD10 eW10 fun z=>by cases z))⟩,?_,hcl,x11.dS eX10 (single (ne_kind eX10 eW10 fun z=>by cases z)),x11.dI eP10 (single (ne_kind eP10 eW10 fun z=>by cases z)),eW11,fun i v hv=>?_,fun i v hv=>?_,fun x hx=>?_⟩
  ·exact x11.fz m10' no_list (X10.fz m8 no_list (S38.list eL3))
  ·cases i with
   |zero=>simp at hv;subst hv;exact f10.one x11 eW10 ho
   |succ i=>simp at hv
  ·cases i with
   |zero=>
    simp at hv;subst hv
    obtain⟨t,em,_⟩:=id m10
    exact m10.ex x11 m10' (single (ne_kind em eW10 fun z=>by cases z))
   |succ i=>simp at hv
  ·simp only[List.mem_cons,List.not_mem_nil,or_false]at hx
   rcases hx with rfl|rfl
   ·exact⟨_,(f10.sz 0 (by simp[oneW,Tr.panes_leaf])).one x11 eW10 ho⟩
   ·have:pa 90∉[pa 0]:=single fun z=>by
     have:=e98.inj e08 z
     omega
    exact⟨_,(e98.ex X10 this).one x11 eW10 ho⟩
 have p11:PI ⟨[oneW 0 w hh'],[oneW 0 w hh'],[0,90],3⟩:=by
  refine⟨fun v hv=>?_,by simp,fun v hv x hx=>?_,fun i j v u hij hi hj=>?_,fun x hx=>?_,by simp,by simp,by simp⟩
  ·rw[List.mem_singleton.mp hv];exact one_ok ⟨by omega,by omega⟩ hw1 hh1
  ·rw[List.mem_singleton.mp hv]at hx
   simp only[oneW,Tr.panes_leaf,List.mem_singleton]at hx
   simp[hx]
  ·cases i with
   |zero=>
    cases j with
    |zero=>exact absurd rfl hij
    |succ j=>simp at hj
   |succ i=>simp at hi
  ·simp only[List.mem_cons,List.not_mem_nil,or_false]at hx
   rcases hx with rfl|rfl
   ·exact .inr ⟨by omega,by simp⟩
   ·exact .inl rfl
 refine c555 G (c:=c) (by omega) h11 p11 rfl fun H12 h12=>⟨_,rfl,(fun z=>by cases z),fun _=>?_⟩
 refine c456 G (c:=c) (by omega) h12 (by show 3≤_;omega) (by decide) fun k3 H13 a3 b3 x13 h13=>?_
 rw[bi_add]
 refine⟨_,rfl,?_⟩
 refine for_range (N:=(4+k3).toNat) (by omega) (by omega) (fun i ρ H'=>ρ.lookup 59=some (.ref D)∧ρ.lookup 63=some (.ref Wd')∧∃c' s',c'.D=D∧c'.Wd=Wd'∧WI c' H' s'∧PI s'∧s'.mw=s'.rw∧s'.kb≤4+30 * i∧s'.ks.length≤2+i) ?_ ?_ ?_
 ·exact⟨rfl,rfl,c,_,rfl,rfl,h13,p11.kb _,rfl,by show 3+1≤_;omega,by simp⟩
 ·rintro i ρ H' hi ⟨g59,g63,c',s',hD,hW,h',p',heq,hkb,hks⟩
  walk_at "wp"
  simp only[g59,g63,Option.some.injEq,exists_eq_left']
  rw[←hD,←hW]
  refine c550 G (by omega) h' p' heq (by omega) (by omega) fun v c2 s2 H2' ht ha=>?_
  obtain⟨x,rfl,hx1,hx2⟩:=told_is ht
  refine⟨_,rfl,rfl,?_⟩
  walk_at "wp"
  simp only[g63,Option.some.injEq,exists_eq_left']
  refine⟨true,hx1,hx2 _,(fun z=>by cases z),fun _=>?_⟩
  rw[←hW,←ha.hW]
  refine c555 G (c:=c2) (by omega) ha.wi ha.pi ha.eq fun H3' h3'=>⟨_,rfl,(fun z=>by cases z),fun _=>?_⟩
  have e1:=ha.kb
  have e2:=ha.ks
  exact⟨by first|exact g59|(rw[ha.hD];exact g59)|(rw[←ha.hD];exact g59)|(rw[hD];exact g59),rfl,c2,s2,by first|rfl|exact ha.hD.trans hD|exact ha.hD,by first|rfl|exact ha.hW.trans hW|exact ha.hW,h3',ha.pi,ha.eq,by omega,by omega⟩
 ·rintro ρ H' _
  first|rfl|trivial
end
end
section
theorem k_law (P:Params):nsIn (KK P) mainGlobals (Str.ofString "law")=some (some (.ref 562)):=by kernel_rfl
theorem ints_VRs {H:AH} {h:Heap}:∀{vs:List Value} {ns:List Int},IntsAre vs ns→VRs H h (ns.map .int) vs
 |_,_,.nil=>by simp[VRs]
 |_,_,.cons n t r=>by simp only[List.map_cons,VRs,VR];exact⟨_,_,rfl,⟨t,rfl⟩,ints_VRs r⟩
theorem well_list {P:Params} {h:Heap} {l:Addr} {xs:List WData} (w:Well P h (.ref l) (.list xs)):∃vs:List Value,h.get? l=some {cls:=.type "list",data:=.seq vs.toArray}:=by
 cases w with
 |list e _=>exact⟨_,e⟩
theorem join (lawC:∀(W:Wd) (G:Gd W (KK W.w.params)) (H:AH) (l:Addr) (ns:List Int),H l=some (true,.list (ns.map .int))→ns.length≤63→CallF W 562 [.ref l] 200 H (fun v H'=>v=.bool true)):PySem.Challenge.rw_pq1192_01.Holds:=by
 refine hd ?_
 intro w s₀ s₁ mg mb G Y fa o pm cd doc dV kV ho hd hcd hD hmg hg args vals as hpre hlay hrd hwl hlo
 have KX:=kIn_of Y
 refine Ground.open G ?_
 intro T B D TE TW
 have hfa:=mg_of KX T.g (k_law w.params)
 have e1:some (Value.ref 562)=some (Value.ref fa):=hfa.symm.trans hmg
 cases e1
 clear hD hmg hd hcd ho
 wrow_args hpre hlay hrd hwl hlo
 rename_i ns _ _ _ _ _ _ _ l vs _ hL _ wl _ hI _ hlen _
 obtain⟨vs',hl⟩:=well_list wl
 have hvs:vs'=vs:=by
  obtain⟨ob,h1,h2,n,h3⟩:=hL
  rw[hl]at h1;cases h1
  cases h3;rfl
 subst hvs
 refine enter_call ?_
 let W:Wd:=⟨PySem.Challenge.rw_pq1192_01.row.prog,w,s₁.heap⟩
 let H:AH:=fun a=>if a=l then some (true,.list (ns.map .int))else none
 have hH:H l=some (true,.list (ns.map .int)):=if_pos rfl
 have hS:W.St H s₁.heap:=by
  refine⟨fun a f ob e=>?_,fun a ob e=>⟨e,fun x z=>?_⟩,fun a f C dx fs e=>?_⟩
  ·by_cases ha:a=l
   ·subst ha;rw[hH]at e;cases e
    exact⟨_,_,hl,by simpa using ints_VRs hI⟩
   ·rw[show H a=none from if_neg ha]at e;cases e
  ·by_cases ha:a=l
   ·subst ha;rw[hH]at z;cases z
   ·rw[show H a=none from if_neg ha]at z;cases z
  ·by_cases ha:a=l
   ·subst ha;rw[hH]at e;cases e
   ·rw[show H a=none from if_neg ha]at e;cases e
 have G':Gd W (KK W.w.params):=gd_of KX (by
  obtain⟨_,⟨o,_,_,ho,_⟩,_⟩:=G.T.nodigits
  exact⟨_,o,by decide,ho⟩) ⟨_,_,_,_,topRead_of T⟩
 refine lawC W G' H l ns hH (by omega) callerA s₁ [.ref l] _ ⟨by decide +kernel,by decide +kernel,rfl⟩ hS (by simp only[VRs,VR];exact⟨_,_,rfl,rfl,rfl⟩) ?_
 intro v u s' H' hv ha hq
 subst hq
 simp only[VR]at hv
 subst hv
 refine GoodW.toG ⟨.inl ⟨_,.bool true,[],rfl,?_,.bool true,?_,?_⟩,fun b o e=>(ha.st.base b o e).1,ha.same.os,ha.same.gens.trans hg⟩
 ·exact fun _=>rfl
 ·exact postW_of (X:=true) (by wrow_shape) (by wtm_val) rfl
 ·exact fun _=>⟨.nil,fun a h=>by cases h⟩
end
end Mine
theorem PySem.Challenge.cw_pq1192_01_holds : PySem.Challenge.rw_pq1192_01.Holds :=
  Mine.join fun W G H l ns e hl => Mine.c562 G e hl
