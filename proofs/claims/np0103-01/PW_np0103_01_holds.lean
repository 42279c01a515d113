import PyProof.Rows.All
import Wide.All
import OpenK.AllK
import KE.LcSums
import KE.KListMore
import KE.KItem
import KE.KPar
import Wide.FinOn
import Lean
import PySem.Challenge.RW_np0103_01
open PySem PySem.W PySem.Calls PyProof.Rows
set_option Elab.async false
set_option maxRecDepth 100000
set_option compiler.extract_closed false
set_option linter.all false
set_option genSizeOf false
set_option genInjectivity false
set_option backward.match.sparseCases false
set_option bootstrap.genMatcherCode false
set_option maxHeartbeats 4000000
namespace Mine.Internal
section
variable {α β γ:Type} {G a b c d e:Prop} {p q r s t:α→Prop} {P Q R S:α→β→Prop} {U V W X Y:α→β→γ→Prop}
theorem oA (k:a→b→G) (h:a∧b):G:=k h.1 h.2
theorem iJ (k:a→b→c→G) (h:a∧b∧c):G:=k h.1 h.2.1 h.2.2
theorem ru (k:a→b→c→d→G) (h:a∧b∧c∧d):G:=k h.1 h.2.1 h.2.2.1 h.2.2.2
theorem lz (k:a→b→c→d→e→G) (h:a∧b∧c∧d∧e):G:=k h.1 h.2.1 h.2.2.1 h.2.2.2.1 h.2.2.2.2
theorem aV (k:∀ x,p x→q x→G) (h:∃ x,p x∧q x):G:=h.elim fun x h=>oA (k x) h
theorem cM (k:∀ x,p x→q x→r x→G) (h:∃ x,p x∧q x∧r x):G:=h.elim fun x h=>iJ (k x) h
theorem kZ (k:∀ x,p x→q x→r x→s x→G) (h:∃ x,p x∧q x∧r x∧s x):G:=h.elim fun x h=>ru (k x) h
theorem jV (k:∀ x,p x→q x→r x→s x→t x→G) (h:∃ x,p x∧q x∧r x∧s x∧t x):G:=h.elim fun x h=>lz (k x) h
theorem W7 (k:∀ x y,P x y→G) (h:∃ x y,P x y):G:=h.elim fun x h=>h.elim fun y h=>k x y h
theorem fM (k:∀ x y,P x y→Q x y→G) (h:∃ x y,P x y∧Q x y):G:=W7 (fun x y=>oA (k x y)) h
theorem aC (k:∀ x y,P x y→Q x y→R x y→G) (h:∃ x y,P x y∧Q x y∧R x y):G:=W7 (fun x y=>iJ (k x y)) h
theorem bR (k:∀ x y,P x y→Q x y→R x y→S x y→G) (h:∃ x y,P x y∧Q x y∧R x y∧S x y):G:=W7 (fun x y=>ru (k x y)) h
theorem jc (k:∀ x y z,U x y z→G) (h:∃ x y z,U x y z):G:=h.elim fun x h=>W7 (k x) h
theorem iH (k:∀ x y z,U x y z→V x y z→G) (h:∃ x y z,U x y z∧V x y z):G:=jc (fun x y z=>oA (k x y z)) h
theorem fD (k:∀ x y z,U x y z→V x y z→W x y z→G) (h:∃ x y z,U x y z∧V x y z∧W x y z):G:=jc (fun x y z=>iJ (k x y z)) h
theorem gD (k:∀ x y z,U x y z→V x y z→W x y z→X x y z→G) (h:∃ x y z,U x y z∧V x y z∧W x y z∧X x y z):G:=jc (fun x y z=>ru (k x y z)) h
theorem bY (k:∀ x y z,U x y z→V x y z→W x y z→X x y z→Y x y z→G) (h:∃ x y z,U x y z∧V x y z∧W x y z∧X x y z∧Y x y z):G:=jc (fun x y z=>lz (k x y z)) h
theorem w6 (k:a→∀ x,p x→G) (h:a∧∃ x,p x):G:=h.2.elim fun x h1=>k h.1 x h1
theorem qz (k:a→∀ x y,P x y→Q x y→G) (h:a∧∃ x y,P x y∧Q x y):G:=fM (k h.1) h.2
theorem jJ (k:a→∀ x y z,U x y z→V x y z→G) (h:a∧∃ x y z,U x y z∧V x y z):G:=iH (k h.1) h.2
theorem JP (k:a→∀ x,p x→q x→G) (h:a∧∃ x,p x∧q x):G:=aV (k h.1) h.2
theorem xG (k:a→∀ x,p x→q x→r x→G) (h:a∧∃ x,p x∧q x∧r x):G:=cM (k h.1) h.2
end
noncomputable def er:Value→Value
 |.int i _=>.int i 0
 |.float b _=>.float b 0
 |.str s _=>.str s 0
 |.bytes b _=>.bytes b 0
 |v=>v
inductive Cell where
 |inst (C:Addr) (fs:List (Nat × Value))
 |list (vs:List Value)
 |tup (vs:List Value)
 |dict (n:Nat) (f:Int→Option Value)
noncomputable abbrev Hp:=Addr→Option Cell
noncomputable def Hp.put (σ:Hp) (a:Addr) (c:Cell):Hp:=fun b=>if b=a then some c else σ b
theorem aa {σ:Hp} {a c}:σ.put a c a=some c:=if_pos rfl
theorem aq {σ:Hp} {a b c x} (h:b≠a) (e:σ b=x):σ.put a c b=x:=(if_neg h).trans e
theorem eQ {σ:Hp} {a b c d} (h:σ a=none) (e:σ b=some d):σ.put a c b=some d:=aq (fun q=>by rw[q,h] at e;cases e) e
inductive Role where
 |cell
 |dict (a:Addr)
 |frame
noncomputable def attrs:List Str :=
 (["opens","below","least","whole","word","string","comment","style","nests","start","quoted","half","symbol","data","kind","match","flags","parent","rows","length"]:List Str) ++
 (["is_fence","view","table","place","depth","good","is_expression","is_paired","is_done","codes","has","is_escape","is_word_part","modify_all","own","at","state","end_word","begin_word","open_at"]:List Str) ++
 (["close","begin_comment","leave_comment","begin_string","end_string","take","step_in_comment","step_in_string","finish_half","step_plain","step_by_kind","step","counts","lost","deeper","shallower","pair","begin","end","code_at"]:List Str)
noncomputable def bH (n:Nat):Str:=attrs.getD n "?"
noncomputable def cz:List (Nat × Value)→Nat→Option Value
 |[],_=>none
 |(k,v)::r,n=>match Nat.beq k n with
  |true=>some v
  |false=>cz r n
noncomputable def oh:List (Nat × Value)→Nat→Value→List (Nat × Value)
 |[],n,v=>[(n,v)]
 |(k,x)::r,n,v=>match Nat.beq k n with
  |true=>(k,v)::r
  |false=>(k,x)::oh r n v
structure rQ (mA:Str→Option Value) (fs:List (Nat × Value)):Prop where
 has:∀ n v,cz fs n=some v→∃ v',mA (bH n)=some v'∧er v'=v∧handedIn v'=true
 no:∀ x v,mA x=some v→∃ n,n < attrs.length∧x=bH n∧(cz fs n).isSome=true
 bd:∀ n,(cz fs n).isSome=true→n < attrs.length
noncomputable def big:Nat:=2 ^ 20
noncomputable def ucls:List Addr:=[68,144,225,267,449,541,724]
noncomputable def CellOk (h:Heap) (role:Addr→Option Role) (a:Addr):Cell→Prop
 |.inst C fs=>C∈ucls∧∃ dx sl mA,h.get? a=some ⟨.ref C,some dx,.plain,sl⟩∧role dx=some (.dict a)∧h.Ns1 dx mA∧rQ mA fs
 |.list vs=>∃ xs n,IsL h a (List.toArray xs) n∧xs.map er=vs∧vs.length≤big
 |.tup vs=>∃ xs n,IsT h a (List.toArray xs) n∧xs.map er=vs∧vs.length≤big
 |.dict n f=>∃ g,h.IntMap a g∧(∀ k,(g k).map er=f k)∧h.DictLe a n∧n≤big∧(∀ o,h.get? a=some o→o.dict=none∧o.slots=#[])
inductive Pin where
 |ns (m:Str→Option Value)
 |it (P:Obj→Prop)
noncomputable def PinOk (h:Heap) (L:Addr):Pin→Prop
 |.ns m=>h.Ns L m
 |.it P=>∃ o,h.get? L=some o∧P o
theorem PinOk.there {h:Heap} {L p} (x:PinOk h L p):∃ o,h.get? L=some o:=by
 cases p with
 |ns m=>refine iH (fun o _ _ ho _=>?_) x;exact⟨o,ho⟩
 |it P=>refine aV (fun o ho _=>?_) x;exact⟨o,ho⟩
theorem PinOk.same {h h':Heap} {L p} (x:PinOk h L p) (e:h'.get? L=h.get? L):PinOk h' L p:=by
 cases p with
 |ns m=>refine iH (fun o es ep ho hr=>?_) x;exact⟨o,es,ep,e.trans ho,hr⟩
 |it P=>refine aV (fun o ho hr=>?_) x;exact⟨o,e.trans ho,hr⟩
theorem PinOk.keeps {h h':Heap} {L p} (x:PinOk h L p) (k:h.StaysIn h'):PinOk h' L p:=by
 obtain⟨o,ho⟩:=x.there
 exact x.same ((k _ _ ho).trans ho.symm)
noncomputable abbrev Fm:=Addr→Option Pin
noncomputable def Fm.put (F:Fm) (L:Addr) (m:Pin):Fm:=fun b=>if b=L then some m else F b
theorem Fm.aa {F:Fm} {L m}:F.put L m L=some m:=if_pos rfl
theorem Fm.put_put {F:Fm} {L m m'}:(F.put L m).put L m'=F.put L m':=by
 funext b;unfold Fm.put;split<;>rfl
theorem Fm.put_same {F:Fm} {L m} (h:F L=some m):F.put L m=F:=by
 funext b;unfold Fm.put;split
 ·rename_i e;rw[e,h]
 ·rfl
structure SR (Z9:Heap) (F:Fm) (σ:Hp) (h:Heap):Prop where
 base:Z9.StaysIn h
 cells:∃ role:Addr→Option Role,
  (∀ a r,role a=some r→Z9.get? a=none∧∃ o,h.get? a=some o) ∧
  (∀ a c,σ a=some c→role a=some .cell∧CellOk h role a c) ∧
  (∀ L m,F L=some m→role L=some .frame∧PinOk h L m)
theorem gG {α:Type} {y:α} {P:Prop} (h:(none:Option α)=some y):P:=by cases h
theorem CellOk.move {h h':Heap} {role role':Addr→Option Role} {a c} (x:CellOk h role a c) (e:∀ o,h.get? a=some o→h'.get? a=some o) (d:∀ dx,role dx=some (.dict a)→role' dx=some (.dict a)∧∀ o,h.get? dx=some o→h'.get? dx=some o):CellOk h' role' a c:=by
 cases c with
 |inst C fs =>
  refine jJ (fun hC dx sl mA h1 z0=>iJ (fun h2 h3 h4=>?_) z0) x
  exact⟨hC,dx,sl,mA,e _ h1,(d _ h2).1,h3.at fun o q=>(d _ h2).2 _ q,h4⟩
 |list vs =>
  refine fM (fun xs n h1 h3=>?_) x
  exact⟨xs,n,e _ h1,h3⟩
 |tup vs =>
  refine fM (fun xs n h1 h3=>?_) x
  exact⟨xs,n,e _ h1,h3⟩
 |dict n f =>
  revert x;refine jV fun g z1 h3 h4 h5 h6=>?_;obtain⟨o,es,ep,h1,h2⟩:=z1
  exact⟨g,⟨o,es,ep,e _ h1,h2⟩,h3,h4.of_same h1 (e _ h1),h5,fun o' q=>by rw[e _ h1] at q;cases q;exact h6 o h1⟩
theorem CellOk.keeps {h h':Heap} {role a c} (k:h.StaysIn h') (x:CellOk h role a c):CellOk h' role a c:=x.move (k a) fun dx q=>⟨q,k dx⟩
theorem nP {role:Addr→Option Role} {Z9 h:Heap} {a:Addr} (r1:∀ a r,role a=some r→Z9.get? a=none∧∃ o,h.get? a=some o) (ha:h.get? a=none):role a=none:=by
 cases e:role a with
 |none=>rfl
 |some r=>refine w6 (fun _ o q=>?_) (r1 a r e);rw[ha] at q;cases q
theorem nu {Z9 h:Heap} {a:Addr} (b:Z9.StaysIn h) (ha:h.get? a=none):Z9.get? a=none:=by
 cases q:Z9.get? a with
 |none=>rfl
 |some o=>have:=b a o q;rw[ha] at this;cases this
theorem yV {σ:Hp} {role:Addr→Option Role} {P:Addr→Cell→Prop} {a:Addr} (r2:∀ a c,σ a=some c→role a=some .cell∧P a c) (rN:role a=none):σ a=none:=by
 cases e:σ a with
 |none=>rfl
 |some r=>have:=(r2 a r e).1;rw[rN] at this;cases this
theorem uH {role:Addr→Option Role} {a b:Addr} {r:Role} (h:role b=none) (e:role a=some r):a≠b:=fun q=>by rw[q,h] at e;cases e
theorem SR.keeps {Z9 F σ h h'} (x:SR Z9 F σ h) (k:h.StaysIn h'):SR Z9 F σ h':=by
 obtain⟨b,role,r1,r2,r3⟩:=x
 refine⟨fun a o e=>k _ _ (b a o e),role,fun a r e=>?_,fun a c e=>?_,fun L m e=>?_⟩
 ·refine w6 (fun p o q=>?_) (r1 a r e);exact⟨p,o,k _ _ q⟩
 ·exact⟨(r2 a c e).1,(r2 a c e).2.keeps k⟩
 ·exact⟨(r3 L m e).1,(r3 L m e).2.keeps k⟩
theorem CellOk.but {h h':Heap} {role a b c r} (k:Heap.SameBut b h h') (hb:role b=some r) (n1:a≠b) (n2:r≠.dict a) (x:CellOk h role a c):CellOk h' role a c :=
 x.move (fun o q=>(k.2 _ n1).trans q) fun dx h=>⟨h,fun o q=>(k.2 _ fun z=>by rw[z,hb] at h;cases h;exact n2 rfl).trans q⟩
theorem vM {Z9 h h':Heap} {b:Addr} (s:Z9.StaysIn h) (e:Z9.get? b=none) (k:Heap.SameBut b h h'):Z9.StaysIn h':=fun a o q =>
 (k.2 a fun z=>by rw[z,e] at q;cases q).trans (s a o q)
theorem SR.frame {Z9 F σ h h' L m m'} (x:SR Z9 F σ h) (hL:F L=some m) (k:Heap.SameBut L h h') (n:PinOk h' L m'):SR Z9 (Fm.put F L m') σ h':=by
 obtain⟨b,role,r1,r2,r3⟩:=x
 have rL:=(r3 L m hL).1
 refine⟨vM b (r1 L _ rL).1 k,role,fun a r e=>?_,fun a c e=>?_,fun L' ZM e=>?_⟩
 ·refine w6 (fun p o q=>?_) (r1 a r e)
  by_cases z:a=L
  ·subst z;obtain⟨o',ho⟩:=n.there;exact⟨p,o',ho⟩
  ·exact⟨p,o,(k.2 a z).trans q⟩
 ·obtain⟨p,q⟩:=r2 a c e
  exact⟨p,q.but k rL (fun z=>by rw[z,rL] at p;cases p) (fun z=>by cases z)⟩
 ·unfold Fm.put at e
  by_cases z:L'=L
  ·subst z;rw[if_pos rfl] at e;cases e;exact⟨rL,n⟩
  ·rw[if_neg z] at e
   obtain⟨p,q⟩:=r3 L' ZM e
   exact⟨p,q.same (k.2 L' z)⟩
theorem SR.cell {Z9 F σ h h' a c c'} (x:SR Z9 F σ h) (ha:σ a=some c) (k:Heap.SameBut a h h') (n:∀ role,role a=some Role.cell→CellOk h role a c→CellOk h' role a c') (ho:∃ o,h'.get? a=some o) :
  SR Z9 F (σ.put a c') h':=by
 obtain⟨b,role,r1,r2,r3⟩:=x
 obtain⟨rA,okA⟩:=r2 a c ha
 refine⟨vM b (r1 a _ rA).1 k,role,fun d r e=>?_,fun d ZZ e=>?_,fun L m e=>?_⟩
 ·refine w6 (fun p o q=>?_) (r1 d r e)
  by_cases z:d=a
  ·subst z;exact⟨p,ho⟩
  ·exact⟨p,o,(k.2 d z).trans q⟩
 ·unfold Hp.put at e
  by_cases z:d=a
  ·subst z;rw[if_pos rfl] at e;cases e;exact⟨rA,n role rA okA⟩
  ·rw[if_neg z] at e
   obtain⟨p,q⟩:=r2 d ZZ e
   exact⟨p,q.but k rA z (fun z=>by cases z)⟩
 ·obtain⟨p,q⟩:=r3 L m e
  have z:L≠a:=fun z=>by rw[z,rA] at p;cases p
  exact⟨p,q.same (k.2 L z)⟩
theorem SR.flds {Z9 F σ h h' a dx C fs fs'} (x:SR Z9 F σ h) (ha:σ a=some (.inst C fs)) {sl} (hx:h.get? a=some ⟨.ref C,some dx,.plain,sl⟩) (k:Heap.SameBut dx h h')
  (n:∀ mA,h.Ns1 dx mA→rQ mA fs→∃ mB,h'.Ns1 dx mB∧rQ mB fs'):SR Z9 F (σ.put a (.inst C fs')) h':=by
 obtain⟨b,role,r1,r2,r3⟩:=x
 obtain⟨rA,okA⟩:=r2 a _ ha
 refine jJ (fun hC dx' sl' mA h1 z2=>iJ (fun h2 h3 h4=>?_) z2) okA
 obtain rfl:dx=dx':=Option.some.inj (congrArg Obj.dict (Option.some.inj (hx.symm.trans h1)))
 refine aV (fun mB n1 n2=>?_) (n mA h3 h4)
 have nax:a≠dx:=fun z=>by rw[z,h2] at rA;cases rA
 refine⟨vM b (r1 dx _ h2).1 k,role,fun d r e=>?_,fun d ZZ e=>?_,fun L m e=>?_⟩
 ·refine w6 (fun p o q=>?_) (r1 d r e)
  by_cases z:d=dx
  ·subst z;refine iH (fun o' _ _ ho _=>?_) n1;exact⟨p,o',ho⟩
  ·exact⟨p,o,(k.2 d z).trans q⟩
 ·unfold Hp.put at e
  by_cases z:d=a
  ·subst z;rw[if_pos rfl] at e;cases e
   exact⟨rA,hC,dx,sl,mB,(k.2 _ nax).trans hx,h2,n1,n2⟩
  ·rw[if_neg z] at e
   obtain⟨p,q⟩:=r2 d ZZ e
   exact⟨p,q.but k h2 (fun y=>by rw[y,h2] at p;cases p) (fun y=>by cases y;exact z rfl)⟩
 ·obtain⟨p,q⟩:=r3 L m e
  have z:L≠dx:=fun z=>by rw[z,h2] at p;cases p
  exact⟨p,q.same (k.2 L z)⟩
theorem SR.new {Z9 F σ h h' a c} (x:SR Z9 F σ h) (ha:h.get? a=none) (k:h.StaysIn h') (n:∀ role,CellOk h' role a c) (ho:∃ o,h'.get? a=some o) (hc:∀ C fs,c≠.inst C fs) :
  SR Z9 F (σ.put a c) h'∧σ a=none:=by
 obtain⟨b,role,r1,r2,r3⟩:=x
 have rN:=nP r1 ha
 refine⟨⟨fun d o e=>k _ _ (b d o e),fun d=>if d=a then some .cell else role d,fun d r e=>?_,fun d ZZ e=>?_,fun L m e=>?_⟩,yV r2 rN⟩
 ·by_cases z:d=a
  ·subst z;exact⟨nu b ha,ho⟩
  ·refine w6 (fun p o q=>?_) (r1 d r ((if_neg z).symm.trans e));exact⟨p,o,k _ _ q⟩
 ·unfold Hp.put at e
  by_cases z:d=a
  ·subst z;rw[if_pos rfl] at e;cases e;exact⟨if_pos rfl,n _⟩
  ·rw[if_neg z] at e
   obtain⟨p,q⟩:=r2 d ZZ e
   exact⟨(if_neg z).trans p,q.move (k d) fun dx h=>⟨(if_neg (uH rN h)).trans h,k dx⟩⟩
 ·obtain⟨p,q⟩:=r3 L m e
  exact⟨(if_neg (uH rN p)).trans p,q.keeps k⟩
theorem SR.newInst {Z9 F σ h h' a dx C sl} (hC:C∈ucls) (x:SR Z9 F σ h) (ha:h.get? a=none) (hd:h.get? dx=none) (hne:a≠dx) (k:h.StaysIn h') (n1:h'.get? a=some ⟨.ref C,some dx,.plain,sl⟩) (n2:h'.Ns1 dx fun _=>none) :
  SR Z9 F (σ.put a (.inst C [])) h'∧σ a=none:=by
 obtain⟨b,role,r1,r2,r3⟩:=x
 have ra:=nP r1 ha
 have rd:=nP r1 hd
 have nw:∀ {d r},role d=some r→(if d=a then some .cell else if d=dx then some (.dict a) else role d)=some r:=fun h=>(if_neg (uH ra h)).trans ((if_neg (uH rd h)).trans h)
 refine⟨⟨fun d o e=>k _ _ (b d o e),fun d=>if d=a then some .cell else if d=dx then some (.dict a) else role d,fun d r e=>?_,fun d ZZ e=>?_,fun L m e=>?_⟩,yV r2 ra⟩
 ·by_cases z:d=a
  ·subst z;exact⟨nu b ha,_,n1⟩
  ·have e:=(if_neg z).symm.trans e
   by_cases z':d=dx
   ·subst z';refine iH (fun o _ _ ho _=>?_) n2;exact⟨nu b hd,o,ho⟩
   ·refine w6 (fun p o q=>?_) (r1 d r ((if_neg z').symm.trans e));exact⟨p,o,k _ _ q⟩
 ·unfold Hp.put at e
  by_cases z:d=a
  ·subst z;rw[if_pos rfl] at e;cases e
   exact⟨if_pos rfl,hC,dx,sl,_,n1,(if_neg (Ne.symm hne)).trans (if_pos rfl),n2,⟨(fun n v q=>gG q),(fun x v q=>gG q),(fun n q=>(Bool.false_ne_true q).elim)⟩⟩
  ·rw[if_neg z] at e
   obtain⟨p,q⟩:=r2 d ZZ e
   exact⟨nw p,q.move (k d) fun dx h=>⟨nw h,k dx⟩⟩
 ·obtain⟨p,q⟩:=r3 L m e
  exact⟨nw p,q.keeps k⟩
theorem SR.newFrame {Z9 F σ h h' L m} (x:SR Z9 F σ h) (ha:h.get? L=none) (k:h.StaysIn h') (n:PinOk h' L m):SR Z9 (Fm.put F L m) σ h'∧F L=none∧Z9.get? L=none:=by
 obtain⟨b,role,r1,r2,r3⟩:=x
 have rN:=nP r1 ha
 have bN:=nu b ha
 refine⟨⟨fun d o e=>k _ _ (b d o e),fun d=>if d=L then some .frame else role d,fun d r e=>?_,fun d ZZ e=>?_,fun L' m' e=>?_⟩,?_,bN⟩
 ·by_cases z:d=L
  ·subst z;obtain⟨o,ho⟩:=n.there;exact⟨bN,o,ho⟩
  ·refine w6 (fun p o q=>?_) (r1 d r ((if_neg z).symm.trans e));exact⟨p,o,k _ _ q⟩
 ·obtain⟨p,q⟩:=r2 d ZZ e
  exact⟨(if_neg (uH rN p)).trans p,q.move (k d) fun dx h=>⟨(if_neg (uH rN h)).trans h,k dx⟩⟩
 ·unfold Fm.put at e
  by_cases z:L'=L
  ·subst z;rw[if_pos rfl] at e;cases e;exact⟨if_pos rfl,n⟩
  ·rw[if_neg z] at e
   obtain⟨p,q⟩:=r3 L' m' e
   exact⟨(if_neg z).trans p,q.keeps k⟩
 ·cases e:F L with
  |none=>rfl
  |some m'=>have:=(r3 L m' e).1;rw[rN] at this;cases this
theorem SR.lessFrames {Z9 F F' σ h} (x:SR Z9 F σ h) (k:∀ L m,F' L=some m→F L=some m):SR Z9 F' σ h:=by
 obtain⟨b,role,r1,r2,r3⟩:=x
 exact⟨b,role,r1,r2,fun L m e=>r3 L m (k L m e)⟩
noncomputable abbrev PP:Program:=PySem.Challenge.pw_np0103_01
noncomputable abbrev dY:Addr:=96
structure mU (n:Nat) (A:Around) (l:List Env):Prop where
 frames:A.frames=some l
 handled:A.handled=none
 depth:A.depth+4 * n≤990
 units:A.units+40 * n≤9000
noncomputable def cB (F:Fm) (l:List Env):Prop:=∀ env∈l,env.scope.kind=.function∧∃ L m,env.frame=some L∧F L=some (.ns m)
noncomputable def lw (F:Fm):Fm:=fun L=>match F L with
 |some (.it P)=>some (.it P)
 |_=>none
inductive Fly (Z9:Heap) (F:Fm) (σ:Hp) (l:List Env) (a:Addr) (sym:Value) (h:Heap):Prop
 |mk (B:Heap) (a0:_) (fl:Heap.FlyingW B l a (.ref dY) a0 h) (sr:SR Z9 (lw F) σ B) (fr:∀ L m,F L=some (.ns m)→h.Ns L m∧B.get? L=none)
  (oa:_) (dx:_) (mA:_) (v:_) (e1:h.get? a=some oa) (e2:oa.dict=some dx) (e3:B.Ns dx mA) (e4:mA "symbol"=some v) (e5:handedIn v=true) (e6:er v=sym):Fly Z9 F σ l a sym h
inductive Rs (Z9:Heap) (os:OsState) (F:Fm) (l:List Env) (Q:Value→Hp→Prop) (R:Value→Hp→Prop) (s:Shared):Result→Prop
 |ret {v:Value} {σ':Hp} (g:s.gens=#[]) (o:s.os=os) (sr:SR Z9 F σ' s.heap) (q:Q (er v) σ'):Rs Z9 os F l Q R s (.ok (.ret v))
 |err {a:Addr} {sym:Value} {σ':Hp} (g:s.gens=#[]) (o:s.os=os) (f:Fly Z9 F σ' l a sym s.heap) (q:R sym σ'):Rs Z9 os F l Q R s (.error (.ref a))
noncomputable def CallSem (w:World) (Z9:Heap) (os:OsState) (n:Nat) (f:Value) (args:List Value) (σ:Hp) (Q:Value→Hp→Prop) (R:Value→Hp→Prop):Prop :=
 ∀ (A:Around) (l:List Env) (F:Fm) (s:Shared) (vals:List Value),mU n A l→cB F l→SR Z9 F σ s.heap→s.gens=#[]→s.os=os→vals.map er=args →
  codeAny (model PP w) A (.call f ⟨vals,[]⟩) (fun r s'=>Rs Z9 os F l Q R s' r) s
theorem Rs.mono {Z9 os F l r s} {Q Q':Value→Hp→Prop} {R:Value→Hp→Prop} (hq:∀ v σ',Q v σ'→Q' v σ') (h:Rs Z9 os F l Q R s r):Rs Z9 os F l Q' R s r:=by
 cases h with
 |ret g o sr q=>exact .ret g o sr (hq _ _ q)
 |err g o f q=>exact .err g o f q
theorem CallSem.mono {w Z9 os n n' f args σ} {Q Q':Value→Hp→Prop} {R:Value→Hp→Prop} (x:CallSem w Z9 os n f args σ Q R) (hn:n≤n') (hq:∀ v σ',Q v σ'→Q' v σ'):CallSem w Z9 os n' f args σ Q' R :=
 fun A l F s vals r fr sr g o hv=>codeAny_mono (x A l F s vals ⟨r.frames,r.handled,Nat.le_trans (by lia) r.depth,Nat.le_trans (by lia) r.units⟩ fr sr g o hv) fun _ _=>Rs.mono hq
inductive Bf where
 |len|list|tuple|min|abs|sum|ord|all
inductive Bm where
 |append|pop|pop0|extend|get|join
set_option genCtorIdx false in
inductive E where
 |nil
 |cons (a b:E)
 |loc (i:Nat)
 |cst (v:Value)
 |gv (x:Nat) (v:Value)
 |fld (e:E) (n:Nat)
 |bin (op:Operator) (a b:E)
 |pow (a b:Nat)
 |cmp (op:CmpOp) (a b:E)
 |btw (a b c:E)
 |band (a b:E)
 |bor (a b:E)
 |not (e:E)
 |neg (e:E)
 |ite (t a b:E)
 |call (f args:E)
 |meth (e:E) (m:Nat) (args:E)
 |new (x:Nat) (C I:Addr) (args:E)
 |blt (b:Bf) (args:E)
 |bm (e:E) (m:Bm) (args:E)
 |idx (a i:E)
 |upto (a i:E)
 |from_ (a i:E)
 |lst (es:E)
 |tup (es:E)
 |dct
 |comp (elt src:E) (cond:E)
noncomputable def wU (e:E):Nat:=match e with
 |.nil=>0
 |.loc _=>2
 |.gv ..=>4
 |.cmp ..=>8
 |_=>99
set_option genCtorIdx false in
inductive S where
 |nil
 |seq (a b:S)
 |asg (i:Nat) (e:E)
 |fasg (o:E) (n:Nat) (e:E)
 |iasg (o i e:E)
 |unpT (is:List Nat) (es:E)
 |unp (is:List Nat) (e:E)
 |ite (t:E) (a b:S)
 |whl (t:E) (b:S)
 |forR (i:Nat) (n:E) (b:S)
 |forL (i:Nat) (e:E) (b:S)
 |forU (is:List Nat) (e:E) (b:S)
 |ret (e:E)
 |exp (e:E)
 |brk
 |raise_ (args:E)
 |told (e:E)
set_option genCtorIdx false in
inductive Fl where
 |next|brk|ret (v:Value)
noncomputable abbrev Loc:=List (Option Value)
noncomputable def lk:Loc→Nat→Option Value
 |[],_=>none
 |v::r,n=>match n with
  |0=>v
  |n+1=>lk r n
noncomputable def dW:Loc→Nat→Value→Loc
 |[],_,_=>[]
 |x::r,n,v=>match n with
  |0=>some v::r
  |n+1=>x::dW r n v
noncomputable def dR (b:Bool) (A B:Prop):Prop:=match b with
 |true=>A
 |false=>B
theorem HW {b:Bool} {A B:Prop} (h1:b=true→A) (h2:b=false→B):dR b A B:=by cases b;exact h2 rfl;exact h1 rfl
theorem aP {b:Bool} {A B:Prop} (hb:b=true) (h:A):dR b A B:=by subst hb;exact h
theorem Tu {b:Bool} {A:Prop} (h:dR b A False):b=true∧A:=by cases b;exact h.elim;exact⟨rfl,h⟩
theorem aH {b:Bool} {A B:Prop} (hb:b=false) (h:B):dR b A B:=by subst hb;exact h
noncomputable def bf (σ:Hp) (c:Cell) (k:Addr→Hp→Prop):Prop:=∀ a,σ a=none→k a (σ.put a c)
noncomputable abbrev vi (i:Int):Value:=.int i 0
noncomputable abbrev vs (x:Str):Value:=.str x 0
noncomputable def flat:Value→Bool
 |.int ..=>true
 |.str ..=>true
 |_=>false
noncomputable def kE (x:Str):Nat→Str
 |0=>Str.empty
 |n+1=>x++kE x n
noncomputable def Hy (v:Value):Option Int:=match v with
 |.int i _=>some i
 |_=>none
noncomputable def LC (v:Value):Option Str:=match v with
 |.str s _=>some s
 |_=>none
noncomputable def asB (v:Value):Option Bool:=match v with
 |.bool b=>some b
 |_=>none
noncomputable def asR (v:Value):Option Addr:=match v with
 |.ref a=>some a
 |_=>none
noncomputable def zgu {α:Type} (o:Option α) (k:α→Prop) (P:Prop):Prop:=match o with
 |some a=>k a
 |none=>P
noncomputable def orO (o p:Option Bool):Option Bool:=match o with
 |some b=>some b
 |none=>p
noncomputable def YM {α:Type} (x y:Value) (f:Int→Int→Option α):Option α:=(Hy x).bind fun i=>(Hy y).bind fun j=>f i j
noncomputable def bs2 {α:Type} (x y:Value) (f:Str→Str→Option α):Option α:=(LC x).bind fun i=>(LC y).bind fun j=>f i j
noncomputable def VK (op:Operator) (x y:Value):Option Value:=match op with
 |.Add=>YM x y fun i j=>some (vi (i+j))
 |.Sub=>YM x y fun i j=>some (vi (i - j))
 |_=>none
inductive binH (σ:Hp) (k:List Value→Hp→Prop):Operator→Value→Value→Prop
 |gO {i j:Int} (c:i.natAbs < 2 ^ 62∨j.natAbs < 2 ^ 62) (h:k [vi (i * j)] σ):binH σ k .Mult (.int i 0) (.int j 0)
 |jo {i j:Int} (c:0 < j∧j < 2 ^ 29) (h:k [vi (Int.fdiv i j)] σ):binH σ k .FloorDiv (.int i 0) (.int j 0)
 |cY {i j:Int} (c:j≠0) (h:k [vi (Int.fmod i j)] σ):binH σ k .Mod (.int i 0) (.int j 0)
 |cC {s t:Str} (c:s.length+t.length≤1000) (h:k [vs (s++t)] σ):binH σ k .Add (.str s 0) (.str t 0)
 |qg {s:Str} {j:Int} (c:0≤j∧j≤10∧s.length≤10) (h:k [vs (kE s j.toNat)] σ):binH σ k .Mult (.str s 0) (.int j 0)
 |qD {a b:Addr} {xs ys:List Value} (e1:σ a=some (.list xs)) (e2:σ b=some (.list ys)) (c:xs.length+ys.length≤big) (h:bf σ (.list (xs++ys)) fun r σ'=>k [.ref r] σ'):binH σ k .Add (.ref a) (.ref b)
 |jt {a b:Addr} {xs ys:List Value} (e1:σ a=some (.tup xs)) (e2:σ b=some (.tup ys)) (c:xs.length+ys.length≤big) (h:bf σ (.tup (xs++ys)) fun r σ'=>k [.ref r] σ') (h1:xs=[]→k [.ref b] σ) (h2:ys=[]→k [.ref a] σ):binH σ k .Add (.ref a) (.ref b)
noncomputable def qp (σ:Hp) (k:List Value→Hp→Prop) (op:Operator) (x y:Value):Prop:=match VK op x y with
 |some v=>k [v] σ
 |none=>binH σ k op x y
noncomputable def isNone:Value→Bool
 |.none=>true
 |_=>false
noncomputable def dG (x y:Str):Bool:=!List.isEmpty (PySem.Builtin.Str.occurrences y x 0 (Str.length y) 1)
noncomputable def eqS (x y:Value):Option Bool:=orO (YM x y fun i j=>some (decide (i=j))) (orO (bs2 x y fun i j=>some (decide (i=j))) (orO ((asB x).bind fun i=>(asB y).bind fun j=>some (i == j)) (orO ((Hy x).bind fun _=>cond (isNone y) (some false) none) ((Hy y).bind fun _=>cond (isNone x) (some false) none))))
noncomputable def Mg (op:CmpOp) (x y:Value):Option Bool:=match op with
 |.Eq=>eqS x y
 |.NotEq=>(eqS x y).bind fun b=>some (!b)
 |.Is=>cond (isNone y) (some (isNone x)) none
 |.IsNot=>cond (isNone y) (some (!isNone x)) none
 |.Lt=>YM x y fun i j=>some (decide (i < j))
 |.LtE=>YM x y fun i j=>some (decide (i≤j))
 |.Gt=>YM x y fun i j=>some (decide (j < i))
 |.GtE=>YM x y fun i j=>some (decide (j≤i))
 |.In=>bs2 x y fun u t=>some (dG u t)
 |.NotIn=>bs2 x y fun u t=>some (!dG u t)
inductive cmpH (σ:Hp) (kb:Bool→Prop):CmpOp→Value→Value→Prop
 |pK {a b:Addr} {xs ys:List Value} (e1:σ a=some (.list xs)) (e2:σ b=some (.list ys)) (c:(xs.all flat=true∧ys.all flat=true)∨xs.length≠ys.length) (h:kb (decide (xs=ys))):cmpH σ kb .Eq (.ref a) (.ref b)
 |jG {a b:Addr} {xs ys:List Value} (e1:σ a=some (.list xs)) (e2:σ b=some (.list ys)) (c:(xs.all flat=true∧ys.all flat=true)∨xs.length≠ys.length) (h:kb (!decide (xs=ys))):cmpH σ kb .NotEq (.ref a) (.ref b)
 |um {a b:Addr} {xs ys:List Value} (e1:σ a=some (.tup xs)) (e2:σ b=some (.tup ys)) (c:xs.all flat=true∧ys.all flat=true) (h:kb (decide (xs=ys))):cmpH σ kb .Eq (.ref a) (.ref b)
 |pP {a b:Addr} {xs ys:List Value} (e1:σ a=some (.tup xs)) (e2:σ b=some (.tup ys)) (c:xs.all flat=true∧ys.all flat=true) (h:kb (!decide (xs=ys))):cmpH σ kb .NotEq (.ref a) (.ref b)
 |ye {i:Int} {d:Addr} {m:Nat} {f:Int→Option Value} (e:σ d=some (.dict m f)) (h:kb (f i).isSome):cmpH σ kb .In (.int i 0) (.ref d)
 |uq {i:Int} {d:Addr} {m:Nat} {f:Int→Option Value} (e:σ d=some (.dict m f)) (h:kb (!(f i).isSome)):cmpH σ kb .NotIn (.int i 0) (.ref d)
noncomputable def fQ (σ:Hp) (kb:Bool→Prop) (op:CmpOp) (x y:Value):Prop:=match Mg op x y with
 |some b=>kb b
 |none=>cmpH σ kb op x y
noncomputable def rG:List (Nat × Nat × Nat):=[(68,24,44),(144,30,120),(144,31,127),(144,32,134),(144,7,141),(225,33,187),(225,34,201),(225,35,208),(449,36,334),(449,24,341),(449,37,348),(449,38,355),(449,39,362),(449,40,369),(449,41,376),(449,42,383),(449,43,390),(449,44,397),(449,45,404),(449,46,411),(449,47,418),(449,48,425),(449,49,432),(449,50,439),(449,51,446),(541,52,510),(541,53,517),(541,54,524),(541,55,531),(541,56,538),(724,57,707),(724,58,714),(724,59,721)]
noncomputable def iI:List (Nat × Nat × Nat)→Nat→Nat→Option Nat
 |[],_,_=>none
 |(C,m,f)::r,x,y=>match Nat.beq C x&&Nat.beq m y with
  |true=>some f
  |false=>iI r x y
noncomputable def gtab:List (Str × Value) :=
 ([("_wall",.ref 21),("ParseState",.ref 68),("state_of",.ref 79),("LispSignal",.ref 96),("WHITESPACE",.str " " 0),("WORD",.str "w" 0),("SYMBOL",.str "_" 0),("PUNCTUATION",.str "." 0),("OPENS",.str "(" 0),("CLOSES",.str ")" 0),("PREFIX",.str "'" 0),("STRING",.str "\"" 0)]:List (Str × Value)) ++
 ([("ESCAPE",.str "\\" 0),("QUOTES",.str "/" 0),("PAIRED",.str "$" 0),("BEGINS",.str "<" 0),("ENDS",.str ">" 0),("INHERITS",.str "@" 0),("COMMENT_FENCE",.str "!" 0),("STRING_FENCE",.str "|" 0),("KINDS",.str " w_.()'\"\\/$<>@!|" 0),("FLAGS",.str "1234bcnp" 0),("Syntax",.ref 144),("sorted_flags",.ref 153)]:List (Str × Value)) ++
 ([("read_syntax",.ref 158),("SyntaxTable",.ref 225),("letters",.ref 236),("standard_table",.ref 243),("lisp_table",.ref 250),("Mark",.ref 267),("syntax_at",.ref 278),("pair_style",.ref 285),("begin_mark",.ref 292),("end_mark",.ref 299),("fits",.ref 306),("is_quoted",.ref 313)]:List (Str × Value)) ++
 ([("Walk",.ref 449),("begins_expression",.ref 460),("parse_partial",.ref 468),("state_at",.ref 475),("comment_end",.ref 482),("spans_to",.ref 489),("ENDS_TOO_SOON",.str "Containing expression ends prematurely" 0),("UNBALANCED",.str "Unbalanced parentheses" 0),("Scan",.ref 541),("string_end",.ref 552),("word_end",.ref 559),("step_forward",.ref 566)]:List (Str × Value)) ++
 ([("take_kind",.ref 573),("forward_one",.ref 580),("string_begin",.ref 587),("word_begin",.ref 594),("step_backward",.ref 601),("backward_one",.ref 608),("scan_by",.ref 615),("scan_lists",.ref 622),("scan_sexps",.ref 629),("backward_prefix",.ref 636),("edge",.ref 643),("forward_sexp",.ref 650)]:List (Str × Value)) ++
 ([("forward_list",.ref 657),("by_turns",.ref 664),("up_list",.ref 671),("down_list",.ref 678),("matching",.ref 685),("TextRow",.ref 724),("_law_deck",.ref 733),("_law_draw",.ref 740),("_law_many",.ref 745),("_law_put",.ref 750),("_law_between",.ref 757),("_law_word",.ref 764)]:List (Str × Value)) ++
 ([("_law_item",.ref 771),("_law_level",.ref 778),("_law_told",.ref 785),("_law_lists_right",.ref 792),("_law_level_right",.ref 797),("law",.ref 804)]:List (Str × Value))
noncomputable def ftab:List Nat:=[79,153,158,236,243,250,278,285,292,299,306,313,460,468,475,482,489,552,559,566,573,580,587,594,601,608,615,622,629,636,643,650,657,664,671,678,685,733,740,745,750,757,764,771,778,785,792,797,804]
noncomputable def Hk:List Nat→Nat→Bool
 |[],_=>false
 |x::r,n=>match Nat.beq x n with
  |true=>true
  |false=>Hk r n
noncomputable def fnV:Value→Bool
 |.ref a=>Hk ftab a
 |_=>false
noncomputable def ctab:List (Nat × Nat):=[(68,37),(144,113),(225,173),(267,264),(449,327),(541,503),(724,700),(96,93)]
noncomputable def one (vs:List Value) (k:Value→Prop):Prop:=match vs with
 |[v]=>k v
 |_=>False
noncomputable def cZ (vs:List Value) (k:Bool→Prop):Prop:=match vs with
 |[.bool b]=>k b
 |_=>False
noncomputable def aB:Value→Bool
 |.builtin _=>false
 |_=>true
noncomputable def chars (x:Str):List Value:=x.cps.toList.map fun c=>vs ⟨#[c]⟩
noncomputable def Fo:List Value→Option Int
 |[]=>some 0
 |.int i _::r=>(Fo r).map (i+·)
 |_=>none
noncomputable def allB:List Value→Option Bool
 |[]=>some true
 |.bool b::r=>(allB r).map (b&&·)
 |_=>none
noncomputable def ym:List Value→Option Str
 |[]=>some Str.empty
 |.str s _::r=>(ym r).map (s++·)
 |_=>none
inductive sV (σ:Hp):Bm→Value→Prop
 |l {m:Bm} {a:Addr} {xs:List Value} (hm:Nat.blt m.ctorIdx 4=true) (e:σ a=some (.list xs)):sV σ m (.ref a)
 |g {a:Addr} {m:Nat} {f:Int→Option Value} (e:σ a=some (.dict m f)):sV σ .get (.ref a)
 |j {s:Str}:sV σ .join (.str s 0)
inductive RX (σ:Hp) (k:List Value→Hp→Prop):Bm→Value→List Value→Prop
 |m_append {a:Addr} {v:Value} {xs:List Value} (e:σ a=some (.list xs)) (c:xs.length < big) (h:k [.none] (σ.put a (.list (xs++[v])))):RX σ k .append (.ref a) [v]
 |m_pop {a:Addr} {v:Value} {ys:List Value} (e:σ a=some (.list (ys++[v]))) (h:k [v] (σ.put a (.list ys))):RX σ k .pop (.ref a) []
 |m_pop0 {a:Addr} {v:Value} {ys:List Value} (e:σ a=some (.list (v::ys))) (h:k [v] (σ.put a (.list ys))):RX σ k .pop0 (.ref a) [.int 0 0]
 |m_extend {a b:Addr} {xs ys:List Value} (hne:a≠b) (e:σ a=some (.list xs)) (e2:σ b=some (.list ys)) (c:xs.length+ys.length≤big) (h:k [.none] (σ.put a (.list (xs++ys)))):RX σ k .extend (.ref a) [.ref b]
 |m_get {a:Addr} {m:Nat} {f:Int→Option Value} {i:Int} (e:σ a=some (.dict m f)) (h:k [(f i).getD .none] σ):RX σ k .get (.ref a) [.int i 0,.none]
 |m_join {a:Addr} {xs:List Value} {t:Str} (e:σ a=some (.list xs)) (hc:ym xs=some t) (c:xs.length≤100∧t.length≤100) (h:k [vs t] σ):RX σ k .join (.str Str.empty 0) [.ref a]
noncomputable def itemAt (vs:List Value) (i:Int):Option Value:=if 0≤i then vs[i.toNat]? else none
inductive idxV (σ:Hp) (k:List Value→Hp→Prop):Value→Value→Prop
 |i_list {a:Addr} {xs:List Value} {i:Int} {v:Value} (e:σ a=some (.list xs)) (hi:itemAt xs i=some v) (h:k [v] σ):idxV σ k (.ref a) (.int i 0)
 |i_tup {a:Addr} {xs:List Value} {i:Int} {v:Value} (e:σ a=some (.tup xs)) (hi:itemAt xs i=some v) (h:k [v] σ):idxV σ k (.ref a) (.int i 0)
 |i_dict {a:Addr} {m:Nat} {f:Int→Option Value} {i:Int} {v:Value} (e:σ a=some (.dict m f)) (hi:f i=some v) (h:k [v] σ):idxV σ k (.ref a) (.int i 0)
 |i_str {s:Str} {i:Int} {c:Nat} (h1:0≤i∧s.length≤1000) (hi:s.cps[i.toNat]?=some c) (h:k [vs ⟨#[c]⟩] σ):idxV σ k (.str s 0) (.int i 0)
inductive uY (Z9:Heap) (σ:Hp) (k:List Value→Hp→Prop):Value→Value→Prop
 |u_list {a:Addr} {xs:List Value} {i:Int} (e:σ a=some (.list xs)) (h0:0≤i) (h1:i < 1000000) (h:bf σ (.list (xs.take i.toNat)) fun r σ'=>k [.ref r] σ'):uY Z9 σ k (.ref a) (.int i 0)
 |u_base {a:Addr} {us:List Value} {i:Int} (e:Z9.IsList a (List.toArray us)) (hz:us.length≤big) (h0:0≤i) (h1:i < 1000000) (h:bf σ (.list ((us.map er).take i.toNat)) fun r σ'=>k [.ref r] σ'):uY Z9 σ k (.ref a) (.int i 0)
inductive pX (σ:Hp) (k:List Value→Hp→Prop):Value→Value→Prop
 |u_from_l {a:Addr} {xs:List Value} {i:Int} (e:σ a=some (.list xs)) (h0:0≤i) (h1:i < 1000000) (h:bf σ (.list (xs.drop i.toNat)) fun r σ'=>k [.ref r] σ'):pX σ k (.ref a) (.int i 0)
 |u_from_s {s:Str} {i:Int} (c:0≤i∧i < 1000000∧s.length≤1000) (h:k [vs (StrLaws.sliceText s (some i) none)] σ):pX σ k (.str s 0) (.int i 0)
noncomputable def asT (c:Cell):Option (List Value):=match c with
 |.tup vs=>some vs
 |_=>none
noncomputable def zeO (op:CmpOp) (x y:Value):Option Value:=match op with
 |.GtE=>(Hy x).bind fun i=>(Hy y).bind fun j=>some (.bool (decide (j≤i)))
 |.Eq=>(LC x).bind fun s=>(LC y).bind fun t=>some (.bool (decide (s=t)))
 |.In=>(LC x).bind fun s=>(LC y).bind fun t=>some (.bool (dG s t))
 |.IsNot=>cond (isNone y) (some (.bool (!isNone x))) none
 |_=>none
noncomputable def zgG (x y:Value):Option Value:=(Hy x).bind fun i=>(Hy y).bind fun j=>if j=0 then none else some (vi (Int.fmod i j))
noncomputable def zgm (s:Str):Option Value:=match s.cps.toList with
 |[c]=>some (vi c)
 |_=>none
noncomputable def zfj (b:Bf) (x:Value):Option Value:=match b with
 |.abs=>(Hy x).bind fun i=>some (vi i.natAbs)
 |.ord=>(LC x).bind zgm
 |_=>none
noncomputable def zgl (σ:Hp) (x y:Value):Option Value:=(asR x).bind fun t=>(Hy y).bind fun j=>(σ t).bind fun c=>(asT c).bind fun vs=>itemAt vs j
noncomputable def Yh (e:E):E:=match e with
 |.cons a _=>a
 |_=>.nil
noncomputable def pv (σ:Hp) (v:Value):E→Option Value
 |.loc i=>cond (Nat.beq i 0) (some v) none
 |.cst c=>some c
 |.gv _ c=>some c
 |.pow a b=>some (vi ((a ^ b:Nat):Int))
 |.bin op a b=>cond (Nat.beq op.ctorIdx 5) ((pv σ v a).bind fun x=>(pv σ v b).bind fun y=>zgG x y) none
 |.blt b args=>(match args with
  |.cons a r=>cond (Nat.beq (wU r) 0) ((pv σ v a).bind (zfj b)) none
  |_=>none)
 |.cmp op a b=>(pv σ v a).bind fun x=>(pv σ v b).bind fun y=>zeO op x y
 |.bor a b=>(pv σ v a).bind fun x=>(asB x).bind fun c=>cond c (some (.bool true)) ((pv σ v b).bind fun y=>(asB y).map .bool)
 |.idx a i=>(pv σ v a).bind fun x=>(pv σ v i).bind fun y=>zgl σ x y
 |_=>none
noncomputable def uP (e:E):Bool:=Nat.beq (wU e) 8
noncomputable def ji (σ:Hp) (c:E) (v:Value):Option Bool:=cond (uP c) ((pv σ v c).bind asB) (some true)
noncomputable def dm (σ:Hp) (elt cond:E):List Value→Option (List Value)
 |[]=>some []
 |v::r=>(ji σ cond v).bind fun b=>bif b then (pv σ v elt).bind fun y=>(dm σ elt cond r).map (y::·) else dm σ elt cond r
inductive tG (σ:Hp) (elt cond:E) (k:List Value→Hp→Prop):Value→Prop
 |g_comp_l {a:Addr} {xs out:List Value} (e:σ a=some (.list xs)) (hc:dm σ elt cond xs=some out) (h:bf σ (.list out) fun a σ=>k [.ref a] σ):tG σ elt cond k (.ref a)
 |g_comp_s {s:Str} {out:List Value} (c:s.length≤1000) (hc:dm σ elt cond (chars s)=some out) (h:bf σ (.list out) fun a σ=>k [.ref a] σ):tG σ elt cond k (.str s 0)
inductive nQ (Z9:Heap) (σ:Hp) (k:List Value→Hp→Prop):Bf→List Value→Prop
 |f_len_l {a:Addr} {xs:List Value} (e:σ a=some (.list xs)) (h:k [vi xs.length] σ):nQ Z9 σ k .len [.ref a]
 |f_len_t {a:Addr} {xs:List Value} (e:σ a=some (.tup xs)) (h:k [vi xs.length] σ):nQ Z9 σ k .len [.ref a]
 |f_len_s {s:Str} (c:s.length≤1000) (h:k [vi s.length] σ):nQ Z9 σ k .len [.str s 0]
 |f_list_l {a:Addr} {xs:List Value} (e:σ a=some (.list xs)) (h:bf σ (.list xs) fun r σ'=>k [.ref r] σ'):nQ Z9 σ k .list [.ref a]
 |f_list_t {a:Addr} {xs:List Value} (e:σ a=some (.tup xs)) (h:bf σ (.list xs) fun r σ'=>k [.ref r] σ'):nQ Z9 σ k .list [.ref a]
 |f_list_b {a:Addr} {us:List Value} {m:Nat} (e:IsT Z9 a (List.toArray us) m) (hz:us.length≤big) (h:bf σ (.list (us.map er)) fun r σ'=>k [.ref r] σ'):nQ Z9 σ k .list [.ref a]
 |f_tuple {a:Addr} {xs:List Value} (e:σ a=some (.list xs)) (h:bf σ (.tup xs) fun r σ'=>k [.ref r] σ'):nQ Z9 σ k .tuple [.ref a]
 |f_min {i j:Int} (h:k [vi (if j < i then j else i)] σ):nQ Z9 σ k .min [.int i 0,.int j 0]
 |f_abs {i:Int} (h:k [vi i.natAbs] σ):nQ Z9 σ k .abs [.int i 0]
 |f_sum {a:Addr} {xs:List Value} {m:Int} (e:σ a=some (.list xs)) (hs:Fo xs=some m) (h:k [vi m] σ):nQ Z9 σ k .sum [.ref a]
 |f_ord {c:Nat} (h:k [vi c] σ):nQ Z9 σ k .ord [.str ⟨#[c]⟩ 0]
 |f_all {a:Addr} {xs:List Value} {b:Bool} (e:σ a=some (.list xs)) (hs:allB xs=some b) (h:k [.bool b] σ):nQ Z9 σ k .all [.ref a]
inductive GX (σ:Hp) (f:Nat) (k:List Value→Hp→Prop):Value→Prop
 |g_fld {a C:Addr} {fs:List (Nat × Value)} {v:Value} (e:σ a=some (.inst C fs)) (hm:iI rG C f=none) (hv:cz fs f=some v) (h:k [v] σ):GX σ f k (.ref a)
noncomputable def Qd (σ:Hp) (k:List Value→Hp→Prop) (x:Value):Prop:=match Hy x with
 |some i=>k [vi (-i)] σ
 |none=>False
inductive RT (σ:Hp) (m:Nat) (X:Addr→Addr→Prop):Value→Prop
 |mk {a C f:Addr} {fs:List (Nat × Value)} (e:σ a=some (.inst C fs)) (hm:iI rG C m=some f) (hl:cz fs m=none) (h:X a f):RT σ m X (.ref a)
section
variable (w:World) (Z9:Heap) (os:OsState) (n:Nat) (R:Value→Hp→Prop)
noncomputable def ev (ρ:Loc):E→Hp→(List Value→Hp→Prop)→Prop
 |.nil,σ,k=>k [] σ
 |.cons a b,σ,k=>ev ρ a σ fun xs σ=>one xs fun x=>ev ρ b σ fun ys σ=>k (x::ys) σ
 |.loc i,σ,k=>(match lk ρ i with
  |some v=>k [v] σ
  |none=>False)
 |.cst v,σ,k=>k [v] σ
 |.gv _ v,σ,k=>k [v] σ
 |.fld e f,σ,k=>ev ρ e σ fun xs σ=>one xs fun x=>GX σ f k x
 |.bin op a b,σ,k=>ev ρ a σ fun xs σ=>one xs fun x=>ev ρ b σ fun ys σ=>one ys fun y=>qp σ k op x y
 |.pow a b,σ,k=>k [vi ((a ^ b:Nat):Int)] σ
 |.cmp op a b,σ,k=>ev ρ a σ fun xs σ=>one xs fun x=>ev ρ b σ fun ys σ=>one ys fun y=>fQ σ (fun c=>k [.bool c] σ) op x y
 |.btw a b c,σ,k=>ev ρ a σ fun xs σ=>one xs fun x=>ev ρ b σ fun ys σ=>one ys fun y=>fQ σ (fun q=>dR q (ev ρ c σ fun zs σ=>one zs fun z=>fQ σ (fun q=>k [.bool q] σ) .Lt y z) (k [.bool false] σ)) .LtE x y
 |.band a b,σ,k=>ev ρ a σ fun xs σ=>cZ xs fun x=>dR x (ev ρ b σ fun ys σ=>cZ ys fun y=>k [.bool y] σ) (k [.bool false] σ)
 |.bor a b,σ,k=>ev ρ a σ fun xs σ=>cZ xs fun x=>dR x (k [.bool true] σ) (ev ρ b σ fun ys σ=>cZ ys fun y=>k [.bool y] σ)
 |.not e,σ,k=>ev ρ e σ fun xs σ=>cZ xs fun x=>k [.bool (!x)] σ
 |.neg e,σ,k=>ev ρ e σ fun xs σ=>one xs fun x=>Qd σ k x
 |.ite t a b,σ,k=>ev ρ t σ fun xs σ=>cZ xs fun x=>dR x (ev ρ a σ k) (ev ρ b σ k)
 |.call f args,σ,k=>ev ρ f σ fun fs σ=>one fs fun f=>dR (fnV f) (ev ρ args σ fun xs σ=>CallSem w Z9 os n f xs σ (fun v σ=>k [v] σ) R) False
 |.meth e m args,σ,k=>ev ρ e σ fun xs σ=>one xs fun x=>RT σ m (fun a f=>ev ρ args σ fun ys σ=>CallSem w Z9 os n (.ref f) (.ref a::ys) σ (fun v σ=>k [v] σ) R) x
 |.new _ C I args,σ,k=>ev ρ args σ fun xs σ=>0 < n∧bf σ (.inst C []) fun a σ=>CallSem w Z9 os (n - 1) (.ref I) (.ref a::xs) σ (fun v σ=>v=.none∧k [.ref a] σ) R
 |.blt b args,σ,k=>ev ρ args σ fun xs σ=>nQ Z9 σ k b xs
 |.bm e m args,σ,k=>ev ρ e σ fun xs σ=>one xs fun x=>sV σ m x∧ev ρ args σ fun ys σ=>RX σ k m x ys
 |.idx a i,σ,k=>ev ρ a σ fun xs σ=>one xs fun x=>ev ρ i σ fun ys σ=>one ys fun y=>idxV σ k x y
 |.upto a i,σ,k=>ev ρ a σ fun xs σ=>one xs fun x=>ev ρ i σ fun ys σ=>one ys fun y=>uY Z9 σ k x y
 |.from_ a i,σ,k=>ev ρ a σ fun xs σ=>one xs fun x=>ev ρ i σ fun ys σ=>one ys fun y=>pX σ k x y
 |.lst es,σ,k=>ev ρ es σ fun xs σ=>bf σ (.list xs) fun a σ=>k [.ref a] σ
 |.tup es,σ,k=>ev ρ es σ fun xs σ=>bf σ (.tup xs) fun a σ=>k [.ref a] σ
 |.dct,σ,k=>bf σ (.dict 0 fun _=>none) fun a σ=>k [.ref a] σ
 |.comp elt src cond,σ,k=>ev ρ src σ fun xs σ=>one xs fun x=>tG σ elt cond k x
noncomputable def cA:Loc→List Nat→List Value→Option Loc
 |ρ,[],[]=>some ρ
 |ρ,i::is,v::vs=>cA (dW ρ i v) is vs
 |_,_,_=>none
noncomputable def sW (Inv:Loc→Hp→Prop) (k:Fl→Loc→Hp→Prop):Fl→Loc→Hp→Prop
 |.next,ρ,σ=>Inv ρ σ
 |.brk,ρ,σ=>k .next ρ σ
 |.ret v,ρ,σ=>k (.ret v) ρ σ
inductive wX (x:Value) (f:Nat) (ρ:Loc) (σ:Hp) (k:Fl→Loc→Hp→Prop):Value→Prop
 |g_fasg {a C:Addr} {fs fs':List (Nat × Value)} (e:σ a=some (.inst C fs)) (hm:iI rG C f=none) (hp:aB x=true) (hf:oh fs f x=fs') (h:k .next ρ (σ.put a (.inst C fs'))):wX x f ρ σ k (.ref a)
inductive xH (x:Value) (ρ:Loc) (σ:Hp) (k:Fl→Loc→Hp→Prop):Value→Value→Prop
 |g_iasg_l {a:Addr} {xs:List Value} {j:Int} (e:σ a=some (.list xs)) (c:0≤j∧j.toNat < xs.length) (h:k .next ρ (σ.put a (.list (xs.set j.toNat x)))):xH x ρ σ k (.ref a) (.int j 0)
 |g_iasg_d {a:Addr} {m:Nat} {f:Int→Option Value} {j:Int} (e:σ a=some (.dict m f)) (c:m < big) (h:k .next ρ (σ.put a (.dict (m+1) fun q=>if q=j then some x else f q))):xH x ρ σ k (.ref a) (.int j 0)
noncomputable def BP (is:List Nat) (xs:List Value) (ρ:Loc) (σ:Hp) (k:Fl→Loc→Hp→Prop):Prop:=match cA ρ is xs with
 |some ρ=>k .next ρ σ
 |none=>False
inductive Gl (is:List Nat) (ρ:Loc) (σ:Hp) (k:Fl→Loc→Hp→Prop):Value→Prop
 |g_unp_t {a:Addr} {xs:List Value} {ρ':Loc} (e:σ a=some (.tup xs)) (es:cA ρ is xs=some ρ') (h:k .next ρ' σ):Gl is ρ σ k (.ref a)
 |g_unp_s {s:Str} {ρ':Loc} (hc:s.cps.all (· < 128)=true) (es:cA ρ is (chars s)=some ρ') (h:k .next ρ' σ):Gl is ρ σ k (.str s 0)
inductive Bh (X:Loc→Hp→(Fl→Loc→Hp→Prop)→Prop) (i:Nat) (ρ:Loc) (σ:Hp) (k:Fl→Loc→Hp→Prop):Value→Prop
 |g_forR {top:Int} (I:Nat→Loc→Hp→Prop) (ht:0≤top∧top < 1000000) (h0:I 0 ρ σ) (h1:∀ ρ σ,I top.toNat ρ σ→k .next ρ σ) (h:∀ m ρ σ,m < top.toNat→I m ρ σ→X (dW ρ i (vi m)) σ (sW (I (m+1)) k)):Bh X i ρ σ k (.int top 0)
inductive xn (X:Loc→Hp→(Fl→Loc→Hp→Prop)→Prop) (i:Nat) (ρ:Loc) (σ:Hp) (k:Fl→Loc→Hp→Prop):Value→Prop
 |g_forL_l {a:Addr} {xs:List Value} (I:Nat→Loc→Hp→Prop) (e:σ a=some (.list xs)) (h0:I 0 ρ σ) (hok:∀ m ρ σ,I m ρ σ→σ a=some (.list xs)) (h1:∀ ρ σ,I xs.length ρ σ→k .next ρ σ)
  (h:∀ m v ρ σ,xs[m]?=some v→I m ρ σ→X (dW ρ i v) σ (sW (I (m+1)) k)):xn X i ρ σ k (.ref a)
 |g_forL_s {s:Str} (I:Nat→Loc→Hp→Prop) (hc:s.cps.all (· < 128)=true) (h0:I 0 ρ σ) (h1:∀ ρ σ,I (chars s).length ρ σ→k .next ρ σ)
  (h:∀ m v ρ σ,(chars s)[m]?=some v→I m ρ σ→X (dW ρ i v) σ (sW (I (m+1)) k)):xn X i ρ σ k (.str s 0)
inductive Bb (X:Loc→Hp→(Fl→Loc→Hp→Prop)→Prop) (is:List Nat) (ρ:Loc) (σ:Hp) (k:Fl→Loc→Hp→Prop):Value→Prop
 |g_forU {a:Addr} {xs:List Value} (I:Nat→Loc→Hp→Prop) (e:σ a=some (.tup xs)) (h0:I 0 ρ σ) (hok:∀ m ρ σ,I m ρ σ→σ a=some (.tup xs)) (h1:∀ ρ σ,I xs.length ρ σ→k .next ρ σ)
  (h:∀ m v ρ σ,xs[m]?=some v→I m ρ σ→∃ t us ρ',v=.ref t∧σ t=some (.tup us)∧cA ρ is us=some ρ'∧X ρ' σ (sW (I (m+1)) k)):Bb X is ρ σ k (.ref a)
inductive u5 (R:Value→Hp→Prop) (σ:Hp):List Value→Prop
 |g_raise {x y:Value} (hp:aB x=true) (h:R x σ):u5 R σ [x,y]
noncomputable def ex:S→Loc→Hp→(Fl→Loc→Hp→Prop)→Prop
 |.nil,ρ,σ,k=>k .next ρ σ
 |.seq a b,ρ,σ,k=>ex a ρ σ fun f ρ σ=>(match f with
  |.next=>ex b ρ σ k
  |f=>k f ρ σ)
 |.asg i e,ρ,σ,k=>ev w Z9 os n R ρ e σ fun xs σ=>one xs fun x=>k .next (dW ρ i x) σ
 |.fasg o f e,ρ,σ,k=>ev w Z9 os n R ρ e σ fun xs σ=>one xs fun x=>ev w Z9 os n R ρ o σ fun ys σ=>one ys fun y=>wX x f ρ σ k y
 |.iasg o i e,ρ,σ,k=>ev w Z9 os n R ρ e σ fun xs σ=>one xs fun x=>ev w Z9 os n R ρ o σ fun ys σ=>one ys fun y=>ev w Z9 os n R ρ i σ fun zs σ=>one zs fun z=>xH x ρ σ k y z
 |.unpT is es,ρ,σ,k=>ev w Z9 os n R ρ es σ fun xs σ=>BP is xs ρ σ k
 |.unp is e,ρ,σ,k=>ev w Z9 os n R ρ e σ fun xs σ=>one xs fun x=>Gl is ρ σ k x
 |.ite t a b,ρ,σ,k=>ev w Z9 os n R ρ t σ fun xs σ=>cZ xs fun x=>dR x (ex a ρ σ k) (ex b ρ σ k)
 |.whl t b,ρ,σ,k=>∃ I:Nat→Loc→Hp→Prop,(∃ m,I m ρ σ)∧∀ m ρ σ,I m ρ σ →
   ev w Z9 os n R ρ t σ fun xs σ=>cZ xs fun x=>dR x (ex b ρ σ fun f ρ σ=>(match f with
    |.next=>∃ m',m' < m∧I m' ρ σ
    |.brk=>k .next ρ σ
    |.ret v=>k (.ret v) ρ σ)) (k .next ρ σ)
 |.forR i e b,ρ,σ,k=>ev w Z9 os n R ρ e σ fun xs σ=>one xs fun x=>Bh (fun ρ σ k=>ex b ρ σ k) i ρ σ k x
 |.forL i e b,ρ,σ,k=>ev w Z9 os n R ρ e σ fun xs σ=>one xs fun x=>xn (fun ρ σ k=>ex b ρ σ k) i ρ σ k x
 |.forU is e b,ρ,σ,k=>ev w Z9 os n R ρ e σ fun xs σ=>one xs fun x=>Bb (fun ρ σ k=>ex b ρ σ k) is ρ σ k x
 |.ret e,ρ,σ,k=>ev w Z9 os n R ρ e σ fun xs σ=>one xs fun x=>k (.ret x) ρ σ
 |.exp e,ρ,σ,k=>ev w Z9 os n R ρ e σ fun _ σ=>k .next ρ σ
 |.brk,ρ,σ,k=>k .brk ρ σ
 |.raise_ es,ρ,σ,k=>ev w Z9 os n R ρ es σ fun xs σ=>u5 R σ xs
 |.told e,ρ,σ,k=>ev w Z9 os n (fun sym σ=>k (.ret sym) ρ σ) ρ e σ fun xs σ=>one xs fun x=>k (.ret x) ρ σ
end
open RX idxV uY pX tG nQ GX wX xH Gl Bh xn Bb u5
set_option genCtorIdx false in
inductive Tgt where
 |one (x:Expr)
 |many (xs:List Expr)
theorem noV {a b:Value} {P:Prop} (h:a=b) (n:Nat.beq a.ctorIdx b.ctorIdx=false):P:=by
 subst h
 exact(Bool.false_ne_true (n.symm.trans (Nat.beq_refl _))).elim
noncomputable def cV:Const→Option Value
 |.none=>some .none
 |.bool b=>some (.bool b)
 |.int i=>some (.int i 0)
 |.str s=>some (.str s 0)
 |_=>none
noncomputable def yC (c:Const) (v:Value):Bool:=cV c == some v
@[elab_as_elim] theorem xr {C:Const→Value→Prop} {d:Const} {u:Value} (h:yC d u=true) (h1:C .none .none) (h2:∀ b,C (.bool b) (.bool b)) (h3:∀ i,C (.int i) (.int i 0)) (h4:∀ s,C (.str s) (.str s 0)):C d u:=by
 have h:cV d=some u:=eq_of_beq h
 cases d with
 |none=>cases h;exact h1
 |bool b=>cases h;exact h2 b
 |int i=>cases h;exact h3 i
 |str s=>cases h;exact h4 s
 |_=>exact gG h
noncomputable def dz (sc:List (Str × NameKind)) (ns:List Str) (i:Nat) (x:Str):Bool:=ns[i]? == some x&&sc.lookup x == some .local&&!(x == "__debug__")
noncomputable def gP (sc:List (Str × NameKind)) (i:Nat) (x:Str) (v:Value):Bool:=(match gtab[i]? with
 |some (y,u)=>y == x&&u == v
 |none=>false)&&sc.lookup x == some .globalImplicit&&!(x == "__debug__")
noncomputable def gr (sc:List (Str × NameKind)) (x y:Str):Bool:=x == y&&sc.lookup x == some .globalImplicit
noncomputable def jX:Bf→Str
 |.len=>"len"|.list=>"list"|.tuple=>"tuple"|.min=>"min"|.abs=>"abs"|.sum=>"sum"|.ord=>"ord"|.all=>"all"
noncomputable def DP:Bm→Str
 |.append=>"append"|.pop=>"pop"|.pop0=>"pop"|.extend=>"extend"|.get=>"get"|.join=>"join"
noncomputable def binOps:List Operator:=[.Add,.Sub,.Mult,.FloorDiv,.Mod]
noncomputable def bh {α:Type}:List α→Bool
 |[]=>true
 |_=>false
noncomputable def zT (e:E):Bool:=Nat.beq (wU e) 2
@[elab_as_elim] theorem Hl {e:E} {C:E→Prop} (h:zT e=true) (k:∀ j,C (.loc j)):C e:=by
 cases e with
 |loc j=>exact k j
 |_=>exact(Bool.false_ne_true h).elim
noncomputable def gF (scope:Scope) (x:Str):Bool:=scope.names.all (fun y=>y.2 != .free&&y.2 != .cell&&(y.2 != .local||scope.names.lookup y.1 == some .local))&&scope.kind == .function&&scope.names.lookup x == some .local
noncomputable def tW (t:Tgt) (f:Expr→Bool):Bool:=match t with
 |.one x=>f x
 |.many _=>false
noncomputable def onM (t:Tgt) (f:List Expr→Bool):Bool:=match t with
 |.many x=>f x
 |.one _=>false
noncomputable def bV {α:Type} (x:List α) (f:α→List α→Bool):Bool:=match x with
 |y::r=>f y r
 |[]=>false
@[elab_as_elim] theorem aZ {α:Type} {x:List α} {f} {C:List α→Prop} (h:bV x f=true) (k:∀ y r,f y r=true→C (y::r)):C x:=by
 cases x with
 |cons y r=>exact k y r h
 |nil=>exact(Bool.false_ne_true h).elim
@[elab_as_elim] theorem aK {α:Type} {x:List α} {C:List α→Prop} (h:bh x=true) (k:C []):C x:=by
 cases x with
 |cons y r=>exact(Bool.false_ne_true h).elim
 |nil=>exact k
noncomputable def Yz {α:Type} (x:Option α) (f:α→Bool):Bool:=match x with
 |some y=>f y
 |none=>false
@[elab_as_elim] theorem uZ {α:Type} {x:Option α} {f} {C:Option α→Prop} (h:Yz x f=true) (k:∀ y,f y=true→C (some y)):C x:=by
 cases x with
 |some y=>exact k y h
 |none=>exact(Bool.false_ne_true h).elim
noncomputable def Ls {α:Type} (x:Option α):Bool:=match x with
 |some _=>false
 |none=>true
@[elab_as_elim] theorem vU {α:Type} {x:Option α} {C:Option α→Prop} (h:Ls x=true) (k:C none):C x:=by
 cases x with
 |some y=>exact(Bool.false_ne_true h).elim
 |none=>exact k
noncomputable def Pg (c:Const) (f:Int→Bool):Bool:=match c with
 |.int i=>f i
 |_=>false
@[elab_as_elim] theorem HH {x:Const} {f} {C:Const→Prop} (h:Pg x f=true) (k:∀ i,f i=true→C (.int i)):C x:=by
 cases x with
 |int i=>exact k i h
 |_=>exact(Bool.false_ne_true h).elim
theorem b2 {a b:Bool} {P:Prop} (h:(a&&b)=true) (k:a=true→b=true→P):P:=by
 cases a with
 |false=>exact(Bool.false_ne_true h).elim
 |true=>exact k rfl h
theorem b3 {a b c:Bool} {P:Prop} (h:(a&&b&&c)=true) (k:a=true→b=true→c=true→P):P:=b2 h fun h z=>b2 h fun x y=>k x y z
theorem b4 {a b c d:Bool} {P:Prop} (h:(a&&b&&c&&d)=true) (k:a=true→b=true→c=true→d=true→P):P:=b2 h fun h z=>b3 h fun x y u=>k x y u z
theorem b5 {a b c d e:Bool} {P:Prop} (h:(a&&b&&c&&d&&e)=true) (k:a=true→b=true→c=true→d=true→e=true→P):P:=b2 h fun h z=>b4 h fun x y u v=>k x y u v z
theorem b6 {a b c d e f:Bool} {P:Prop} (h:(a&&b&&c&&d&&e&&f)=true) (k:a=true→b=true→c=true→d=true→e=true→f=true→P):P:=b2 h fun h z=>b5 h fun x y u v w=>k x y u v w z
theorem b7 {a b c d e f g:Bool} {P:Prop} (h:(a&&b&&c&&d&&e&&f&&g)=true) (k:a=true→b=true→c=true→d=true→e=true→f=true→g=true→P):P:=b2 h fun h z=>b6 h fun x y u v w t=>k x y u v w t z
noncomputable def QG (e:E):Bool:=Nat.beq (wU e) 4||Nat.beq (wU e) 2
noncomputable def sZ (x:Expr):Bool:=!Nat.beq x.ctorIdx 26
noncomputable def FP (x:Expr):Bool:=Nat.beq x.ctorIdx 23||Nat.beq x.ctorIdx 21
noncomputable def Hg (b:Bool) (f:Expr→Bool):List Expr→Bool
 |[]=>!b
 |[c]=>b&&f c
 |_=>false
theorem Lw {q:Bool} (h:(!q)=true):q=false:=by cases q with
 |false=>rfl
 |true=>exact(Bool.false_ne_true h).elim
theorem H3 {sc ns i x} (h:dz sc ns i x=true):ns[i]?=some x∧sc.lookup x=some .local∧(x == "__debug__")=false:=b3 h fun a b c=>⟨eq_of_beq a,eq_of_beq b,Lw c⟩
theorem v9 {sc i x v} (h:gP sc i x v=true):(x,v)∈gtab∧sc.lookup x=some .globalImplicit∧(x == "__debug__")=false:=b3 h fun a b c=>⟨by
 generalize q:gtab[i]?=o at a
 cases o with
 |none=>exact(Bool.false_ne_true a).elim
 |some z=>exact b2 a fun u t=>by obtain⟨z1,z2⟩:=z;have e1:z1=x:=eq_of_beq u;have e2:z2=v:=eq_of_beq t;subst e1 e2;exact List.mem_of_getElem? q,eq_of_beq b,Lw c⟩
theorem J7 {sc x y} (h:gr sc x y=true):x=y∧sc.lookup x=some .globalImplicit:=b2 h fun a b=>⟨eq_of_beq a,eq_of_beq b⟩
theorem dh {c:Prop} [Decidable c] {f:c→Bool} {P:Prop} (h:(if h:c then f h else false)=true) (k:(p:c)→f p=true→P):P:=by
 by_cases p:c
 ·exact k p ((dif_pos p).symm.trans h)
 ·exact(Bool.false_ne_true ((dif_neg p).symm.trans h)).elim
noncomputable def dD (x:Expr) (f:Str→Pos→Bool):Bool:=if h:x.ctorIdx=23 then Expr.Name.elim x h fun y p=>f y p else false
@[elab_as_elim] theorem cg {x:Expr} {f} {C:Expr→Prop} (h:dD x f=true) (k:∀ y p,f y p=true→C (.Name y p)):C x:=dh h fun c h=>Expr.Name.elim (motive_1:=fun x=>(c:x.ctorIdx=23)→Expr.Name.elim x c (fun y p=>f y p)=true→C x) x c (fun y p _=>k y p) c h
noncomputable def uy (x:Expr) (f:Const→Bool):Bool:=if h:x.ctorIdx=19 then Expr.Constant.elim x h fun c _ _=>f c else false
@[elab_as_elim] theorem rY {x:Expr} {f} {C:Expr→Prop} (h:uy x f=true) (k:∀ c m p,f c=true→C (.Constant c m p)):C x:=dh h fun c h=>Expr.Constant.elim (motive_1:=fun x=>(c:x.ctorIdx=19)→Expr.Constant.elim x c (fun c _ _=>f c)=true→C x) x c (fun c m p _=>k c m p) c h
noncomputable def qY (x:Expr) (f:Expr→Str→Pos→Bool):Bool:=if h:x.ctorIdx=20 then Expr.Attribute.elim x h fun o y p=>f o y p else false
@[elab_as_elim] theorem nq {x:Expr} {f} {C:Expr→Prop} (h:qY x f=true) (k:∀ o y p,f o y p=true→C (.Attribute o y p)):C x:=dh h fun c h=>Expr.Attribute.elim (motive_1:=fun x=>(c:x.ctorIdx=20)→Expr.Attribute.elim x c (fun o y p=>f o y p)=true→C x) x c (fun o y p _=>k o y p) c h
noncomputable def MT (x:Expr) (f:Expr→Operator→Expr→Bool):Bool:=if h:x.ctorIdx=2 then Expr.BinOp.elim x h fun l o r _=>f l o r else false
@[elab_as_elim] theorem Il {x:Expr} {f} {C:Expr→Prop} (h:MT x f=true) (k:∀ l o r p,f l o r=true→C (.BinOp l o r p)):C x:=dh h fun c h=>Expr.BinOp.elim (motive_1:=fun x=>(c:x.ctorIdx=2)→Expr.BinOp.elim x c (fun l o r _=>f l o r)=true→C x) x c (fun l o r p _=>k l o r p) c h
noncomputable def Ol (x:Expr) (f:Expr→List CmpOp→List Expr→Bool):Bool:=if h:x.ctorIdx=15 then Expr.Compare.elim x h fun l o r _=>f l o r else false
@[elab_as_elim] theorem HX {x:Expr} {f} {C:Expr→Prop} (h:Ol x f=true) (k:∀ l o r p,f l o r=true→C (.Compare l o r p)):C x:=dh h fun c h=>Expr.Compare.elim (motive_1:=fun x=>(c:x.ctorIdx=15)→Expr.Compare.elim x c (fun l o r _=>f l o r)=true→C x) x c (fun l o r p _=>k l o r p) c h
noncomputable def Gf (x:Expr) (f:BoolOp→List Expr→Pos→Bool):Bool:=if h:x.ctorIdx=0 then Expr.BoolOp.elim x h fun o v p=>f o v p else false
@[elab_as_elim] theorem Bu {x:Expr} {f} {C:Expr→Prop} (h:Gf x f=true) (k:∀ o v p,f o v p=true→C (.BoolOp o v p)):C x:=dh h fun c h=>Expr.BoolOp.elim (motive_1:=fun x=>(c:x.ctorIdx=0)→Expr.BoolOp.elim x c (fun o v p=>f o v p)=true→C x) x c (fun o v p _=>k o v p) c h
noncomputable def zaZ (x:Expr) (f:UnaryOp→Expr→Bool):Bool:=if h:x.ctorIdx=3 then Expr.UnaryOp.elim x h fun o y _=>f o y else false
@[elab_as_elim] theorem Ng {x:Expr} {f} {C:Expr→Prop} (h:zaZ x f=true) (k:∀ o y p,f o y=true→C (.UnaryOp o y p)):C x:=dh h fun c h=>Expr.UnaryOp.elim (motive_1:=fun x=>(c:x.ctorIdx=3)→Expr.UnaryOp.elim x c (fun o y _=>f o y)=true→C x) x c (fun o y p _=>k o y p) c h
noncomputable def zei (x:Expr) (f:Expr→Expr→Expr→Bool):Bool:=if h:x.ctorIdx=5 then Expr.IfExp.elim x h fun y z u _=>f y z u else false
@[elab_as_elim] theorem zcO {x:Expr} {f} {C:Expr→Prop} (h:zei x f=true) (k:∀ y z u p,f y z u=true→C (.IfExp y z u p)):C x:=dh h fun c h=>Expr.IfExp.elim (motive_1:=fun x=>(c:x.ctorIdx=5)→Expr.IfExp.elim x c (fun y z u _=>f y z u)=true→C x) x c (fun y z u p _=>k y z u p) c h
noncomputable def jZ (x:Expr) (f:Expr→List Expr→List Keyword→Pos→Bool):Bool:=if h:x.ctorIdx=16 then Expr.Call.elim x h fun g a k1 p=>f g a k1 p else false
@[elab_as_elim] theorem gU {x:Expr} {f} {C:Expr→Prop} (h:jZ x f=true) (k:∀ g a k1 p,f g a k1 p=true→C (.Call g a k1 p)):C x:=dh h fun c h=>Expr.Call.elim (motive_1:=fun x=>(c:x.ctorIdx=16)→Expr.Call.elim x c (fun g a k1 p=>f g a k1 p)=true→C x) x c (fun g a k1 p _=>k g a k1 p) c h
noncomputable def Cw (x:Expr) (f:Expr→Expr→Bool):Bool:=if h:x.ctorIdx=21 then Expr.Subscript.elim x h fun v t _=>f v t else false
@[elab_as_elim] theorem ug {x:Expr} {f} {C:Expr→Prop} (h:Cw x f=true) (k:∀ v t p,f v t=true→C (.Subscript v t p)):C x:=dh h fun c h=>Expr.Subscript.elim (motive_1:=fun x=>(c:x.ctorIdx=21)→Expr.Subscript.elim x c (fun v t _=>f v t)=true→C x) x c (fun v t p _=>k v t p) c h
noncomputable def zcZ (x:Expr) (f:Option Expr→Option Expr→Option Expr→Bool):Bool:=if h:x.ctorIdx=26 then Expr.Slice.elim x h fun a b c _=>f a b c else false
@[elab_as_elim] theorem Nx {x:Expr} {f} {C:Expr→Prop} (h:zcZ x f=true) (k:∀ a b c p,f a b c=true→C (.Slice a b c p)):C x:=dh h fun c h=>Expr.Slice.elim (motive_1:=fun x=>(c:x.ctorIdx=26)→Expr.Slice.elim x c (fun a b c _=>f a b c)=true→C x) x c (fun a b c p _=>k a b c p) c h
noncomputable def Qf (x:Expr) (f:List Expr→Bool):Bool:=if h:x.ctorIdx=24 then Expr.List.elim x h fun a _=>f a else false
@[elab_as_elim] theorem Od {x:Expr} {f} {C:Expr→Prop} (h:Qf x f=true) (k:∀ a p,f a=true→C (.List a p)):C x:=dh h fun c h=>Expr.List.elim (motive_1:=fun x=>(c:x.ctorIdx=24)→Expr.List.elim x c (fun a _=>f a)=true→C x) x c (fun a p _=>k a p) c h
noncomputable def xN (x:Expr) (f:List Expr→Bool):Bool:=if h:x.ctorIdx=25 then Expr.Tuple.elim x h fun a _ _=>f a else false
@[elab_as_elim] theorem qQ {x:Expr} {f} {C:Expr→Prop} (h:xN x f=true) (k:∀ a k1 p,f a=true→C (.Tuple a k1 p)):C x:=dh h fun c h=>Expr.Tuple.elim (motive_1:=fun x=>(c:x.ctorIdx=25)→Expr.Tuple.elim x c (fun a _ _=>f a)=true→C x) x c (fun a k1 p _=>k a k1 p) c h
noncomputable def Rt (x:Expr) (f:List (Option Expr)→List Expr→Bool):Bool:=if h:x.ctorIdx=6 then Expr.Dict.elim x h fun a b _=>f a b else false
@[elab_as_elim] theorem Ml {x:Expr} {f} {C:Expr→Prop} (h:Rt x f=true) (k:∀ a b p,f a b=true→C (.Dict a b p)):C x:=dh h fun c h=>Expr.Dict.elim (motive_1:=fun x=>(c:x.ctorIdx=6)→Expr.Dict.elim x c (fun a b _=>f a b)=true→C x) x c (fun a b p _=>k a b p) c h
noncomputable def QC (x:Expr) (f:Expr→List Comprehension→Scope→Bool):Bool:=if h:x.ctorIdx=8 then Expr.ListComp.elim x h fun a b c _=>f a b c else false
@[elab_as_elim] theorem Rm {x:Expr} {f} {C:Expr→Prop} (h:QC x f=true) (k:∀ a b c p,f a b c=true→C (.ListComp a b c p)):C x:=dh h fun c h=>Expr.ListComp.elim (motive_1:=fun x=>(c:x.ctorIdx=8)→Expr.ListComp.elim x c (fun a b c _=>f a b c)=true→C x) x c (fun a b c p _=>k a b c p) c h
noncomputable def fP (x:Expr):Bool:=!jZ x fun g a k _=>bh a&&bh k&&Nat.beq g.ctorIdx 23
noncomputable def aL (sc:List (Str × NameKind)) (ns:List Str):E→Tgt→Bool
 |.nil,t=>onM t bh
 |.cons a b,t=>onM t fun v=>bV v fun x r=>aL sc ns a (.one x)&&aL sc ns b (.many r)
 |.loc i,t=>tW t fun x=>dD x fun y _=>dz sc ns i y
 |.cst v,t=>tW t fun x=>uy x fun c=>yC c v
 |.gv i v,t=>tW t fun x=>dD x fun y _=>gP sc i y v
 |.fld e f,t=>tW t fun x=>qY x fun o y _=>decide (f < attrs.length)&&y == bH f&&fP o&&aL sc ns e (.one o)
 |.bin op a b,t=>tW t fun x=>MT x fun l o r=>o == op&&binOps.contains op&&aL sc ns a (.one l)&&aL sc ns b (.one r)
 |.pow a b,t=>tW t fun x=>MT x fun l o r=>o == .Pow&&uy l (fun c=>Pg c fun i=>decide (i=a))&&uy r (fun c=>Pg c fun j=>decide (j=b))&&decide (a=10)&&decide (b=18∨b=90)
 |.cmp op a b,t=>tW t fun x=>Ol x fun l o r=>bV o fun o o'=>bV r fun r r'=>bh o'&&bh r'&&o == op&&!behindInMarks op r&&aL sc ns a (.one l)&&aL sc ns b (.one r)
 |.btw a b c,t=>tW t fun x=>Ol x fun l o r=>o == [.LtE,.Lt]&&bV r fun x r=>bV r fun y r=>bh r&&!lastMarks [.LtE,.Lt] [x,y]&&aL sc ns a (.one l)&&aL sc ns b (.one x)&&aL sc ns c (.one y)
 |.band a b,t=>tW t fun x=>Gf x fun o v p=>o == .And&&bV v fun x r=>bV r fun y r=>aL sc ns a (.one x)&&aL sc ns b (.one (if bh r then y else .BoolOp .And (y::r) p))
 |.bor a b,t=>tW t fun x=>Gf x fun o v p=>o == .Or&&bV v fun x r=>bV r fun y r=>aL sc ns a (.one x)&&aL sc ns b (.one (if bh r then y else .BoolOp .Or (y::r) p))
 |.not e,t=>tW t fun x=>zaZ x fun o y=>o == .Not&&aL sc ns e (.one y)
 |.neg e,t=>tW t fun x=>zaZ x fun o y=>o == .USub&&aL sc ns e (.one y)
 |.ite c a b,t=>tW t fun x=>zei x fun x y z=>aL sc ns c (.one x)&&aL sc ns a (.one y)&&aL sc ns b (.one z)
 |.call f args,t=>tW t fun x=>jZ x fun g a k _=>bh k&&dD g fun y p=>QG f&&aL sc ns f (.one (.Name y p))&&aL sc ns args (.many a)
 |.meth e m args,t=>tW t fun x=>jZ x fun g a k p=>bh k&&qY g fun o y q=>decide (m < attrs.length)&&y == bH m&&fP o&&decide (a.length < 30)&&q.endLine == p.line&&aL sc ns e (.one o)&&aL sc ns args (.many a)
 |.new i C I args,t=>tW t fun x=>jZ x fun g a k _=>bh k&&dD g fun y _=>gP sc i y (.ref C)&&ucls.contains C&&ctab.contains (C,I)&&aL sc ns args (.many a)
 |.blt b args,t=>tW t fun x=>jZ x fun g a k _=>bh k&&dD g fun y _=>gr sc y (jX b)&&!bh a&&aL sc ns args (.many a)
 |.bm e m args,t=>tW t fun x=>jZ x fun g a k p=>bh k&&qY g fun o y q=>y == DP m&&fP o&&decide (a.length < 30)&&q.endLine == p.line&&aL sc ns e (.one o)&&aL sc ns args (.many a)
 |.idx a i,t=>tW t fun x=>Cw x fun v s=>sZ s&&aL sc ns a (.one v)&&aL sc ns i (.one s)
 |.upto a i,t=>tW t fun x=>Cw x fun v s=>zcZ s fun l u p=>Ls l&&Ls p&&Yz u fun u=>zT a&&aL sc ns a (.one v)&&aL sc ns i (.one u)
 |.from_ a i,t=>tW t fun x=>Cw x fun v s=>zcZ s fun l u p=>Ls u&&Ls p&&Yz l fun u=>zT a&&aL sc ns a (.one v)&&aL sc ns i (.one u)
 |.lst es,t=>tW t fun x=>Qf x fun v=>decide (v.length < 1000)&&aL sc ns es (.many v)
 |.tup es,t=>tW t fun x=>xN x fun v=>decide (v.length < 1000)&&aL sc ns es (.many v)
 |.dct,t=>tW t fun x=>Rt x fun k v=>bh k&&bh v
 |.comp elt src cond,t=>tW t fun x=>QC x fun el gs scope=>bV gs fun g r=>bh r&&dD g.target fun y _=>decide (g.is_async=0)&&FP g.iter&&gF scope y&&aL sc ns src (.one g.iter)&&aL scope.names [y] elt (.one el)&&Hg (uP cond) (fun c=>aL scope.names [y] cond (.one c)) g.ifs
section
variable {sc:List (Str × NameKind)} {ns:List Str} {x:Expr} {v:List Expr} {C:Expr→Prop} {D:List Expr→Prop} {a b c:E}
@[elab_as_elim] theorem yo (h:aL sc ns .nil (.many v)=true) (k:D []):D v:=aK h k
@[elab_as_elim] theorem uO (h:aL sc ns (.cons a b) (.many v)=true) (k:∀ y r,aL sc ns a (.one y)=true→aL sc ns b (.many r)=true→D (y::r)):D v:=aZ h fun y r h=>b2 h (k y r)
@[elab_as_elim] theorem ur {i:Nat} (h:aL sc ns (.loc i) (.one x)=true) (k:∀ y p,dz sc ns i y=true→C (.Name y p)):C x:=cg h k
@[elab_as_elim] theorem zb {u:Value} (h:aL sc ns (.cst u) (.one x)=true) (k:∀ d m p,yC d u=true→C (.Constant d m p)):C x:=rY h k
@[elab_as_elim] theorem Es {i:Nat} {u:Value} (h:aL sc ns (.gv i u) (.one x)=true) (k:∀ y p,gP sc i y u=true→C (.Name y p)):C x:=cg h k
@[elab_as_elim] theorem Hw {f:Nat} (h:aL sc ns (.fld a f) (.one x)=true) (k:∀ o p,f < attrs.length→fP o=true→aL sc ns a (.one o)=true→C (.Attribute o (bH f) p)):C x :=
 nq h fun o y p h=>b4 h fun h1 h2 h3 h4=>by cases eq_of_beq h2;exact k o p (of_decide_eq_true h1) h3 h4
@[elab_as_elim] theorem za {op:Operator} (h:aL sc ns (.bin op a b) (.one x)=true) (k:∀ l r p,binOps.contains op=true→aL sc ns a (.one l)=true→aL sc ns b (.one r)=true→C (.BinOp l op r p)):C x :=
 Il h fun l o r p h=>b4 h fun h1 h2 h3 h4=>by cases eq_of_beq h1;exact k l r p h2 h3 h4
@[elab_as_elim] theorem yO {i j:Nat} (h:aL sc ns (.pow i j) (.one x)=true) (k:∀ u p u2 p2 p3,i=10→(j=18∨j=90)→C (.BinOp (.Constant (.int i) u p) .Pow (.Constant (.int j) u2 p2) p3)):C x :=
 Il h fun l o r p3 h=>b5 h fun h1 h2 h3 h4 h5=>by
  cases eq_of_beq h1
  refine rY h2 fun d u p h2=>HH h2 fun i' h2=>rY h3 fun d2 u2 p2 h3=>HH h3 fun j' h3=>?_
  cases of_decide_eq_true h2
  cases of_decide_eq_true h3
  exact k u p u2 p2 p3 (of_decide_eq_true h4) (of_decide_eq_true h5)
@[elab_as_elim] theorem uw {op:CmpOp} (h:aL sc ns (.cmp op a b) (.one x)=true) (k:∀ l r p,behindInMarks op r=false→aL sc ns a (.one l)=true→aL sc ns b (.one r)=true→C (.Compare l [op] [r] p)):C x :=
 HX h fun l o r p h=>aZ h fun o o' h=>aZ h fun r r' h=>b6 h fun h1 h2 h3 h4 h5 h6=>by
  cases eq_of_beq h3
  exact aK h1 (aK h2 (k l r p (Lw h4) h5 h6))
@[elab_as_elim] theorem H8 (h:aL sc ns (.btw a b c) (.one x)=true) (k:∀ l y z p,lastMarks [.LtE,.Lt] [y,z]=false→aL sc ns a (.one l)=true→aL sc ns b (.one y)=true→aL sc ns c (.one z)=true→C (.Compare l [.LtE,.Lt] [y,z] p)):C x :=
 HX h fun l o r p h=>b2 h fun h0 h=>by
  cases eq_of_beq h0
  exact aZ h fun y r h=>aZ h fun z r h=>b5 h fun h1 h2 h3 h4 h5=>aK h1 (k l y z p (Lw h2) h3 h4 h5)
@[elab_as_elim] theorem Bv (h:aL sc ns (.band a b) (.one x)=true) (k:∀ y z r p,aL sc ns a (.one y)=true→aL sc ns b (.one (if bh r then z else .BoolOp .And (z::r) p))=true→C (.BoolOp .And (y::z::r) p)):C x :=
 Bu h fun o v p h=>b2 h fun h0 h=>by
  cases eq_of_beq h0
  exact aZ h fun y r h=>aZ h fun z r h=>b2 h fun h1 h2=>k y z r p h1 h2
@[elab_as_elim] theorem yN (h:aL sc ns (.bor a b) (.one x)=true) (k:∀ y z r p,aL sc ns a (.one y)=true→aL sc ns b (.one (if bh r then z else .BoolOp .Or (z::r) p))=true→C (.BoolOp .Or (y::z::r) p)):C x :=
 Bu h fun o v p h=>b2 h fun h0 h=>by
  cases eq_of_beq h0
  exact aZ h fun y r h=>aZ h fun z r h=>b2 h fun h1 h2=>k y z r p h1 h2
@[elab_as_elim] theorem Im (h:aL sc ns (.not a) (.one x)=true) (k:∀ y p,aL sc ns a (.one y)=true→C (.UnaryOp .Not y p)):C x :=
 Ng h fun o y p h=>b2 h fun h1 h2=>by cases eq_of_beq h1;exact k y p h2
@[elab_as_elim] theorem Iu (h:aL sc ns (.neg a) (.one x)=true) (k:∀ y p,aL sc ns a (.one y)=true→C (.UnaryOp .USub y p)):C x :=
 Ng h fun o y p h=>b2 h fun h1 h2=>by cases eq_of_beq h1;exact k y p h2
@[elab_as_elim] theorem Ir (h:aL sc ns (.ite c a b) (.one x)=true) (k:∀ y z u p,aL sc ns c (.one y)=true→aL sc ns a (.one z)=true→aL sc ns b (.one u)=true→C (.IfExp y z u p)):C x :=
 zcO h fun y z u p h=>b3 h (k y z u p)
@[elab_as_elim] theorem zU (h:aL sc ns (.call a b) (.one x)=true) (k:∀ y p m p2,QG a=true→aL sc ns a (.one (.Name y p))=true→aL sc ns b (.many m)=true→C (.Call (.Name y p) m [] p2)):C x :=
 gU h fun g m k1 p2 h=>b2 h fun h0 h=>aK h0 (cg h fun y p h=>b3 h (k y p m p2))
@[elab_as_elim] theorem Bl {m:Nat} (h:aL sc ns (.meth a m b) (.one x)=true) (k:∀ o q m' p,m < attrs.length→fP o=true→m'.length < 30→q.endLine=p.line→aL sc ns a (.one o)=true→aL sc ns b (.many m')=true→C (.Call (.Attribute o (bH m) q) m' [] p)):C x :=
 gU h fun g m' k1 p h=>b2 h fun h0 h=>aK h0 (nq h fun o y q h=>b7 h fun h1 h2 h3 h4 h5 h6 h7=>by cases eq_of_beq h2;exact k o q m' p (of_decide_eq_true h1) h3 (of_decide_eq_true h4) (eq_of_beq h5) h6 h7)
@[elab_as_elim] theorem Hb {i:Nat} {A I:Addr} (h:aL sc ns (.new i A I b) (.one x)=true) (k:∀ y p m p2,gP sc i y (.ref A)=true→A∈ucls→(A,I)∈ctab→aL sc ns b (.many m)=true→C (.Call (.Name y p) m [] p2)):C x :=
 gU h fun g m k1 p2 h=>b2 h fun h0 h=>aK h0 (cg h fun y p h=>b4 h fun h1 h2 h3 h4=>k y p m p2 h1 (List.contains_iff_mem.mp h2) (List.contains_iff_mem.mp h3) h4)
@[elab_as_elim] theorem yK {f:Bf} (h:aL sc ns (.blt f b) (.one x)=true) (k:∀ y p m p2,gr sc y (jX f)=true→(!bh m)=true→aL sc ns b (.many m)=true→C (.Call (.Name y p) m [] p2)):C x :=
 gU h fun g m k1 p2 h=>b2 h fun h0 h=>aK h0 (cg h fun y p h=>b3 h (k y p m p2))
@[elab_as_elim] theorem QJ {m:Bm} (h:aL sc ns (.bm a m b) (.one x)=true) (k:∀ o q m' p,fP o=true→m'.length < 30→q.endLine=p.line→aL sc ns a (.one o)=true→aL sc ns b (.many m')=true→C (.Call (.Attribute o (DP m) q) m' [] p)):C x :=
 gU h fun g m' k1 p h=>b2 h fun h0 h=>aK h0 (nq h fun o y q h=>b6 h fun h2 h3 h4 h5 h6 h7=>by cases eq_of_beq h2;exact k o q m' p h3 (of_decide_eq_true h4) (eq_of_beq h5) h6 h7)
@[elab_as_elim] theorem yZ (h:aL sc ns (.idx a b) (.one x)=true) (k:∀ y s p,sZ s=true→aL sc ns a (.one y)=true→aL sc ns b (.one s)=true→C (.Subscript y s p)):C x :=
 ug h fun y s p h=>b3 h (k y s p)
@[elab_as_elim] theorem Ah (h:aL sc ns (.upto a b) (.one x)=true) (k:∀ y u p p2,zT a=true→aL sc ns a (.one y)=true→aL sc ns b (.one u)=true→C (.Subscript y (.Slice none (some u) none p) p2)):C x :=
 ug h fun y s p2 h=>Nx h fun l u m p h=>b3 h fun h1 h2 h=>vU h1 (vU h2 (uZ h fun u h=>b3 h (k y u p p2)))
@[elab_as_elim] theorem Ca (h:aL sc ns (.from_ a b) (.one x)=true) (k:∀ y u p p2,zT a=true→aL sc ns a (.one y)=true→aL sc ns b (.one u)=true→C (.Subscript y (.Slice (some u) none none p) p2)):C x :=
 ug h fun y s p2 h=>Nx h fun l u m p h=>b3 h fun h1 h2 h=>vU h1 (vU h2 (uZ h fun u h=>b3 h (k y u p p2)))
@[elab_as_elim] theorem Ih (h:aL sc ns (.lst a) (.one x)=true) (k:∀ m p,m.length < 1000→aL sc ns a (.many m)=true→C (.List m p)):C x :=
 Od h fun m p h=>b2 h fun h1 h2=>k m p (of_decide_eq_true h1) h2
@[elab_as_elim] theorem Hn (h:aL sc ns (.tup a) (.one x)=true) (k:∀ m q p,m.length < 1000→aL sc ns a (.many m)=true→C (.Tuple m q p)):C x :=
 qQ h fun m q p h=>b2 h fun h1 h2=>k m q p (of_decide_eq_true h1) h2
@[elab_as_elim] theorem HY (h:aL sc ns .dct (.one x)=true) (k:∀ p,C (.Dict [] [] p)):C x :=
 Ml h fun m q p h=>b2 h fun h1 h2=>aK h1 (aK h2 (k p))
@[elab_as_elim] theorem vh (h:aL sc ns (.comp a b c) (.one x)=true) (k:∀ el y px it ifs scope p,FP it=true→gF scope y=true→aL sc ns b (.one it)=true→aL scope.names [y] a (.one el)=true →
  Hg (uP c) (fun d=>aL scope.names [y] c (.one d)) ifs=true→C (.ListComp el [⟨.Name y px,it,ifs,0⟩] scope p)):C x :=
 Rm h fun el gs scope p h=>aZ h fun g r h=>b2 h fun h0 h=>aK h0 (by
  obtain⟨tg,it,ifs,asy⟩:=g
  refine cg (x:=tg) h fun y px h=>b6 h fun h1 h2 h3 h4 h5 h6=>?_
  cases of_decide_eq_true h1
  exact k el y px it ifs scope p h2 h3 h4 h5 h6)
end
structure GS (w:World) (Z9:Heap) (os:OsState) (F:Fm) (σ:Hp) (s:Shared):Prop where
 sr:SR Z9 F σ s.heap
 gens:s.gens=#[]
 os:s.os=os
structure EnvOk (sc:List (Str × NameKind)) (env:Env) (L:Addr):Prop where
 kind:env.scope.kind=.function
 names:env.scope.names=sc
 locals:env.locals=L
 globals:env.globals=mainGlobals
 builtins:env.builtins=builtinsNs
 frame:env.frame=some L
theorem EnvOk.kof {sc env L x k} (e:EnvOk sc env L) (h:sc.lookup x=some k):env.kindOf x=some k:=(congrArg (List.lookup x) e.names).trans h
theorem yu {w:World} {env:Env} {x mg v'} {A:Around} {Q:Value→Shared→Prop} {E'} {s:Shared} (e:env.globals=mainGlobals) (hg:s.heap.Ns mainGlobals mg) (h:mg x=some v') (q:Q v' s):wpAny (model PP w) A (loadGlobal env x) Q E' s:=by
 unfold loadGlobal
 rw[e]
 refine wpAny_bind (wpAny_nsGet hg ?_)
 rw[h]
 exact wpAny_pure q
structure LocOk (ns:List Str) (ρ:Loc) (m:Str→Option Value):Prop where
 nodup:ns.Nodup
 has:∀ i v,lk ρ i=some v→∃ x v',ns[i]?=some x∧m x=some v'∧er v'=v
theorem LocOk.get {ns ρ m i v x} (lo:LocOk ns ρ m) (q:lk ρ i=some v) (h:ns[i]?=some x):∃ v',m x=some v'∧er v'=v:=by
 refine aC (fun x' v' a1 a2 a3=>?_) (lo.has i v q)
 exact⟨v',Option.some.inj (a1.symm.trans h)▸a2,a3⟩
structure KF (K:Frag):Prop where
 glob:∀ p∈gtab,∃ v',nsIn K mainGlobals p.1=some (some v')∧er v'=p.2
 noglob:∀ b,nsIn K mainGlobals (jX b)=some none
 norange:nsIn K mainGlobals "range"=some none
 fld:∀ C∈ucls,∀ n,n < attrs.length→iI rG C n=none→plainGet K C (bH n)=true∧hasDictIn K C=true∧findIn K (.ref C) (bH n)=some none∧takerIn K C (bH n)=some none
 meth:∀ C∈ucls,∀ n f,n < attrs.length→iI rG C n=some f→plainGet K C (bH n)=true∧findIn K (.ref C) (bH n)=some (some (.ref f))∧isFn K (.ref f)=true∧keepIn K (.ref f)=true
 cls:∀ p∈ctab,p.1∈ucls→makesIn K p.1=true∧findIn K (.ref p.1) "__init__"=some (some (.ref p.2))∧isFn K (.ref p.2)=true∧keepIn K (.ref p.1)=true
 set:∀ C∈ucls,findIn K (.ref C) "__setattr__"=some (some (.builtin "object.__setattr__"))∧plainOver K C=true
 fn:∀ a∈ftab,keepIn K (.ref a)=true
 inj:∀ k m,k < attrs.length→m < attrs.length→bH k=bH m→k=m
inductive Ys (K:Frag) (a:Addr) (sc:List (Str × NameKind)) (ps:List Str) (dv:List Value) (body:List Stmt):Prop
 |mk (o:Obj) (fd:FuncData) (f1:K.lookup a=some o) (f2:o.data=.func fd) (hc:∃ c oc vs t,fd.code=.ref c∧K.lookup c=some oc∧oc.data=.fields vs∧vs[1]?=some (.str fd.qualname t)) (f3:fd.body=.stmts body) (f4:fd.scope.names=sc)
  (f5:fd.scope.kind=.function) (f6:fd.scope.isGenerator=false) (f7:fd.scope.isCoroutine=false) (f8:fd.globals=mainGlobals) (f9:fd.builtins=builtinsNs)
  (bind:∀ vals:List Value,vals.length+dv.length=ps.length→∀ S,peek K S (bindArgs fd ⟨vals,[]⟩)=some (ps.zip (vals++dv))):Ys K a sc ps dv body
structure Vd (K:Frag) (a:Addr) (sc:List (Str × NameKind)) (ps:List Str) (dv:List Value) (body:List Stmt):Prop where
 obj:Ys K a sc ps dv body
 plain:∀ x∈sc,x.2≠.cell
 loc:∀ x∈ps,sc.lookup x=some .local
noncomputable abbrev O9:List Value:=[.type "Exception",.type "BaseException",.type "object"]
inductive zfy (K:Frag):Prop
 |mk (nm q N bs sn sub ab col dd k0 k1 k2 k3 k5:_) (mN:Str→Option Value) (c1:K.lookup dY=some (excClassObj nm q dY N bs O9 true sn sub ab col dd k0 k1 k2 k3 k5 "Exception.__new__")) (c2:∀ h:Heap,K.In h→h.Ns N mN)
  (c3:mN "__init__"=some (.ref 93)) (c4:mN "__setattr__"=none) (c5:mN "symbol"=none) (c6:mN "data"=none):zfy K
structure XK (K:Frag):Prop where
 cls:zfy K
 ga:findIn K (.ref dY) "__getattribute__"=some (some (.builtin "BaseException.__getattribute__"))
 gt:findIn K (.ref dY) "__getattr__"=some none
 sym:findIn K (.ref dY) "symbol"=some none
 own:hasDictIn K dY=true
 keep:keepIn K (.ref dY)=true
 fnc:typeIn K (.ref 93)=some (.type "function")
 init:∃ sc p1 p2 p3 p4 p5 p6 p7 p8,Vd K 93 sc ["self","symbol","data"] [] [.Assign [.Attribute (.Name "self" p1) "symbol" p2] (.Name "symbol" p3) p4,.Assign [.Attribute (.Name "self" p5) "data" p6] (.Name "data" p7) p8]
structure Bs (K:Frag) (Z9:Heap):Prop where
 kf:KF K
 xk:XK K
 kin:K.In Z9
 nolimit:Z9.NoLimit
 sys:∃ o,Z9.get? sysModules=some o
 g:∃ mg,Z9.Ns mainGlobals mg
 b:∃ mb,Z9.Ns builtinsNs mb∧∀ x:Str,x≠"__name__"→mb x=bootBuiltins x
inductive Err (w:World) (Z9:Heap) (os:OsState) (F:Fm) (l:List Env) (R:Value→Hp→Prop) (e:Value) (s:Shared):Prop
 |mk (g:s.gens=#[]) (o:s.os=os) (a:Addr) (sym:Value) (σ:Hp) (ea:e=.ref a) (f:Fly Z9 F σ l a sym s.heap) (r:R sym σ):Err w Z9 os F l R e s
inductive Val (w:World) (Z9:Heap) (os:OsState) (F:Fm) (Q:List Value→Hp→Prop) (v:Value) (s:Shared):Prop
 |mk (σ:Hp) (g:GS w Z9 os F σ s) (q:Q [er v] σ):Val w Z9 os F Q v s
theorem Val.of {w Z9 os F Q v s} (h:∃ σ,GS w Z9 os F σ s∧Q [er v] σ):Val w Z9 os F Q v s:=let ⟨a,b,c⟩:=h;⟨a,b,c⟩
inductive Vals (w:World) (Z9:Heap) (os:OsState) (F:Fm) (Q:List Value→Hp→Prop) (vs:List Value) (s:Shared):Prop
 |mk (σ:Hp) (g:GS w Z9 os F σ s) (q:Q (vs.map er) σ):Vals w Z9 os F Q vs s
inductive Tst (w:World) (Z9:Heap) (os:OsState) (F:Fm) (Q:Bool→Hp→Prop) (b:Bool) (s:Shared):Prop
 |mk (σ:Hp) (g:GS w Z9 os F σ s) (q:Q b σ):Tst w Z9 os F Q b s
structure Cx (K:Frag) (w:World) (Z9:Heap) (os:OsState) (n:Nat) (R:Value→Hp→Prop) (A:Around) (l:List Env) (F:Fm) (sc:List (Str × NameKind)) (ns:List Str) (ρ:Loc) (env:Env):Prop where
 bs:Bs K Z9
 room:mU n A l
 frames:cB F l
 env:∃ L m,EnvOk sc env L∧F L=some (.ns m)∧LocOk ns ρ m
section
variable {K:Frag} {w:World} {Z9:Heap} {os:OsState} {n:Nat} {R:Value→Hp→Prop} {A:Around} {l:List Env} {F:Fm} {sc:List (Str × NameKind)} {ns:List Str} {ρ:Loc} {env:Env} {σ:Hp} {s:Shared}
theorem GS.toks {t:Nat} (g:GS w Z9 os F σ s):GS w Z9 os F σ { s with toks:=t }:=⟨g.sr,g.gens,g.os⟩
theorem GS.heap {h:Heap} {σ':Hp} {F':Fm} {t:Nat} (g:GS w Z9 os F σ s) (x:SR Z9 F' σ' h):GS w Z9 os F' σ' { s with heap:=h,toks:=t }:=⟨x,g.gens,g.os⟩
theorem GS.kin {Z9:Heap} (b:Bs K Z9) (g:GS w Z9 os F σ s):K.In s.heap:=b.kin.keeps g.sr.base
noncomputable def wA (K:Frag) (w:World) (Z9:Heap) (os:OsState) (n:Nat) (e:E):Prop :=
 ∀ {R A l F sc ns ρ env σ s} (x:Expr) (Q:List Value→Hp→Prop),aL sc ns e (.one x)=true→Cx K w Z9 os n R A l F sc ns ρ env→GS w Z9 os F σ s→ev w Z9 os n R ρ e σ Q →
  wpAny (model PP w) A (eval x env) (Val w Z9 os F Q) (Err w Z9 os F l R) s
noncomputable def OkT (K:Frag) (w:World) (Z9:Heap) (os:OsState) (n:Nat) (e:E):Prop :=
 ∀ {R A l F sc ns ρ env σ s} (x:Expr) (Q:Bool→Hp→Prop),aL sc ns e (.one x)=true→Cx K w Z9 os n R A l F sc ns ρ env→GS w Z9 os F σ s→ev w Z9 os n R ρ e σ (fun xs σ=>cZ xs fun b=>Q b σ) →
  wpAny (model PP w) A (PySem.isTrue x env (eval x env)) (Tst w Z9 os F Q) (Err w Z9 os F l R) s
noncomputable def OkM (K:Frag) (w:World) (Z9:Heap) (os:OsState) (n:Nat) (e:E):Prop :=
 ∀ {R A l F sc ns ρ env σ s} (pos:Pos) (xs:List Expr) (Q:List Value→Hp→Prop),aL sc ns e (.many xs)=true→Cx K w Z9 os n R A l F sc ns ρ env→GS w Z9 os F σ s→ev w Z9 os n R ρ e σ Q →
  wpAny (model PP w) A (spliced (backTo pos (starEach xs env))) (fun vs s=>vs.length=xs.length∧Vals w Z9 os F Q vs s) (Err w Z9 os F l R) s
structure Ok (K:Frag) (w:World) (Z9:Heap) (os:OsState) (n:Nat) (e:E):Prop where
 v:wA K w Z9 os n e
 t:OkT K w Z9 os n e
 m:OkM K w Z9 os n e
theorem YL {xs:List Value} {k:Value→Prop} (h:one xs k):∃ v,xs=[v]∧k v:=by
 cases xs with
 |nil=>exact h.elim
 |cons a r=>cases r with
  |nil=>exact⟨_,rfl,h⟩
  |cons=>exact h.elim
theorem Qv {xs:List Value} {k:Bool→Prop} (h:cZ xs k):∃ v,xs=[.bool v]∧k v:=by
 cases xs with
 |nil=>exact h.elim
 |cons a r=>cases r with
  |nil=>cases a with
   |bool b=>exact⟨_,rfl,h⟩
   |_=>exact h.elim
  |cons=>cases a<;>exact h.elim
theorem ux {v:Value} {b:Bool} (h:er v=.bool b):v=.bool b:=by
 cases v with
 |bool=>exact h
 |_=>exact noV h rfl
theorem il {v:Value} {b:Addr} (h:er v=.ref b):v=.ref b:=by
 cases v with
 |ref=>exact h
 |_=>exact noV h rfl
theorem Hf {v:Value} (h:er v=.none):v=.none:=by
 cases v with
 |none=>exact h
 |_=>exact noV h rfl
theorem yr {v:Value} {i:Int} {t} (h:er v=.int i t):∃ t',v=.int i t':=by
 cases v with
 |int a b=>cases h;exact⟨_,rfl⟩
 |_=>exact noV h rfl
theorem oH {v:Value} {x:Str} {t} (h:er v=.str x t):∃ t',v=.str x t':=by
 cases v with
 |str a b=>cases h;exact⟨_,rfl⟩
 |_=>exact noV h rfl
@[elab_as_elim] theorem eI {v:Value} {i:Int} {t} {C:Value→Prop} (h:er v=.int i t) (k:∀ t',C (.int i t')):C v:=by
 obtain⟨t',rfl⟩:=yr h;exact k t'
@[elab_as_elim] theorem eS {v:Value} {x:Str} {t} {C:Value→Prop} (h:er v=.str x t) (k:∀ t',C (.str x t')):C v:=by
 obtain⟨t',rfl⟩:=oH h;exact k t'
@[elab_as_elim] theorem eR {v:Value} {a:Addr} {C:Value→Prop} (h:er v=.ref a) (k:C (.ref a)):C v:=by rw[il h];exact k
@[elab_as_elim] theorem eB {v:Value} {b:Bool} {C:Value→Prop} (h:er v=.bool b) (k:C (.bool b)):C v:=by rw[ux h];exact k
@[elab_as_elim] theorem eNo {v:Value} {C:Value→Prop} (h:er v=.none) (k:C .none):C v:=by rw[Hf h];exact k
theorem aN {α β:Type} {o:Option α} {f:α→Option β} {y:β} {P:Prop} (h:o.bind f=some y) (k:∀ a,o=some a→f a=some y→P):P:=by
 cases o with
 |none=>exact gG h
 |some a=>exact k a rfl h
theorem mL {α:Type} {b:Bool} {o:Option α} {y:α} {P:Prop} (h:cond b o none=some y) (k:b=true→o=some y→P):P:=by
 cases b with
 |true=>exact k rfl h
 |false=>exact gG h
theorem lY {v:Value} {i:Int} (h:Hy (er v)=some i):∃ t,v=.int i t:=by
 cases v with
 |int j t=>cases h;exact⟨t,rfl⟩
 |_=>exact gG h
theorem vD {v:Value} {i:Str} (h:LC (er v)=some i):∃ t,v=.str i t:=by
 cases v with
 |str j t=>cases h;exact⟨t,rfl⟩
 |_=>exact gG h
theorem H5 {v:Value} {b:Bool} (h:asB (er v)=some b):v=.bool b:=by
 cases v with
 |bool c=>cases h;rfl
 |_=>exact gG h
@[elab_as_elim] theorem vA {α:Type} {x y:Value} {f:Int→Int→Option α} {r:α} {C:Value→Value→Prop} (h:YM (er x) (er y) f=some r) (k:∀ i t j u,f i j=some r→C (.int i t) (.int j u)):C x y :=
 aN h fun i h1 h=>aN h fun j h2 h=>by
  obtain⟨t,rfl⟩:=lY h1
  obtain⟨u,rfl⟩:=lY h2
  exact k i t j u h
@[elab_as_elim] theorem Ni {α:Type} {x y:Value} {f:Str→Str→Option α} {r:α} {C:Value→Value→Prop} (h:bs2 (er x) (er y) f=some r) (k:∀ i t j u,f i j=some r→C (.str i t) (.str j u)):C x y :=
 aN h fun i h1 h=>aN h fun j h2 h=>by
  obtain⟨t,rfl⟩:=vD h1
  obtain⟨u,rfl⟩:=vD h2
  exact k i t j u h
theorem yh {α:Type} {o:Option α} {k:α→Prop} {P C:Prop} (h:zgu o k P) (h1:∀ a,o=some a→k a→C) (h2:P→C):C:=by
 cases o with
 |none=>exact h2 h
 |some a=>exact h1 a rfl h
theorem Hx {o p:Option Bool} {b:Bool} {C:Prop} (h:orO o p=some b) (h1:o=some b→C) (h2:p=some b→C):C:=by
 cases o with
 |none=>exact h2 h
 |some a=>exact h1 h
theorem cN {e:E} (v:wA K w Z9 os n e) (hp:∀ {sc ns x} (env:Env) (whole:Sem Value),aL sc ns e (.one x)=true→PySem.isTrue x env whole=(do let v ← whole;standAt x.pos;holding [v] (truthy v))):OkT K w Z9 os n e:=by
 intro R A l F sc ns ρ env σ s x Q hc c g h
 refine isTrue_plain (wpAny_mono (v x _ hc c g h) (fun v s' q=>?_) fun _ _ e=>e) (hp env _ hc)
 obtain⟨σ',g',q⟩:=q
 refine aV (fun b hb q=>?_) (Qv q)
 simp only[List.cons.injEq,and_true] at hb
 rw[ux hb]
 exact wpAny_truthy_bool ⟨σ',g',q⟩
theorem bJ {e:E} (hp:∀ {sc ns xs},aL sc ns e (.many xs)=false):OkM K w Z9 os n e:=by
 intro R A l F sc ns ρ env σ s pos xs Q hc
 rw[hp] at hc;cases hc
theorem Ql {i:Nat} {k:List Value→Hp→Prop} (h:ev w Z9 os n R ρ (.loc i) σ k):∃ v,lk ρ i=some v∧k [v] σ:=by
 replace h:(match lk ρ i with
  |some v=>k [v] σ
  |none=>False):=h
 cases q:lk ρ i with
 |none=>rw[q] at h;exact h.elim
 |some v=>rw[q] at h;exact⟨v,rfl,h⟩
theorem zA {i:Nat} {v:Value} {k:List Value→Hp→Prop} (e:lk ρ i=some v) (h:k [v] σ):ev w Z9 os n R ρ (.loc i) σ k:=by
 show (match lk ρ i with
  |some v=>k [v] σ
  |none=>False)
 rw[e];exact h
theorem Ms {sc ns ρ i x v p Q} (hc:dz sc ns i x=true) (c:Cx K w Z9 os n R A l F sc ns ρ env) (g:GS w Z9 os F σ s) (q:lk ρ i=some v) (h:Q [v] σ) :
  wpAny (model PP w) A (eval (.Name x p) env) (Val w Z9 os F Q) (Err w Z9 os F l R) s:=by
 refine aC (fun L m e hF lo=>?_) c.env
 refine iJ (fun h1 h2 h3=>?_) (H3 hc)
 refine aV (fun v' a2 a3=>?_) (lo.get q h1)
 obtain⟨_,role,r1,r2,r3⟩:=g.sr
 subst a3
 exact wpAny_Name (wpAny_loadName_local e.kind (e.kof h2) (e.locals▸(r3 L _ hF).2) a2 ⟨σ,g,h⟩) h3
theorem zbm (i:Nat):Ok K w Z9 os n (.loc i):=by
 have v:wA K w Z9 os n (.loc i):=by
  intro R A l F sc ns ρ env σ s x Q hc c g h
  refine ur hc ?_
  intro x p hc
  refine aV (fun v q h=>?_) (Ql h)
  exact Ms hc c g q h
 refine⟨v,cN v fun {sc ns x} env whole hc=>?_,bJ rfl⟩
 refine ur hc ?_
 intros
 rfl
theorem zaX (v:Value):Ok K w Z9 os n (.cst v):=by
 have o:wA K w Z9 os n (.cst v):=by
  intro R A l F sc ns ρ env σ s x Q hc c g h
  refine zb hc ?_
  intro c k p hc
  revert h
  exact xr hc (fun h=>wpAny_pure ⟨σ,g,h⟩) (fun b h=>wpAny_pure ⟨σ,g,h⟩) (fun i h=>wpAny_mkInt ⟨σ,g.toks,h⟩) (fun s h=>wpAny_mkText ⟨σ,g.toks,h⟩)
 refine⟨o,cN o fun {sc ns x} env whole hc=>?_,bJ rfl⟩
 refine zb hc ?_
 intros
 rfl
theorem rE {sc ns ρ i x v p Q} (hc:gP sc i x v=true) (c:Cx K w Z9 os n R A l F sc ns ρ env) (g:GS w Z9 os F σ s) (h:Q [v] σ) :
  wpAny (model PP w) A (eval (.Name x p) env) (Val w Z9 os F Q) (Err w Z9 os F l R) s:=by
 refine aC (fun L m e hF lo=>?_) c.env
 refine iJ (fun h1 h2 h3=>?_) (v9 hc)
 refine aV (fun v' k1 k2=>?_) (c.bs.kf.glob (x,v) h1)
 obtain⟨mg,hg⟩:=c.bs.g
 exact wpAny_Name (ks_loadName_global e.kind (e.kof h2) (yu e.globals (hg.keeps g.sr.base) (mg_of c.bs.kin hg k1) ⟨σ,g,(show er v'=v from k2).symm▸h⟩)) h3
theorem zeB (i:Nat) (v:Value):Ok K w Z9 os n (.gv i v):=by
 have o:wA K w Z9 os n (.gv i v):=by
  intro R A l F sc ns ρ env σ s x Q hc c g h
  refine Es hc ?_
  intro x p hc
  exact rE hc c g h
 refine⟨o,cN o fun {sc ns x} env whole hc=>?_,bJ rfl⟩
 refine Es hc ?_
 intros
 rfl
theorem zbN:Ok K w Z9 os n .nil:=by
 refine⟨?_,?_,?_⟩
 ·intro R A l F sc ns ρ env σ s x Q hc;exact Bool.noConfusion (show false=true from hc)
 ·intro R A l F sc ns ρ env σ s x Q hc;exact Bool.noConfusion (show false=true from hc)
 ·intro R A l F sc ns ρ env σ s pos xs Q hc c g h
  refine yo hc ?_
  exact Calls.spliced_nil ⟨rfl,σ,g,h⟩
theorem notStar {sc ns e x} (hc:aL sc ns e (.one x)=true) (xs:List Expr) (env:Env):starEach (x::xs) env=(false,eval x env)::starEach xs env:=by
 by_cases q:x.ctorIdx=22
 ·exact Expr.Starred.elim (motive_1:=fun x=>aL sc ns e (.one x)=true→starEach (x::xs) env=(false,eval x env)::starEach xs env) x q (fun v p h=>by cases e<;>exact Bool.noConfusion (show false=true from h)) hc
 ·cases x<;>first|rfl|exact(q rfl).elim
theorem Uz {a b:E} (oa:Ok K w Z9 os n a) (ob:Ok K w Z9 os n b):Ok K w Z9 os n (.cons a b):=by
 refine⟨?_,?_,?_⟩
 ·intro R A l F sc ns ρ env σ s x Q hc;exact Bool.noConfusion (show false=true from hc)
 ·intro R A l F sc ns ρ env σ s x Q hc;exact Bool.noConfusion (show false=true from hc)
 ·intro R A l F sc ns ρ env σ s pos xs Q hc c g h
  refine uO hc ?_
  intro x xs h1 h2
  rw[notStar h1]
  refine Calls.spliced_cons (wpAny_mono (oa.v x _ h1 c g h) (fun v s' q=>?_) fun _ _ e=>e)
  obtain⟨σ',g',q⟩:=q
  refine aV (fun v' hv q=>?_) (YL q)
  cases hv
  refine wpAny_mono (ob.m pos xs _ h2 c g' q) (fun vs Z5 q=>?_) fun _ _ e=>e
  obtain⟨hl,Z4,Z6,q⟩:=q
  exact⟨congrArg (·+1) hl,Z4,Z6,q⟩
end
section
variable {K:Frag} {w:World} {Z9:Heap} {os:OsState} {n:Nat} {R:Value→Hp→Prop} {A:Around} {l:List Env} {F:Fm} {σ:Hp} {s:Shared} {E':Value→Shared→Prop}
theorem GS.cell {a:Addr} {c:Cell} (g:GS w Z9 os F σ s) (e:σ a=some c):∃ role,role a=some Role.cell∧CellOk s.heap role a c:=by
 obtain⟨_,role,_,r2,_⟩:=g.sr
 exact⟨role,r2 a c e⟩
theorem GS.lst {a:Addr} {vs:List Value} (g:GS w Z9 os F σ s) (e:σ a=some (.list vs)):∃ xs n,IsL s.heap a (List.toArray xs) n∧xs.map er=vs∧vs.length≤big:=by
 refine aV (fun _ _ h=>?_) (g.cell e);exact h
theorem GS.tp {a:Addr} {vs:List Value} (g:GS w Z9 os F σ s) (e:σ a=some (.tup vs)):∃ xs n,IsT s.heap a (List.toArray xs) n∧xs.map er=vs∧vs.length≤big:=by
 refine aV (fun _ _ h=>?_) (g.cell e);exact h
theorem GS.dct {a:Addr} {n:Nat} {f:Int→Option Value} (g:GS w Z9 os F σ s) (e:σ a=some (.dict n f)):∃ q,s.heap.IntMap a q∧(∀ k,(q k).map er=f k)∧s.heap.DictLe a n∧n≤big∧(∀ o,s.heap.get? a=some o→o.dict=none∧o.slots=#[]):=by
 refine aV (fun _ _ h=>?_) (g.cell e);exact h
theorem c7 (h:Heap):h.get? h.objs.size=none:=Heap.get?_none_of_le (Nat.le_refl _)
theorem GS.pushL {xs:List Value} {k:Addr→Hp→Prop} (g:GS w Z9 os F σ s) (h:bf σ (.list (xs.map er)) k) (hz:xs.length≤big) {n:Nat} {t:Nat} :
  ∃ σ',GS w Z9 os F σ' { s with heap:=s.heap.push { cls:=.type "list",data:=.seq (List.toArray xs) n },toks:=t }∧k s.heap.objs.size σ':=by
 obtain⟨x,e⟩:=g.sr.new (a:=s.heap.objs.size) (c:=.list (xs.map er)) (h':=s.heap.push { cls:=.type "list",data:=.seq (List.toArray xs) n }) (c7 _) (fun b o q=>Heap.get?_push_of_some _ q)
  (fun role=>⟨xs,n,Heap.get?_push_size _ rfl,rfl,by simpa using hz⟩) ⟨_,Heap.get?_push_size _ rfl⟩ (fun _ _ q=>by cases q)
 exact⟨_,g.heap x,h _ e⟩
theorem GS.pushT {xs:List Value} {k:Addr→Hp→Prop} (g:GS w Z9 os F σ s) (h:bf σ (.tup (xs.map er)) k) (hz:xs.length≤big) {n:Nat} {t:Nat} :
  ∃ σ',GS w Z9 os F σ' { s with heap:=s.heap.push { cls:=.type "tuple",data:=.seq (List.toArray xs) n },toks:=t }∧k s.heap.objs.size σ':=by
 obtain⟨x,e⟩:=g.sr.new (a:=s.heap.objs.size) (c:=.tup (xs.map er)) (h':=s.heap.push { cls:=.type "tuple",data:=.seq (List.toArray xs) n }) (c7 _) (fun b o q=>Heap.get?_push_of_some _ q)
  (fun role=>⟨xs,n,Heap.get?_push_size _ rfl,rfl,by simpa using hz⟩) ⟨_,Heap.get?_push_size _ rfl⟩ (fun _ _ q=>by cases q)
 exact⟨_,g.heap x,h _ e⟩
theorem oZ:big≤sizeLine:=by decide
theorem Jb (l:List (Array Nat)):∀ a:Array Nat,l.foldl (fun x y=>x++y) a=a++l.foldl (fun x y=>x++y) #[]:=by
 induction l with
 |nil=>intro a;simp
 |cons x r ih=>intro a;rw[List.foldl_cons,ih,List.foldl_cons,ih (#[]++x)];simp
theorem xV (x:Str):∀ n:Nat,kE x n=⟨(List.replicate n x.cps).foldl (fun x y=>x++y) #[]⟩
 |0=>rfl
 |n+1=>by
  rw[kE,xV x n,List.replicate_succ,List.foldl_cons,Jb _ (#[]++x.cps)]
  show (⟨x.cps++_⟩:Str)=_
  simp
theorem Xc {a:Str} {j:Int} (h1:0≤j):Txt.mul a j=kE a j.toNat:=by
 unfold Txt.mul
 split
 ·have:j.toNat=0:=by omega
  rw[this];rfl
 ·split
  ·rename_i q
   simp only[Bool.or_eq_true,beq_iff_eq] at q
   rcases q with rfl|q
   ·show a=a++Str.empty
    exact(Str.append_empty a).symm
   ·have ea:a=Str.empty:=by
     obtain⟨c⟩:=a
     have:c.size=0:=q
     rw[Array.size_eq_zero_iff.mp this];rfl
    subst ea
    generalize j.toNat=m
    induction m with
    |zero=>rfl
    |succ m ih=>rw[kE,← ih];rfl
  ·rw[xV]
theorem zfp {i j:Int} {t u:Nat} {Q:List Value→Hp→Prop} (g:GS w Z9 os F σ s) (c:i.natAbs < 2 ^ 62∨j.natAbs < 2 ^ 62) (h:Q [vi (i * j)] σ):wpAny (model PP w) A (binaryOp .Mult (.int i t) (.int j u)) (Val w Z9 os F Q) E' s :=
 mul_int ⟨σ,g.toks,h⟩ (c.elim (fun c=>IntMulOk.of_left (intBits_le_64 (by lia) (by lia))) fun c=>IntMulOk.of_right (intBits_le_64 (by lia) (by lia)))
theorem Xe {a:Str} {j:Int} {t u:Nat} {Q:List Value→Hp→Prop} (g:GS w Z9 os F σ s) (c:0≤j∧j≤10∧a.length≤10) (h:Q [vs (kE a j.toNat)] σ):wpAny (model PP w) A (binaryOp .Mult (.str a t) (.int j u)) (Val w Z9 os F Q) E' s:=by
 refine iJ (fun h1 h3 h4=>?_) c
 refine SB.mul ⟨?_,fun _ _=>?_,fun _ _=>?_⟩ fun t' k=>⟨σ,g.toks,?_⟩
 ·simp only[Bool.or_eq_false_iff,decide_eq_false_iff_not];lia
 ·have h5:(1000:Int)≤(2 ^ 63 - 1) / j:=(Int.le_ediv_iff_mul_le (by lia)).mpr (by lia)
  lia
 ·unfold Builtin.Str.tooLong
  refine decide_eq_false ?_
  have:a.length * j.toNat≤10 * 10:=Nat.mul_le_mul h4 (by lia)
  rw[sizeLine_eq];lia
 ·show Q [.str (Txt.mul a j) 0] σ
  rw[Xc h1];exact h
theorem zgM {a b:Addr} {xs ys:List Value} {Q:List Value→Hp→Prop} (g:GS w Z9 os F σ s) (e1:σ a=some (.tup xs)) (e2:σ b=some (.tup ys)) (c:xs.length+ys.length≤big) (h:bf σ (.tup (xs++ys)) fun r σ'=>Q [.ref r] σ')
  (h1:xs=[]→Q [.ref b] σ) (h2:ys=[]→Q [.ref a] σ):wpAny (model PP w) A (binaryOp .Add (.ref a) (.ref b)) (Val w Z9 os F Q) E' s:=by
 refine aC (fun vs n1 t1 z0 z1=>?_) (g.tp e1);subst z0
 refine aC (fun ws n2 t2 z3 z2=>?_) (g.tp e2);subst z3
 cases vs with
 |nil=>exact PySem.concat_meets ⟨_,t1,rfl⟩ ⟨_,t2,rfl⟩ noFill_tuple_add seq_tuple_add PySem.F.slot_tuple_add PySem.F.entry_tuple_add (PySem.F.args_tuple_add_2 _ _) (tuple_addW0 a b _ _ _ _ none none #[] #[] rfl) ⟨t1,t2,σ,g,h1 rfl⟩
 |cons v vs =>
  cases ws with
  |nil=>exact PySem.concat_meets ⟨_,t1,rfl⟩ ⟨_,t2,rfl⟩ noFill_tuple_add seq_tuple_add PySem.F.slot_tuple_add PySem.F.entry_tuple_add (PySem.F.args_tuple_add_2 _ _) (tuple_addW1 a b _ _ _ _ none none #[] #[] (by simp) (by simp)) ⟨t1,t2,σ,g,h2 rfl⟩
  |cons w' ws =>
   rw[← List.map_append] at h
   simp only[List.length_map] at c
   refine P.add_tuple t1 t2 (Bool.false_ne_true ·) (Bool.false_ne_true ·) ?_ (by have:=oZ;simp only[List.size_toArray];lia)
   rw[List.append_toArray]
   exact Val.of (g.pushT h (by rw[List.length_append];exact c))
theorem zgt {a b:Addr} {xs ys:List Value} {Q:List Value→Hp→Prop} (g:GS w Z9 os F σ s) (e1:σ a=some (.list xs)) (e2:σ b=some (.list ys)) (c:xs.length+ys.length≤big) (h:bf σ (.list (xs++ys)) fun r σ'=>Q [.ref r] σ') :
  wpAny (model PP w) A (binaryOp .Add (.ref a) (.ref b)) (Val w Z9 os F Q) E' s:=by
 refine aC (fun vs n1 t1 z4 z1=>?_) (g.lst e1);subst z4
 refine aC (fun ws n2 t2 z5 z2=>?_) (g.lst e2);subst z5
 rw[← List.map_append] at h
 simp only[List.length_map] at c
 refine P.add_list t1 t2 ?_ (by have:=oZ;simp only[List.size_toArray];lia)
 rw[List.append_toArray]
 exact Val.of (g.pushL h (by rw[List.length_append];exact c))
theorem Wm {op:Operator} {x y ex ey:Value} {Q:List Value→Hp→Prop} (g:GS w Z9 os F σ s) (hx:er x=ex) (hy:er y=ey) (h:binH σ Q op ex ey):wpAny (model PP w) A (binaryOp op x y) (Val w Z9 os F Q) E' s:=by
 cases h with
 |gO c h=>exact eI hx fun t=>eI hy fun u=>zfp g c h
 |jo c h=>exact eI hx fun t=>eI hy fun u=>floordiv_int (by lia) ⟨σ,g.toks,h⟩ (.inl (PyProof.noPylong_small (by lia)))
 |cY c h=>exact eI hx fun t=>eI hy fun u=>mod_int' c ⟨σ,g.toks,h⟩
 |cC c h=>exact eS hx fun t=>eS hy fun u=>add_str (fun t' tk=>⟨σ,g.toks,h⟩) (by rw[sizeLine_eq];lia)
 |qg c h=>exact eS hx fun t=>eI hy fun u=>Xe g c h
 |qD e1 e2 c h=>exact eR hx (eR hy (zgt g e1 e2 c h))
 |jt e1 e2 c h h1 h2=>exact eR hx (eR hy (zgM g e1 e2 c h h1 h2))
theorem Wj {op:Operator} {x y:Value} {Q:List Value→Hp→Prop} (g:GS w Z9 os F σ s) (h:qp σ Q op (er x) (er y)):wpAny (model PP w) A (binaryOp op x y) (Val w Z9 os F Q) E' s :=
 yh (o:=VK op (er x) (er y)) (k:=fun v=>Q [v] σ) (P:=binH σ Q op (er x) (er y)) (by unfold qp at h;revert h;cases VK op (er x) (er y)<;>exact id) (fun v e q=>by
  cases op with
  |Add=>exact vA e fun i t j u e=>by cases e;exact add_int ⟨σ,g.toks,q⟩
  |Sub=>exact vA e fun i t j u e=>by cases e;exact sub_int ⟨σ,g.toks,q⟩
  |_=>exact gG e) fun q=>Wm g rfl rfl q
end
noncomputable def lZ (w:World) (Z9:Heap) (os:OsState) (F:Fm) (σ:Hp) (Q:Bool→Prop) (v:Value) (s:Shared):Prop:=∃ b,v=.bool b∧GS w Z9 os F σ s∧Q b
section
variable {K:Frag} {w:World} {Z9:Heap} {os:OsState} {n:Nat} {R:Value→Hp→Prop} {A:Around} {l:List Env} {F:Fm} {σ:Hp} {s:Shared} {E:Value→Shared→Prop}
theorem RG {v:Value} (h:flat (er v)=true):(∃ i t,v=.int i t)∨(∃ x t,v=.str x t):=by
 cases v with
 |int i t=>exact .inl ⟨i,t,rfl⟩
 |str i t=>exact .inr ⟨i,t,rfl⟩
 |_=>exact(Bool.false_ne_true h).elim
theorem O7 (i j:Int):decide (i=j)=(i == j):=by simp[BEq.beq]
theorem Pb (i j:Str):decide (i=j)=(i == j):=by
 by_cases q:i=j
 ·subst q;simp
 ·simp[q]
theorem Kg {A:Around} {s:Shared} {x y:Value} (hx:flat (er x)=true) (hy:flat (er y)=true):SeqAt.EqAt A s x y (decide (er x=er y)):=by
 rcases RG hx with ⟨i,t,rfl⟩|⟨i,t,rfl⟩<;>rcases RG hy with ⟨j,u,rfl⟩|⟨j,u,rfl⟩
 ·rw[show decide (er (.int i t)=er (.int j u))=(i == j) from (decide_eq_decide.mpr ⟨fun h=>by injection h,fun h=>by rw[h];rfl⟩).trans (O7 i j)]
  exact SeqAt.EqAt.int_int i t j u
 ·exact SeqAt.EqAt.int_str (A:=A) (s:=s) i t j u
 ·exact SeqAt.EqAt.str_int (A:=A) (s:=s) i t j u
 ·rw[show decide (er (.str i t)=er (.str j u))=(i == j) from (decide_eq_decide.mpr ⟨fun h=>by injection h,fun h=>by rw[h];rfl⟩).trans (Pb i j)]
  exact SeqAt.EqAt.str_str i t j u
theorem range_all {α:Type} [DecidableEq α]:∀ {xs ys:List α},xs.length=ys.length→(List.range xs.length).all (fun j=>decide (xs[j]?=ys[j]?))=decide (xs=ys):=by
 intro xs ys h
 rw[Bool.eq_iff_iff]
 simp only[List.all_eq_true,List.mem_range,decide_eq_true_eq]
 constructor
 ·intro q
  apply List.ext_getElem?
  intro j
  by_cases z:j < xs.length
  ·exact q j z
  ·rw[List.getElem?_eq_none (by lia),List.getElem?_eq_none (by lia)]
 ·intro q j _;rw[q]
theorem H4 {A:Around} {s:Shared} {xs ys:List Value} (hx:(xs.map er).all flat=true) (hy:(ys.map er).all flat=true) :
  ∀ j (h1:j < (List.toArray xs).size) (h2:j < (List.toArray ys).size),SeqAt.EqAt A s (List.toArray xs)[j] (List.toArray ys)[j] (decide ((xs.map er)[j]?=(ys.map er)[j]?)):=by
 intro j h1 h2
 simp only[List.size_toArray] at h1 h2
 have e:decide ((xs.map er)[j]?=(ys.map er)[j]?)=decide (er xs[j]=er ys[j]):=by
  rw[List.getElem?_map,List.getElem?_map,List.getElem?_eq_getElem h1,List.getElem?_eq_getElem h2]
  simp
 rw[e]
 refine Kg ?_ ?_
 ·rw[List.all_eq_true] at hx;exact hx _ (List.mem_map_of_mem (List.getElem_mem h1))
 ·rw[List.all_eq_true] at hy;exact hy _ (List.mem_map_of_mem (List.getElem_mem h2))
theorem UV {xs ys:List Value}:((List.range (min (List.toArray xs).size (List.toArray ys).size)).all (fun j=>decide ((xs.map er)[j]?=(ys.map er)[j]?))&&(List.toArray xs).size == (List.toArray ys).size)=decide (xs.map er=ys.map er):=by
 simp only[List.size_toArray]
 by_cases z:xs.length=ys.length
 ·have e:(xs.length == ys.length)=true:=by simp[z]
  rw[e,Bool.and_true,← z,Nat.min_self]
  have:=range_all (xs:=xs.map er) (ys:=ys.map er) (by simp[z])
  simpa using this
 ·have e:(xs.length == ys.length)=false:=by simp[z]
  rw[e,Bool.and_false]
  symm
  refine decide_eq_false (fun q=>z ?_)
  have:=congrArg List.length q
  simpa using this
theorem Vm {xs ys:List Value} (z:xs.length=ys.length):(List.range (List.toArray xs).size).all (fun j=>decide ((xs.map er)[j]?=(ys.map er)[j]?))=decide (xs.map er=ys.map er):=by
 have:=range_all (xs:=xs.map er) (ys:=ys.map er) (by simp[z])
 simpa using this
theorem zbp {xs ys:List Value} (z:xs.length≠ys.length):decide (xs.map er=ys.map er)=false :=
 decide_eq_false fun q=>z (by simpa using congrArg List.length q)
theorem jl {n} (r:mU n A l):A.units < cLine:=by have:=r.units;have:cLine=9900:=rfl;lia
theorem nH (v:Value):isNone (er v)=(v == .none):=by cases v<;>rfl
theorem XH {a b:Addr} {xs ys:List Value} (r:mU n A l) (g:GS w Z9 os F σ s) (hc:σ a=some (.tup xs)) (hd:σ b=some (.tup ys)) (f:xs.all flat=true∧ys.all flat=true) :
  SeqAt.RcAt A s (.ref a) (.ref b) (decide (xs=ys))∧SeqAt.RcNeAt A s (.ref a) (.ref b) (!decide (xs=ys)):=by
 refine aC (fun vs n1 t1 z0 z1=>?_) (g.tp hc);subst z0
 refine aC (fun ws n2 t2 z3 z2=>?_) (g.tp hd);subst z3
 have T1:s.heap.IsTuple a (List.toArray vs):=⟨_,t1,rfl,_,rfl⟩
 have T2:s.heap.IsTuple b (List.toArray ws):=⟨_,t2,rfl,_,rfl⟩
 rw[← UV]
 exact⟨SeqAt.RcAt.tuples T1 T2 (jl r) (H4 f.1 f.2),SeqAt.RcNeAt.tuples T1 T2 (jl r) (H4 f.1 f.2)⟩
theorem XQ {a b:Addr} {xs ys:List Value} (r:mU n A l) (g:GS w Z9 os F σ s) (hc:σ a=some (.list xs)) (hd:σ b=some (.list ys)) (f:(xs.all flat=true∧ys.all flat=true)∨xs.length≠ys.length) :
  SeqAt.RcAt A s (.ref a) (.ref b) (decide (xs=ys))∧SeqAt.RcNeAt A s (.ref a) (.ref b) (!decide (xs=ys)):=by
 refine aC (fun vs n1 t1 z4 z1=>?_) (g.lst hc);subst z4
 refine aC (fun ws n2 t2 z5 z2=>?_) (g.lst hd);subst z5
 have T1:s.heap.IsList a (List.toArray vs):=⟨_,t1,rfl,_,rfl⟩
 have T2:s.heap.IsList b (List.toArray ws):=⟨_,t2,rfl,_,rfl⟩
 simp only[List.length_map] at f
 by_cases z:vs.length=ws.length
 ·have f:=f.resolve_right fun q=>q z
  rw[← Vm z]
  exact⟨SeqAt.RcAt.lists T1 T2 (by simpa using z) (jl r) (H4 f.1 f.2),SeqAt.RcNeAt.lists T1 T2 (by simpa using z) (jl r) (H4 f.1 f.2)⟩
 ·rw[zbp z]
  exact⟨SeqAt.RcAt.lists_lengths T1 T2 (by simpa using z) (jl r),SeqAt.RcNeAt.lists_lengths T1 T2 (by simpa using z) (jl r)⟩
theorem lL {v:Value} (h:isNone (er v)=true):v=.none:=by
 rw[nH] at h;exact eq_of_beq h
theorem rcE {x y:Value} {k:Bool} {Q:Bool→Prop} (g:GS w Z9 os F σ s) (h:SeqAt.RcAt A s x y k) (q:Q k):wpAny (model PP w) A (compareOp .Eq x y) (lZ w Z9 os F σ Q) E s:=h _ _ _ _ ⟨_,rfl,g,q⟩
theorem rcN {x y:Value} {k:Bool} {Q:Bool→Prop} (g:GS w Z9 os F σ s) (h:SeqAt.RcNeAt A s x y k) (q:Q k):wpAny (model PP w) A (compareOp .NotEq x y) (lZ w Z9 os F σ Q) E s:=h _ _ _ _ ⟨_,rfl,g,q⟩
theorem dsys (g:GS w Z9 os F σ s) (b:Bs K Z9) {d:Addr} {c:Cell} (h:σ d=some c):(d == sysModules)=false:=by
 obtain⟨_,role,r1,r2,_⟩:=g.sr
 have:=(r1 d _ (r2 d c h).1).1
 obtain⟨o,ho⟩:=b.sys
 by_cases q:d=sysModules
 ·rw[q,ho] at this;cases this
 ·simpa using q
theorem wg {g f:Int→Option Value} (e:∀ k,(g k).map er=f k) (k:Int):(f k).isSome=(g k).isSome:=by
 rw[← e k];cases g k<;>rfl
theorem Qj {i:Int} {t:Tok} {d:Addr} {m:Nat} {f:Int→Option Value} {Q:Bool→Prop} (b:Bs K Z9) (g:GS w Z9 os F σ s) (hc:σ d=some (.dict m f)) (h:Q (f i).isSome) :
  wpAny (model PP w) A (compareOp .In (.int i t) (.ref d)) (lZ w Z9 os F σ Q) E s:=by
 refine jV (fun q h1 h2 h3 h4 h5=>?_) (g.dct hc)
 exact wpAny_in_of (intKind_is PP w _ t) (dsys g b hc) (h1.mapOf h5) ⟨_,rfl,g.toks,by rw[← wg h2];exact h⟩
theorem JT {i:Int} {t:Tok} {d:Addr} {m:Nat} {f:Int→Option Value} {Q:Bool→Prop} (b:Bs K Z9) (g:GS w Z9 os F σ s) (hc:σ d=some (.dict m f)) (h:Q (!(f i).isSome)) :
  wpAny (model PP w) A (compareOp .NotIn (.int i t) (.ref d)) (lZ w Z9 os F σ Q) E s:=by
 refine jV (fun q h1 h2 h3 h4 h5=>?_) (g.dct hc)
 exact wpAny_notIn_of (intKind_is PP w _ t) (dsys g b hc) (h1.mapOf h5) ⟨_,rfl,g.toks,by rw[← wg h2];exact h⟩
theorem zeW {u t:Str} {a b:Tok} {Q:Bool→Prop} (g:GS w Z9 os F σ s) (h:Q (!dG u t)):wpAny (model PP w) A (compareOp .NotIn (.str u a) (.str t b)) (lZ w Z9 os F σ Q) E s:=P.notIn_str ⟨_,rfl,g,by unfold dG at h;simpa using h⟩
theorem Mt {x y:Value} {b:Bool} (h:eqS (er x) (er y)=some b):SeqAt.RcAt A s x y b∧SeqAt.RcNeAt A s x y (!b) :=
 Hx h (fun h=>vA h fun i t j u e=>by cases e;rw[O7];exact⟨SeqAt.RcAt.int_int _ t _ u,SeqAt.RcNeAt.int_int _ t _ u⟩) fun h =>
 Hx h (fun h=>Ni h fun i t j u e=>by cases e;rw[Pb];exact⟨SeqAt.RcAt.str_str _ t _ u,SeqAt.RcNeAt.str_str _ t _ u⟩) fun h =>
 Hx h (fun h=>aN h fun i h1 h=>aN h fun j h2 h=>by
  cases H5 h1;cases H5 h2;cases h;exact⟨SeqAt.RcAt.bool_bool _ _,SeqAt.RcNeAt.bool_bool _ _⟩) fun h =>
 Hx h (fun h=>aN h fun i h1 h=>mL h fun h2 h=>by
  obtain⟨t,rfl⟩:=lY h1
  cases lL h2;cases h;exact⟨SeqAt.RcAt.int_none _ t,SeqAt.RcNeAt.int_none _ t⟩) fun h =>
 aN h fun i h1 h=>mL h fun h2 h=>by
  obtain⟨t,rfl⟩:=lY h1
  cases lL h2;cases h;exact⟨SeqAt.RcAt.none_int _ t,SeqAt.RcNeAt.none_int _ t⟩
theorem Ub {op:CmpOp} {x y ex ey:Value} {Q:Bool→Prop} (b:Bs K Z9) (r:mU n A l) (g:GS w Z9 os F σ s) (hx:er x=ex) (hy:er y=ey) (h:cmpH σ Q op ex ey) :
  wpAny (model PP w) A (compareOp op x y) (lZ w Z9 os F σ Q) E s:=by
 cases h with
 |pK e1 e2 c h=>exact eR hx (eR hy (rcE g (XQ r g e1 e2 c).1 h))
 |jG e1 e2 c h=>exact eR hx (eR hy (rcN g (XQ r g e1 e2 c).2 h))
 |um e1 e2 c h=>exact eR hx (eR hy (rcE g (XH r g e1 e2 c).1 h))
 |pP e1 e2 c h=>exact eR hx (eR hy (rcN g (XH r g e1 e2 c).2 h))
 |ye e h=>exact eI hx fun t=>eR hy (Qj b g e h)
 |uq e h=>exact eI hx fun t=>eR hy (JT b g e h)
theorem Tf {op:CmpOp} {x y:Value} {b:Bool} {Q:Bool→Prop} (g:GS w Z9 os F σ s) (h:Mg op (er x) (er y)=some b) (q:Q b):wpAny (model PP w) A (compareOp op x y) (lZ w Z9 os F σ Q) E s:=by
 cases op with
 |Eq=>exact rcE g (Mt h).1 q
 |NotEq=>exact aN h fun b' h1 h=>by cases h;exact rcN g (Mt h1).2 q
 |Is =>
  exact mL h fun h1 h=>by
   cases lL h1;cases h;exact is_none_gen ⟨_,rfl,g,by rw[← nH];exact q⟩
 |IsNot =>
  exact mL h fun h1 h=>by
   cases lL h1;cases h;exact isnot_none_gen ⟨_,rfl,g,by rw[← nH];exact q⟩
 |Lt=>exact vA h fun i t j u e=>by cases e;exact P.lt_int ⟨_,rfl,g,q⟩
 |LtE=>exact vA h fun i t j u e=>by cases e;exact P.le_int ⟨_,rfl,g,q⟩
 |Gt=>exact vA h fun i t j u e=>by cases e;exact P.gt_int ⟨_,rfl,g,q⟩
 |GtE=>exact vA h fun i t j u e=>by cases e;exact P.ge_int ⟨_,rfl,g,q⟩
 |In=>exact Ni h fun i t j u e=>by cases e;exact P.in_str ⟨_,rfl,g,q⟩
 |NotIn=>exact Ni h fun i t j u e=>by cases e;exact zeW g q
theorem nF {op:CmpOp} {x y:Value} {Q:Bool→Prop} (b:Bs K Z9) (r:mU n A l) (g:GS w Z9 os F σ s) (h:fQ σ Q op (er x) (er y)):wpAny (model PP w) A (compareOp op x y) (lZ w Z9 os F σ Q) E s :=
 yh (o:=Mg op (er x) (er y)) (k:=Q) (P:=cmpH σ Q op (er x) (er y)) (by unfold fQ at h;revert h;cases Mg op (er x) (er y)<;>exact id) (fun _ e q=>Tf g e q) fun q=>Ub b r g rfl rfl q
end
section
variable {K:Frag} {w:World} {Z9:Heap} {os:OsState} {n:Nat} {R:Value→Hp→Prop} {A:Around} {l:List Env} {F:Fm} {sc:List (Str × NameKind)} {ns:List Str} {ρ:Loc} {env:Env} {σ:Hp} {s:Shared}
inductive V1 (w:World) (Z9:Heap) (os:OsState) (F:Fm) (P:Value→Hp→Prop) (v:Value) (s:Shared):Prop
 |mk (σ:Hp) (g:GS w Z9 os F σ s) (q:P (er v) σ):V1 w Z9 os F P v s
theorem Ok.one {e:E} (o:Ok K w Z9 os n e) {x:Expr} {P:Value→Hp→Prop} (hc:aL sc ns e (.one x)=true) (c:Cx K w Z9 os n R A l F sc ns ρ env) (g:GS w Z9 os F σ s)
  (h:ev w Z9 os n R ρ e σ (fun xs σ=>Internal.one xs fun v=>P v σ)):wpAny (model PP w) A (eval x env) (V1 w Z9 os F P) (Err w Z9 os F l R) s :=
 wpAny_mono (o.v x _ hc c g h) (fun v s' q9=>by
  obtain⟨σ',g',q⟩:=q9
  refine aV (fun v' hv q=>?_) (YL q)
  cases hv
  exact⟨σ',g',q⟩) fun _ _ e=>e
inductive V1B (w:World) (Z9:Heap) (os:OsState) (F:Fm) (P:Bool→Hp→Prop) (v:Value) (s:Shared):Prop
 |mk (b:Bool) (σ:Hp) (e:v=.bool b) (g:GS w Z9 os F σ s) (q:P b σ):V1B w Z9 os F P v s
theorem Ok.cZ {e:E} (o:Ok K w Z9 os n e) {x:Expr} {P:Bool→Hp→Prop} (hc:aL sc ns e (.one x)=true) (c:Cx K w Z9 os n R A l F sc ns ρ env) (g:GS w Z9 os F σ s)
  (h:ev w Z9 os n R ρ e σ (fun xs σ=>Internal.cZ xs fun v=>P v σ)):wpAny (model PP w) A (eval x env) (V1B w Z9 os F P) (Err w Z9 os F l R) s :=
 wpAny_mono (o.v x _ hc c g h) (fun v s' q9=>by
  obtain⟨σ',g',q⟩:=q9
  refine aV (fun v' hv q=>?_) (Qv q)
  simp only[List.cons.injEq,and_true] at hv
  exact⟨v',σ',ux hv,g',q⟩) fun _ _ e=>e
theorem zd6 {op:Operator} {a b:E} (oa:Ok K w Z9 os n a) (ob:Ok K w Z9 os n b):Ok K w Z9 os n (.bin op a b):=by
 have o:wA K w Z9 os n (.bin op a b):=by
  intro R A l F sc ns ρ env σ s x Q hc c g h
  refine za hc ?_
  intro l' r p h1 h2 h3
  refine wpAny_BinOp (wpAny_mono (oa.one h2 c g h) (fun v s' zz=>?_) fun _ _ e=>e)
  obtain⟨σ',g',q⟩:=zz
  refine wpAny_mono (ob.one h3 c g' q) (fun Z0 Z5 zz=>?_) fun _ _ e=>e
  obtain⟨Z4,Z6,q⟩:=zz
  exact Wj Z6 q
 refine⟨o,cN o fun {sc ns x} env whole hc=>?_,bJ rfl⟩
 refine za hc ?_
 intros
 rfl
theorem zag {op:CmpOp} {a b:E} (oa:Ok K w Z9 os n a) (ob:Ok K w Z9 os n b):Ok K w Z9 os n (.cmp op a b):=by
 refine⟨?_,?_,bJ rfl⟩
 ·intro R A l F sc ns ρ env σ s x Q hc c g h
  refine uw hc ?_
  intro l' r p h1 h2 h3
  refine wpAny_Compare1 (wpAny_mono (oa.one h2 c g h) (fun v s' zz=>?_) fun _ _ e=>e) h1
  obtain⟨σ',g',q⟩:=zz
  refine wpAny_mono (ob.one h3 c g' q) (fun Z0 Z5 zz=>?_) fun _ _ e=>e
  obtain⟨Z4,Z6,q⟩:=zz
  refine wpAny_mono (nF c.bs c.room Z6 q) (fun v Z1 zz=>?_) fun _ _ e=>e
  refine cM (fun b hb Z3 q=>?_) zz
  subst hb
  exact⟨Z4,Z3,q⟩
 ·intro R A l F sc ns ρ env σ s x Q hc c g h
  refine uw hc ?_
  intro l' r p h1 h2 h3
  refine wpAny_isTrue_Compare1 (wpAny_mono (oa.one h2 c g h) (fun v s' zz=>?_) fun _ _ e=>e) h1
  obtain⟨σ',g',q⟩:=zz
  refine wpAny_mono (ob.one h3 c g' q) (fun Z0 Z5 zz=>?_) fun _ _ e=>e
  obtain⟨Z4,Z6,q⟩:=zz
  refine wpAny_mono (nF c.bs c.room Z6 q) (fun v Z1 zz=>?_) fun _ _ e=>e
  refine cM (fun b hb Z3 q=>?_) zz
  subst hb
  exact wpAny_truthy_bool ⟨Z4,Z3,q⟩
theorem zbE {a b d:E} (oa:Ok K w Z9 os n a) (ob:Ok K w Z9 os n b) (od:Ok K w Z9 os n d):Ok K w Z9 os n (.btw a b d):=by
 refine⟨?_,?_,bJ rfl⟩
 ·intro R A l F sc ns ρ env σ s x Q hc c g h
  refine H8 hc ?_
  intro l' x y p h1 h2 h3 h4
  refine Compare_chain (wpAny_mono (oa.one h2 c g h) (fun v s' zz=>?_) fun _ _ e=>e) h1
  obtain⟨σ',g',q⟩:=zz
  refine chain_link (wpAny_mono (ob.one h3 c g' q) (fun Z0 Z5 zz=>?_) fun _ _ e=>e)
  obtain⟨Z4,Z6,q⟩:=zz
  refine wpAny_mono (nF c.bs c.room Z6 q) (fun ZQ Z1 zz=>?_) fun _ _ e=>e
  refine cM (fun b hb Z3 q=>?_) zz
  subst hb
  refine wpAny_truthy_bool ?_
  cases b with
  |false=>exact⟨Z4,Z3,q⟩
  |true =>
   refine chain_last (wpAny_mono (od.one h4 c Z3 q) (fun v₄ s₄ zz=>?_) fun _ _ e=>e)
   obtain⟨ZL,ZK,q⟩:=zz
   refine wpAny_mono (nF c.bs c.room ZK q) (fun ZQ Z1 zz=>?_) fun _ _ e=>e
   refine cM (fun b hb Z3 q=>?_) zz
   subst hb
   exact⟨ZL,Z3,q⟩
 ·intro R A l F sc ns ρ env σ s x Q hc c g h
  refine H8 hc ?_
  intro l' x y p h1 h2 h3 h4
  refine isTrue_chain (wpAny_mono (oa.one h2 c g h) (fun v s' zz=>?_) fun _ _ e=>e) h1
  obtain⟨σ',g',q⟩:=zz
  refine test_link (wpAny_mono (ob.one h3 c g' q) (fun Z0 Z5 zz=>?_) fun _ _ e=>e)
  obtain⟨Z4,Z6,q⟩:=zz
  refine wpAny_mono (nF c.bs c.room Z6 q) (fun ZQ Z1 zz=>?_) fun _ _ e=>e
  refine cM (fun b hb Z3 q=>?_) zz
  subst hb
  refine wpAny_truthy_bool ?_
  cases b with
  |false=>exact⟨Z4,Z3,q⟩
  |true =>
   refine test_last (wpAny_mono (od.one h4 c Z3 q) (fun v₄ s₄ zz=>?_) fun _ _ e=>e)
   obtain⟨ZL,ZK,q⟩:=zz
   refine wpAny_mono (nF c.bs c.room ZK q) (fun ZQ Z1 zz=>?_) fun _ _ e=>e
   refine cM (fun b hb Z3 q=>?_) zz
   subst hb
   exact wpAny_truthy_bool ⟨ZL,Z3,q⟩
theorem Tr {a b:E} (oa:Ok K w Z9 os n a) (ob:Ok K w Z9 os n b):Ok K w Z9 os n (.band a b):=by
 refine⟨?_,?_,bJ rfl⟩
 ·intro R A l F sc ns ρ env σ s x Q hc c g h
  refine Bv hc ?_
  intro x y r p h1 h2
  refine BoolOp_and (wpAny_mono (oa.cZ h1 c g h) (fun v s' zz=>?_) fun _ _ e=>e)
  obtain⟨b',σ',hb,g',q⟩:=zz
  subst hb
  refine wpAny_truthy_bool ?_
  cases b' with
  |false=>exact⟨σ',g',q⟩
  |true =>
   have key:∀ z,aL sc ns b (.one z)=true→wpAny (model PP w) A (eval z env) (Val w Z9 os F Q) (Err w Z9 os F l R) s':=fun z hz =>
    wpAny_mono (ob.cZ hz c g' q) (fun v s' ⟨b',σ',hb,g',q⟩=>by subst hb;exact⟨σ',g',q⟩) fun _ _ e=>e
   cases r with
   |nil=>exact BoolOp_one (key _ h2)
   |cons z r=>exact key _ h2
 ·intro R A l F sc ns ρ env σ s x Q hc c g h
  refine Bv hc ?_
  intro x y r p h1 h2
  refine isTrue_and (wpAny_mono (oa.t x _ h1 c g h) (fun b' s' zz=>?_) fun _ _ e=>e)
  obtain⟨σ',g',q⟩:=zz
  cases b' with
  |false=>exact⟨σ',g',q⟩
  |true =>
   have key:∀ z,aL sc ns b (.one z)=true→wpAny (model PP w) A (isTrue z env (eval z env)) (Tst w Z9 os F Q) (Err w Z9 os F l R) s':=fun z hz =>
    ob.t z _ hz c g' q
   cases r with
   |nil =>
    refine isTrue_and (wpAny_mono (key _ h2) (fun b' s' zz=>?_) fun _ _ e=>e)
    obtain⟨σ',g',q⟩:=zz
    cases b' with
    |false=>exact⟨σ',g',q⟩
    |true=>exact isTrue_and_nil ⟨σ',g',q⟩
   |cons z r=>exact key _ h2
theorem zcX {a b:E} (oa:Ok K w Z9 os n a) (ob:Ok K w Z9 os n b):Ok K w Z9 os n (.bor a b):=by
 refine⟨?_,?_,bJ rfl⟩
 ·intro R A l F sc ns ρ env σ s x Q hc c g h
  refine yN hc ?_
  intro x y r p h1 h2
  refine BoolOp_or (wpAny_mono (oa.cZ h1 c g h) (fun v s' zz=>?_) fun _ _ e=>e)
  obtain⟨b',σ',hb,g',q⟩:=zz
  subst hb
  refine wpAny_truthy_bool ?_
  cases b' with
  |true=>exact⟨σ',g',q⟩
  |false =>
   have key:∀ z,aL sc ns b (.one z)=true→wpAny (model PP w) A (eval z env) (Val w Z9 os F Q) (Err w Z9 os F l R) s':=fun z hz =>
    wpAny_mono (ob.cZ hz c g' q) (fun v s' ⟨b',σ',hb,g',q⟩=>by subst hb;exact⟨σ',g',q⟩) fun _ _ e=>e
   cases r with
   |nil=>exact BoolOp_one (key _ h2)
   |cons z r=>exact key _ h2
 ·intro R A l F sc ns ρ env σ s x Q hc c g h
  refine yN hc ?_
  intro x y r p h1 h2
  refine isTrue_or (wpAny_mono (oa.t x _ h1 c g h) (fun b' s' zz=>?_) fun _ _ e=>e)
  obtain⟨σ',g',q⟩:=zz
  cases b' with
  |true=>exact⟨σ',g',q⟩
  |false =>
   have key:∀ z,aL sc ns b (.one z)=true→wpAny (model PP w) A (isTrue z env (eval z env)) (Tst w Z9 os F Q) (Err w Z9 os F l R) s':=fun z hz =>
    ob.t z _ hz c g' q
   cases r with
   |nil =>
    refine isTrue_or (wpAny_mono (key _ h2) (fun b' s' zz=>?_) fun _ _ e=>e)
    obtain⟨σ',g',q⟩:=zz
    cases b' with
    |true=>exact⟨σ',g',q⟩
    |false=>exact isTrue_or_nil ⟨σ',g',q⟩
   |cons z r=>exact key _ h2
theorem zaz {a:E} (oa:Ok K w Z9 os n a):Ok K w Z9 os n (.not a):=by
 refine⟨?_,?_,bJ rfl⟩
 ·intro R A l F sc ns ρ env σ s x Q hc c g h
  refine Im hc ?_
  intro x p hc
  refine UnaryOp_ (wpAny_mono (oa.cZ hc c g h) (fun v s' zz=>?_) fun _ _ e=>e)
  obtain⟨b',σ',hb,g',q⟩:=zz
  subst hb
  exact not_of (wpAny_truthy_bool ⟨σ',g',q⟩)
 ·intro R A l F sc ns ρ env σ s x Q hc c g h
  refine Im hc ?_
  intro x p hc
  refine isTrue_not (wpAny_mono (oa.t x (fun b σ=>Q (!b) σ) hc c g h) (fun b' s' zz=>?_) fun _ _ e=>e)
  obtain⟨σ',g',q⟩:=zz
  exact⟨σ',g',q⟩
@[elab_as_elim] theorem zfU {v:Value} {k:List Value→Hp→Prop} {C:Value→Prop} (q:Qd σ k (er v)) (h:∀ {i t},k [vi (-i)] σ→C (.int i t)):C v:=by
 exact yh (o:=Hy (er v)) (k:=fun i=>k [vi (-i)] σ) (P:=False) (by unfold Qd at q;revert q;cases Hy (er v)<;>exact id) (fun i e z=>by obtain⟨t,rfl⟩:=lY e;exact h z) False.elim
@[elab_as_elim] theorem zee {v:Value} {f:Nat} {k:List Value→Hp→Prop} {P:Value→Prop} (q:GX σ f k (er v)) (h:∀ {a C fs u},σ a=some (.inst C fs)→iI rG C f=none→cz fs f=some u→k [u] σ→P (.ref a)):P v:=by
 have e:∀ x,er v=x→GX σ f k x→P v:=fun x hx q=>by
  cases q with
  |g_fld e hm hv z=>exact eR hx (h e hm hv z)
 exact e _ rfl q
theorem zcn {a:E} (oa:Ok K w Z9 os n a):Ok K w Z9 os n (.neg a):=by
 have o:wA K w Z9 os n (.neg a):=by
  intro R A l F sc ns ρ env σ s x Q hc c g h
  refine Iu hc ?_
  intro x p hc
  refine UnaryOp_ (wpAny_mono (oa.one hc c g h) (fun v s' zz=>?_) fun _ _ e=>e)
  obtain⟨σ',g',q⟩:=zz
  exact zfU q fun h=>neg_int ⟨σ',g'.toks,h⟩
 refine⟨o,cN o fun {sc ns x} env whole hc=>?_,bJ rfl⟩
 refine Iu hc ?_
 intros
 rfl
theorem zd0 {a b d:E} (oa:Ok K w Z9 os n a) (ob:Ok K w Z9 os n b) (od:Ok K w Z9 os n d):Ok K w Z9 os n (.ite a b d):=by
 refine⟨?_,?_,bJ rfl⟩
 ·intro R A l F sc ns ρ env σ s x Q hc c g h
  refine Ir hc ?_
  intro x y z p h1 h2 h3
  refine IfExp_ (wpAny_mono (oa.t x _ h1 c g h) (fun b' s' zz=>?_) fun _ _ e=>e)
  obtain⟨σ',g',q⟩:=zz
  cases b' with
  |true=>exact ob.v y Q h2 c g' q
  |false=>exact od.v z Q h3 c g' q
 ·intro R A l F sc ns ρ env σ s x Q hc c g h
  refine Ir hc ?_
  intro x y z p h1 h2 h3
  refine isTrue_IfExp (wpAny_mono (oa.t x _ h1 c g h) (fun b' s' zz=>?_) fun _ _ e=>e)
  obtain⟨σ',g',q⟩:=zz
  cases b' with
  |true=>exact ob.t y Q h2 c g' q
  |false=>exact od.t z Q h3 c g' q
theorem za4 {a:E} (oa:Ok K w Z9 os n a):Ok K w Z9 os n (.lst a):=by
 have o:wA K w Z9 os n (.lst a):=by
  intro R A l F sc ns ρ env σ s x Q hc c g h
  refine Ih hc ?_
  intro xs p h1 h2
  refine wpAny_List (wpAny_mono (oa.m p xs _ h2 c g h) (fun vs s' zz=>?_) fun _ _ e=>e)
  obtain⟨hl,σ',g',q⟩:=zz
  refine⟨by rw[hl,sizeLine_eq];lia,?_⟩
  exact Val.of (g'.pushL q (by rw[hl];show _≤2 ^ 20;lia))
 refine⟨o,cN o fun {sc ns x} env whole hc=>?_,bJ rfl⟩
 refine Ih hc ?_
 intros
 rfl
theorem zax {a:E} (oa:Ok K w Z9 os n a):Ok K w Z9 os n (.tup a):=by
 have o:wA K w Z9 os n (.tup a):=by
  intro R A l F sc ns ρ env σ s x Q hc c g h
  refine Hn hc ?_
  intro xs q p h1 h2
  refine wpAny_Tuple (wpAny_mono (oa.m p xs _ h2 c g h) (fun vs s' zz=>?_) fun _ _ e=>e)
  obtain⟨hl,σ',g',q⟩:=zz
  refine⟨by rw[hl,sizeLine_eq];lia,?_⟩
  exact Val.of (g'.pushT q (by rw[hl];show _≤2 ^ 20;lia))
 refine⟨o,cN o fun {sc ns x} env whole hc=>?_,bJ rfl⟩
 refine Hn hc ?_
 intros
 rfl
theorem GS.pushD {k:Addr→Hp→Prop} (g:GS w Z9 os F σ s) (h:bf σ (.dict 0 fun _=>none) k) :
  ∃ σ',GS w Z9 os F σ' { s with heap:=s.heap.push { cls:=.type "dict",data:=.dict #[] } }∧k s.heap.objs.size σ':=by
 obtain⟨x,e⟩:=g.sr.new (a:=s.heap.objs.size) (c:=.dict 0 fun _=>none) (h':=s.heap.push { cls:=.type "dict",data:=.dict #[] }) (c7 _) (fun b o q=>Heap.get?_push_of_some _ q)
  (fun role=>⟨fun _=>none,⟨_,#[],_,Heap.get?_push_size _ rfl,rfl,rfl,(fun e he=>by simp at he),fun k=>rfl⟩,fun _=>rfl,fun o es ep e1 e2=>by rw[Heap.get?_push_size _ rfl] at e1;cases e1;cases e2;exact Nat.le_refl _,by decide,fun o e=>by rw[Heap.get?_push_size _ rfl] at e;cases e;exact⟨rfl,rfl⟩⟩) ⟨_,Heap.get?_push_size _ rfl⟩ (fun _ _ q=>by cases q)
 exact⟨_,⟨x,g.gens,g.os⟩,h _ e⟩
theorem zaB:Ok K w Z9 os n .dct:=by
 have o:wA K w Z9 os n .dct:=by
  intro R A l F sc ns ρ env σ s x Q hc c g h
  refine HY hc ?_
  intro p
  exact wpAny_Dict_empty (Val.of (g.pushD h))
 refine⟨o,cN o fun {sc ns x} env whole hc=>?_,bJ rfl⟩
 refine HY hc ?_
 intros
 rfl
theorem zcC (a b:Nat):Ok K w Z9 os n (.pow a b):=by
 have o:wA K w Z9 os n (.pow a b):=by
  intro R A l F sc ns ρ env σ s x Q hc c g h
  refine yO hc ?_
  intro u p u2 p2 p3 h1 h2
  refine wpAny_BinOp (wpAny_mkInt (wpAny_mkInt (pow_int_small (by lia) (by lia) (by lia) ⟨σ,g.toks.toks.toks,?_⟩)))
  have e:((a:Int) ^ (b:Int).toNat)=((a ^ b:Nat):Int):=by simp
  show Q [vi _] σ
  rw[e];exact h
 refine⟨o,cN o fun {sc ns x} env whole hc=>?_,bJ rfl⟩
 refine yO hc ?_
 intros
 rfl
theorem qX {h:Heap} {dx:Addr} {o:Obj} {m:Str→Option Value} (N:h.Ns dx m) (ho:h.get? dx=some o) (x:Str):lookIn x o=some (m x):=by
 refine gD (fun o' es ep ho' hd hk hf=>?_) N
 rw[ho] at ho';cases ho'
 unfold lookIn
 rw[hd]
 have:=hf x
 unfold nsFind findBy at this
 rw[← Array.find?_toList] at this
 dsimp only
 split
 ·rename_i e q;rw[q] at this;rw[← this];rfl
 ·rename_i q
  rw[q] at this
  rw[if_neg]
  ·rw[← this];rfl
  ·intro hany
   rw[List.any_eq_true] at hany
   refine aV (fun e he hr=>?_) hany
   refine W7 (fun nn t hn=>?_) (hk e (by simpa using he))
   unfold DictEntry.refKey at hr
   rw[hn] at hr
   simp at hr
theorem BJ {o:Expr} {x:Str} {env:Env} {whole:Sem Value} (h:fP o=true):attributeBase o x env whole=whole:=by
 cases o with
 |Call f as ks p=>cases f with
  |Name=>cases as with
   |nil=>cases ks with
    |nil=>exact(Bool.false_ne_true h).elim
    |cons=>rfl
   |cons=>rfl
  |_=>rfl
 |_=>rfl
inductive zea (h:Heap) (a C:Addr) (fs:List (Nat × Value)):Prop
 |mk (hC:C∈ucls) (dx:Addr) (sl:Array (Option Value)) (mA:Str→Option Value) (od:Obj) (g1:h.get? a=some ⟨.ref C,some dx,.plain,sl⟩) (g2:h.get? dx=some od) (g3:h.Ns1 dx mA) (g4:rQ mA fs):zea h a C fs
theorem GS.ins {a C:Addr} {fs:List (Nat × Value)} (g:GS w Z9 os F σ s) (e:σ a=some (.inst C fs)):zea s.heap a C fs:=by
 refine cM (fun role _ hC z0=>gD (fun dx sl mA h1 h2 h3 h4=>?_) z0) (g.cell e)
 obtain⟨od,ho,hr⟩:∃ od,s.heap.get? dx=some od∧s.heap.Ns1 dx mA:=let ⟨od,_,_,ho,_⟩:=h3;⟨od,ho,h3⟩
 exact⟨hC,dx,sl,mA,od,h1,ho,hr,h4⟩
theorem Wh {a C:Addr} {fs:List (Nat × Value)} {f:Nat} {v:Value} {Q:List Value→Hp→Prop} {E':Value→Shared→Prop} (b:Bs K Z9) (g:GS w Z9 os F σ s) (h1:f < attrs.length) (e:σ a=some (.inst C fs)) (hm:iI rG C f=none) (hv:cz fs f=some v) (h:Q [v] σ) :
  wpAny (model PP w) A (getAttr (.ref a) (bH f) true) (Val w Z9 os F Q) E' s:=by
 obtain⟨hC,dx,sl,mA,od,g1,g2,g3,g4⟩:=g.ins e
 refine cM (fun v' k1 z1 k3=>?_) (g4.has f v hv);subst z1
 refine ru (fun f1 f2 f3 f4=>?_) (b.kf.fld C hC f h1 hm)
 exact get_value (g.kin b) (ox:=⟨.ref C,some dx,.plain,sl⟩) (od:=some od) (C:=C) ⟨g1,rfl,rfl,g2⟩ (plainGet_of f1).1 (findObj_own (attr:=none) f2 f3 rfl (by rw[qX g3.ns g2,k1])) k3 ⟨σ,g.toks,h⟩
theorem zd2 {a:E} {f:Nat} (oa:Ok K w Z9 os n a):Ok K w Z9 os n (.fld a f):=by
 have o:wA K w Z9 os n (.fld a f):=by
  intro R A l F sc ns ρ env σ s x Q hc c g h
  refine Hw hc ?_
  intro o p h1 h2 h3
  refine Attribute_any_ (wpAny_mono (oa.one h3 c g h) (fun v s' zz=>?_) fun _ _ e=>e) (by rw[arm_eval_Attribute,BJ h2])
  obtain⟨σ',g',q⟩:=zz
  exact zee q fun e hm hv h=>Wh c.bs g' h1 e hm hv h
 refine⟨o,cN o fun {sc ns x} env whole hc=>?_,bJ rfl⟩
 refine Hw hc ?_
 intros
 rfl
end
section
variable {K:Frag} {w:World} {Z9:Heap} {os:OsState} {n:Nat} {R:Value→Hp→Prop} {A:Around} {l:List Env} {F:Fm} {sc:List (Str × NameKind)} {ns:List Str} {ρ:Loc} {env:Env} {σ:Hp} {s:Shared}
theorem xF:∀ {xs:List Nat} {n:Nat},Hk xs n=true→n∈xs
 |[],_,h=>by cases h
 |x::r,n,h=>by
  unfold Hk at h
  split at h
  ·rename_i q;rw[Nat.eq_of_beq_eq_true q];exact List.mem_cons_self
  ·exact List.mem_cons_of_mem _ (xF h)
theorem cu {sc ns}:∀ {args:E} {as:List Expr},aL sc ns args (.many as)=true→∀ env pos,(backTo pos (starEach as env)).any (·.1)=false:=by
 intro args
 induction args with
 |nil =>
  intro as hc env pos
  refine yo hc ?_
  rfl
 |cons a b _ ib =>
  intro as hc env pos
  refine uO hc ?_
  intro x xs h1 h2
  rw[notStar h1]
  show (false||(backTo pos (starEach xs env)).any (·.1))=false
  rw[ib h2];rfl
 |_=>intro as hc;exact Bool.noConfusion (show false=true from hc)
theorem My {sc ns} {args:E} (hc:aL sc ns args (.many [])=true):args=.nil:=by
 cases args<;>first|rfl|exact Bool.noConfusion (show false=true from hc)
theorem nD {args:E} (oa:Ok K w Z9 os n args) {f:Value} {as:List Expr} {pos:Pos} {P:List Value→Hp→Prop} (hc:aL sc ns args (.many as)=true) (c:Cx K w Z9 os n R A l F sc ns ρ env) (g:GS w Z9 os F σ s) (h:ev w Z9 os n R ρ args σ P) :
  wpAny (model PP w) A (evalArgs f true (backTo pos (starEach as env)) []) (fun a s'=>∃ vs,a=⟨vs,[]⟩∧Vals w Z9 os F P vs s') (Err w Z9 os F l R) s:=by
 cases as with
 |nil =>
  cases My hc
  exact evalArgs_nil3 ⟨[],rfl,σ,g,h⟩
 |cons x xs =>
  have hx:∃ a b,args=.cons a b∧aL sc ns a (.one x)=true:=by
   cases args<;>first|exact Bool.noConfusion (show false=true from hc)|skip
   rename_i a b
   exact⟨a,b,rfl,(Bool.and_eq_true_iff.mp (show (aL sc ns a (.one x)&&aL sc ns b (.many xs))=true from hc)).1⟩
  revert hx;refine fM fun a b z0 h1=>?_;subst z0
  rw[notStar h1]
  have:=oa.m pos (x::xs) P hc c g h
  rw[notStar h1] at this
  exact evalArgs_plain (rest:=backTo pos (starEach xs env)) (wpAny_mono this (fun vs s' q=>⟨vs,rfl,q.2⟩) fun _ _ e=>e)
theorem Ha {f:Value} {vals args:List Value} {Q:List Value→Hp→Prop} (r:mU n A l) (fr:cB F l) (g:GS w Z9 os F σ s) (h:CallSem w Z9 os n f args σ (fun v σ=>Q [v] σ) R) (hv:vals.map er=args) :
  wpAny (model PP w) A (call f vals []) (Val w Z9 os F Q) (Err w Z9 os F l R) s:=by
 refine wpAny_call (codeAny_mono (h A l F s vals r fr g.sr g.gens g.os hv) (fun r s' h=>?_))
 cases h with
 |ret g o sr q=>exact⟨_,⟨sr,g,o⟩,q⟩
 |err g o f q=>exact⟨g,o,_,_,_,rfl,f,q⟩
theorem Wx {a:Addr} (b:Bs K Z9) (h:fnV (.ref a)=true):keepIn K (.ref a)=true:=b.kf.fn a (xF h)
theorem Uo {f args:E} (of:Ok K w Z9 os n f) (oa:Ok K w Z9 os n args):Ok K w Z9 os n (.call f args):=by
 have o:wA K w Z9 os n (.call f args):=by
  intro R A l F sc ns ρ env σ s x Q hc c g h
  refine zU hc ?_
  intro x p as p2 h1 h2 h3
  refine Call_Name rfl (wpAny_mono (of.one h2 c g h) (fun v s' zz=>?_) fun _ _ e=>e)
  obtain⟨σ',g',q⟩:=zz
  obtain⟨hf,q⟩:=Tu q
  have hv:∃ a,v=.ref a:=by
   cases v<;>first|exact⟨_,rfl⟩|exact Bool.noConfusion (show false=true from hf)
  obtain⟨a,rfl⟩:=hv
  have hf:fnV (.ref a)=true:=hf
  refine callWith_of (P:=K.In) (by rw[cu h3];rfl) (keeps_K (Wx c.bs hf)) (wpAny_mono (nD oa h3 c g' q) (fun ar Z5 zz=>?_) fun _ _ e=>e)
  obtain⟨vs,hv,Z4,Z6,q⟩:=zz
  subst hv
  exact⟨Z6.kin c.bs,Ha c.room c.frames Z6 q rfl⟩
 refine⟨o,cN o fun {sc ns x} env whole hc=>?_,bJ rfl⟩
 refine zU hc ?_
 intros
 rfl
theorem SJ {n:Nat} {trees:List (Bool × Sem Value)} (h:trees.any (·.1)=false) (hn:n < 30):methodCallForm n trees []=true:=by
 unfold methodCallForm
 have:trees.all (fun x=>!x.1)=true:=by
  rw[List.all_eq_true]
  intro x hx
  have:=List.any_eq_false.mp h x hx
  simpa using this
 rw[this]
 simpa using hn
theorem Dq {o:Expr} {x:Str} {ap p:Pos} {as:List Expr} {env:Env} (h1:fP o=true) (h2:as.length < 30) (h3:(ap.endLine == p.line)=true) (h4:(backTo p (starEach as env)).any (·.1)=false) :
  eval (.Call (.Attribute o x ap) as [] p) env=(do
   let ov ← eval o env
   standAt ap.atName
   let (f,first) ← holding [ov] (getMethod ov x (do return (← importBound o env).getD true))
   callWith p f first (backTo p (starEach as env)) []):=by
 rw[arm_eval_Call,BJ h1]
 have hf:=SJ (n:=as.length+([]:List Keyword).length) h4 (by simpa using h2)
 show (do
  let ov ← eval o env
  standAt ap.atName
  methodCall o x ap p env ov (as.length+([]:List Keyword).length) (backTo p (starEach as env)) [])=_
 unfold methodCall
 rw[hf]
 unfold calleeOf methodCallPos
 rw[h3]
 rfl
@[elab_as_elim] theorem zdh {v:Value} {m:Nat} {X:Addr→Addr→Prop} {P:Value→Prop} (q:RT σ m X (er v)) (h:∀ {a C f fs},σ a=some (.inst C fs)→iI rG C m=some f→cz fs m=none→X a f→P (.ref a)):P v:=by
 have e:∀ x,er v=x→RT σ m X x→P v:=fun x hx q=>by
  cases q with
  |mk e hm hv z=>exact eR hx (h e hm hv z)
 exact e _ rfl q
theorem Lr {a C f:Addr} {fs:List (Nat × Value)} {m:Nat} {p:Pos} {as:List Expr} {args:E} {pl:Sem Bool} {Q:List Value→Hp→Prop} (oa:Ok K w Z9 os n args) (c:Cx K w Z9 os n R A l F sc ns ρ env) (g:GS w Z9 os F σ s) (h1:m < attrs.length) (e:σ a=some (.inst C fs)) (hm:iI rG C m=some f) (hl:cz fs m=none)
  (h6:aL sc ns args (.many as)=true) (h:ev w Z9 os n R ρ args σ fun ys σ=>CallSem w Z9 os n (.ref f) (.ref a::ys) σ (fun v σ=>Q [v] σ) R) :
  wpAny (model PP w) A (getMethod (.ref a) (bH m) pl) (fun q s=>wpAny (model PP w) A (callWith p q.1 q.2 (backTo p (starEach as env)) []) (Val w Z9 os F Q) (Err w Z9 os F l R) s) (Err w Z9 os F l R) s:=by
 obtain⟨hC,dx,sl,mA,od,g1,g2,g3,g4⟩:=g.ins e
 refine ru (fun f1 f2 f3 f4=>?_) (c.bs.kf.meth C hC m f h1 hm)
 have hno:mA (bH m)=none:=by
  cases e:mA (bH m) with
  |none=>rfl
  |some v =>
   refine cM (fun k k1 k2 k3=>?_) (g4.no _ _ e)
   rw[c.bs.kf.inj k m k1 h1 k2.symm,hl] at k3;cases k3
 refine method_fn (g.kin c.bs) (ox:=⟨.ref C,some dx,.plain,sl⟩) (od:=some od) (C:=C) ⟨g1,rfl,rfl,g2⟩ (plainGet_of f1).1 (plainGet_of f1).2 f2 (eq_of_beq f3) (by unfold shadowIn;dsimp only;rw[qX g3.ns g2,hno];rfl) ?_
 exact callWith_of (P:=K.In) (by rw[cu h6];rfl) (keeps_K f4) (wpAny_mono (nD oa h6 c g h) (fun ar Z5 q9=>by
  obtain⟨vs,hv,Z4,Z6,q⟩:=q9
  subst hv;exact⟨Z6.kin c.bs,Ha c.room c.frames Z6 q rfl⟩) fun _ _ e=>e)
theorem Ul {a args:E} {m:Nat} (oa:Ok K w Z9 os n a) (or:Ok K w Z9 os n args):Ok K w Z9 os n (.meth a m args):=by
 have o:wA K w Z9 os n (.meth a m args):=by
  intro R A l F sc ns ρ env σ s x Q hc c g h
  refine Bl hc ?_
  intro o ap as p h1 h2 h3 h4 h5 h6
  refine MethodCall_ (wpAny_mono (oa.one h5 c g h) (fun v s' zz=>?_) fun _ _ e=>e) (Dq h2 h3 (by simp[h4]) (cu h6 env p))
  obtain⟨σ',g',q⟩:=zz
  exact zdh q fun e hm hl q=>Lr or c g' h1 e hm hl h6 q
 exact⟨o,cN o fun {sc ns x} env whole hc=>Bl hc (by intros;rfl),bJ rfl⟩
theorem Wb {C I:Addr} {vals args:List Value} {Q:List Value→Hp→Prop} (b:Bs K Z9) (hC:C∈ucls) (hI:(C,I)∈ctab) (r:mU n A l) (fr:cB F l) (g:GS w Z9 os F σ s) (hn:0 < n)
  (h:bf σ (.inst C []) fun a σ=>CallSem w Z9 os (n - 1) (.ref I) (.ref a::args) σ (fun v σ=>v=.none∧Q [.ref a] σ) R) (hv:vals.map er=args) :
  wpAny (model PP w) A (call (.ref C) vals []) (Val w Z9 os F Q) (Err w Z9 os F l R) s:=by
 refine ru (fun f1 f2 f3 f4=>?_) (b.kf.cls (C,I) hI hC)
 have X:K.In s.heap:=g.kin b
 obtain⟨hh,gg,d,t,os'⟩:=s
 refine wpAny_call (make_core (makes_of X f1) (looks_findIn X f2) (fun self=>bind_fn X self (eq_of_beq f3)) (.inl rfl) ?_)
 have k1:hh.StaysIn ((hh.push emptyDict).push (instObj C hh.objs.size)):=fun a o q=>Heap.get?_push_of_some _ (Heap.get?_push_of_some _ q)
 obtain⟨x,e⟩:=g.sr.newInst (a:=hh.objs.size+1) (dx:=hh.objs.size) (sl:=#[]) (h':=(hh.push emptyDict).push (instObj C hh.objs.size)) hC (Heap.get?_none_of_le (Nat.le_succ _)) (c7 hh) (Nat.succ_ne_self _) k1
  (by rw[← Heap.size_push hh emptyDict];exact Heap.get?_push_size _ rfl)
  (Heap.Ns1.of_empty ⟨emptyDict,#[],0,Heap.get?_push_of_some _ (Heap.get?_push_size _ rfl),rfl,(fun e he=>by simp at he),fun x=>rfl⟩)
 have hr:mU (n - 1) (A.under (.builtin "type.__call__" ⟨.ref C::vals,[]⟩)) l :=
  ⟨r.frames,r.handled,by show A.depth+1+_≤_;have:=r.depth;lia,by show A.units+1+_≤_;have:=r.units;lia⟩
 refine codeAny_mono (h _ e (A.under (.builtin "type.__call__" ⟨.ref C::vals,[]⟩)) l F _ (.ref (hh.objs.size+1)::vals) hr fr x g.gens g.os (by rw[List.map_cons,hv];rfl)) (fun r s' h=>?_)
 cases h with
 |ret g o sr q=>exact⟨Hf q.1,_,⟨sr,g,o⟩,q.2⟩
 |err g o f q=>exact⟨g,o,_,_,_,rfl,f,q⟩
theorem zaR {x:Nat} {C I:Addr} {args:E} (oa:Ok K w Z9 os n args):Ok K w Z9 os n (.new x C I args):=by
 have o:wA K w Z9 os n (.new x C I args):=by
  intro R A l F sc ns ρ env σ s x Q hc c g h
  refine Hb hc ?_
  intro x p as p2 h1 h2 h3 h4
  have:=rE (Q:=fun xs σ'=>xs=[.ref C]∧ev w Z9 os n R ρ args σ' fun xs σ=>0 < n∧bf σ (.inst C []) fun a σ=>CallSem w Z9 os (n - 1) (.ref I) (.ref a::xs) σ (fun v σ=>v=.none∧Q [.ref a] σ) R) (p:=p) h1 c g ⟨rfl,h⟩
  refine Call_Name rfl (wpAny_mono this (fun v s' zz=>?_) fun _ _ e=>e)
  obtain⟨σ',g',hv,q⟩:=zz
  simp only[List.cons.injEq,and_true] at hv
  cases il hv
  refine ru (fun f1 f2 f3 f4=>?_) (c.bs.kf.cls (C,I) h3 h2)
  refine callWith_of (P:=K.In) (by rw[cu h4];rfl) (keeps_K f4) (wpAny_mono (nD oa h4 c g' q) (fun ar Z5 zz=>?_) fun _ _ e=>e)
  obtain⟨vs,hv,Z4,Z6,q⟩:=zz
  subst hv
  exact⟨Z6.kin c.bs,Wb c.bs h2 h3 c.room c.frames Z6 q.1 q.2 rfl⟩
 refine⟨o,cN o fun {sc ns x} env whole hc=>?_,bJ rfl⟩
 refine Hb hc ?_
 intros
 rfl
end
section
variable {K:Frag} {w:World} {Z9:Heap} {os:OsState} {n:Nat} {R:Value→Hp→Prop} {A:Around} {l:List Env} {F:Fm} {sc:List (Str × NameKind)} {ns:List Str} {ρ:Loc} {env:Env} {σ:Hp} {s:Shared} {E':Value→Shared→Prop}
theorem GS.keeps {h':Heap} {t:Nat} (g:GS w Z9 os F σ s) (k:s.heap.StaysIn h'):GS w Z9 os F σ { s with heap:=h',toks:=t }:=g.heap (g.sr.keeps k)
noncomputable def wZ:Bf→Value
 |.len=>.builtin "len"|.list=>.type "list"|.tuple=>.type "tuple"|.min=>.builtin "min"|.abs=>.builtin "abs"|.sum=>.builtin "sum"|.ord=>.builtin "ord"|.all=>.builtin "all"
theorem uv {a:Addr} {xs:List Value} {k:Addr→Hp→Prop} {h':Heap} {n t:Nat} (g:GS w Z9 os F σ s) (hk:s.heap.StaysIn h') (ha:s.heap.get? a=none) (hn:h'.get? a=some { cls:=.type "list",data:=.seq (List.toArray xs) n })
  (h:bf σ (.list (xs.map er)) k) (hz:xs.length≤big):∃ σ',GS w Z9 os F σ' { s with heap:=h',toks:=t }∧k a σ':=by
 obtain⟨x,e⟩:=g.sr.new (a:=a) (c:=.list (xs.map er)) ha hk (fun role=>⟨xs,n,hn,rfl,by simpa using hz⟩) ⟨_,hn⟩ (fun _ _ q=>by cases q)
 exact⟨_,g.heap x,h _ e⟩
theorem map_two {vs:List Value} {a b:Value} (h:vs.map er=[a,b]):∃ v v2,vs=[v,v2]∧er v=a∧er v2=b:=by
 cases vs with
 |nil=>cases h
 |cons v vs =>
  simp only[List.map_cons,List.cons.injEq] at h
  refine aV (fun v2 z0 hv=>?_) (List.map_eq_singleton_iff.mp h.2);subst z0
  exact⟨v,v2,rfl,h.1,hv⟩
theorem Lx {vs:List Value}:∀ {m:Int},Fo (vs.map er)=some m→∃ ps:List (Int × Tok),vs=ps.map (fun p=>.int p.1 p.2)∧(ps.map (·.1)).sum=m:=by
 induction vs with
 |nil=>intro m h;cases h;exact⟨[],rfl,rfl⟩
 |cons v vs ih =>
  intro m h
  cases v with
  |int i t =>
   refine aV (fun m' h1 z1=>?_) (Option.map_eq_some_iff.mp (show (Fo (vs.map er)).map (i+·)=some m from h));subst z1
   refine aV (fun ps z2 z3=>?_) (ih h1);subst z2;subst z3
   exact⟨(i,t)::ps,rfl,List.sum_cons⟩
  |_=>exact gG h
theorem Ji {vs:List Value}:∀ {b:Bool},allB (vs.map er)=some b→∃ bs:List Bool,LSm.BoolsAre vs bs∧bs.all id=b:=by
 induction vs with
 |nil=>intro m h;cases h;exact⟨[],.nil,rfl⟩
 |cons v vs ih =>
  intro b h
  cases v with
  |bool i =>
   refine aV (fun m' h1 z4=>?_) (Option.map_eq_some_iff.mp (show (allB (vs.map er)).map (i&&·)=some b from h));subst z4
   refine aV (fun bs e1 z5=>?_) (ih h1);subst z5
   exact⟨i::bs,.cons _ e1,rfl⟩
  |_=>exact gG h
theorem GS.lstC {a:Addr} {ys:List Value} (g:GS w Z9 os F σ s) (e:σ a=some (.list ys)):∃ xs k,ys=xs.map er∧IsL s.heap a (List.toArray xs) k∧xs.length≤big:=by
 refine aC (fun xs k t z6 z=>?_) (g.lst e);subst z6;exact⟨xs,k,rfl,t,by rwa [List.length_map] at z⟩
theorem GS.tpC {a:Addr} {ys:List Value} (g:GS w Z9 os F σ s) (e:σ a=some (.tup ys)):∃ xs k,ys=xs.map er∧IsT s.heap a (List.toArray xs) k∧xs.length≤big:=by
 refine aC (fun xs k t z7 z=>?_) (g.tp e);subst z7;exact⟨xs,k,rfl,t,by rwa [List.length_map] at z⟩
theorem gJ {xs:List Value} (z:xs.length≤big):(List.toArray xs).size≤sizeLine:=Nat.le_trans z oZ
theorem v8 {xs:List Value} (z:xs.length≤big):((List.toArray xs).size:Int) < 2 ^ 63:=by
 have:big < 2 ^ 63:=by decide
 simp only[List.size_toArray];lia
theorem QK {a:Addr} {ys:List Value} {Q:List Value→Hp→Prop} (g:GS w Z9 os F σ s) (e:σ a=some (.list ys)) (h:Q [vi ys.length] σ):wpAny (model PP w) A (call (.builtin "len") [.ref a]) (Val w Z9 os F Q) E' s:=by
 refine aC (fun xs k z8 t z=>?_) (g.lstC e);subst z8
 exact call_len_list ⟨_,t,rfl,_,rfl⟩ (v8 z) ⟨σ,g.toks,by rwa [List.length_map] at h⟩
theorem Ma {a:Addr} {ys:List Value} {Q:List Value→Hp→Prop} (g:GS w Z9 os F σ s) (e:σ a=some (.tup ys)) (h:Q [vi ys.length] σ):wpAny (model PP w) A (call (.builtin "len") [.ref a]) (Val w Z9 os F Q) E' s:=by
 refine aC (fun xs k z9 t z=>?_) (g.tpC e);subst z9
 exact PyProof.Rows.len_tuple ⟨_,t,rfl,_,rfl⟩ (v8 z) ⟨σ,g.toks,by rwa [List.length_map] at h⟩
theorem J6 {a:Addr} {ys:List Value} {Q:List Value→Hp→Prop} (g:GS w Z9 os F σ s) (e:σ a=some (.list ys)) (h:bf σ (.list ys) fun r σ'=>Q [.ref r] σ'):wpAny (model PP w) A (call (.type "list") [.ref a]) (Val w Z9 os F Q) E' s:=by
 refine aC (fun xs k z10 t z=>?_) (g.lstC e);subst z10
 exact call_list_seq a (.inl rfl) t rfl rfl (fun h' c' k1 k2=>Val.of (uv g k1 (c7 _) k2 h z)) (gJ z)
theorem xO {a:Addr} {us:List Value} {m:Nat} {Q:List Value→Hp→Prop} (g:GS w Z9 os F σ s) (t:IsT s.heap a (List.toArray us) m) (z:us.length≤big) (h:bf σ (.list (us.map er)) fun r σ'=>Q [.ref r] σ'):wpAny (model PP w) A (call (.type "list") [.ref a]) (Val w Z9 os F Q) E' s :=
 call_list_seq a (.inr rfl) t rfl rfl (fun h' c' k1 k2=>Val.of (uv g k1 (c7 _) k2 h z)) (gJ z)
theorem J5 {a:Addr} {ys:List Value} {Q:List Value→Hp→Prop} (g:GS w Z9 os F σ s) (e:σ a=some (.tup ys)) (h:bf σ (.list ys) fun r σ'=>Q [.ref r] σ'):wpAny (model PP w) A (call (.type "list") [.ref a]) (Val w Z9 os F Q) E' s:=by
 refine aC (fun xs k z11 t z=>?_) (g.tpC e);subst z11
 exact xO g t z h
theorem Rn {a:Addr} {ys:List Value} {Q:List Value→Hp→Prop} (g:GS w Z9 os F σ s) (e:σ a=some (.list ys)) (h:bf σ (.tup ys) fun r σ'=>Q [.ref r] σ'):wpAny (model PP w) A (call (.type "tuple") [.ref a]) (Val w Z9 os F Q) E' s:=by
 refine aC (fun xs k z12 t z=>?_) (g.lstC e);subst z12
 exact call_tuple_list ⟨_,t,rfl,_,rfl⟩ (fun h' k1=>Val.of ((g.keeps k1:GS w Z9 os F σ { s with heap:=h',toks:=s.toks }).pushT h z)) (gJ z)
theorem zc6 {i j:Int} {t u:Tok} {Q:List Value→Hp→Prop} (r:mU n A l) (g:GS w Z9 os F σ s) (h:Q [vi (if j < i then j else i)] σ):wpAny (model PP w) A (call (.builtin "min") [.int i t,.int j u]) (Val w Z9 os F Q) E' s:=by
 refine min_two_ints r.handled (fun h' tk k=>⟨σ,g.keeps k,?_⟩)
 have:er (if j < i then Value.int j u else Value.int i t)=vi (if j < i then j else i):=by split<;>rfl
 rw[this];exact h
theorem zcV {i:Int} {t:Tok} {Q:List Value→Hp→Prop} (g:GS w Z9 os F σ s) (h:Q [vi i.natAbs] σ):wpAny (model PP w) A (call (.builtin "abs") [.int i t]) (Val w Z9 os F Q) E' s:=by
 refine call_abs_int fun u tk=>⟨σ,g.toks,?_⟩
 have:(if i < 0 then -i else i)=((i.natAbs:Nat):Int):=by split<;>lia
 show Q [vi _] σ
 rw[this];exact h
theorem zaY {a:Addr} {ys:List Value} {m:Int} {Q:List Value→Hp→Prop} (r:mU n A l) (g:GS w Z9 os F σ s) (e:σ a=some (.list ys)) (hm:Fo ys=some m) (h:Q [vi m] σ):wpAny (model PP w) A (call (.builtin "sum") [.ref a]) (Val w Z9 os F Q) E' s:=by
 refine aC (fun xs k z13 t z=>?_) (g.lstC e);subst z13
 refine aV (fun ps z14 z15=>?_) (Lx hm);subst z14;subst z15
 refine sum_intListG r.handled (xs:=ps.toArray) (⟨_,t,rfl,k,by simp[intItems]⟩:s.heap.IsList a (intItems ps.toArray)) fun h' tk t' hk=>⟨σ,g.keeps hk,?_⟩
 show Q [vi _] σ
 rw[preSum_eq,List.take_of_length_le (by simp)];exact h
theorem zbq {a:Addr} {ys:List Value} {m:Bool} {Q:List Value→Hp→Prop} (r:mU n A l) (g:GS w Z9 os F σ s) (e:σ a=some (.list ys)) (hm:allB ys=some m) (h:Q [.bool m] σ):wpAny (model PP w) A (call (.builtin "all") [.ref a]) (Val w Z9 os F Q) E' s:=by
 refine aC (fun xs k z16 t z=>?_) (g.lstC e);subst z16
 refine aV (fun bs hb z17=>?_) (Ji hm);subst z17
 have hl:s.heap.IsList a (List.toArray xs):=⟨_,t,rfl,_,rfl⟩
 refine call_all_walk (wpAny_pyIter_list hl ?_)
 refine⟨s.heap.objs.size,[s.heap.objs.size,a],[s.heap.objs.size],(List.toArray xs).size,_,_,fun i=>(bs[i]?).getD true,rfl,Walks.list (A:=A.in1) r.handled _ a (Nat.ne_of_lt (Heap.lt_size t)) (List.toArray xs),
  ⟨⟨_,Heap.get?_push_size _ rfl,rfl,rfl⟩,hl.push _⟩,fun i v s' Q' E' hP hQ=>?_,fun h' tk hk=>?_⟩
 ·refine aV (fun b e z18=>?_) (hb.get i v (by simpa using hP));subst z18
  simp only[e,Option.getD_some] at hQ
  exact wpAny_truthy_bool hQ
 ·have e:((List.range (List.toArray xs).size).all fun i=>(bs[i]?).getD true)=bs.all id:=by
   rw[List.size_toArray,hb.length];exact LSm.range_all bs
  rw[e]
  exact⟨σ,g.keeps (LSm.kept_iter hk),h⟩
@[elab_as_elim] theorem arg1 {vs:List Value} {x:Value} {C:List Value→Prop} (h:vs.map er=[x]) (k:∀ v,er v=x→C [v]):C vs:=by
 refine aV (fun v z19 hv=>?_) (List.map_eq_singleton_iff.mp h);subst z19;exact k v hv
theorem Uj {b:Bf} {vs ys:List Value} {Q:List Value→Hp→Prop} (r:mU n A l) (g:GS w Z9 os F σ s) (hy:vs.map er=ys) (h:nQ Z9 σ Q b ys):wpAny (model PP w) A (call (wZ b) vs) (Val w Z9 os F Q) E' s:=by
 have R1:∀ {x:Value} {y:Value},vs.map er=[y]→(∀ v,er v=y→wpAny (model PP w) A (call x [v]) (Val w Z9 os F Q) E' s)→wpAny (model PP w) A (call x vs) (Val w Z9 os F Q) E' s:=fun h k=>arg1 h k
 cases h with
 |f_len_l e h=>exact R1 hy fun v q=>eR q (QK g e h)
 |f_len_t e h=>exact R1 hy fun v q=>eR q (Ma g e h)
 |f_len_s c h=>exact R1 hy fun v q=>eS q fun t=>P.len_str (by lia) ⟨σ,g.toks,h⟩
 |f_list_l e h=>exact R1 hy fun v q=>eR q (J6 g e h)
 |f_list_t e h=>exact R1 hy fun v q=>eR q (J5 g e h)
 |f_list_b e z h=>exact R1 hy fun v q=>eR q (xO g (g.sr.base _ _ e) z h)
 |f_tuple e h=>exact R1 hy fun v q=>eR q (Rn g e h)
 |f_min h =>
  refine aC (fun v v2 z20 q1 q2=>?_) (map_two hy);subst z20
  exact eI q1 fun t=>eI q2 fun u=>zc6 r g h
 |f_abs h=>exact R1 hy fun v q=>eI q fun t=>zcV g h
 |f_sum e hs h=>exact R1 hy fun v q=>eR q (zaY r g e hs h)
 |f_ord h=>exact R1 hy fun v q=>eS q fun t=>P.ord_of_char ⟨σ,g.toks,h⟩
 |f_all e hs h=>exact R1 hy fun v q=>eR q (zbq r g e hs h)
end
section
variable {K:Frag} {w:World} {Z9:Heap} {os:OsState} {n:Nat} {R:Value→Hp→Prop} {A:Around} {l:List Env} {F:Fm} {sc:List (Str × NameKind)} {ns:List Str} {ρ:Loc} {env:Env} {σ:Hp} {s:Shared} {E':Value→Shared→Prop}
theorem GS.upd {a:Addr} {xs ys:List Value} {m t:Nat} {f:Array Value→Array Value} (g:GS w Z9 os F σ s) (e:σ a=some (.list (xs.map er))) (x:IsL s.heap a (List.toArray xs) m) (hf:f (List.toArray xs)=List.toArray ys) (hz:ys.length≤big) :
  GS w Z9 os F (σ.put a (.list (ys.map er))) { s with heap:=s.heap.update a (Obj.mapSeq f),toks:=t }:=by
 have q:=x.update f
 rw[hf] at q
 exact g.heap (g.sr.cell e (Heap.SameBut.update ..) (fun role _ _=>⟨ys,_,q,rfl,by simpa using hz⟩) ⟨_,q⟩)
theorem Lp {a:Addr} {y:Value} {ys:List Value} {Q:List Value→Hp→Prop} (g:GS w Z9 os F σ s) (e:σ a=some (.list ys)) (c:ys.length < big) (h:Q [.none] (σ.put a (.list (ys++[er y])))) :
  wpAny (model PP w) A (call (.builtin "list.append") [.ref a,y]) (Val w Z9 os F Q) E' s:=by
 refine aC (fun xs k z0 t z=>?_) (g.lstC e);subst z0
 rw[List.length_map] at c
 refine wpAny_call_entry slot_list_append (⟨_,t,rfl⟩:s.TypeIs (.ref a) "list") entry_list_append ?_ (args_list_append _ _)
 show wpAny _ _ (updateSeq a (·.push y) >>= fun _=>ret .none) _ _ s
 refine wpAny_bind (wpAny_updateSeq t rfl (wpAny_pure ⟨.none,rfl,?_⟩) (gJ z) (by rw[Array.size_push];exact Nat.le_trans c (Nat.le_succ_of_le oZ)))
 exact⟨_,g.upd (t:=s.toks) e t (ys:=xs++[y]) (List.push_toArray _ _) (by rw[List.length_append];exact c),by rw[List.map_append];exact h⟩
theorem zad {a:Addr} {v:Value} {ys:List Value} {Q:List Value→Hp→Prop} (g:GS w Z9 os F σ s) (e:σ a=some (.list (ys++[v]))) (h:Q [v] (σ.put a (.list ys))):wpAny (model PP w) A (call (.builtin "list.pop") [.ref a]) (Val w Z9 os F Q) E' s:=by
 refine aC (fun xs k q t z=>?_) (g.lstC e)
 refine aC (fun p r z1 z3 hr=>?_) (List.map_eq_append_iff.mp q.symm);subst z1;subst z3
 refine aV (fun y z4 z5=>?_) (List.map_eq_singleton_iff.mp hr);subst z4;subst z5
 have e':σ a=some (.list ((p++[y]).map er)):=by rw[List.map_append];exact e
 have hk:(p++[y]).toArray.size - 1=p.length:=by simp
 have hy:(p++[y]).toArray[(p++[y]).toArray.size - 1]?=some y:=by rw[hk];simp
 refine call_meets PySem.F.slot_list_pop ⟨_,t,rfl⟩ PySem.F.entry_list_pop (PySem.F.args_list_pop_1 _) (PySem.MeetsSeq.list_pop_last a _ k y hy (gJ z)) ⟨t,?_⟩
 refine⟨_,g.upd (t:=s.toks) e' t (ys:=p) ?_ (Nat.le_trans (by rw[List.length_append];exact Nat.le_add_right ..) z),h⟩
 show (p++[y]).toArray.eraseIdxIfInBounds ((p++[y]).toArray.size - 1)=p.toArray
 rw[hk,kl_erase,List.append_nil]
theorem TG {a:Addr} {v:Value} {ys:List Value} {t0:Tok} {Q:List Value→Hp→Prop} (g:GS w Z9 os F σ s) (e:σ a=some (.list (v::ys))) (h:Q [v] (σ.put a (.list ys))):wpAny (model PP w) A (call (.builtin "list.pop") [.ref a,.int 0 t0]) (Val w Z9 os F Q) E' s:=by
 refine aC (fun xs k q t z=>?_) (g.lstC e)
 refine aC (fun y p z6 z7 z8=>?_) (List.map_eq_cons_iff.mp q.symm);subst z6;subst z7;subst z8
 have e':σ a=some (.list ((y::p).map er)):=e
 have hk:seqIndex? 0 (y::p).toArray.size=some 0:=by simp[seqIndex?]
 refine call_meets PySem.F.slot_list_pop ⟨_,t,rfl⟩ PySem.F.entry_list_pop (PySem.F.args_list_pop_2 _ _) (PySem.MeetsSeq.list_pop_at a _ k 0 t0 0 y (by decide) hk (by simp) (gJ z)) ⟨t,?_⟩
 exact⟨_,g.upd (t:=s.toks) e' t (ys:=p) (kl_erase [] p y) (Nat.le_trans (Nat.le_succ _) z),h⟩
theorem Ja {a b:Addr} {ys zs:List Value} {Q:List Value→Hp→Prop} (g:GS w Z9 os F σ s) (hc:σ a=some (.list ys)) (hd:σ b=some (.list zs)) (hz:ys.length+zs.length≤big) (h:Q [.none] (σ.put a (.list (ys++zs)))) :
  wpAny (model PP w) A (call (.builtin "list.extend") [.ref a,.ref b]) (Val w Z9 os F Q) E' s:=by
 refine aC (fun xs k z9 t z=>?_) (g.lstC hc);subst z9
 refine aC (fun ws k2 z10 t2 z2=>?_) (g.lstC hd);subst z10
 rw[← List.map_append] at h
 simp only[List.length_map] at hz
 have b1:=oZ
 refine call_meets PySem.F.slot_list_extend ⟨_,t,rfl⟩ PySem.F.entry_list_extend (PySem.F.args_list_extend_2 _ _) (PySem.AutoSeq1.list_extend_list_list_0 a _ k b _ k2 ?_ (by rw[List.size_toArray];lia) (by rw[List.size_toArray,List.size_toArray];lia)) ⟨t,t2,?_⟩
 ·have:Builtin.List.listTooLong ((List.toArray xs).size+(List.toArray ws).size)=false:=by
   unfold Builtin.List.listTooLong
   rw[List.size_toArray,List.size_toArray]
   simp only[decide_eq_false_iff_not]
   lia
  rw[this];simp
 ·exact⟨_,g.upd (t:=s.toks) hc t (ys:=xs++ws) (by simp) (by rw[List.length_append];exact hz),h⟩
theorem zbO {d:Addr} {m:Nat} {f:Int→Option Value} {i:Int} {t:Tok} {Q:List Value→Hp→Prop} (b:Bs K Z9) (g:GS w Z9 os F σ s) (hc:σ d=some (.dict m f)) (h:Q [(f i).getD .none] σ) :
  wpAny (model PP w) A (call (.builtin "dict.get") [.ref d,.int i t,.none]) (Val w Z9 os F Q) E' s:=by
 refine jV (fun q h1 h2 h3 h4 h5=>?_) (g.dct hc)
 refine call_meetsIn PySem.F.slot_dict_get (h1.mapOf (prog:=PP) (w:=w) h5).typeIs PySem.F.entry_dict_get (PySem.F.args_dict_get_3 _ _ _) (meets_dict_get_default (intKind PP w) d (intKind_is PP w _ t) (dsys g b hc) .none) ⟨q,h1.mapOf h5,σ,g.toks,?_⟩
 have:er ((q i).getD .none)=(f i).getD .none:=by rw[← h2 i];cases q i<;>rfl
 rw[this];exact h
end
section
variable {K:Frag} {w:World} {Z9:Heap} {os:OsState} {n:Nat} {R:Value→Hp→Prop} {A:Around} {l:List Env} {F:Fm} {sc:List (Str × NameKind)} {ns:List Str} {ρ:Loc} {env:Env} {σ:Hp} {s:Shared} {E':Value→Shared→Prop}
theorem Hs (a b:Str):(a++b).length=a.length+b.length:=by
 show (a.cps++b.cps).size=_
 rw[Array.size_append];rfl
theorem uA:∀ ys:List Str,Str.join Str.empty ys=ys.foldr (·++·) Str.empty
 |[]=>rfl
 |[x]=>(Str.append_empty x).symm
 |x::y::r=>by
  show x++Str.empty++Str.join Str.empty (y::r)=x++_
  rw[Str.append_empty,uA (y::r)]
theorem KD {vs:List Value}:∀ {t:Str},ym (vs.map er)=some t→∃ ys:List Str,StrsAre vs ys∧ys.foldr (·++·) Str.empty=t∧(ys.map (·.length)).sum=t.length∧ys.length=vs.length:=by
 induction vs with
 |nil=>intro t h;cases h;exact⟨[],.nil,rfl,rfl,rfl⟩
 |cons v vs ih =>
  intro t h
  cases v with
  |str x u =>
   refine aV (fun m' h1 z0=>?_) (Option.map_eq_some_iff.mp (show (ym (vs.map er)).map (x++·)=some t from h));subst z0
   refine kZ (fun ys e1 e2 e3 e4=>?_) (ih h1)
   exact⟨x::ys,.cons _ _ e1,by rw[← e2];rfl,by rw[Hs,List.map_cons,List.sum_cons,e3],congrArg (·+1) e4⟩
  |_=>exact gG h
theorem HD {a:Addr} {ys:List Value} {t:Str} {u:Tok} {Q:List Value→Hp→Prop} (g:GS w Z9 os F σ s) (e:σ a=some (.list ys)) (hc:ym ys=some t) (c:ys.length≤100∧t.length≤100) (h:Q [vs t] σ) :
  wpAny (model PP w) A (call (.builtin "str.join") [.str Str.empty u,.ref a]) (Val w Z9 os F Q) E' s:=by
 refine aC (fun xs k z1 tt z=>?_) (g.lstC e);subst z1
 refine kZ (fun zs e1 z2 e3 e4=>?_) (KD hc);subst z2
 rw[List.length_map] at c
 refine join_listW (ys:=zs) ⟨_,tt,rfl,_,rfl⟩ e1 (by decide) (by rw[e3];lia) fun t' k=>⟨σ,g.toks,?_⟩
 have:Txt.join Str.empty zs=zs.foldr (·++·) Str.empty:=by
  show Builtin.Str.glued Str.empty zs=_
  rw[StrLaws.glued_eq_join,uA]
 show Q [Internal.vs _] σ
 rw[this];exact h
noncomputable def zdG:Bm→String
 |.append=>"list.append"|.pop=>"list.pop"|.pop0=>"list.pop"|.extend=>"list.extend"|.get=>"dict.get"|.join=>"str.join"
theorem zc7 {m:Bm} {v x:Value} {vs ys:List Value} {Q:List Value→Hp→Prop} (b:Bs K Z9) (g:GS w Z9 os F σ s) (hx:er v=x) (hy:vs.map er=ys) (h:RX σ Q m x ys):wpAny (model PP w) A (call (.builtin (zdG m)) (v::vs)) (Val w Z9 os F Q) E' s:=by
 cases h with
 |m_append e c h=>exact eR hx (arg1 hy fun y q=>by subst q;exact Lp g e c h)
 |m_pop e h=>cases List.map_eq_nil_iff.mp hy;exact eR hx (zad g e h)
 |m_pop0 e h=>exact eR hx (arg1 hy fun y q=>eI q fun t=>TG g e h)
 |m_extend hne e e2 c h=>exact eR hx (arg1 hy fun y q=>eR q (Ja g e e2 c h))
 |m_get e h =>
  refine aC (fun y y2 z3 q1 q2=>?_) (map_two hy);subst z3
  exact eR hx (eI q1 fun t=>eNo q2 (zbO b g e h))
 |m_join e hc c h=>exact eS hx fun u=>arg1 hy fun y q=>eR q (HD g e hc c h)
theorem JD {m:Bm} {v x:Value} {pl:Sem Bool} {Q:Value × List Value→Shared→Prop} (g:GS w Z9 os F σ s) (hx:er v=x) (h:sV σ m x) (hq:Q (.builtin (zdG m),[v]) s):wpAny (model PP w) A (getMethod v (DP m) pl) Q E' s:=by
 cases h with
 |@l _ b _ hm e =>
  cases il hx
  refine aC (fun xs k z4 t z=>?_) (g.lstC e);subst z4
  have h2:∀ a',Value.ref b=.ref a'→∃ o,s.heap.get? a'=some o∧o.dict=none:=fun b e=>by cases e;exact⟨_,t,rfl⟩
  cases m with
  |append=>exact getMethod_builtin (⟨_,t,rfl⟩:s.TypeIs (.ref b) "list") PySem.F.plainAttrs_list PySem.F.slot_list_append PySem.F.type_list_append h2 hq
  |pop=>exact getMethod_builtin (⟨_,t,rfl⟩:s.TypeIs (.ref b) "list") PySem.F.plainAttrs_list PySem.F.slot_list_pop PySem.F.type_list_pop h2 hq
  |pop0=>exact getMethod_builtin (⟨_,t,rfl⟩:s.TypeIs (.ref b) "list") PySem.F.plainAttrs_list PySem.F.slot_list_pop PySem.F.type_list_pop h2 hq
  |extend=>exact getMethod_builtin (⟨_,t,rfl⟩:s.TypeIs (.ref b) "list") PySem.F.plainAttrs_list PySem.F.slot_list_extend PySem.F.type_list_extend h2 hq
  |_=>exact(Bool.false_ne_true hm).elim
 |g e =>
  cases il hx
  refine jV (fun q h1 h2 h3 h4 h5=>?_) (g.dct e)
  refine getMethod_builtin (h1.mapOf (prog:=PP) (w:=w) h5).typeIs PySem.F.plainAttrs_dict PySem.F.slot_dict_get PySem.F.type_dict_get (fun b e=>?_) hq
  cases e
  refine iH (fun o es ep ho _=>?_) h1
  exact⟨o,ho,(h5 o ho).1⟩
 |j =>
  obtain⟨t',rfl⟩:=oH hx
  exact getMethod_builtin (typeIs_str s _ t') PySem.F.plainAttrs_str PySem.F.slot_str_join PySem.F.type_str_join (fun b e=>by cases e) hq
theorem zfT {a args:E} {m:Bm} (oa:Ok K w Z9 os n a) (or:Ok K w Z9 os n args):Ok K w Z9 os n (.bm a m args):=by
 have o:wA K w Z9 os n (.bm a m args):=by
  intro R A l F sc ns ρ env σ s x Q hc c g h
  refine QJ hc ?_
  intro o ap as p h2 h3 h4 h5 h6
  refine MethodCall_ (wpAny_mono (oa.one h5 c g h) (fun v s' zz=>?_) fun _ _ e=>e) (Dq h2 h3 (by simp[h4]) (cu h6 env p))
  obtain⟨σ',g',q⟩:=zz
  refine JD g' rfl q.1 ?_
  refine callWith_builtin (cu h6 env p) (wpAny_mono (nD or h6 c g' q.2) (fun ar Z5 zz=>?_) fun _ _ e=>e)
  obtain⟨vs,hv,Z4,Z6,q⟩:=zz
  subst hv
  exact zc7 c.bs Z6 rfl rfl q
 refine⟨o,cN o fun {sc ns x} env whole hc=>?_,bJ rfl⟩
 refine QJ hc ?_
 intros
 rfl
theorem Hh (b:Bf):bootBuiltins (jX b)=some (wZ b)∧jX b≠"__name__"∧(jX b == ("__debug__":Str))=false:=by
 cases b<;>refine⟨?_,?_,?_⟩<;>decide +kernel
theorem Qh {sc ns ρ b x p} {Q:Value→Shared→Prop} {E'} (hc:gr sc x (jX b)=true) (c:Cx K w Z9 os n R A l F sc ns ρ env) (g:GS w Z9 os F σ s) (h:Q (wZ b) s) :
  wpAny (model PP w) A (eval (.Name x p) env) Q E' s:=by
 refine aC (fun L m e hF lo=>?_) c.env
 simp only[gr,Bool.and_eq_true,beq_iff_eq] at hc
 obtain⟨rfl,h2⟩:=hc
 refine iJ (fun b1 b2 b3=>?_) (Hh b)
 obtain⟨mg,hg⟩:=c.bs.g
 refine aV (fun mb hb hb2=>?_) c.bs.b
 refine Calls.Name_function_global e.kind (by unfold Env.kindOf;rw[e.names];exact h2) ?_ b3
 refine Calls.loadGlobal_builtin (by rw[e.globals];exact hg.keeps g.sr.base) (mg_none_of c.bs.kin hg (c.bs.kf.noglob b)) (by rw[e.builtins];exact hb.keeps g.sr.base) ((hb2 _ b2).trans b1) h
theorem zcB {args:E} {b:Bf} (or:Ok K w Z9 os n args):Ok K w Z9 os n (.blt b args):=by
 have o:wA K w Z9 os n (.blt b args):=by
  intro R A l F sc ns ρ env σ s x Q hc c g h
  refine yK hc ?_
  intro x p as p2 h1 h2 h3
  refine Call_Name rfl (Qh h1 c g ?_)
  have fin:∀ {f:Value},wpAny (model PP w) A (evalArgs f true (backTo p2 (starEach as env)) []) (fun a Z7=>wpAny (model PP w) A (call (wZ b) ([]++a.pos) a.kw) (Val w Z9 os F Q) (Err w Z9 os F l R) Z7) (Err w Z9 os F l R) s :=
   wpAny_mono (nD or h3 c g h) (fun ar Z5 ⟨vs,hv,Z4,Z6,q⟩=>by subst hv;exact Uj c.room Z6 rfl q) fun _ _ e=>e
  cases b<;>first|exact callWith_builtin (cu h3 env p2) fin|exact PyProof.Rows.callWith_type (cu h3 env p2) fin
 refine⟨o,cN o fun {sc ns x} env whole hc=>?_,bJ rfl⟩
 refine yK hc ?_
 intros
 rfl
theorem jy {sl:Expr} {o i:Value} (h:sZ sl=true):subscripted sl false o i=operate [o,i] (getItem o i):=by
 cases sl with
 |Slice=>exact(Bool.false_ne_true h).elim
 |_=>rfl
theorem Ft {vs:List Value} {i:Int} {v:Value} (h:itemAt (vs.map er) i=some v):∃ u,0≤i∧vs[i.toNat]?=some u∧er u=v:=by
 unfold itemAt at h
 split at h
 ·rename_i q
  rw[List.getElem?_map,Option.map_eq_some_iff] at h
  refine aV (fun u h1 h2=>?_) h
  exact⟨u,q,h1,h2⟩
 ·cases h
theorem zdv {vl sl:Expr} {a:Addr} {ys:List Value} {i:Int} {t:Tok} {v:Value} {Q:List Value→Hp→Prop} (hs:sZ sl=true) (g:GS w Z9 os F σ s) (e:σ a=some (.list ys)) (hi:itemAt ys i=some v) (h:Q [v] σ) :
  wpAny (model PP w) A (subscriptTail vl sl (.ref a) (.int i t)) (Val w Z9 os F Q) E' s:=by
 refine aC (fun xs k z5 tt z=>?_) (g.lstC e);subst z5
 refine cM (fun u h1 h2 z6=>?_) (Ft hi);subst z6
 have hlt:=(List.getElem?_eq_some_iff.mp h2).1
 have:=v8 z
 simp only[List.size_toArray] at this
 exact tail_any (⟨_,tt,rfl⟩:s.TypeIs (.ref a) "list") PySem.F.slot_list_getitem.lookup (getItem_listL (⟨_,tt,rfl,_,rfl⟩:s.heap.IsList a (List.toArray xs)) h1 (by lia) h2 ⟨σ,g,h⟩) (jy hs)
theorem zfs {vl sl:Expr} {a:Addr} {ys:List Value} {i:Int} {t:Tok} {v:Value} {Q:List Value→Hp→Prop} (hs:sZ sl=true) (g:GS w Z9 os F σ s) (e:σ a=some (.tup ys)) (hi:itemAt ys i=some v) (h:Q [v] σ) :
  wpAny (model PP w) A (subscriptTail vl sl (.ref a) (.int i t)) (Val w Z9 os F Q) E' s:=by
 refine aC (fun xs k z7 tt z=>?_) (g.tpC e);subst z7
 refine cM (fun u h1 h2 z8=>?_) (Ft hi);subst z8
 have hlt:=(List.getElem?_eq_some_iff.mp h2).1
 have:=v8 z
 simp only[List.size_toArray] at this
 exact tail_any (⟨_,tt,rfl⟩:s.TypeIs (.ref a) "tuple") PySem.F.slot_tuple_getitem.lookup (getItem_tuple (items:=List.toArray xs) ⟨_,tt,rfl,_,rfl⟩ (by lia) (by lia) (StrLaws.seqIndex_nonneg h1 (by simp only[List.size_toArray];lia)) (by simpa using h2) ⟨σ,g,h⟩) (jy hs)
theorem zfM {vl sl:Expr} {a:Addr} {m:Nat} {f:Int→Option Value} {i:Int} {t:Tok} {v:Value} {Q:List Value→Hp→Prop} (hs:sZ sl=true) (g:GS w Z9 os F σ s) (e:σ a=some (.dict m f)) (hi:f i=some v) (h:Q [v] σ) :
  wpAny (model PP w) A (subscriptTail vl sl (.ref a) (.int i t)) (Val w Z9 os F Q) E' s:=by
 refine jV (fun q h1 h2 h3 h4 h5=>?_) (g.dct e)
 rw[← h2 i] at hi
 refine aV (fun u hu z9=>?_) (Option.map_eq_some_iff.mp hi);subst z9
 exact tail_any (h1.mapOf (prog:=PP) (w:=w) h5).typeIs PySem.F.slot_dict_getitem.lookup (wpAny_getItem_intMap h1 hu ⟨σ,g.toks,h⟩) (jy hs)
theorem zeS {vl sl:Expr} {x:Str} {i:Int} {t u:Tok} {c:Nat} {Q:List Value→Hp→Prop} (hs:sZ sl=true) (g:GS w Z9 os F σ s) (h1:0≤i∧x.length≤1000) (hc:x.cps[i.toNat]?=some c) (h:Q [vs ⟨#[c]⟩] σ) :
  wpAny (model PP w) A (subscriptTail vl sl (.str x t) (.int i u)) (Val w Z9 os F Q) E' s:=by
 have hlt:i.toNat < x.length:=(Array.getElem?_eq_some_iff.mp hc).1
 refine tail_any (typeIs_str s x t) PySem.F.slot_str_getitem.lookup (P.getItem_str (c:=c) (by simp only[Bool.or_eq_false_iff,decide_eq_false_iff_not];lia) ?_ ⟨σ,g.toks,h⟩) (jy hs)
 rw[StrLaws.seqIndex_nonneg h1.1 (by lia)]
 exact hc
theorem Uv {vl sl:Expr} {x y ex ey:Value} {Q:List Value→Hp→Prop} (hs:sZ sl=true) (g:GS w Z9 os F σ s) (hx:er x=ex) (hy:er y=ey) (h:idxV σ Q ex ey):wpAny (model PP w) A (subscriptTail vl sl x y) (Val w Z9 os F Q) E' s:=by
 cases h with
 |i_list e hi h=>exact eR hx (eI hy fun t=>zdv hs g e hi h)
 |i_tup e hi h=>exact eR hx (eI hy fun t=>zfs hs g e hi h)
 |i_dict e hi h=>exact eR hx (eI hy fun t=>zfM hs g e hi h)
 |i_str h1 hi h=>exact eS hx fun t=>eI hy fun u=>zeS hs g h1 hi h
theorem zcG {a i:E} (oa:Ok K w Z9 os n a) (oi:Ok K w Z9 os n i):Ok K w Z9 os n (.idx a i):=by
 have o:wA K w Z9 os n (.idx a i):=by
  intro R A l F sc ns ρ env σ s x Q hc c g h
  refine yZ hc ?_
  intro v sl p h1 h2 h3
  refine Subscript_ (wpAny_mono (oa.one h2 c g h) (fun v s' zz=>?_) fun _ _ e=>e)
  obtain⟨σ',g',q⟩:=zz
  refine wpAny_mono (oi.one h3 c g' q) (fun Z0 Z5 zz=>?_) fun _ _ e=>e
  obtain⟨Z4,Z6,q⟩:=zz
  exact Uv h1 Z6 rfl rfl q
 refine⟨o,cN o fun {sc ns x} env whole hc=>?_,bJ rfl⟩
 refine yZ hc ?_
 intros
 rfl
theorem K4 {h':Heap} {xs ys:List Value} {vl vu:Value} {k:Addr→Hp→Prop} (g:GS w Z9 os F σ s) (h:bf σ (.list (ys.map er)) k) (hz:ys.length≤big) :
  ∃ σ',GS w Z9 os F σ' { s with heap:=(s.heap.push { cls:=.type "slice",data:=.fields #[vl,vu,.none] }).push { cls:=.type "list",data:=.seq (List.toArray ys) } }∧k (s.heap.objs.size+1) σ':=by
 have g1:GS w Z9 os F σ { s with heap:=s.heap.push { cls:=.type "slice",data:=.fields #[vl,vu,.none] },toks:=s.toks }:=g.keeps fun a o q=>Heap.get?_push_of_some _ q
 have:=g1.pushL (t:=s.toks) (n:=0) h hz
 rw[show s.heap.objs.size+1=(s.heap.push { cls:=.type "slice",data:=.fields #[vl,vu,.none] }).objs.size from (Heap.size_push ..).symm]
 exact this
theorem Bt {i:Nat} {v:Expr} {sc ns} (h:aL sc ns (.loc i) (.one v)=true):∃ x p,v=.Name x p:=ur h fun _ _ _=>⟨_,_,rfl⟩
theorem Br {xs ys:List Value} {b:Addr} {vl vu:Value} {lo hi:Option Int} {Q:List Value→Hp→Prop} (g:GS w Z9 os F σ s) (hl:s.heap.IsList b (List.toArray xs)) (hz:xs.length≤big) (p1:IsPart vl lo) (p2:IsPart vu hi) (e:slicePick (List.toArray xs) lo hi none=List.toArray ys)
  (hy:ys.length≤xs.length) (q:bf σ (.list (ys.map er)) fun r σ'=>Q [.ref r] σ') :
  ∃ l items lo hi,Value.ref b=.ref l∧s.heap.IsList l items∧items.size≤sizeLine∧IsPart vl lo∧IsPart vu hi ∧
    Val w Z9 os F Q (.ref (s.heap.objs.size+1)) { s with heap:=(s.heap.push { cls:=.type "slice",data:=.fields #[vl,vu,.none] }).push { cls:=.type "list",data:=.seq (slicePick items lo hi none) } } :=
 ⟨b,List.toArray xs,lo,hi,rfl,hl,Nat.le_trans hz oZ,p1,p2,by rw[e];exact Val.of (K4 (xs:=xs) (h':=s.heap) g q (Nat.le_trans hy hz))⟩
inductive Yq (h:Heap) (σ:Hp) (Q:List Value→Hp→Prop):Value→Value→Prop
 |mk {b:Addr} {i:Int} {t:Tok} {us:List Value} (i0:0≤i) (hl:h.IsList b (List.toArray us)) (hz:us.length≤big) (q:bf σ (.list ((us.map er).take i.toNat)) fun r σ'=>Q [.ref r] σ'):Yq h σ Q (.ref b) (.int i t)
theorem zbI {x y ex ey:Value} {Q:List Value→Hp→Prop} (g:GS w Z9 os F σ s) (hx:er x=ex) (hy:er y=ey) (q:uY Z9 σ Q ex ey):Yq s.heap σ Q x y:=by
 cases q with
 |u_list e h0 h1 h =>
  refine aC (fun xs k z10 t z=>?_) (g.lstC e);subst z10
  exact eR hx (eI hy fun t'=>.mk h0 ⟨_,t,rfl,_,rfl⟩ z h)
 |u_base e hz h0 h1 h =>
  refine aV (fun o ho r=>?_) e
  exact eR hx (eI hy fun t'=>.mk h0 ⟨o,g.sr.base _ _ ho,r⟩ hz h)
theorem K8 {us:List Value} {i:Int} (i0:0≤i):slicePick (List.toArray us) none (some i) none=List.toArray (us.take i.toNat):=by
 have:=slicePick_upto' (List.toArray us) i.toNat
 rw[Int.toNat_of_nonneg i0] at this
 exact this
theorem pick_from {us:List Value} {i:Int} (i0:0≤i):slicePick (List.toArray us) (some i) none none=List.toArray (us.drop i.toNat):=by
 have:=slicePick_from' (List.toArray us) i.toNat
 rw[Int.toNat_of_nonneg i0] at this
 exact this
theorem VJ {a i:E} (oa:Ok K w Z9 os n a) (oi:Ok K w Z9 os n i):Ok K w Z9 os n (.upto a i):=by
 have o:wA K w Z9 os n (.upto a i):=by
  intro R A l F sc ns ρ env σ s x Q hc c g h
  refine Ah hc fun v u p p2 h1 h2 h3=>?_
  revert oa h2 h
  refine Hl h1 fun j oa h h2=>?_
  refine W7 (fun x xp z11=>?_) (Bt h2);subst z11
  refine wpAny_Subscript_list_slice (wpAny_mono (oa.one h2 c g (P:=fun x σ=>ev w Z9 os n R ρ i σ fun ys σ=>Internal.one ys fun y=>uY Z9 σ Q x y) h) (fun v s' ⟨σ',g',q⟩=>wpAny_pure ?_) fun _ _ e=>e)
  rw[evalPart_some]
  refine wpAny_mono (oi.one h3 c g' q) (fun Z0 Z5 zz=>?_) fun _ _ e=>e
  obtain⟨Z4,Z6,z⟩:=zz
  cases zbI Z6 rfl rfl z with
  |mk i0 hl hz q3=>exact Br Z6 hl hz .none (.int _ _) (K8 i0) (List.length_take_le' ..) (by rw[List.map_take];exact q3)
 exact⟨o,cN o fun env whole hc=>Ah hc fun _ _ _ _ _ _ _=>rfl,bJ rfl⟩
theorem OD (x:Str) (i:Int) (u:Tok):(slicePicked x (some (i,u)) none none).length≤x.length:=by
 unfold slicePicked Builtin.Str.strSliceIndices
 refine sliceRange_length_le _ _ _ _ (fun _=>?_) fun h=>?_
 ·simp only[Option.map_some,Option.map_none,Option.getD_none]
  constructor
  ·split<;>lia
  ·simp
 ·simp at h
theorem vP {x:Str} {t:Tok} {i:Int} {u:Tok} {Q:List Value→Hp→Prop} (hx:x.length≤1000) (g:GS w Z9 os F σ s) (h:Q [vs (StrLaws.sliceText x (some i) none)] σ) :
  (sliceMade x t (some (i,u)) none none).post (Val w Z9 os F Q) s:=by
 unfold sliceMade
 unfold StrLaws.sliceText at h
 split
 ·rename_i q
  rw[if_pos (by exact q)] at h
  exact⟨σ,g,h⟩
 ·rename_i q
  rw[if_neg (by exact q)] at h
  refine⟨?_,σ,g.toks,h⟩
  show (List.toArray _).size≤_
  rw[List.size_toArray,sizeLine_eq]
  have:=List.length_filterMap_le (fun y=>x.cps[y]?) (slicePicked x (some (i,u)) none none)
  have:=OD x i u
  lia
theorem zbP {b:Addr} {y ey:Value} {Q:List Value→Hp→Prop} (g:GS w Z9 os F σ s) (hy:er y=ey) (q:pX σ Q (.ref b) ey) :
  ∃ i t us,y=.int i t∧0≤i∧s.heap.IsList b (List.toArray us)∧us.length≤big∧bf σ (.list ((us.map er).drop i.toNat)) fun r σ'=>Q [.ref r] σ':=by
 cases q with
 |u_from_l e h0 h1 h =>
  refine aC (fun xs k z12 t z=>?_) (g.lstC e);subst z12
  obtain⟨t',rfl⟩:=yr hy
  exact⟨_,t',xs,rfl,h0,⟨_,t,rfl,_,rfl⟩,z,h⟩
theorem zcU {x y ex ey:Value} {Q:List Value→Hp→Prop} (hr:¬∃ b,ex=.ref b) (hx:er x=ex) (hy:er y=ey) (q:pX σ Q ex ey):∃ z t i u,x=.str z t∧y=.int i u∧z.length≤1000∧Q [vs (StrLaws.sliceText z (some i) none)] σ:=by
 cases q with
 |u_from_l=>exact(hr ⟨_,rfl⟩).elim
 |u_from_s c h =>
  obtain⟨t,rfl⟩:=oH hx
  obtain⟨u,rfl⟩:=yr hy
  exact⟨_,t,_,u,rfl,rfl,c.2.2,h⟩
theorem Uw {a i:E} (oa:Ok K w Z9 os n a) (oi:Ok K w Z9 os n i):Ok K w Z9 os n (.from_ a i):=by
 have o:wA K w Z9 os n (.from_ a i):=by
  intro R A l F sc ns ρ env σ s x Q hc c g h
  refine Ca hc fun v u p p2 h1 h2 h3=>?_
  revert oa h2 h
  refine Hl h1 fun j oa h h2=>?_
  refine W7 (fun x xp z13=>?_) (Bt h2);subst z13
  refine aV (fun v0 hv0 hx=>?_) (Ql (w:=w) (Z9:=Z9) (os:=os) (n:=n) (R:=R) (k:=fun xs σ=>Internal.one xs fun x=>ev w Z9 os n R ρ i σ fun ys σ=>Internal.one ys fun y=>pX σ Q x y) h)
  have h0:ev w Z9 os n R ρ (.loc j) σ fun xs σ'=>Internal.one xs fun v=>v=v0∧ev w Z9 os n R ρ i σ' fun ys σ=>Internal.one ys fun y=>pX σ Q v0 y:=zA hv0 ⟨rfl,hx⟩
  by_cases hr:∃ b,v0=.ref b
  ·obtain⟨b,rfl⟩:=hr
   refine wpAny_Subscript_list_slice (wpAny_mono (oa.one h2 c g h0) (fun v s' zz=>?_) fun _ _ e=>e)
   obtain⟨σ',g',hv,q⟩:=zz
   cases il hv
   rw[evalPart_some]
   refine wpAny_mono (oi.one h3 c g' q) (fun Z0 Z5 ⟨Z4,Z6,z⟩=>wpAny_pure ?_) fun _ _ e=>e
   refine bY (fun i t us z14 i0 hl hz q=>?_) (zbP Z6 rfl z);subst z14
   exact Br Z6 hl hz (.int i t) .none (pick_from i0) (by rw[List.length_drop];exact Nat.sub_le ..) (by rw[List.map_drop];exact q)
  ·refine wpAny_Subscript_str_slice (wpAny_mono (oa.one h2 c g h0) (fun v s' ⟨σ',g',hv,q⟩=>?_) fun _ _ e=>e)
   rw[evalPart_some]
   refine wpAny_mono (oi.one h3 c g' q) (fun Z0 Z5 ⟨Z4,Z6,z⟩=>wpAny_pure ?_) fun _ _ e=>e
   subst hv
   obtain⟨z,t,i,u,rfl,rfl,hx,q⟩:=zcU hr rfl rfl z
   refine⟨_,t,some (i,u),none,rfl,rfl,rfl,?_⟩
   exact vP (s:={ Z5 with heap:=Z5.heap.push { cls:=.type "slice",data:=.fields #[.int i u,.none,.none] },toks:=Z5.toks }) (Q:=Q) hx (Z6.keeps fun a o q=>Heap.get?_push_of_some _ q) q
 exact⟨o,cN o fun env whole hc=>Ca hc fun _ _ _ _ _ _ _=>rfl,bJ rfl⟩
end
section
variable {K:Frag} {w:World} {Z9:Heap} {os:OsState} {n:Nat} {R:Value→Hp→Prop} {A:Around} {l:List Env} {F:Fm} {sc:List (Str × NameKind)} {ns:List Str} {ρ:Loc} {env:Env} {σ:Hp} {s:Shared} {E':Value→Shared→Prop}
structure PE (K:Frag) (Z9:Heap) (F:Fm) (σ:Hp) (sc:List (Str × NameKind)) (x:Str) (v:Value) (env:Env) (h:Heap):Prop where
 bs:Bs K Z9
 kind:env.scope.kind=.function
 names:env.scope.names=sc
 globals:env.globals=mainGlobals
 builtins:env.builtins=builtinsNs
 sr:SR Z9 F σ h
 has:∃ m v',h.Ns env.locals m∧m x=some v'∧er v'=v
theorem PE.kof {h x v y k} (e:PE K Z9 F σ sc x v env h) (h:sc.lookup y=some k):env.kindOf y=some k:=(congrArg (List.lookup y) e.names).trans h
theorem PE.keeps {h h':Heap} {x v} (p:PE K Z9 F σ sc x v env h) (k:h.StaysIn h'):PE K Z9 F σ sc x v env h':=by
 refine fM (fun m v' h1 h2=>?_) p.has
 exact⟨p.bs,p.kind,p.names,p.globals,p.builtins,p.sr.keeps k,m,v',h1.keeps k,h2⟩
theorem j7:Keeps s s:=⟨s.heap,s.toks,rfl,fun _ _ e=>e⟩
theorem nJ {t:Nat}:Keeps s { s with toks:=t }:=⟨s.heap,t,rfl,fun _ _ e=>e⟩
theorem d9 {Z7 Z5:Shared} (a:Keeps s Z7) (b:Keeps Z7 Z5):Keeps s Z5:=by
 revert a;refine fM fun h1 t1 z0 k1=>?_;subst z0
 revert b;refine fM fun h2 t2 z3 k2=>?_;subst z3
 exact⟨h2,t2,rfl,fun x o e=>k2 x o (k1 x o e)⟩
theorem nG {Z7:Shared} (a:Keeps s Z7):s.heap.StaysIn Z7.heap:=by
 revert a;refine fM fun h1 t1 z4 k1=>?_;subst z4
 exact k1
noncomputable def PR (s:Shared) (y:Value) (r:Value) (s':Shared):Prop:=er r=y∧Keeps s s'
theorem PE.lst {x v} {a:Addr} {vs:List Value} (g:PE K Z9 F σ sc x v env s.heap) (e:σ a=some (.tup vs)):∃ xs n,IsT s.heap a (List.toArray xs) n∧xs.map er=vs∧vs.length≤big:=by
 obtain⟨_,role,_,r2,_⟩:=g.sr
 exact(r2 a _ e).2
theorem zff {v:Value} {b:Addr} (h:asR (er v)=some b):v=.ref b:=by
 cases v with
 |ref c=>cases h;rfl
 |_=>exact gG h
theorem zel {c:Cell} {vs} (h:asT c=some vs):c=.tup vs:=by
 cases c with
 |tup c=>cases h;rfl
 |_=>exact gG h
theorem yg {x0 i x v v0 p} (hc:gP sc i x v=true) (c:PE K Z9 F σ sc x0 v0 env s.heap):wpAny (model PP w) A (eval (.Name x p) env) (PR s v) E' s:=by
 refine iJ (fun h1 h2 h3=>?_) (v9 hc)
 refine aV (fun v' k1 k2=>?_) (c.bs.kf.glob (x,v) h1)
 obtain⟨mg,hg⟩:=c.bs.g
 exact wpAny_Name (ks_loadName_global c.kind (c.kof h2) (yu c.globals (hg.keeps c.sr.base) (mg_of c.bs.kin hg k1) ⟨k2,j7⟩)) h3
theorem Ac {x0 b x v0 p} {Q:Value→Shared→Prop} (hc:gr sc x (jX b)=true) (c:PE K Z9 F σ sc x0 v0 env s.heap) (h:Q (wZ b) s):wpAny (model PP w) A (eval (.Name x p) env) Q E' s:=by
 obtain⟨rfl,h2⟩:=J7 hc
 refine iJ (fun b1 b2 b3=>?_) (Hh b)
 obtain⟨mg,hg⟩:=c.bs.g
 refine aV (fun mb hb hb2=>?_) c.bs.b
 exact Calls.Name_function_global c.kind (c.kof h2) (Calls.loadGlobal_builtin (by rw[c.globals];exact hg.keeps c.sr.base) (mg_none_of c.bs.kin hg (c.bs.kf.noglob b)) (by rw[c.builtins];exact hb.keeps c.sr.base) ((hb2 _ b2).trans b1) h) b3
noncomputable def gW (K:Frag) (w:World) (Z9:Heap) (F:Fm) (σ:Hp) (e:E):Prop :=
 ∀ {A sc x v env s y t} {E':Value→Shared→Prop},pv σ v e=some y→aL sc [x] e (.one t)=true→PE K Z9 F σ sc x v env s.heap→wpAny (model PP w) A (eval t env) (PR s y) E' s
theorem zb0 (i:Nat):gW K w Z9 F σ (.loc i):=fun h hc c=>by
 refine ur hc fun z p hc=>mL h fun hi h=>?_
 refine iJ (fun h1 h2 h3=>?_) (H3 hc)
 cases Nat.eq_of_beq_eq_true hi
 cases h1
 cases h
 refine aC (fun m v' hn hm he=>?_) c.has
 exact wpAny_Name (wpAny_loadName_local c.kind (c.kof h2) hn hm ⟨he,j7⟩) h3
theorem zbs (u:Value):gW K w Z9 F σ (.cst u):=fun h hc c=>zb hc fun c0 k p hc=>by
 cases h
 exact xr hc (wpAny_pure ⟨rfl,j7⟩) (fun b=>wpAny_pure ⟨rfl,j7⟩) (fun i=>wpAny_mkInt ⟨rfl,nJ⟩) (fun s=>wpAny_mkText ⟨rfl,nJ⟩)
theorem zfb (i:Nat) (u:Value):gW K w Z9 F σ (.gv i u):=fun h hc c=>Es hc fun z p hc=>by
 cases h
 exact yg hc c
theorem zcH (a b:Nat):gW K w Z9 F σ (.pow a b):=fun h hc c=>by
 refine yO hc fun u p u2 p2 p3 h1 h2=>?_
 cases h
 exact wpAny_BinOp (wpAny_mkInt (wpAny_mkInt (pow_int_small (by lia) (by lia) (by lia) ⟨rfl,nJ⟩)))
theorem zan {op:Operator} {a b:E} (ha:gW K w Z9 F σ a) (hb:gW K w Z9 F σ b):gW K w Z9 F σ (.bin op a b):=fun h hc c=>by
 refine za hc fun l' r p h1 h2 h3=>mL h fun ho h=>aN h fun x q1 h=>aN h fun y q2 h=>?_
 have ho:op=.Mod:=by
  cases op with
  |Mod=>rfl
  |_=>exact(Bool.false_ne_true ho).elim
 subst ho
 refine wpAny_BinOp (wpAny_mono (ha q1 h2 c) (fun r1 s1 zz=>?_) fun _ _ e=>e)
 obtain⟨e1,k1⟩:=zz
 refine wpAny_mono (hb q2 h3 (c.keeps (nG k1))) (fun r2 s2 zz=>?_) fun _ _ e=>e
 obtain⟨e2,k2⟩:=zz
 subst e1 e2
 refine aN h fun i h3 h=>aN h fun j h4 h=>?_
 obtain⟨t1,rfl⟩:=lY h3
 obtain⟨t2,rfl⟩:=lY h4
 by_cases hj:j=0
 ·exact gG ((if_pos hj).symm.trans h:none=some _)
 ·cases Option.some.inj ((if_neg hj).symm.trans h)
  exact mod_int' hj ⟨rfl,d9 (d9 k1 k2) nJ⟩
theorem Jw {sc ns} {a:E} {as:List Expr} (h:aL sc ns (.cons a .nil) (.many as)=true):∃ t,as=[t]∧aL sc ns a (.one t)=true :=
 uO h fun t r h1 h2=>yo h2 ⟨t,rfl,h1⟩
theorem zek {b:Bf} {args:E} {v y:Value} (h:pv σ v (.blt b args)=some y):∃ a z,args=.cons a .nil∧pv σ v a=some z∧zfj b z=some y:=by
 cases args with
 |cons a r=>exact mL h fun h1 h=>aN h fun z q h=>⟨a,z,by cases r<;>first|rfl|exact(Bool.false_ne_true h1).elim,q,h⟩
 |_=>exact gG h
theorem zap {b:Bf} {args:E} (ha:gW K w Z9 F σ (Yh args)):gW K w Z9 F σ (.blt b args):=by
 intro A sc x v env s y t E' h hc c
 obtain⟨a,z,rfl,q,h⟩:=zek h
 refine yK hc fun x p as p2 h1 h2 h3=>?_
 have hp:=cu h3 env p2
 obtain⟨t,rfl,h4⟩:=Jw h3
 have key:∀ nm,wZ b=.builtin nm→(∀ r1 s1,er r1=z→Keeps s s1→wpAny (model PP w) A (call (.builtin nm) [r1]) (PR s y) E' s1)→wpAny (model PP w) A (eval (.Call (.Name x p) [t] [] p2) env) (PR s y) E' s:=fun nm e k=>by
  refine Call_Name rfl (Ac h1 c ?_)
  rw[e]
  refine callWith_builtin hp ?_
  rw[show starEach [t] env=[(false,eval t env)] from notStar h4 [] env]
  exact evalArgs_plain (rest:=[]) (Calls.spliced_cons (wpAny_mono (ha q h4 c) (fun r1 s1 ⟨e1,k1⟩=>Calls.spliced_nil (k r1 s1 e1 k1)) fun _ _ e=>e))
 cases b with
 |abs =>
  refine key _ rfl fun r1 s1 e1 k1=>?_
  subst e1
  refine aN h fun i h3 h=>?_
  obtain⟨t1,rfl⟩:=lY h3
  cases h
  refine call_abs_int fun u tk=>⟨?_,d9 k1 nJ⟩
  have:(if i < 0 then -i else i)=((i.natAbs:Nat):Int):=by split<;>lia
  exact congrArg vi this
 |ord =>
  refine key _ rfl fun r1 s1 e1 k1=>?_
  subst e1
  refine aN h fun s0 h3 h=>?_
  obtain⟨t1,rfl⟩:=vD h3
  obtain⟨⟨l⟩⟩:=s0
  cases l with
  |nil=>exact gG h
  |cons cc r=>cases r with
   |nil=>cases h;exact P.ord_of_char ⟨rfl,d9 k1 nJ⟩
   |cons=>exact gG h
 |_=>exact gG h
theorem str_beq (a b:Str):(a == b)=decide (a=b):=by
 by_cases q:a=b
 ·subst q;simp
 ·simp[q]
theorem Ie {op:CmpOp} {x y r:Value} (h:zeO op (er x) (er y)=some r):wpAny (model PP w) A (compareOp op x y) (fun v s'=>v=r∧(∃ b,r=.bool b)∧s'=s) E' s:=by
 cases op with
 |GtE =>
  refine aN h fun i h1 h=>aN h fun j h2 h=>?_
  obtain⟨t1,rfl⟩:=lY h1
  obtain⟨t2,rfl⟩:=lY h2
  cases h
  exact P.ge_int ⟨rfl,⟨_,rfl⟩,rfl⟩
 |Eq =>
  refine aN h fun i h1 h=>aN h fun j h2 h=>?_
  obtain⟨t1,rfl⟩:=vD h1
  obtain⟨t2,rfl⟩:=vD h2
  cases h
  exact SeqAt.RcAt.str_str (A:=A) (s:=s) _ t1 _ t2 _ _ _ _ ⟨congrArg Value.bool (str_beq _ _),⟨_,rfl⟩,rfl⟩
 |In =>
  refine aN h fun i h1 h=>aN h fun j h2 h=>?_
  obtain⟨t1,rfl⟩:=vD h1
  obtain⟨t2,rfl⟩:=vD h2
  cases h
  exact P.in_str ⟨rfl,⟨_,rfl⟩,rfl⟩
 |IsNot =>
  refine mL h fun h1 h=>?_
  cases lL h1
  cases h
  exact isnot_none_gen ⟨congrArg (fun b=>Value.bool (!b)) (nH x).symm,⟨_,rfl⟩,rfl⟩
 |_=>exact gG h
theorem zcF {op:CmpOp} {a b:E} (ha:gW K w Z9 F σ a) (hb:gW K w Z9 F σ b):gW K w Z9 F σ (.cmp op a b):=fun h hc c=>by
 refine uw hc fun l' r p h1 h2 h3=>aN h fun vx q1 h=>aN h fun vy q2 h=>?_
 refine wpAny_Compare1 (wpAny_mono (ha q1 h2 c) (fun r1 s1 zz=>?_) fun _ _ e=>e) h1
 obtain⟨e1,k1⟩:=zz
 refine wpAny_mono (hb q2 h3 (c.keeps (nG k1))) (fun r2 s2 zz=>?_) fun _ _ e=>e
 obtain⟨e2,k2⟩:=zz
 subst e1 e2
 refine wpAny_mono (Ie h) (fun r s' z=>?_) fun _ _ e=>e
 revert z;refine iJ fun z5 z6 z7=>?_;subst z5;obtain⟨b,rfl⟩:=z6;subst z7
 exact⟨rfl,d9 k1 k2⟩
theorem za7 {a b:E} (ha:gW K w Z9 F σ a) (hb:gW K w Z9 F σ b):gW K w Z9 F σ (.bor a b):=fun h hc c=>by
 refine yN hc fun z1 z2 r p h1 h2=>aN h fun vx q1 h'=>aN h' fun cc q k=>?_
 refine BoolOp_or (wpAny_mono (ha q1 h1 c) (fun r1 s1 zz=>?_) fun _ _ e=>e)
 obtain⟨e1,k1⟩:=zz
 subst e1
 cases H5 q
 refine wpAny_truthy_bool ?_
 cases cc with
 |true=>cases k;exact⟨rfl,k1⟩
 |false =>
  refine aN k fun vy q2 k=>?_
  refine aV (fun d q3 z8=>?_) (Option.map_eq_some_iff.mp k);subst z8
  have key:∀ {z sc x} {A:Around} {E':Value→Shared→Prop} {env},aL sc [x] b (.one z)=true→PE K Z9 F σ sc x _ env s1.heap→wpAny (model PP w) A (eval z env) (PR _ (.bool d)) E' s1:=fun hz c =>
   wpAny_mono (hb q2 hz c) (fun r2 s2 ⟨e2,k2⟩=>⟨by subst e2;cases H5 q3;rfl,d9 k1 k2⟩) fun _ _ e=>e
  have c:=c.keeps (nG k1)
  cases r with
  |nil=>exact BoolOp_one (key h2 c)
  |cons z r=>exact key h2 c
theorem zcd {a i:E} (ha:gW K w Z9 F σ a) (hi:gW K w Z9 F σ i):gW K w Z9 F σ (.idx a i):=fun h hc c=>by
 refine yZ hc fun vl sl p h1 h2 h3=>aN h fun vx q1 h=>aN h fun vy q2 h=>?_
 refine Subscript_ (wpAny_mono (ha q1 h2 c) (fun r1 s1 zz=>?_) fun _ _ e=>e)
 obtain⟨e1,k1⟩:=zz
 refine wpAny_mono (hi q2 h3 (c.keeps (nG k1))) (fun r2 s2 zz=>?_) fun _ _ e=>e
 obtain⟨e2,k2⟩:=zz
 subst e1 e2
 refine aN h fun tt e1 h=>aN h fun j e2 h=>aN h fun cl q3 h=>aN h fun vs q4 h=>?_
 cases zff e1
 obtain⟨t2,rfl⟩:=lY e2
 cases zel q4
 refine aC (fun xs k tq e z=>?_) ((c.keeps (nG (d9 k1 k2))).lst q3)
 subst e
 refine cM (fun u' i1 i2 z9=>?_) (Ft h);subst z9
 have hlt:=(List.getElem?_eq_some_iff.mp i2).1
 rw[List.length_map] at z
 have:big < 2 ^ 63:=by decide
 exact tail_any (⟨_,tq,rfl⟩:s2.TypeIs (.ref tt) "tuple") PySem.F.slot_tuple_getitem.lookup (getItem_tuple (items:=List.toArray xs) ⟨_,tq,rfl,_,rfl⟩ (by lia) (by lia) (StrLaws.seqIndex_nonneg i1 (by simp only[List.size_toArray];lia)) (by simpa using i2) ⟨rfl,d9 k1 k2⟩) (jy h1)
theorem QR {e:E} (h:∀ σ v,pv σ v e=none):gW K w Z9 F σ e:=fun q _ _=>gG ((h _ _).symm.trans q)
theorem zbe (e:E):gW K w Z9 F σ e∧gW K w Z9 F σ (Yh e):=by
 have n:gW K w Z9 F σ .nil:=QR fun _ _=>rfl
 induction e with
 |loc i=>exact⟨zb0 i,n⟩
 |cst u=>exact⟨zbs u,n⟩
 |gv i u=>exact⟨zfb i u,n⟩
 |pow a b=>exact⟨zcH a b,n⟩
 |bin op a b x y=>exact⟨zan x.1 y.1,n⟩
 |blt b args x=>exact⟨zap x.2,n⟩
 |cmp op a b x y=>exact⟨zcF x.1 y.1,n⟩
 |bor a b x y=>exact⟨za7 x.1 y.1,n⟩
 |idx a b x y=>exact⟨zcd x.1 y.1,n⟩
 |cons a b x y=>exact⟨QR fun _ _=>rfl,x.1⟩
 |_=>exact⟨QR fun _ _=>rfl,n⟩
theorem Rj (e:E):gW K w Z9 F σ e:=(zbe e).1
theorem U5 {cnd:E} {v:Value} {b:Bool} {x:Str} {t:Expr} (hi:uP cnd=true) (h:(pv σ v cnd).bind asB=some b) (hc:aL sc [x] cnd (.one t)=true) (c:PE K Z9 F σ sc x v env s.heap) :
  wpAny (model PP w) A (PySem.isTrue t env (eval t env)) (fun ok s'=>ok=b∧Keeps s s') E' s:=by
 cases cnd with
 |cmp op a e =>
  refine uw hc fun l' r p h1 h2 h3=>aN h fun z h hb=>aN h fun vx q1 h=>aN h fun vy q2 h=>?_
  refine wpAny_isTrue_Compare1 (wpAny_mono (Rj a q1 h2 c) (fun r1 s1 zz=>?_) fun _ _ e=>e) h1
  obtain⟨e1,k1⟩:=zz
  refine wpAny_mono (Rj _ q2 h3 (c.keeps (nG k1))) (fun r2 s2 zz=>?_) fun _ _ e=>e
  obtain⟨e2,k2⟩:=zz
  subst e1 e2
  refine wpAny_mono (Ie h) (fun r s' z=>?_) fun _ _ e=>e
  revert z;refine iJ fun z10 z11 z12=>?_;subst z10;obtain⟨d,rfl⟩:=z11;subst z12
  cases hb
  exact wpAny_truthy_bool ⟨rfl,d9 k1 k2⟩
 |_=>exact(Bool.false_ne_true hi).elim
end
section
variable {K:Frag} {w:World} {Z9:Heap} {os:OsState} {n:Nat} {R:Value→Hp→Prop} {A:Around} {l:List Env} {F:Fm} {sc:List (Str × NameKind)} {ns:List Str} {ρ:Loc} {env:Env} {σ:Hp} {s:Shared} {E':Value→Shared→Prop}
theorem qm {cond:E} {v:Value} {b:Bool} (h:ji σ cond v=some b):(ji σ cond v == some true)=b:=by rw[h];cases b<;>rfl
noncomputable def vH (σ:Hp) (elt cond:E) (vs out:List Value):Prop:=(∀ v∈vs,∃ b,ji σ cond v=some b∧(b=true→∃ y,pv σ v elt=some y))∧out.length≤vs.length ∧
  ∀ us rs:List Value,us.map er=vs→Paired (fun u r=>pv σ (er u) elt=some (er r)) (us.filter fun u=>ji σ cond (er u) == some true) rs→rs.map er=out
theorem zc8 {elt cond:E} {v y:Value} {vs o:List Value} (q:ji σ cond v=some true) (q2:pv σ v elt=some y) (h:vH σ elt cond vs o):vH σ elt cond (v::vs) (y::o):=by
 refine⟨fun u hu=>?_,Nat.succ_le_succ h.2.1,fun us rs e p=>?_⟩
 ·rcases List.mem_cons.mp hu with rfl|hu
  ·exact⟨true,q,fun _=>⟨y,q2⟩⟩
  ·exact h.1 u hu
 ·cases us with
  |nil=>cases e
  |cons u us =>
   cases e
   rw[List.filter_cons_of_pos (p:=fun u=>ji σ cond (er u) == some true) (by exact qm q)] at p
   cases p with
   |cons a p =>
    cases q2.symm.trans a
    exact congrArg (_::·) (h.2.2 us _ rfl p)
theorem zbb {elt cond:E} {v:Value} {vs o:List Value} (q:ji σ cond v=some false) (h:vH σ elt cond vs o):vH σ elt cond (v::vs) o:=by
 refine⟨fun u hu=>?_,Nat.le_succ_of_le h.2.1,fun us rs e p=>?_⟩
 ·rcases List.mem_cons.mp hu with rfl|hu
  ·exact⟨false,q,fun z=>by cases z⟩
  ·exact h.1 u hu
 ·cases us with
  |nil=>cases e
  |cons u us =>
   cases e
   rw[List.filter_cons_of_neg (p:=fun u=>ji σ cond (er u) == some true) (by simp[qm q])] at p
   exact h.2.2 us rs rfl p
theorem uR {elt cond:E}:∀ {vs out:List Value},dm σ elt cond vs=some out→vH σ elt cond vs out
 |[],out,h=>by
  cases h
  refine⟨fun v hv=>(List.not_mem_nil hv).elim,Nat.le_refl _,fun us rs e p=>?_⟩
  cases List.map_eq_nil_iff.mp e
  cases p
  rfl
 |v::vs,out,h=>aN h fun b q h=>by
  cases b with
  |true =>
   refine aN h fun y q2 h=>?_
   refine aV (fun o ho z0=>?_) (Option.map_eq_some_iff.mp h);subst z0
   exact zc8 q q2 (uR ho)
  |false=>exact zbb q (uR h)
theorem wK {prog:Program} {E:Value→Shared→Prop} {elt iter:Expr} {x:Str} {px:Pos} {ifs:List Expr} {scope:Scope} {pos:Pos} {Q:Value→Shared→Prop}
  (hfree:∀ y∈scope.names,y.2≠.free) (hcell:∀ y∈scope.names,y.2≠.cell) (hkind:scope.kind=.function)
  (hnames:∀ y∈scope.names,y.2=.local→scope.names.lookup y.1=some .local) (hx:scope.names.lookup x=some .local)
  (h:wpAny (model prog w) A (eval iter env) (fun xv Z7=>wpAny (model prog w) A (pyIter xv) (fun it Z5=>∃ I fp wr n P St,∃ p:Value→Bool,∃ F:Value→Value→Prop,it=.ref I∧Walks prog w A I fp wr n P St∧n≤sizeLine∧St 0 Z5.heap∧(∀ b∈fp,b < Z5.heap.objs.size) ∧
   QuietOn prog w A env scope x ifs elt wr P p F Z5 ∧
   (∀ D h' tk ys (vs:List Value),Z5.heap.get? D=none→h'.IsList D ys→h'.PlainList D ys→vs.length=n→(∀ j v,vs[j]?=some v→P j v)→Paired F (vs.filter p) ys.toList →
    (∀ b o,b∉wr→Z5.heap.get? b=some o→h'.get? b=some o)→Q (.ref D) { Z5 with heap:=h',toks:=tk })) E Z7) E s)
  (hs:∀ x,foldedSetIterable iter env x=pure x) :
  wpAny (model prog w) A (eval (.ListComp elt [⟨.Name x px,iter,ifs,0⟩] scope pos) env) Q E s:=by
 refine wpAny_ListComp hfree hkind hnames (wpAny_mono h (fun xv Z7 ZX=>wpAny_mono ZX (fun it Z5 ZR=>?_) fun _ _ e=>e) fun _ _ e=>e) hs
 revert ZR;refine jc fun I fp wr z2=>jc (fun n P St z3=>bR (fun p F z1 W hsz z4=>ru (fun hst hfp hq hQ=>?_) z4) z3) z2;subst z1
 refine comp_block_walk (RR:=fun acc cenv r s'=>∃ m,s'.heap.Ns cenv.locals m∧∀ h',Heap.SameBut cenv.locals s'.heap h' →
  match r with|.ok _=>Q acc { s' with heap:=h' }|.error x=>wpAny (model prog w) A (passOn "comprehension.variables-let-go" x cenv) Q E { s' with heap:=h' }) W hsz p F hcell hkind hx hst hfp hq ?_
 intro D C h' tk m' ys vs hD hC hDC hn hl hpl hlen hP hF hk
 exact⟨m',hn,fun h'' hs''=>hQ D h'' tk ys vs hD (hl.extBut hs''.extBut hDC) (hpl.extBut hs''.extBut hDC) hlen hP hF fun b o hbf e=>hs''.extBut b o (by rintro rfl;rw[hC] at e;cases e) (hk b o hbf e)⟩
theorem yc {scope:Scope} {x:Str} (h:gF scope x=true):(∀ y∈scope.names,y.2≠.free)∧(∀ y∈scope.names,y.2≠.cell)∧scope.kind=.function ∧
  (∀ y∈scope.names,y.2=.local→scope.names.lookup y.1=some .local)∧scope.names.lookup x=some .local:=by
 simp only[gF,Bool.and_eq_true,List.all_eq_true,bne_iff_ne,beq_iff_eq,Bool.or_eq_true,ne_eq] at h
 obtain⟨⟨h1,h2⟩,h3⟩:=h
 exact⟨fun y hy=>(h1 y hy).1.1,fun y hy=>(h1 y hy).1.2,h2,fun y hy e=>(h1 y hy).2.resolve_left fun z=>z e,h3⟩
theorem Cy {c:Expr} {cenv:Env}:(forIn [c] true fun c r=>if r=true then do let ok ← PySem.isTrue c cenv (eval c cenv);pure (ForInStep.yield ok) else pure (ForInStep.yield r):Sem Bool)=(PySem.isTrue c cenv (eval c cenv) >>= fun ok=>pure ok):=by
 rw[List.forIn_cons]
 simp
theorem CG {elt cond:E} {el:Expr} {ifs:List Expr} {x:Str} {scope:Scope} {L:Addr} {I:Addr} {vs out:List Value} {P:Nat→Value→Prop} {Z7 Z5:Shared} (hsc:gF scope x=true) (h4:aL scope.names [x] elt (.one el)=true)
  (h5:Hg (uP cond) (fun c=>aL scope.names [x] cond (.one c)) ifs=true) (bs:Bs K Z9) (eo:EnvOk sc env L) (g:GS w Z9 os F σ Z7)
  (hkeep:∀ h':Heap,(∀ b o,b∉[I]→Z5.heap.get? b=some o→h'.get? b=some o)→Z7.heap.StaysIn h') (hP:∀ i v,P i v→er v∈vs) (hv:dm σ elt cond vs=some out) :
  QuietOn PP w A env scope x ifs el [I] P (fun u=>ji σ cond (er u) == some true) (fun u r=>pv σ (er u) elt=some (er r)) Z5:=by
 refine iJ (fun c1 c2 c3=>?_) (uR hv)
 refine lz (fun k1 k2 k3 k4 k5=>?_) (yc hsc)
 have pe:∀ {C v ZW} {h:Heap},Z7.heap.StaysIn h→h.Ns C ZW→ZW x=some v→PE K Z9 F σ scope.names x (er v) (compEnv scope C env) h:=fun {C v ZW h} st hn hm =>
  ⟨bs,k3,rfl,eo.globals,eo.builtins,g.sr.keeps st,ZW,v,hn,hm,rfl⟩
 refine⟨fun C i v Z1 ZW E' hPv hn hm hk htk=>?_,fun C i v Z1 ZW E' hPv hp hn hm hk htk=>?_⟩
 ·refine aV (fun b hb _=>?_) (c1 _ (hP i v hPv))
  rw[qm hb]
  have p:=pe (hkeep _ hk) hn hm
  unfold ji at hb
  revert h5
  generalize qi:uP cond=ic at hb
  intro h5
  cases ic with
  |false =>
   cases hb
   cases ifs with
   |nil=>exact wpAny_pure ⟨rfl,j7⟩
   |cons c r=>cases r<;>exact(Bool.false_ne_true h5).elim
  |true =>
   cases ifs with
   |nil=>exact(Bool.false_ne_true h5).elim
   |cons c r=>cases r with
    |nil =>
     rw[Cy]
     exact wpAny_bind (wpAny_mono (U5 qi hb h5 p) (fun ok s' z=>wpAny_pure z) fun _ _ e=>e)
    |cons=>exact(Bool.false_ne_true h5).elim
 ·refine aV (fun b hb hy=>?_) (c1 _ (hP i v hPv))
  rw[qm hb] at hp
  obtain⟨y,hy⟩:=hy hp
  refine wpAny_mono (Rj elt hy h4 (pe (hkeep _ hk) hn hm)) (fun r s' z=>?_) fun _ _ e=>e
  exact⟨by rw[z.1];exact hy,z.2⟩
theorem Jv {x:Str} {i:Nat} {v:Value} (h:SignAt x i v):er v∈chars x:=by
 revert h;refine fM fun c u hc z5=>?_;subst z5
 unfold chars
 refine List.mem_map.mpr ⟨c,?_,rfl⟩
 have:=Array.mem_of_getElem? hc
 simpa using this
theorem xx {x:Str} {vs:List Value} (hl:vs.length=x.cps.size) (h:∀ j v,vs[j]?=some v→SignAt x j v):vs.map er=chars x:=by
 apply List.ext_getElem?
 intro j
 rw[List.getElem?_map]
 unfold chars
 rw[List.getElem?_map]
 by_cases q:j < vs.length
 ·have e:=List.getElem?_eq_getElem q
  refine fM (fun c u hc hu=>?_) (h j _ e)
  rw[e,Option.map_some,hu]
  have:x.cps.toList[j]?=some c:=by simpa using hc
  rw[this];rfl
 ·rw[List.getElem?_eq_none (by lia),List.getElem?_eq_none (by simp;lia)];rfl
theorem Al {C:Expr→Prop} {x:Expr} (h:FP x=true) (k1:∀ y p,C (.Name y p)) (k2:∀ v t p,C (.Subscript v t p)):C x :=
 (Bool.or_eq_true_iff.mp h).elim (fun q=>Expr.Name.elim (motive_1:=C) x (Nat.eq_of_beq_eq_true q) k1) fun q=>Expr.Subscript.elim (motive_1:=C) x (Nat.eq_of_beq_eq_true q) k2
theorem W2 {h:Heap} {o:Obj} {D:Addr} (hD:(h.push o).get? D=none):h.get? D=none:=by
 cases e:h.get? D with
 |none=>rfl
 |some o'=>exact gG (hD.symm.trans (Heap.get?_push_of_some _ e))
theorem xJ {v ev:Value} {elt cond:E} {k:List Value→Hp→Prop} {Q:Value→Shared→Prop} (room:mU n A l) (g:GS w Z9 os F σ s) (hx:er v=ev) (q:tG σ elt cond k ev)
  (H:∀ {vE out:List Value} {cnt t:Nat} {P:Nat→Value→Prop} {St:Nat→Heap→Prop} {o:Obj} {fp:List Addr},Walks PP w A s.heap.objs.size fp [s.heap.objs.size] cnt P St→cnt≤sizeLine→St 0 (s.heap.push o)→(∀ b∈fp,b≤s.heap.objs.size) →
   (∀ i v,P i v→er v∈vE)→dm σ elt cond vE=some out→(∀ vs:List Value,vs.length=cnt→(∀ j v,vs[j]?=some v→P j v)→vs.map er=vE)→vE.length≤big→(bf σ (.list out) fun a σ=>k [.ref a] σ)→Q (.ref s.heap.objs.size) { s with heap:=s.heap.push o,toks:=t }) :
  wpAny (model PP w) A (pyIter v) Q E' s:=by
 cases q with
 |@g_comp_l a _ out e hv q =>
  cases il hx
  refine aC (fun xs kk z6 t z=>?_) (g.lstC e);subst z6
  have hlt:=Heap.lt_size t
  have hl:s.heap.IsList a (List.toArray xs):=⟨_,t,rfl,_,rfl⟩
  refine wpAny_pyIter_list hl (H (t:=s.toks) (Walks.list (A:=A) room.handled _ a (Nat.ne_of_lt hlt) (List.toArray xs)) (gJ z) ⟨⟨_,Heap.get?_push_size _ rfl,rfl,rfl⟩,hl.push _⟩ (fun b hb=>?_) (fun i v hi=>?_) hv (fun vs hl hPs=>?_) (by rw[List.length_map];exact z) q)
  ·rcases List.mem_cons.mp hb with rfl|hb
   ·exact Nat.le_refl _
   ·exact List.mem_singleton.mp hb▸Nat.le_of_lt hlt
  ·have hi:xs[i]?=some v:=by simpa using hi
   exact List.mem_map_of_mem (List.mem_of_getElem? hi)
  ·refine congrArg (List.map er) (List.ext_getElem? (fun j=>?_))
   by_cases q:j < vs.length
   ·have e:=List.getElem?_eq_getElem q
    have:=hPs j _ e
    rw[e]
    simpa using this.symm
   ·rw[List.getElem?_eq_none (by lia),List.getElem?_eq_none (by simp only[List.size_toArray] at hl;lia)]
 |@g_comp_s x0 out hz0 hv q =>
  obtain⟨t',rfl⟩:=oH hx
  have hcl:(chars x0).length=x0.length:=by unfold chars;simp[Str.length]
  exact wpAny_pyIter_str fun o St W hst=>H (t:=s.toks) (W A room.handled) (by rw[sizeLine_eq];show x0.length≤_;lia) hst (fun b hb=>List.mem_singleton.mp hb▸Nat.le_refl _) (fun i v hi=>Jv hi) hv (fun vs hl hPs=>xx hl hPs) (by show _≤2 ^ 20;lia) q
theorem W0 {elt src cond:E} (os':Ok K w Z9 os n src):Ok K w Z9 os n (.comp elt src cond):=by
 have o:wA K w Z9 os n (.comp elt src cond):=by
  intro R A l F sc ns ρ env σ s x Q hc c g h
  refine vh hc fun el x px it ifs scope pos h1 h2 h3 h4 h5=>?_
  refine lz (fun k1 k2 k3 k4 k5=>?_) (yc h2)
  refine aC (fun L m eo hF lo=>?_) c.env
  refine wK k1 k2 k3 k4 k5 (wpAny_mono (os'.one h3 c g h) (fun v Z7 ⟨σ',g',q⟩=>?_) fun _ _ e=>e) fun y=>?_
  ·refine xJ c.room g' rfl q fun W hn hst hfp hP hv hfin hz q=>⟨_,_,[Z7.heap.objs.size],_,_,_,_,_,rfl,W,hn,hst,fun b hb=>by rw[Heap.size_push];exact Nat.lt_succ_of_le (hfp b hb),CG h2 h4 h5 c.bs eo g' (fun h' hk=>LSm.kept_iter hk) hP hv,fun D h' tk ys vs hD hlD hpD hlen hP hF hk=>?_⟩
   refine iJ (fun c1 c2 c3=>?_) (uR hv)
   have e:=c3 vs ys.toList (hfin vs hlen hP) hF
   subst e
   obtain⟨kk,hp⟩:=hpD
   refine aV (fun Z4 Z6 ZJ=>?_) (uv (xs:=ys.toList) (t:=tk) g' (LSm.kept_iter hk) (W2 hD) hp q (by rw[List.length_map] at c2;exact Nat.le_trans c2 hz))
   exact⟨Z4,Z6,ZJ⟩
  ·exact Al (C:=fun it=>foldedSetIterable it env y=pure y) h1 (fun _ _=>rfl) fun _ _ _=>rfl
 exact⟨o,cN o fun env whole hc=>vh hc fun _ _ _ _ _ _ _ _ _ _ _ _=>rfl,bJ rfl⟩
theorem ok:∀ e:E,Ok K w Z9 os n e
 |.nil=>zbN
 |.cons a b=>Uz (ok a) (ok b)
 |.loc i=>zbm i
 |.cst v=>zaX v
 |.gv i v=>zeB i v
 |.fld e f=>zd2 (ok e)
 |.bin op a b=>zd6 (ok a) (ok b)
 |.pow a b=>zcC a b
 |.cmp op a b=>zag (ok a) (ok b)
 |.btw a b c=>zbE (ok a) (ok b) (ok c)
 |.band a b=>Tr (ok a) (ok b)
 |.bor a b=>zcX (ok a) (ok b)
 |.not e=>zaz (ok e)
 |.neg e=>zcn (ok e)
 |.ite a b c=>zd0 (ok a) (ok b) (ok c)
 |.call f a=>Uo (ok f) (ok a)
 |.meth e m a=>Ul (ok e) (ok a)
 |.new _ _ _ a=>zaR (ok a)
 |.blt _ a=>zcB (ok a)
 |.bm e _ a=>zfT (ok e) (ok a)
 |.idx a i=>zcG (ok a) (ok i)
 |.upto a i=>VJ (ok a) (ok i)
 |.from_ a i=>Uw (ok a) (ok i)
 |.lst a=>za4 (ok a)
 |.tup a=>zax (ok a)
 |.dct=>zaB
 |.comp _ b _=>W0 (ok b)
end
set_option genCtorIdx false in
inductive zb2 where
 |one (x:Stmt)
 |many (xs:List Stmt)
noncomputable def di (x:Expr):Bool:=!(Nat.beq x.ctorIdx 8||Nat.beq x.ctorIdx 9||Nat.beq x.ctorIdx 10)
noncomputable def Am (x:Expr):Bool:=!Nat.beq x.ctorIdx 26
noncomputable def Gk (x:Expr):Bool:=!Nat.beq x.ctorIdx 25
noncomputable def vJ (x:Expr):Bool:=!Nat.beq x.ctorIdx 7
noncomputable def namesOk (sc:List (Str × NameKind)) (ns:List Str):List Nat→List Expr→Bool
 |[],ts=>bh ts
 |i::is,ts=>bV ts fun x r=>dD x (fun y _=>dz sc ns i y)&&namesOk sc ns is r
noncomputable def mX:List Nat→Bool
 |[]=>true
 |i::is=>!(is.any fun j=>Nat.beq i j)&&mX is
set_option backward.match.sparseCases true in
noncomputable def Xl (sc:List (Str × NameKind)) (ts vs:List Expr):Option (Option (List Str)) :=
 if !(ts.length == 2||ts.length == 3)||vs.length != ts.length||false then some none else
 if vs.any fun|.Starred ..=>true|_=>false then some none else
 let line:=(ts.head?.map (·.pos.line)).getD 0
 let names:=ts.filterMap fun
  |.Name id pos=>if sc.lookup id == some .local&&pos.line == line then some id else none
  |_=>none
 if names.length != ts.length||names.eraseDups.length != names.length then some none else
 if vs.all (foldedForSure 8) then some none else
 if vs.all (constantsAlone 8) then none else
 some (some names)
noncomputable def zdb (x:Expr):Option Str:=if h:x.ctorIdx=23 then Expr.Name.elim x h fun y _=>some y else none
noncomputable def namesOf (ts:List Expr):List Str:=ts.filterMap zdb
noncomputable def Uu (sc:List (Str × NameKind)) (ts vs:List Expr):Bool:=match Xl sc ts vs with
 |some none=>true
 |some (some names)=>names == namesOf ts
 |none=>false
noncomputable def Io (sc:List (Str × NameKind)) (x:Str) (p:Pos) (stmtLine:Nat):Expr→Bool
 |e@(.ListComp _ _ scope _)=>p.line == e.pos.line&&sc.lookup x == some .local&&!(scope.names.any fun(n,k)=>n == x&&(k == .local||k == .cell))
 |_=>true
noncomputable def cT:E→Bool
 |.idx ..=>false
 |.bin _ a b=>cT a&&cT b
 |.cmp _ a b=>cT a&&cT b
 |.bor a b=>cT a&&cT b
 |.blt _ args=>(match args with
  |.cons a .nil=>cT a
  |_=>true)
 |_=>true
noncomputable def wi:E→Bool
 |.comp elt _ cond=>cT elt&&cT cond
 |_=>false
noncomputable def oU (t:zb2) (f:Stmt→Bool):Bool:=match t with
 |.one x=>f x
 |.many _=>false
noncomputable def zfh (t:zb2) (f:List Stmt→Bool):Bool:=match t with
 |.many x=>f x
 |.one _=>false
noncomputable def Xp (x:Stmt):Bool:=if h:x.ctorIdx=26 then Stmt.Break.elim x h fun _=>true else false
@[elab_as_elim] theorem Vs {x:Stmt} {C:Stmt→Prop} (h:Xp x=true) (k:∀ p,C (.Break p)):C x:=dh h fun c h=>Stmt.Break.elim (motive_2:=fun x=>(c:x.ctorIdx=26)→Stmt.Break.elim x c (fun _=>true)=true→C x) x c (fun _ _ _=>k _) c h
noncomputable def zfa:E→Bool
 |.cst .none=>true
 |_=>false
theorem zch {e:E} (h:zfa e=true):e=.cst .none:=by
 cases e with
 |cst v=>cases v with
  |none=>rfl
  |_=>exact(Bool.false_ne_true h).elim
 |_=>exact(Bool.false_ne_true h).elim
noncomputable def onO (x:Option Expr) (f:Expr→Bool) (b:Bool):Bool:=match x with
 |some y=>f y
 |none=>b
noncomputable def Ib (x:Stmt) (f:Option Expr→Bool):Bool:=if h:x.ctorIdx=3 then Stmt.Return.elim x h fun v _=>f v else false
@[elab_as_elim] theorem yG {x:Stmt} {f} {C:Stmt→Prop} (h:Ib x f=true) (k:∀ v p,f v=true→C (.Return v p)):C x:=dh h fun c h=>Stmt.Return.elim (motive_2:=fun x=>(c:x.ctorIdx=3)→Stmt.Return.elim x c (fun v _=>f v)=true→C x) x c (fun v p _=>k v p) c h
noncomputable def xP (x:Stmt) (f:List Expr→Expr→Pos→Bool):Bool:=if h:x.ctorIdx=5 then Stmt.Assign.elim x h fun ts v p=>f ts v p else false
@[elab_as_elim] theorem qM {x:Stmt} {f} {C:Stmt→Prop} (h:xP x f=true) (k:∀ ts v p,f ts v p=true→C (.Assign ts v p)):C x:=dh h fun c h=>Stmt.Assign.elim (motive_2:=fun x=>(c:x.ctorIdx=5)→Stmt.Assign.elim x c (fun ts v p=>f ts v p)=true→C x) x c (fun ts v p _=>k ts v p) c h
noncomputable def Hq (x:Stmt) (f:Expr→Expr→List Stmt→List Stmt→Bool):Bool:=if h:x.ctorIdx=9 then Stmt.For.elim x h fun t i b o _=>f t i b o else false
@[elab_as_elim] theorem yS {x:Stmt} {f} {C:Stmt→Prop} (h:Hq x f=true) (k:∀ t i b o p,f t i b o=true→C (.For t i b o p)):C x:=dh h fun c h=>Stmt.For.elim (motive_2:=fun x=>(c:x.ctorIdx=9)→Stmt.For.elim x c (fun t i b o _=>f t i b o)=true→C x) x c (fun t i b o p _=>k t i b o p) c h
noncomputable def Yt (x:Stmt) (f:Expr→List Stmt→List Stmt→Bool):Bool:=if h:x.ctorIdx=11 then Stmt.While.elim x h fun t b o _=>f t b o else false
@[elab_as_elim] theorem Vq {x:Stmt} {f} {C:Stmt→Prop} (h:Yt x f=true) (k:∀ t b o p,f t b o=true→C (.While t b o p)):C x:=dh h fun c h=>Stmt.While.elim (motive_2:=fun x=>(c:x.ctorIdx=11)→Stmt.While.elim x c (fun t b o _=>f t b o)=true→C x) x c (fun t b o p _=>k t b o p) c h
noncomputable def Xm (x:Stmt) (f:Expr→List Stmt→List Stmt→Bool):Bool:=if h:x.ctorIdx=12 then Stmt.If.elim x h fun t b o _=>f t b o else false
@[elab_as_elim] theorem U0 {x:Stmt} {f} {C:Stmt→Prop} (h:Xm x f=true) (k:∀ t b o p,f t b o=true→C (.If t b o p)):C x:=dh h fun c h=>Stmt.If.elim (motive_2:=fun x=>(c:x.ctorIdx=12)→Stmt.If.elim x c (fun t b o _=>f t b o)=true→C x) x c (fun t b o p _=>k t b o p) c h
noncomputable def zfv (x:Stmt) (f:Option Expr→Option Expr→Bool):Bool:=if h:x.ctorIdx=16 then Stmt.Raise.elim x h fun e c _=>f e c else false
@[elab_as_elim] theorem zca {x:Stmt} {f} {C:Stmt→Prop} (h:zfv x f=true) (k:∀ e c p,f e c=true→C (.Raise e c p)):C x:=dh h fun c h=>Stmt.Raise.elim (motive_2:=fun x=>(c:x.ctorIdx=16)→Stmt.Raise.elim x c (fun e c _=>f e c)=true→C x) x c (fun e c p _=>k e c p) c h
noncomputable def X5 (x:Stmt) (f:List Stmt→List ExceptHandler→List Stmt→List Stmt→Bool):Bool:=if h:x.ctorIdx=17 then Stmt.Try.elim x h fun b hs o g _=>f b hs o g else false
@[elab_as_elim] theorem WQ {x:Stmt} {f} {C:Stmt→Prop} (h:X5 x f=true) (k:∀ b hs o g p,f b hs o g=true→C (.Try b hs o g p)):C x:=dh h fun c h=>Stmt.Try.elim (motive_2:=fun x=>(c:x.ctorIdx=17)→Stmt.Try.elim x c (fun b hs o g _=>f b hs o g)=true→C x) x c (fun b hs o g p _=>k b hs o g p) c h
noncomputable def zfP (x:Stmt) (f:Expr→Bool):Bool:=if h:x.ctorIdx=24 then Stmt.Expr.elim x h fun v _=>f v else false
@[elab_as_elim] theorem zcm {x:Stmt} {f} {C:Stmt→Prop} (h:zfP x f=true) (k:∀ v p,f v=true→C (.Expr v p)):C x:=dh h fun c h=>Stmt.Expr.elim (motive_2:=fun x=>(c:x.ctorIdx=24)→Stmt.Expr.elim x c (fun v _=>f v)=true→C x) x c (fun v p _=>k v p) c h
noncomputable def zeF (x:ExceptHandler) (f:Option Expr→Option Str→List Stmt→Bool):Bool:=match x with
 |.ExceptHandler t m b p=>f t m b
@[elab_as_elim] theorem zbM {x:ExceptHandler} {f} {C:ExceptHandler→Prop} (h:zeF x f=true) (k:∀ t m b p,f t m b=true→C (.ExceptHandler t m b p)):C x:=by
 cases x with
 |ExceptHandler t m b p=>exact k t m b p h
noncomputable def bZ (sc:List (Str × NameKind)) (ns:List Str):S→zb2→Bool
 |.nil,t=>zfh t bh
 |.seq a b,t=>zfh t fun v=>bV v fun x r=>bZ sc ns a (.one x)&&bZ sc ns b (.many r)
 |.asg i e,t=>oU t fun x=>xP x fun ts v pos=>bV ts fun t r=>bh r&&dD t fun y p=>dz sc ns i y&&(di v||(Io sc y p pos.line v&&wi e))&&aL sc ns e (.one v)
 |.fasg o f e,t=>oU t fun x=>xP x fun ts v _=>bV ts fun t r=>bh r&&qY t fun ob y _=>decide (f < attrs.length)&&y == bH f&&di v&&aL sc ns e (.one v)&&aL sc ns o (.one ob)
 |.iasg o i e,t=>oU t fun x=>xP x fun ts v _=>bV ts fun t r=>bh r&&Cw t fun ob ix=>Am ix&&di v&&aL sc ns e (.one v)&&aL sc ns o (.one ob)&&aL sc ns i (.one ix)
 |.unpT is es,t=>oU t fun x=>xP x fun ts v _=>bV ts fun t r=>bh r&&xN t fun ts=>xN v fun vs=>namesOk sc ns is ts&&mX is&&decide (is.length < 100)&&Uu sc ts vs&&aL sc ns es (.many vs)
 |.unp is e,t=>oU t fun x=>xP x fun ts v _=>bV ts fun t r=>bh r&&xN t fun ts=>namesOk sc ns is ts&&mX is&&Gk v&&di v&&aL sc ns e (.one v)
 |.ite c a b,t=>oU t fun x=>Xm x fun te body orelse=>aL sc ns c (.one te)&&bZ sc ns a (.many body)&&bZ sc ns b (.many orelse)
 |.whl c b,t=>oU t fun x=>Yt x fun te body orelse=>bh orelse&&aL sc ns c (.one te)&&bZ sc ns b (.many body)
 |.forR i e b,t=>oU t fun x=>Hq x fun tg it body orelse=>bh orelse&&dD tg fun y _=>jZ it fun g as ks _=>bh ks&&dD g fun r _=>bV as fun a as'=>bh as'&&dz sc ns i y&&gr sc r "range"&&aL sc ns e (.one a)&&bZ sc ns b (.many body)
 |.forL i e b,t=>oU t fun x=>Hq x fun tg it body orelse=>bh orelse&&dD tg fun y _=>dz sc ns i y&&vJ it&&aL sc ns e (.one it)&&bZ sc ns b (.many body)
 |.forU is e b,t=>oU t fun x=>Hq x fun tg it body orelse=>bh orelse&&xN tg fun ts=>namesOk sc ns is ts&&mX is&&vJ it&&aL sc ns e (.one it)&&bZ sc ns b (.many body)
 |.ret e,t=>oU t fun x=>Ib x fun v=>onO v (fun v=>aL sc ns e (.one v)) (zfa e)
 |.exp e,t=>oU t fun x=>zfP x fun v=>di v&&aL sc ns e (.one v)
 |.brk,t=>oU t Xp
 |.raise_ es,t=>oU t fun x=>zfv x fun ex cause=>Ls cause&&Yz ex fun ex=>jZ ex fun g as ks _=>bh ks&&dD g fun y _=>gP sc 3 y (.ref dY)&&decide (as.length=2)&&aL sc ns es (.many as)
 |.told e,t=>oU t fun x=>X5 x fun body hs orelse fin=>bh orelse&&bh fin&&bV body fun s r=>bh r&&Ib s fun v=>Yz v fun v=>bV hs fun h r=>bh r&&zeF h fun ty nm hb=>Yz ty fun ty=>dD ty fun y _=>Yz nm fun nm=>bV hb fun s r=>bh r&&Ib s fun u=>Yz u fun u=>qY u fun o a _=>dD o fun z _ =>
   gP sc 3 y (.ref dY)&&nm == z&&a == ("symbol":Str)&&!(nm == "__debug__")&&sc.lookup nm == some .local&&!ns.contains nm&&aL sc ns e (.one v)
section
variable {sc:List (Str × NameKind)} {ns:List Str} {x:Stmt} {v:List Stmt} {C:Stmt→Prop} {D:List Stmt→Prop} {a b:S} {e o i:E} {j f:Nat} {is:List Nat}
@[elab_as_elim] theorem O4 (h:bZ sc ns .nil (.many v)=true) (k:D []):D v:=aK h k
@[elab_as_elim] theorem Ot (h:bZ sc ns (.seq a b) (.many v)=true) (k:∀ y r,bZ sc ns a (.one y)=true→bZ sc ns b (.many r)=true→D (y::r)):D v:=aZ h fun y r h=>b2 h (k y r)
@[elab_as_elim] theorem Np (h:bZ sc ns (.asg j e) (.one x)=true) (k:∀ y p v p2,dz sc ns j y=true→(di v||(Io sc y p p2.line v&&wi e))=true→aL sc ns e (.one v)=true→C (.Assign [.Name y p] v p2)):C x :=
 qM h fun ts v p2 h=>aZ h fun t r h=>b2 h fun h0 h=>aK h0 (cg h fun y p h=>b3 h (k y p v p2))
@[elab_as_elim] theorem Lh (h:bZ sc ns (.fasg o f e) (.one x)=true) (k:∀ ob p v p2,f < attrs.length→di v=true→aL sc ns e (.one v)=true→aL sc ns o (.one ob)=true→C (.Assign [.Attribute ob (bH f) p] v p2)):C x :=
 qM h fun ts v p2 h=>aZ h fun t r h=>b2 h fun h0 h=>aK h0 (nq h fun ob y p h=>b5 h fun h1 h2 h3 h4 h5=>by cases eq_of_beq h2;exact k ob p v p2 (of_decide_eq_true h1) h3 h4 h5)
@[elab_as_elim] theorem Lf (h:bZ sc ns (.iasg o i e) (.one x)=true) (k:∀ ob ix p v p2,Am ix=true→di v=true→aL sc ns e (.one v)=true→aL sc ns o (.one ob)=true→aL sc ns i (.one ix)=true→C (.Assign [.Subscript ob ix p] v p2)):C x :=
 qM h fun ts v p2 h=>aZ h fun t r h=>b2 h fun h0 h=>aK h0 (ug h fun ob ix p h=>b5 h (k ob ix p v p2))
@[elab_as_elim] theorem Lg (h:bZ sc ns (.unpT is e) (.one x)=true) (k:∀ ts k1 p1 vs k2 p2 p3,namesOk sc ns is ts=true→mX is=true→is.length < 100→Uu sc ts vs=true→aL sc ns e (.many vs)=true→C (.Assign [.Tuple ts k1 p1] (.Tuple vs k2 p2) p3)):C x :=
 qM h fun ts v p3 h=>aZ h fun t r h=>b2 h fun h0 h=>aK h0 (qQ h fun ts k1 p1 h=>qQ h fun vs k2 p2 h=>b5 h fun h1 h2 h3 h4 h5=>k ts k1 p1 vs k2 p2 p3 h1 h2 (of_decide_eq_true h3) h4 h5)
@[elab_as_elim] theorem NK (h:bZ sc ns (.unp is e) (.one x)=true) (k:∀ ts k1 p1 v p3,namesOk sc ns is ts=true→mX is=true→Gk v=true→di v=true→aL sc ns e (.one v)=true→C (.Assign [.Tuple ts k1 p1] v p3)):C x :=
 qM h fun ts v p3 h=>aZ h fun t r h=>b2 h fun h0 h=>aK h0 (qQ h fun ts k1 p1 h=>b5 h (k ts k1 p1 v p3))
@[elab_as_elim] theorem Oq (h:bZ sc ns (.ite e a b) (.one x)=true) (k:∀ te body orelse p,aL sc ns e (.one te)=true→bZ sc ns a (.many body)=true→bZ sc ns b (.many orelse)=true→C (.If te body orelse p)):C x :=
 U0 h fun te body orelse p h=>b3 h (k te body orelse p)
@[elab_as_elim] theorem RN (h:bZ sc ns (.whl e b) (.one x)=true) (k:∀ te body p,aL sc ns e (.one te)=true→bZ sc ns b (.many body)=true→C (.While te body [] p)):C x :=
 Vq h fun te body orelse p h=>b3 h fun h0 h1 h2=>aK h0 (k te body p h1 h2)
@[elab_as_elim] theorem Li (h:bZ sc ns (.forR j e b) (.one x)=true) (k:∀ y p r p2 a p3 body p4,dz sc ns j y=true→gr sc r "range"=true→aL sc ns e (.one a)=true→bZ sc ns b (.many body)=true→C (.For (.Name y p) (.Call (.Name r p2) [a] [] p3) body [] p4)):C x :=
 yS h fun tg it body orelse p4 h=>b2 h fun h0 h=>aK h0 (cg h fun y p h=>gU h fun g as ks p3 h=>b2 h fun h0 h=>aK h0 (cg h fun r p2 h=>aZ h fun a as' h=>b5 h fun h0 h1 h2 h3 h4=>aK h0 (k y p r p2 a p3 body p4 h1 h2 h3 h4)))
@[elab_as_elim] theorem KC (h:bZ sc ns (.forL j e b) (.one x)=true) (k:∀ y p it body p4,dz sc ns j y=true→vJ it=true→aL sc ns e (.one it)=true→bZ sc ns b (.many body)=true→C (.For (.Name y p) it body [] p4)):C x :=
 yS h fun tg it body orelse p4 h=>b2 h fun h0 h=>aK h0 (cg h fun y p h=>b4 h (k y p it body p4))
@[elab_as_elim] theorem JM (h:bZ sc ns (.forU is e b) (.one x)=true) (k:∀ ts k1 p1 it body p4,namesOk sc ns is ts=true→mX is=true→vJ it=true→aL sc ns e (.one it)=true→bZ sc ns b (.many body)=true→C (.For (.Tuple ts k1 p1) it body [] p4)):C x :=
 yS h fun tg it body orelse p4 h=>b2 h fun h0 h=>aK h0 (qQ h fun ts k1 p1 h=>b5 h (k ts k1 p1 it body p4))
@[elab_as_elim] theorem Mj (h:bZ sc ns (.ret e) (.one x)=true) (k:∀ v p,aL sc ns e (.one v)=true→C (.Return (some v) p)) (k2:∀ p,e=.cst .none→C (.Return none p)):C x :=
 yG h fun v p h=>by
  cases v with
  |none=>exact k2 p (zch h)
  |some v=>exact k v p h
@[elab_as_elim] theorem Nu (h:bZ sc ns (.exp e) (.one x)=true) (k:∀ v p,di v=true→aL sc ns e (.one v)=true→C (.Expr v p)):C x:=zcm h fun v p h=>b2 h (k v p)
@[elab_as_elim] theorem Og (h:bZ sc ns .brk (.one x)=true) (k:∀ p,C (.Break p)):C x:=Vs h k
@[elab_as_elim] theorem Ax (h:bZ sc ns (.raise_ e) (.one x)=true) (k:∀ y np as cp pos,gP sc 3 y (.ref dY)=true→as.length=2→aL sc ns e (.many as)=true→C (.Raise (some (.Call (.Name y np) as [] cp)) none pos)):C x :=
 zca h fun ex cause pos h=>b2 h fun h0 h=>vU h0 (uZ h fun ex h=>gU h fun g as ks cp h=>b2 h fun h0 h=>aK h0 (cg h fun y np h=>b3 h fun h1 h2 h3=>k y np as cp pos h1 (of_decide_eq_true h2) h3))
@[elab_as_elim] theorem Lb (h:bZ sc ns (.told e) (.one x)=true) (k:∀ v p1 y p2 (nm:Str) p3 p4 p5 p6 p7,gP sc 3 y (.ref dY)=true→(nm == "__debug__")=false→sc.lookup nm=some .local→ns.contains nm=false→aL sc ns e (.one v)=true →
  C (.Try [.Return (some v) p1] [.ExceptHandler (some (.Name y p2)) (some nm) [.Return (some (.Attribute (.Name nm p3) "symbol" p4)) p5] p6] [] [] p7)):C x :=
 WQ h fun body hs orelse fin p7 h=>b3 h fun h0 h1 h=>aK h0 (aK h1 (aZ h fun s r h=>b2 h fun h0 h=>aK h0 (yG h fun v p1 h=>uZ h fun v h=>aZ h fun hd r h=>b2 h fun h0 h=>aK h0 (zbM h fun ty nm hb p6 h =>
  uZ h fun ty h=>cg h fun y p2 h=>uZ h fun nm h=>aZ h fun s r h=>b2 h fun h0 h=>aK h0 (yG h fun u p5 h=>uZ h fun u h=>nq h fun o a p4 h=>cg h fun z p3 h=>b7 h fun h1 h2 h3 h4 h5 h6 h7=>by
   cases eq_of_beq h2
   cases eq_of_beq h3
   exact k v p1 y p2 nm p3 p4 p5 p6 p7 h1 (Lw h4) (eq_of_beq h5) (Lw h6) h7)))))
end
noncomputable def Made (w:World) (Z9:Heap) (os:OsState) (F:Fm) (l:List Env) (R:Value→Hp→Prop) (e:Value) (s:Shared):Prop :=
 s.gens=#[]∧s.os=os∧∃ a sym σ h1,e=.ref a∧SR Z9 F σ h1∧h1.StaysIn s.heap∧h1.get? a=none ∧
  (∃ t dx sl mA v,s.heap.get? a=some ⟨.ref dY,some dx,.fields #[.ref t,.none,.none,.none,.bool false,.none],sl⟩∧dx≠a∧s.heap.Ns dx mA∧h1.get? dx=none∧mA "symbol"=some v∧handedIn v=true∧er v=sym)∧R sym σ
structure Sx (K:Frag) (w:World) (Z9:Heap) (os:OsState) (n:Nat) (R:Value→Hp→Prop) (A:Around) (l:List Env) (Z8:Fm) (sc:List (Str × NameKind)) (env:Env) (L:Addr) (E:Value→Shared→Prop):Prop where
 bs:Bs K Z9
 room:mU n A l
 eo:EnvOk sc env L
 frames:∀ m,cB (Z8.put L (.ns m)) l
 own:PassesOwn (model PP w) A env E
 err:∀ m e s,Err w Z9 os (Z8.put L (.ns m)) l R e s→E e s
 made:∀ m e s,Made w Z9 os (Z8.put L (.ns m)) l R e s→E e s
 top:∃ outer,l=env::outer
inductive Dyn (w:World) (Z9:Heap) (os:OsState) (Z8:Fm) (L:Addr) (ns:List Str) (ρ:Loc) (σ:Hp) (s:Shared):Prop
 |mk (m:Str→Option Value) (g:GS w Z9 os (Z8.put L (.ns m)) σ s) (lo:LocOk ns ρ m):Dyn w Z9 os Z8 L ns ρ σ s
noncomputable def zgv:Fl→Flow→Prop
 |.next,.next=>True
 |.brk,.brk=>True
 |.ret v,.ret u=>er u=v
 |_,_=>False
inductive Out (w:World) (Z9:Heap) (os:OsState) (Z8:Fm) (L:Addr) (ns:List Str) (k:Fl→Loc→Hp→Prop) (f:Flow) (s:Shared):Prop
 |mk (f':Fl) (ρ:Loc) (σ:Hp) (hf:zgv f' f) (d:Dyn w Z9 os Z8 L ns ρ σ s) (q:k f' ρ σ):Out w Z9 os Z8 L ns k f s
section
variable {K:Frag} {w:World} {Z9:Heap} {os:OsState} {n:Nat} {R:Value→Hp→Prop} {A:Around} {l:List Env} {Z8:Fm} {sc:List (Str × NameKind)} {ns:List Str} {ρ:Loc} {env:Env} {L:Addr} {σ:Hp} {s:Shared} {E':Value→Shared→Prop}
noncomputable def zgO (K:Frag) (w:World) (Z9:Heap) (os:OsState) (n:Nat) (st:S):Prop :=
 ∀ {R A l Z8 sc ns env L E' ρ σ s} (x:Stmt) (k:Fl→Loc→Hp→Prop),bZ sc ns st (.one x)=true→Sx K w Z9 os n R A l Z8 sc env L E'→Dyn w Z9 os Z8 L ns ρ σ s→ex w Z9 os n R st ρ σ k →
  wpAny (model PP w) A (exec x env) (Out w Z9 os Z8 L ns k) E' s
noncomputable def zfR (K:Frag) (w:World) (Z9:Heap) (os:OsState) (n:Nat) (st:S):Prop :=
 ∀ {R A l Z8 sc ns env L E' ρ σ s} (xs:List Stmt) (k:Fl→Loc→Hp→Prop),bZ sc ns st (.many xs)=true→Sx K w Z9 os n R A l Z8 sc env L E'→Dyn w Z9 os Z8 L ns ρ σ s→ex w Z9 os n R st ρ σ k →
  wpAny (model PP w) A (execs xs env) (Out w Z9 os Z8 L ns k) E' s
structure pF (K:Frag) (w:World) (Z9:Heap) (os:OsState) (n:Nat) (st:S):Prop where
 o:zgO K w Z9 os n st
 m:zfR K w Z9 os n st
theorem Sx.cx {m} (x:Sx K w Z9 os n R A l Z8 sc env L E') (lo:LocOk ns ρ m):Cx K w Z9 os n R A l (Z8.put L (.ns m)) sc ns ρ env :=
 ⟨x.bs,x.room,x.frames m,L,m,x.eo,Fm.aa,lo⟩
theorem xT:∀ {ρ:Loc} {i j:Nat} {v:Value},i≠j→lk (dW ρ i v) j=lk ρ j
 |[],_,_,_,_=>rfl
 |x::r,0,0,_,h=>absurd rfl h
 |x::r,0,j+1,_,_=>rfl
 |x::r,i+1,0,_,_=>rfl
 |x::r,i+1,j+1,v,h=>xT (ρ:=r) (fun e=>h (by rw[e]))
theorem tK:∀ {ρ:Loc} {i:Nat} {v u:Value},lk (dW ρ i v) i=some u→u=v
 |[],_,_,_,h=>by cases h
 |x::r,0,v,u,h=>by cases h;rfl
 |x::r,i+1,v,u,h=>tK (ρ:=r) h
theorem LocOk.set {m:Str→Option Value} {i:Nat} {x:Str} {v:Value} (lo:LocOk ns ρ m) (hx:ns[i]?=some x):LocOk ns (dW ρ i (er v)) (fun y=>if y=x then some v else m y):=by
 refine⟨lo.nodup,fun j u h=>?_⟩
 by_cases e:i=j
 ·subst e
  have:=tK h
  subst this
  exact⟨x,v,hx,if_pos rfl,rfl⟩
 ·rw[xT e] at h
  refine aC (fun y u' h1 h2 h3=>?_) (lo.has j u h)
  refine⟨y,u',h1,?_,h3⟩
  have:y≠x:=fun q=>e (by
   subst q
   obtain⟨a1,a2⟩:=List.getElem?_eq_some_iff.mp hx
   obtain⟨b1,b2⟩:=List.getElem?_eq_some_iff.mp h1
   exact(List.getElem_inj lo.nodup).mp (a2.trans b2.symm))
  rw[if_neg this];exact h2
theorem EnvOk.notCls (eo:EnvOk sc env L):(env.scope.kind == .class||(env.scope.kind == .module&&env.locals != env.globals))=false:=by
 rw[eo.kind];rfl
theorem HR {i x} (h:dz sc ns i x=true):ns[i]?=some x∧sc.lookup x=some .local:=by
 simp only[dz,Bool.and_eq_true,beq_iff_eq] at h
 exact h.1
theorem SR.nsAt {F:Fm} {h:Heap} {m} (x:SR Z9 F σ h) (e:F L=some (.ns m)):h.Ns L m:=by
 obtain⟨_,_,_,_,r3⟩:=x
 exact(r3 L _ e).2
theorem pY {i x v m} {Q:Unit→Shared→Prop} (hc:dz sc ns i x=true) (eo:EnvOk sc env L) (g:GS w Z9 os (Z8.put L (.ns m)) σ s) (lo:LocOk ns ρ m)
  (h:∀ s',Dyn w Z9 os Z8 L ns (dW ρ i (er v)) σ s'→Q () s'):wpAny (model PP w) A (storeName env x v) Q E' s:=by
 obtain⟨h1,h2⟩:=HR hc
 have hn:s.heap.Ns env.locals m:=by rw[eo.locals];exact g.sr.nsAt Fm.aa
 refine wpAny_storeName_local (by unfold Env.kindOf;rw[eo.names];exact h2) hn (fun h' hn' hs'=>h _ ?_) eo.notCls
 rw[eo.locals] at hn' hs'
 refine⟨_,g.heap (F':=Z8.put L (.ns _)) ?_,lo.set h1⟩
 have:=g.sr.frame Fm.aa hs' (m':=.ns _) hn'
 rwa [Fm.put_put] at this
theorem Tp:pF K w Z9 os n .nil:=by
 refine⟨?_,?_⟩
 ·intro R A l Z8 sc ns env L E' ρ σ s x k hc;exact Bool.noConfusion (show false=true from hc)
 ·intro R A l Z8 sc ns env L E' ρ σ s xs k hc c g h
  refine O4 hc ?_
  exact wpAny_execs_nil ⟨.next,ρ,σ,trivial,g,h⟩
theorem Wu {a b:S} (oa:pF K w Z9 os n a) (ob:pF K w Z9 os n b):pF K w Z9 os n (.seq a b):=by
 refine⟨?_,?_⟩
 ·intro R A l Z8 sc ns env L E' ρ σ s x k hc;exact Bool.noConfusion (show false=true from hc)
 ·intro R A l Z8 sc ns env L E' ρ σ s xs k hc c g h
  refine Ot hc ?_
  intro x xs h1 h2
  refine wpAny_execs_cons (wpAny_mono (oa.o x _ h1 c g h) (fun f s' zz=>?_) fun _ _ e=>e)
  obtain⟨f',ρ',σ',hf,g',q⟩:=zz
  cases f' with
  |next =>
   cases f<;>first|exact hf.elim|exact ob.m xs k h2 c g' q
  |brk =>
   cases f<;>first|exact hf.elim|exact⟨.brk,ρ',σ',hf,g',q⟩
  |ret v =>
   cases f<;>first|exact hf.elim|exact⟨.ret v,ρ',σ',hf,g',q⟩
theorem cG {st:S} (hp:∀ {sc ns xs},bZ sc ns st (.many xs)=false):zfR K w Z9 os n st:=by
 intro R A l Z8 sc ns env L E' ρ σ s xs k hc
 rw[hp] at hc;cases hc
theorem Vu:pF K w Z9 os n .brk:=by
 refine⟨?_,cG rfl⟩
 intro R A l Z8 sc ns env L E' ρ σ s x k hc c g h
 refine Og hc ?_
 intro p
 exact wpAny_Break ⟨.brk,ρ,σ,trivial,g,h⟩
theorem Sx.one {e:E} {x:Expr} {P:Value→Hp→Prop} {m} (o:Ok K w Z9 os n e) (hc:aL sc ns e (.one x)=true) (c:Sx K w Z9 os n R A l Z8 sc env L E') (lo:LocOk ns ρ m) (g:GS w Z9 os (Z8.put L (.ns m)) σ s)
  (h:ev w Z9 os n R ρ e σ (fun xs σ=>Internal.one xs fun v=>P v σ)):wpAny (model PP w) A (eval x env) (V1 w Z9 os (Z8.put L (.ns m)) P) E' s :=
 wpAny_mono (o.one hc (c.cx lo) g h) (fun _ _ q=>q) (c.err m)
theorem uF {v:Expr} {t:Option Expr} {line:Nat} (h:di v=true):swapsWith v t line env=pure false:=by
 cases v<;>first|rfl|exact Bool.noConfusion (show false=true from h)
theorem Tg (e:E):pF K w Z9 os n (.ret e):=by
 refine⟨?_,cG rfl⟩
 intro R A l Z8 sc ns env L E' ρ σ s x k hc c g h
 obtain⟨m,g,lo⟩:=g
 refine Mj hc ?_ ?_
 ·intro v p hc
  refine wpAny_Return_some (wpAny_mono (c.one (ok _) hc lo g h) (fun v s' zz=>?_) fun _ _ e=>e)
  obtain⟨σ',g',q⟩:=zz
  exact⟨.ret _,ρ,σ',rfl,⟨m,g',lo⟩,q⟩
 ·rintro p rfl
  exact wpAny_Return_none ⟨.ret .none,ρ,σ,rfl,⟨m,g,lo⟩,h⟩
theorem Ui (e:E):pF K w Z9 os n (.exp e):=by
 refine⟨?_,cG rfl⟩
 intro R A l Z8 sc ns env L E' ρ σ s x k hc c g h
 obtain⟨m,g,lo⟩:=g
 refine Nu hc ?_
 intro v p h1 h2
 refine wpAny_Expr_any (wpAny_mono ((ok e).v v _ h2 (c.cx lo) g h) (fun v s' zz=>?_) (c.err m)) (by unfold interactive;rw[c.eo.kind];rfl) (uF h1)
 obtain⟨σ',g',q⟩:=zz
 exact⟨.next,ρ,σ',trivial,⟨m,g',lo⟩,q⟩
theorem Ud (t:E) {a b:S} (oa:pF K w Z9 os n a) (ob:pF K w Z9 os n b):pF K w Z9 os n (.ite t a b):=by
 refine⟨?_,cG rfl⟩
 intro R A l Z8 sc ns env L E' ρ σ s x k hc c g h
 obtain⟨m,g,lo⟩:=g
 refine Oq hc ?_
 intro te body orelse p h1 h2 h3
 refine wpAny_If (wpAny_mono ((ok t).t te _ h1 (c.cx lo) g h) (fun b' s' zz=>?_) (c.err m))
 obtain⟨σ',g',q⟩:=zz
 cases b' with
 |true=>exact oa.m body k h2 c ⟨m,g',lo⟩ q
 |false=>exact ob.m orelse k h3 c ⟨m,g',lo⟩ q
theorem U6 (t:E) {b:S} (ob:pF K w Z9 os n b):pF K w Z9 os n (.whl t b):=by
 refine⟨?_,cG rfl⟩
 intro R A l Z8 sc ns env L E' ρ σ s x k hc c g h
 refine RN hc ?_
 intro te body p h1 h2
 revert h;refine aV fun I z0 step=>?_;obtain⟨m0,hI⟩:=z0
 refine wpAny_While (codeAny_whileLoop (R:=fun r s'=>match r with|.ok f=>Out w Z9 os Z8 L ns k f s'|.error e=>cameBackBy (model PP w) A env E' e s') (fun j s=>∃ ρ σ,I j ρ σ∧Dyn w Z9 os Z8 L ns ρ σ s) (fun j s hj=>?_) m0 ⟨ρ,σ,hI,g⟩)
 obtain⟨ρ,σ,hj,m,g,lo⟩:=hj
 refine wpAny_passesOwn c.own (wpAny_mono ((ok t).t te _ h1 (c.cx lo) g (step j ρ σ hj)) (fun b' s' zz=>?_) (c.err m))
 obtain⟨σ',g',q⟩:=zz
 cases b' with
 |false=>exact wpAny_execs_nil ⟨.next,ρ,σ',trivial,⟨m,g',lo⟩,q⟩
 |true =>
  refine wpAny_passesOwn c.own (wpAny_mono (ob.m body _ h2 c ⟨m,g',lo⟩ q) (fun f Z5 zz=>?_) fun _ _ e=>e)
  obtain⟨f',ZS,Z4,hf,Z6,q⟩:=zz
  cases f' with
  |next =>
   cases f<;>first|exact hf.elim|skip
   refine aV (fun j' hlt hj'=>?_) q
   exact⟨j',hlt,ZS,Z4,hj',Z6⟩
  |brk =>
   cases f<;>first|exact hf.elim|skip
   exact⟨.next,ZS,Z4,trivial,Z6,q⟩
  |ret v =>
   cases f<;>first|exact hf.elim|skip
   exact⟨.ret v,ZS,Z4,hf,Z6,q⟩
end
section
variable {K:Frag} {w:World} {Z9:Heap} {os:OsState} {n:Nat} {R:Value→Hp→Prop} {A:Around} {l:List Env} {F Z8:Fm} {sc:List (Str × NameKind)} {ns:List Str} {ρ:Loc} {env:Env} {L:Addr} {σ:Hp} {s:Shared} {E':Value→Shared→Prop}
theorem gZ:∀ {fs:List (Nat × Value)} {n:Nat} {v:Value},cz (oh fs n v) n=some v
 |[],n,v=>by unfold oh cz;rw[Nat.beq_refl]
 |(k,x)::r,n,v=>by
  unfold oh
  cases e:Nat.beq k n with
  |true=>dsimp only;unfold cz;rw[e]
  |false=>dsimp only;unfold cz;rw[e];exact gZ
theorem gB:∀ {fs:List (Nat × Value)} {n j:Nat} {v:Value},n≠j→cz (oh fs n v) j=cz fs j
 |[],n,j,v,h=>by
  unfold oh
  have:Nat.beq n j=false:=by
   cases e:Nat.beq n j with
   |false=>rfl
   |true=>exact absurd (Nat.eq_of_beq_eq_true e) h
  unfold cz;rw[this];rfl
 |(k,x)::r,n,j,v,h=>by
  unfold oh
  cases e:Nat.beq k n with
  |true =>
   dsimp only
   have:Nat.beq k j=false:=by
    cases e2:Nat.beq k j with
    |false=>rfl
    |true=>exact absurd ((Nat.eq_of_beq_eq_true e).symm.trans (Nat.eq_of_beq_eq_true e2)) h
   conv=>lhs;unfold cz
   conv=>rhs;unfold cz
   rw[this]
  |false =>
   dsimp only
   conv=>lhs;unfold cz
   conv=>rhs;unfold cz
   cases Nat.beq k j with
   |true=>rfl
   |false=>exact gB h
theorem O8 {mA:Str→Option Value} {fs:List (Nat × Value)} {f:Nat} {v:Value} (inj:∀ k m,k < attrs.length→m < attrs.length→bH k=bH m→k=m) (hf:f < attrs.length) (x:rQ mA fs) (hv:handedIn v=true) :
  rQ (fun y=>if y=bH f then some v else mA y) (oh fs f (er v)):=by
 refine⟨fun k u h=>?_,fun y u h=>?_,fun k h=>?_⟩
 ·by_cases e:f=k
  ·subst e
   rw[gZ] at h;cases h
   exact⟨v,if_pos rfl,rfl,hv⟩
  ·rw[gB e] at h
   refine cM (fun u' h1 h2 h3=>?_) (x.has k u h)
   refine⟨u',?_,h2,h3⟩
   rw[if_neg]
   ·exact h1
   ·intro q;exact e (inj k f (x.bd k (by rw[h];rfl)) hf q).symm
 ·by_cases e:y=bH f
  ·exact⟨f,hf,e,by rw[gZ];rfl⟩
  ·simp only[if_neg e] at h
   refine cM (fun k k1 k2 k3=>?_) (x.no y u h)
   refine⟨k,k1,k2,?_⟩
   have:f≠k:=fun q=>e (by rw[k2,q])
   rw[gB this];exact k3
 ·by_cases e:f=k
  ·rw[← e];exact hf
  ·rw[gB e] at h;exact x.bd k h
theorem pJ {v:Value} (h:aB (er v)=true):handedIn v=true:=by
 cases v<;>first|rfl|exact Bool.noConfusion (show false=true from h)
theorem Af:∀ {l t:List Str},l.Nodup→(∀ x∈l,x∈t)→l.length≤t.length
 |[],t,_,_=>Nat.zero_le _
 |x::r,t,h,k=>by
  obtain⟨h1,h2⟩:=List.nodup_cons.mp h
  have hx:=k x List.mem_cons_self
  have:=Af (t:=t.erase x) h2 fun y hy=>(List.mem_erase_of_ne (fun e:y=x=>h1 (by rw[← e];exact hy))).mpr (k y (List.mem_cons_of_mem _ hy))
  rw[List.length_erase_of_mem hx] at this
  have:0 < t.length:=List.length_pos_of_mem hx
  simp only[List.length_cons];lia
theorem Uk {es:Array DictEntry} {t:List Str} (hk:StrKeys es) (hu:UniqKeys es) (h:∀ x,(nsFind es x).isSome=true→x∈t):es.size≤t.length:=by
 let nm:DictEntry→Str:=fun e=>match e.key with
  |.str x _=>x
  |_=>Str.empty
 have hn:∀ e∈es.toList,e.key.isStr (nm e)=true:=fun e he=>by
  refine W7 (fun x t q=>?_) (hk e (Array.mem_toList_iff.mp he))
  show e.key.isStr (match e.key with|.str x _=>x|_=>Str.empty)=true
  rw[q];simp[Value.isStr]
 have h1:(es.toList.map nm).Nodup:=by
  unfold List.Nodup
  rw[List.pairwise_map]
  unfold UniqKeys at hu
  refine hu.imp_of_mem (fun {a b} ha hb hab e=>hab (nm a) (hn a ha) (by rw[e];exact hn b hb))
 have h2:=Af h1 (t:=t) fun x hx=>by
  refine aV (fun e he z0=>?_) (List.mem_map.mp hx);subst z0
  refine h _ ?_
  unfold nsFind findBy
  rw[Option.isSome_map,Array.find?_isSome]
  exact⟨e,Array.mem_toList_iff.mp he,hn e he⟩
 simpa using h2
theorem Q8 {h:Heap} {dx:Addr} {mA mB:Str→Option Value} (a:h.Ns1 dx mA) (b:h.Ns1 dx mB):mB=mA:=funext fun y=>by
 refine bY (fun o1 es1 ep1 ho1 hd1 _ _ hf1=>?_) b
 refine bY (fun o2 es2 ep2 ho2 hd2 _ _ hf2=>?_) a
 rw[ho1] at ho2;cases ho2
 rw[hd1] at hd2;cases hd2
 rw[← hf1,← hf2]
theorem Pq {n:Nat} (h:n < attrs.length):bH n∈attrs:=by
 unfold bH
 rw[List.getD_eq_getElem?_getD,List.getElem?_eq_getElem h]
 exact List.getElem_mem h
theorem Wv {a:Addr} {C:Addr} {fs:List (Nat × Value)} {f:Nat} {v:Value} {Q:Unit→Shared→Prop} (b:Bs K Z9) (g:GS w Z9 os F σ s) (ha:σ a=some (.inst C fs)) (hf:f < attrs.length) (hm:iI rG C f=none) (hv:aB (er v)=true)
  (h:∀ s',GS w Z9 os F (σ.put a (.inst C (oh fs f (er v)))) s'→Q () s'):wpAny (model PP w) A (setAttr (.ref a) (bH f) v) Q E' s:=by
 obtain⟨hC,dx,sl,mA,od,g1,g2,g3,g4⟩:=g.ins ha
 refine ru (fun f1 f2 f3 f4=>?_) (b.kf.fld C hC f hf hm)
 obtain⟨s1,s2⟩:=b.kf.set C hC
 have X:=g.kin b
 have I:PySem.W.InstAt s.heap a ⟨.ref C,some dx,.plain,sl⟩ C (some od):=⟨g1,rfl,rfl,g2⟩
 refine aV (fun cd hc hd'=>?_) (any_some f2)
 refine set_plain X I s1 (osa_open (s:={ s with toks:=s.toks+1 }) X I s2 f4 fun bb=>?_)
 refine wpAny_bind (wpAny_pure (wpAny_bind (wpAny_bind (wpAny_loadPart g1 (wpAny_bind ((looks_clsIn (h:=({ s with toks:=s.toks+1 }:Shared).heap) X hc).here ?_))))))
 rw[hd']
 refine wpAny_pure (a:=some dx) (wpAny_bind (wpAny_pure (wpAny_bind ?_)))
 refine wpAny_nsSet1 g3 (fun h' hn hs=>?_)
 have fl:=O8 b.kf.inj hf g4 (pJ hv)
 have hn':=hn
 refine bY (fun o' es' ep' ho' hd2 hk2 hu2 hf2=>?_) hn
 have hz:es'.size≤attrs.length:=Uk hk2 hu2 fun x hx=>by
  rw[hf2] at hx
  obtain⟨u,hu⟩:=Option.isSome_iff_exists.mp hx
  refine cM (fun k k1 k2 _=>?_) (fl.no x u hu)
  rw[k2];exact Pq k1
 have h60:attrs.length≤60:=by decide
 refine wpAny_bind (wpAny_lookBehind ho' (by rw[hd2];exact pastItsLine_dict (by rw[sizeLine_eq];lia)) ?_)
 refine wpAny_pure (h _ ?_)
 refine g.heap (g.sr.flds ha g1 hs fun mB hB hF=>?_)
 cases Q8 g3 hB
 exact⟨_,hn',fl⟩
theorem We {x y ey:Value} {f:Nat} {k:Fl→Loc→Hp→Prop} {Q:Unit→Shared→Prop} (b:Bs K Z9) (g:GS w Z9 os F σ s) (hf:f < attrs.length) (hy:er y=ey) (q:wX (er x) f ρ σ k ey) (h:∀ s' σ',GS w Z9 os F σ' s'→k .next ρ σ'→Q () s') :
  wpAny (model PP w) A (setAttr y (bH f) x) Q E' s:=by
 cases q with
 |g_fasg e hm hp hf' z=>subst hf';exact eR hy (Wv b g e hf hm hp fun s' g'=>h s' _ g' z)
theorem Ph (o:E) (f:Nat) (e:E):pF K w Z9 os n (.fasg o f e):=by
 refine⟨?_,cG rfl⟩
 intro R A l Z8 sc ns env L E' ρ σ s x k hc c g h
 obtain⟨m,g,lo⟩:=g
 refine Lh hc ?_
 intro ob p v p2 h1 h2 h3 h4
 refine plainObj_wpAny_Assign_Attribute (wpAny_mono (c.one (ok _) h3 lo g h) (fun v s' zz=>?_) fun _ _ e=>e) (uF h2)
 obtain⟨σ',g',q⟩:=zz
 refine wpAny_mono (c.one (ok _) h4 lo g' q) (fun Z0 Z5 zz=>?_) fun _ _ e=>e
 obtain⟨Z4,Z6,q⟩:=zz
 exact We c.bs Z6 h1 rfl q fun s' σ' g' h=>⟨.next,ρ,σ',trivial,⟨m,g',lo⟩,h⟩
theorem O5 {q:Int→Option Value} {f:Int→Option Value} {j:Int} {v:Value} (h:∀ k,(q k).map er=f k) (k:Int):((fun x=>if x=j then some v else q x) k).map er=(fun x=>if x=j then some (er v) else f x) k:=by
 dsimp only
 split
 ·rfl
 ·exact h k
theorem Ck (f:Array DictEntry→Array DictEntry) (o:Obj):(Obj.mapDict f o).dict=o.dict∧(Obj.mapDict f o).slots=o.slots:=by
 obtain⟨c,d,dt,sl⟩:=o;cases dt<;>exact⟨rfl,rfl⟩
theorem xR (f:Array DictEntry→Array DictEntry) (o:Obj):(Obj.mapDictKeys f o).dict=o.dict∧(Obj.mapDictKeys f o).slots=o.slots:=by
 obtain⟨c,d,dt,sl⟩:=o;cases dt<;>exact⟨rfl,rfl⟩
theorem G6 {d:Addr} {f:Int→Option Value} {k:Int} {t:Tok} {v:Value} {Q:Unit→Shared→Prop} {n:Nat} (hm:s.heap.IntMap d f) (hz:s.heap.DictLe d n) (hn:n≤sizeLine) (hx:∀ o,s.heap.get? d=some o→o.dict=none∧o.slots=#[])
  (hQ:∀ h',h'.IntMap d (fun x=>if x=k then some v else f x)→h'.DictLe d (n+1)→Heap.SameBut d s.heap h'→(∀ o,h'.get? d=some o→o.dict=none∧o.slots=#[])→Q () { s with heap:=h',toks:=s.toks+1 }) :
  wpAny (model PP w) A (dictSet d (.int k t) v) Q E' s:=by
 have both:=hm
 refine bY (fun o es ep ho hc hd hk hf=>?_) hm
 have hes:es.size≤n:=hz _ _ _ ho hd
 obtain⟨x1,x2⟩:=hx o ho
 unfold dictSet
 refine wpAny_holding (wpAny_bind (wpAny_pyHash_int ?_))
 unfold dictSetHashed
 refine wpAny_holding (wpAny_bind (wpAny_dictFind_int (s:={ s with toks:=s.toks+1 }) ho hd hk ?_))
 cases hi:es.findIdx? fun e=>Value.isInt k e.key with
 |some i =>
  have up:(s.heap.update d (Obj.mapDict fun es=>es.modify i fun e=>{ e with val:=v })).get? d=some (Obj.mapDict (fun es=>es.modify i fun e=>{ e with val:=v }) o):=Heap.get?_update_self _ ho (Obj.isFreed_of_dict (Obj.data_mapDict hd _))
  refine wpAny_bind (wpAny_rule (wpAny_bind (wpAny_updateDict (s:={ s with toks:=s.toks+1 }) ho hd (wpAny_point (hQ _ ⟨_,_,ep,up,(Obj.cls_mapDict ..).trans hc,Obj.data_mapDict hd _,hk.modify _ _,fun x=>?_⟩ (fun o' es' ep' ho' hd'=>?_) (Heap.SameBut.update ..) fun o' ho'=>?_)))))
  ·rw[findBy_modify Value.isInt Value.isInt_inj es k x v i hi,hf]
  ·rw[up] at ho'
   cases ho'
   rw[Obj.data_mapDict hd _] at hd'
   cases hd'
   simp only[Array.size_modify];lia
  ·rw[up] at ho'
   cases ho'
   exact⟨(Ck _ o).1.trans x1,(Ck _ o).2.trans x2⟩
 |none =>
  have up:(s.heap.update d (Obj.mapDictKeys fun es=>es.push ⟨hashInt k,.int k t,v⟩)).get? d=some (Obj.mapDictKeys (fun es=>es.push ⟨hashInt k,.int k t,v⟩) o):=Heap.get?_update_self _ ho (Obj.isFreed_of_dict (Obj.data_mapDictKeys hd _))
  refine wpAny_bind (wpAny_rule (wpAny_updateDictKeys (hz:=Nat.le_trans hes hn) (s:={ s with toks:=s.toks+1 }) ho hd (hQ _ ⟨_,_,ep+1,up,
   (Obj.cls_mapDictKeys ..).trans hc,Obj.data_mapDictKeys hd _,hk.push _ _ _,fun x=>?_⟩ (fun o' es' ep' ho' hd'=>?_) (Heap.SameBut.update ..) fun o' ho'=>?_)))
  ·rw[findBy_push Value.isInt es k x _ _ v (fun y=>by
    simp only[Value.isInt]
    by_cases h:y=k
    ·subst h;simp
    ·have:¬ k=y:=fun e=>h e.symm
     simp[h,this]) hi,hf]
  ·rw[up] at ho'
   cases ho'
   rw[Obj.data_mapDictKeys hd _] at hd'
   cases hd'
   simp only[Array.size_push];lia
  ·rw[up] at ho'
   cases ho'
   exact⟨(xR _ o).1.trans x1,(xR _ o).2.trans x2⟩
theorem Bw {d:Addr} {f:Int→Option Value} {k:Int} {t:Tok} {v:Value} {Q:Unit→Shared→Prop} {n:Nat} (hm:s.heap.IntMap d f) (hz:s.heap.DictLe d n) (hn:n≤sizeLine) (hx:∀ o,s.heap.get? d=some o→o.dict=none∧o.slots=#[])
  (hQ:∀ h',h'.IntMap d (fun x=>if x=k then some v else f x)→h'.DictLe d (n+1)→Heap.SameBut d s.heap h'→(∀ o,h'.get? d=some o→o.dict=none∧o.slots=#[])→Q () { s with heap:=h',toks:=s.toks+1 }) :
  wpAny (model PP w) A (setItem (.ref d) (.int k t) v) Q E' s:=by
 unfold setItem
 refine wpAny_holding (wpAny_bind (wpAny_sequenceKey hm.typeIs (by decide) ?_))
 refine wpAny_bind (wpAny_callSpecial?_slot (name:=Str.ofString "__setitem__") hm.typeIs slot_dict_setitem
  (wpAny_call_entry slot_dict_setitem hm.typeIs entry_dict_setitem ?_ (args_dict_setitem _ _ _)))
 show wpAny _ _ (Builtin.Dict.notOrdered "__setitem__" ⟨[.ref d,.int k t,v],[]⟩ >>= _) _ _ s
 refine wpAny_bind (wpAny_notOrdered_dict hm.typeIs ?_)
 show wpAny _ _ (dictSet d (.int k t) v >>= _) _ _ s
 exact wpAny_bind (G6 hm hz hn hx fun h' a b c e=>wpAny_pure ⟨.none,rfl,wpAny_pure (hQ h' a b c e)⟩)
theorem zbx {a:Addr} {xs:List Value} {j:Int} {t:Tok} {v:Value} {Q:Unit→Shared→Prop} (g:GS w Z9 os F σ s) (e:σ a=some (.list xs)) (c:0≤j∧j.toNat < xs.length) (h:∀ s',GS w Z9 os F (σ.put a (.list (xs.set j.toNat (er v)))) s'→Q () s') :
  wpAny (model PP w) A (setItem (.ref a) (.int j t) v) Q E' s:=by
 refine aC (fun us n z1 tt z=>?_) (g.lstC e);subst z1
 rw[List.length_map] at c
 have:=v8 z
 refine ki_setAt (n:=n) tt c.1 (by simp only[List.size_toArray] at this;lia) (by have:=c.1;have:=c.2;rw[List.size_toArray];lia) (h _ ?_)
 rw[← List.map_set]
 exact g.upd (t:=s.toks) e tt (ys:=us.set j.toNat v) (by simp) (by rw[List.length_set];exact z)
theorem zcs {a:Addr} {n:Nat} {f:Int→Option Value} {j:Int} {t:Tok} {v:Value} {Q:Unit→Shared→Prop} (g:GS w Z9 os F σ s) (e:σ a=some (.dict n f)) (c:n < big) (h:∀ s',GS w Z9 os F (σ.put a (.dict (n+1) fun q=>if q=j then some (er v) else f q)) s'→Q () s') :
  wpAny (model PP w) A (setItem (.ref a) (.int j t) v) Q E' s:=by
 refine jV (fun q0 k1 k2 k3 k4 k5=>?_) (g.dct e)
 refine Bw k1 k3 (Nat.le_trans k4 oZ) k5 fun h' d1 d2 d3 d4=>h _ (g.heap (g.sr.cell (c':=.dict (n+1) fun q=>if q=j then some (er v) else f q) e d3 (fun role _ _=>⟨_,d1,O5 k2,d2,c,d4⟩) ?_))
 refine iH (fun o _ _ ho _=>?_) d1;exact⟨o,ho⟩
theorem Tt {x y z ey ez:Value} {k:Fl→Loc→Hp→Prop} {Q:Unit→Shared→Prop} (g:GS w Z9 os F σ s) (hy:er y=ey) (hz:er z=ez) (q:xH (er x) ρ σ k ey ez) (h:∀ s' σ',GS w Z9 os F σ' s'→k .next ρ σ'→Q () s') :
  wpAny (model PP w) A (setItem y z x) Q E' s:=by
 cases q with
 |g_iasg_l e c q=>exact eR hy (eI hz fun t=>zbx g e c fun s' g'=>h s' _ g' q)
 |g_iasg_d e c q=>exact eR hy (eI hz fun t=>zcs g e c fun s' g'=>h s' _ g' q)
theorem Mr (o i e:E):pF K w Z9 os n (.iasg o i e):=by
 refine⟨?_,cG rfl⟩
 intro R A l Z8 sc ns env L E' ρ σ s x k hc c g h
 obtain⟨m,g,lo⟩:=g
 refine Lf hc ?_
 intro ob ix p v p2 h1 h2 h3 h4 h5
 refine wpAny_Assign_Subscript (wpAny_mono (c.one (ok _) h3 lo g h) (fun v s' zz=>?_) fun _ _ e=>e) (uF h2)
 obtain⟨σ',g',q⟩:=zz
 refine wpAny_mono (c.one (ok _) h4 lo g' q) (fun Z0 Z5 zz=>?_) fun _ _ e=>e
 obtain⟨Z4,Z6,q⟩:=zz
 refine wpAny_mono (c.one (ok _) h5 lo Z6 q) (fun ZQ Z1 zz=>?_) fun _ _ e=>e
 obtain⟨σ₃,Z3,z⟩:=zz
 exact Tt Z3 rfl rfl z fun s' σ' g' h=>⟨.next,ρ,σ',trivial,⟨m,g',lo⟩,h⟩
@[elab_as_elim] theorem sE {i:Nat} {is:List Nat} {ts:List Expr} {C:List Expr→Prop} (h:namesOk sc ns (i::is) ts=true) (k:∀ x p r,dz sc ns i x=true→namesOk sc ns is r=true→C (.Name x p::r)):C ts :=
 aZ h fun t r h=>b2 h fun h1 h2=>cg h1 fun x p h1=>k x p r h1 h2
theorem fL:∀ {is:List Nat} {ts:List Expr},namesOk sc ns is ts=true→(assignEach ts env).length=is.length∧(assignEach ts env).findIdx? (·.1)=none
 |[],_,h=>aK h ⟨rfl,rfl⟩
 |_::_,_,h=>sE h fun x p r h1 h2=>⟨congrArg (·+1) (fL h2).1,by
   show List.findIdx? _ ((false,_)::assignEach _ env)=none
   rw[List.findIdx?_cons,(fL h2).2];rfl⟩
theorem vQ {is:List Nat}:∀ {ts:List Expr} {vs:List Value} {ρ ρ':Loc} {s:Shared} {Q:Unit→Shared→Prop},namesOk sc ns is ts=true→EnvOk sc env L→Dyn w Z9 os Z8 L ns ρ σ s→cA ρ is (vs.map er)=some ρ' →
  (∀ s',Dyn w Z9 os Z8 L ns ρ' σ s'→Q () s')→wpAny (model PP w) A (assignInOrder ((assignEach ts env).map (·.2)) vs) Q E' s:=by
 induction is with
 |nil =>
  intro ts vs ρ ρ' s Q hn eo d hs h
  refine aK hn ?_
  cases vs with
  |nil=>cases hs;exact assignInOrder_nil (h s d)
  |cons v vs=>exact gG hs
 |cons i is ih =>
  intro ts vs ρ ρ' s Q hn eo d hs h
  refine sE hn fun x p r h1 h2=>?_
  cases vs with
  |nil=>exact gG hs
  |cons v vs =>
   obtain⟨m,g,lo⟩:=d
   exact assignInOrder_cons (PyProof.Rows.assign_Name (pY h1 eo g lo fun s' d'=>ih h2 eo d' hs h))
theorem qW:∀ {is:List Nat} {ts:List Expr},namesOk sc ns is ts=true→(namesOf ts).length=is.length∧∀ (j i:Nat) (x:Str),is[j]?=some i→(namesOf ts)[j]?=some x→dz sc ns i x=true
 |[],_,h=>aK h ⟨rfl,fun _ _ _ h=>gG h⟩
 |_::_,_,h=>sE h fun x p r h1 h2=>⟨congrArg (·+1) (qW h2).1,fun j i' y e1 e2=>by
   cases j with
   |zero=>cases e1;cases e2;exact h1
   |succ j=>exact(qW h2).2 j i' y e1 e2⟩
theorem xj:∀ {ρ:Loc} {i j:Nat} {v u:Value},i≠j→dW (dW ρ i v) j u=dW (dW ρ j u) i v
 |[],_,_,_,_,_=>rfl
 |x::r,0,0,_,_,h=>absurd rfl h
 |x::r,0,j+1,_,_,_=>rfl
 |x::r,i+1,0,_,_,_=>rfl
 |x::r,i+1,j+1,v,u,h=>by
  show x::dW (dW r i v) j u=x::dW (dW r j u) i v
  rw[xj fun e=>h (by rw[e])]
theorem nA {is:List Nat}:∀ {vs:List Value} {ρ ρ':Loc},cA ρ is vs=some ρ'→is.length=vs.length:=by
 induction is with
 |nil=>intro vs ρ ρ' h;cases vs with
  |nil=>rfl
  |cons=>exact gG h
 |cons i is ih=>intro vs ρ ρ' h;cases vs with
  |nil=>exact gG h
  |cons v vs=>exact congrArg (·+1) (ih h)
theorem CZ {is:List Nat} {i:Nat} {v:Value}:∀ {vs:List Value} {ρ:Loc},i∉is→cA (dW ρ i v) is vs=(cA ρ is vs).map fun r=>dW r i v:=by
 induction is with
 |nil=>intro vs ρ h;cases vs<;>rfl
 |cons j is ih=>intro vs ρ h;cases vs with
  |nil=>rfl
  |cons u vs =>
   show cA (dW (dW ρ i v) j u) is vs=(cA (dW ρ j u) is vs).map _
   rw[xj (fun e=>h (by rw[e];exact List.mem_cons_self)),ih fun q=>h (List.mem_cons_of_mem _ q)]
theorem KZ {is js:List Nat} {us:List Value}:∀ {vs:List Value} {ρ:Loc},is.length=vs.length→cA ρ (is++js) (vs++us)=(cA ρ is vs).bind fun r=>cA r js us:=by
 induction is with
 |nil=>intro vs ρ h;cases vs with
  |nil=>rfl
  |cons=>cases h
 |cons i is ih=>intro vs ρ h;cases vs with
  |nil=>cases h
  |cons v vs=>exact ih (Nat.succ.inj h)
theorem Jl {is:List Nat}:∀ {vs:List Value} {ρ:Loc},is.Nodup→is.length=vs.length→cA ρ is.reverse vs.reverse=cA ρ is vs:=by
 induction is with
 |nil=>intro vs ρ h hl;cases vs with
  |nil=>rfl
  |cons=>cases hl
 |cons i is ih=>intro vs ρ h hl;cases vs with
  |nil=>cases hl
  |cons v vs =>
   have h:=List.nodup_cons.mp h
   have hl:=Nat.succ.inj hl
   rw[List.reverse_cons,List.reverse_cons,KZ (by simp[hl]),ih h.2 hl]
   show _=cA (dW ρ i v) is vs
   rw[CZ h.1]
   cases cA ρ is vs<;>rfl
theorem zm:∀ {is:List Nat},mX is=true→is.Nodup
 |[],_=>List.nodup_nil
 |i::is,h=>by
  obtain⟨h1,h2⟩:=Bool.and_eq_true_iff.mp h
  refine List.nodup_cons.mpr ⟨fun q=>?_,zm h2⟩
  rw[Bool.not_eq_true',List.any_eq_false] at h1
  exact h1 i q (Nat.beq_refl i)
theorem Fp {is:List Nat}:∀ {xs:List Str} {vs:List Value} {ρ ρ':Loc} {s:Shared} {Q:Unit→Shared→Prop},xs.length=is.length→(∀ (j i:Nat) (x:Str),is[j]?=some i→xs[j]?=some x→dz sc ns i x=true)→EnvOk sc env L→Dyn w Z9 os Z8 L ns ρ σ s→cA ρ is (vs.map er)=some ρ' →
  (∀ s',Dyn w Z9 os Z8 L ns ρ' σ s'→Q () s')→wpAny (model PP w) A (assignInOrder (xs.map fun n=>bindName env n) vs) Q E' s:=by
 induction is with
 |nil =>
  intro xs vs ρ ρ' s Q hl hn eo d hs h
  cases List.length_eq_zero_iff.mp hl
  cases vs with
  |nil=>cases hs;exact assignInOrder_nil (h s d)
  |cons=>exact gG hs
 |cons i is ih =>
  intro xs vs ρ ρ' s Q hl hn eo d hs h
  cases xs with
  |nil=>cases hl
  |cons x xs=>cases vs with
   |nil=>exact gG hs
   |cons v vs =>
    obtain⟨m,g,lo⟩:=d
    exact assignInOrder_cons (bindName_ (pY (hn 0 i x rfl rfl) eo g lo fun s' d'=>ih (Nat.succ.inj hl) (fun j i' y e1 e2=>hn (j+1) i' y e1 e2) eo d' hs h))
theorem Ig {α:Type} {c:Prop} [Decidable c] {a r:α} {X:Sem α} {Y:Option α} (h:(if c then some a else Y)=some r) (k:Y=some r→X=pure r):(if c then pure a else X)=pure r:=by
 by_cases q:c
 ·rw[if_pos q] at h ⊢;cases h;rfl
 ·rw[if_neg q] at h ⊢;exact k h
theorem zeH {α:Type} {c:Prop} [Decidable c] {r:α} {X Z:Sem α} {Y:Option α} (h:(if c then none else Y)=some r) (k:Y=some r→X=pure r):(if c then Z else X)=pure r:=by
 by_cases q:c
 ·exact gG ((if_pos q).symm.trans h)
 ·rw[if_neg q] at h ⊢;exact k h
theorem sw_eq {ts vs:List Expr} {k1 k2:Nat} {p1 p2:Pos} {r:Option (List Str)} (eo:EnvOk sc env L) (h:Xl sc ts vs=some r) :
  swappedStores [.Tuple ts k1 p1] (.Tuple vs k2 p2) env=pure r:=by
 have hb:(env.blockKind != .function)=false:=by unfold Env.blockKind;rw[eo.kind];rfl
 have hk:env.kindOf=fun id=>sc.lookup id:=funext fun id=>congrArg (List.lookup id) eo.names
 unfold swappedStores
 rw[hb,hk]
 exact Ig h fun h=>Ig h fun h=>Ig h fun h=>Ig h fun h=>zeH h fun h=>congrArg pure (Option.some.inj h)
theorem zgf {ts vs:List Expr} {k1 k2:Nat} {p1 p2:Pos} (eo:EnvOk sc env L) (h:Uu sc ts vs=true) :
  swappedStores [.Tuple ts k1 p1] (.Tuple vs k2 p2) env=pure none∨swappedStores [.Tuple ts k1 p1] (.Tuple vs k2 p2) env=pure (some (namesOf ts)):=by
 unfold Uu at h
 split at h
 ·rename_i q;exact .inl (sw_eq eo q)
 ·rename_i names q;rw[← eq_of_beq h];exact .inr (sw_eq eo q)
 ·cases h
theorem Cu {h h':Heap} (e:Heap.ExtBut h.objs.size h h'):h.StaysIn h':=fun b o q=>e b o (Nat.ne_of_lt (Heap.lt_size q)) q
theorem Dyn.keeps {h':Heap} {t:Nat} (d:Dyn w Z9 os Z8 L ns ρ σ s) (k:s.heap.StaysIn h'):Dyn w Z9 os Z8 L ns ρ σ { s with heap:=h',toks:=t }:=by
 obtain⟨m,g,lo⟩:=d
 exact⟨m,g.keeps k,lo⟩
theorem Fd {ts:List Expr} {v:Expr} {k:Nat} {p:Pos} {line:Nat} (h:di v=true):swapsWithSole [.Tuple ts k p] v line env=pure false:=by
 show swapsWith v (some (.Tuple ts k p)) line env=pure false
 exact uF h
theorem zbo {ts:List Expr} {v:Expr} {k:Nat} {p:Pos} (h:Gk v=true):swappedStores [.Tuple ts k p] v env=pure none:=by
 cases v<;>first|rfl|exact Bool.noConfusion (show false=true from h)
theorem Gz {is:List Nat} {ts:List Expr} {kk:_} {p:Pos} {a:Addr} {xs:List Value} {ρ':Loc} {Q:Unit→Shared→Prop} (hh:A.handled=none) (eo:EnvOk sc env L) (d:Dyn w Z9 os Z8 L ns ρ σ s) (h1:namesOk sc ns is ts=true) (ht:IsTup s.heap a (List.toArray xs)) (hs:cA ρ is (xs.map er)=some ρ')
  (h:∀ s',Dyn w Z9 os Z8 L ns ρ' σ s'→Q () s'):wpAny (model PP w) A (assign (.Tuple ts kk p) env (.ref a)) Q E' s:=by
 have hlen:=nA hs
 rw[List.length_map] at hlen
 exact assign_Tuple_tuple hh ht (by rw[(fL h1).1,hlen];rfl) (fL h1).2 fun h' he=>vQ h1 eo (d.keeps (Cu he)) hs h
inductive zf4 (w:World) (Z9:Heap) (os:OsState) (Z8:Fm) (L:Addr) (ns:List Str) (ρ:Loc) (is:List Nat) (k:Fl→Loc→Hp→Prop) (v:Value) (Z7:Shared):Prop
 |mk (xs:List Value) (a:Addr) (ρ':Loc) (σ':Hp) (hv:v=.ref a) (ht:IsTup Z7.heap a (List.toArray xs)) (hs:cA ρ is (xs.map er)=some ρ') (d:Dyn w Z9 os Z8 L ns ρ σ' Z7) (q:k .next ρ' σ'):zf4 w Z9 os Z8 L ns ρ is k v Z7
theorem Qc (is:List Nat) (es:E):pF K w Z9 os n (.unpT is es):=by
 refine⟨?_,cG rfl⟩
 intro R A l Z8 sc ns env L E' ρ σ s x k hc c g h
 obtain⟨m,g,lo⟩:=g
 refine Lg hc ?_
 intro ts k1 p1 vs k2 p2 p3 h1 h2 h3 h4 h5
 obtain⟨nl1,nl2⟩:=fL (env:=env) h1
 obtain⟨no1,no2⟩:=qW h1
 have ev1:wpAny (model PP w) A (eval (.Tuple vs k2 p2) env) (zf4 w Z9 os Z8 L ns ρ is k) E' s:=by
  refine wpAny_Tuple (wpAny_mono ((ok es).m p2 vs _ h5 (c.cx lo) g h) (fun xs s' zz=>?_) (c.err m))
  obtain⟨hl,σ',g',q⟩:=zz
  exact yh (o:=cA ρ is (xs.map er)) (k:=fun ρ=>k .next ρ σ') (P:=False) (by unfold BP at q;revert q;cases cA ρ is (xs.map er)<;>exact id) (fun ρ' hs q=>by
   have hlen:=nA hs
   rw[List.length_map] at hlen
   exact⟨by rw[sizeLine_eq,← hlen];lia,xs,_,_,σ',rfl,⟨_,Heap.get?_push_size _ rfl,rfl,_,rfl⟩,hs,⟨m,g'.keeps (fun b o q=>Heap.get?_push_of_some _ q),lo⟩,q⟩) False.elim
 rcases zgf (k1:=k1) (k2:=k2) (p1:=p1) (p2:=p2) c.eo h4 with hw|hw
 ·refine PyProof.Rows.Assign_Tuple (wpAny_mono ev1 (fun v Z7 zz=>?_) fun _ _ e=>e) (Fd rfl) hw
  obtain⟨xs,a,ρ',σ',rfl,ht,hs,d,q⟩:=zz
  exact Gz c.room.handled c.eo d h1 ht hs fun s' d'=>⟨.next,ρ',σ',trivial,d',q⟩
 ·refine Assign_Tuple_swapped (wpAny_mono ev1 (fun v Z7 zz=>?_) fun _ _ e=>e) (Fd rfl) hw
  obtain⟨xs,a,ρ',σ',rfl,ht,hs,d,q⟩:=zz
  have hlen:=nA hs
  rw[List.length_map] at hlen
  rw[show (namesOf ts).length=(List.toArray xs).size by rw[no1,hlen];simp]
  refine unpackItems_tuple c.room.handled ht (fun h' he=>?_)
  have hs':cA ρ is.reverse ((xs.reverse).map er)=some ρ':=by rw[List.map_reverse,Jl (zm h2) (by rw[List.length_map];exact hlen)];exact hs
  refine Fp (is:=is.reverse) (xs:=(namesOf ts).reverse) (by simp[no1]) (fun j i y e1 e2=>?_) c.eo (d.keeps (Cu he)) hs' fun s' d'=>⟨.next,ρ',σ',trivial,d',q⟩
  have hj:j < is.length:=by
   have:=(List.getElem?_eq_some_iff.mp e1).1;simpa using this
  rw[List.getElem?_reverse hj] at e1
  rw[List.getElem?_reverse (by rw[no1];exact hj),no1] at e2
  exact no2 _ i y e1 e2
theorem zZ {I:Addr} {x:Str} {t:Tok}:∀ (k i:Nat) (s:Shared) (Q:List Value→Shared→Prop),s.heap.IsStrIter I "str_ascii_iterator" x t i→i+k≤x.cps.size →
  (∀ h' tk vs,h'.IsStrIter I "str_ascii_iterator" x t (i+k)→Heap.SameBut I s.heap h'→vs.map er=((chars x).drop i).take k→Q vs { s with heap:=h',toks:=tk })→wpAny (model PP w) A (draw (.ref I) k) Q E' s
 |0,i,s,Q,hi,_,h=>wpAny_pure (h s.heap s.toks [] (by simpa using hi) (.refl ..) (by simp))
 |k+1,i,s,Q,hi,hz,h=>by
  have hlt:i < x.cps.size:=by lia
  show wpAny _ _ (pyNext (.ref I) >>= _) _ _ s
  refine wpAny_bind (wpAny_pyNext_ascii_item hi (c:=x.cps[i]) (by simp[hlt]) fun h' hit hs=>?_)
  dsimp only
  refine wpAny_bind (wpAny_holding (zZ k (i+1) _ _ hit (by lia) fun h'' tk vs k1 k2 k3=>?_))
  refine wpAny_pure (h h'' tk _ (by rw[show i+(k+1)=i+1+k by lia];exact k1) (hs.trans k2) ?_)
  have:(chars x).drop i=Internal.vs ⟨#[x.cps[i]]⟩::(chars x).drop (i+1):=by
   rw[List.drop_eq_getElem_cons (by unfold chars;simp[hlt])]
   congr 1
   unfold chars
   simp
  rw[this,List.take_succ_cons,List.map_cons,k3]
  rfl
theorem tO {x:Str} {t:Tok} {Q:List Value→Shared→Prop} (hh:A.handled=none) (ha:x.cps.all (· < 128)=true)
  (hQ:∀ h' tk vs,s.heap.StaysIn h'→vs.map er=chars x→Q vs { s with heap:=h',toks:=tk }):wpAny (model PP w) A (unpackItems (.str x t) x.length none) Q E' s:=by
 unfold unpackItems
 refine wpAny_bind ?_
 ·unfold notIterableAtAll
  refine wpAny_bind (wpAny_specialOf (typeIs_str s x t) PySem.F.slot_str_iter.lookup ?_)
  refine wpAny_pure ?_
  simp only[Bool.false_eq_true,if_false]
  refine wpAny_bind (wpAny_holding (wpAny_pyIter_ascii ha ?_))
  refine wpAny_bind (wpAny_holding (zZ x.length 0 _ _ ⟨_,Heap.get?_push_size _ rfl,rfl,rfl⟩ (by simp[Str.length]) fun ZX tk vs hit hs hv=>?_))
  have hl:(chars x).length=x.length:=by unfold chars;simp[Str.length]
  rw[List.drop_zero,List.take_of_length_le (by lia)] at hv
  have hl2:vs.length=x.length:=by rw[← hl,← hv,List.length_map]
  rw[if_neg (by lia)]
  refine wpAny_bind (wpAny_holding (wpAny_pyNext_ascii_end hh hit (by simp[Str.length]) fun ZR he=>?_))
  simp only[Option.isSome_none,Bool.false_eq_true,if_false]
  refine wpAny_pure (hQ ZR tk vs (fun b o hb=>?_) hv)
  have hne:b≠s.heap.objs.size:=Nat.ne_of_lt (Heap.lt_size hb)
  exact he b o hne ((hs.2 b hne).trans (Heap.get?_push_of_some _ hb))
end
section
variable {K:Frag} {w:World} {Z9:Heap} {os:OsState} {n:Nat} {R:Value→Hp→Prop} {A:Around} {l:List Env} {F Z8:Fm} {sc:List (Str × NameKind)} {ns:List Str} {ρ:Loc} {env:Env} {L:Addr} {σ:Hp} {s:Shared} {E':Value→Shared→Prop}
theorem zdu {is:List Nat} {ts:List Expr} {kk:_} {p:Pos} {x:Str} {t:Tok} {ρ':Loc} {Q:Unit→Shared→Prop} (hh:A.handled=none) (eo:EnvOk sc env L) (d:Dyn w Z9 os Z8 L ns ρ σ s) (h1:namesOk sc ns is ts=true) (ha:x.cps.all (· < 128)=true) (hs:cA ρ is (chars x)=some ρ')
  (h:∀ s',Dyn w Z9 os Z8 L ns ρ' σ s'→Q () s'):wpAny (model PP w) A (assign (.Tuple ts kk p) env (.str x t)) Q E' s:=by
 have hlen:=nA hs
 have hcl:(chars x).length=x.length:=by unfold chars;simp[Str.length]
 rw[assign_Tuple]
 refine wpAny_bind (wpAny_standAt ?_)
 unfold unpack
 rw[(fL h1).1,(fL h1).2,hlen,hcl]
 exact wpAny_bind (wpAny_holding (tO hh ha fun h' tk vs hk hv=>vQ h1 eo (d.keeps hk) (by rw[hv];exact hs) h))
theorem zaV {is:List Nat} {ts:List Expr} {kk:_} {p:Pos} {v ev:Value} {k:Fl→Loc→Hp→Prop} {Q:Unit→Shared→Prop} {m:_} (hh:A.handled=none) (eo:EnvOk sc env L) (g:GS w Z9 os (Z8.put L (.ns m)) σ s) (d:Dyn w Z9 os Z8 L ns ρ σ s) (h1:namesOk sc ns is ts=true) (hv:er v=ev) (q:Gl is ρ σ k ev)
  (h:∀ s' ρ',Dyn w Z9 os Z8 L ns ρ' σ s'→k .next ρ' σ→Q () s'):wpAny (model PP w) A (assign (.Tuple ts kk p) env v) Q E' s:=by
 cases q with
 |g_unp_t e es q =>
  refine aC (fun xs n z0 t z=>?_) (g.tpC e);subst z0
  exact eR hv (Gz hh eo d h1 ⟨_,t,rfl,_,rfl⟩ es fun s' d'=>h s' _ d' q)
 |g_unp_s hc es q=>exact eS hv fun t=>zdu hh eo d h1 hc es fun s' d'=>h s' _ d' q
theorem VL (is:List Nat) (e:E):pF K w Z9 os n (.unp is e):=by
 refine⟨?_,cG rfl⟩
 intro R A l Z8 sc ns env L E' ρ σ s x k hc c g h
 obtain⟨m,g,lo⟩:=g
 refine NK hc ?_
 intro ts k1 p1 v p3 h1 h2 h3 h4 h5
 refine PyProof.Rows.Assign_Tuple (wpAny_mono (c.one (ok _) h5 lo g h) (fun v s' zz=>?_) fun _ _ e=>e) (Fd h4) (zbo h3)
 obtain⟨σ',g',q⟩:=zz
 exact zaV c.room.handled c.eo g' ⟨m,g',lo⟩ h1 rfl q fun s' ρ' d' q=>⟨.next,ρ',σ',trivial,d',q⟩
theorem SR.drop {I:Addr} {p:Pin} {h h':Heap} (x:SR Z9 F σ h) (hI:F I=some p) (e:Heap.ExtBut I h h'):SR Z9 (fun b=>if b=I then none else F b) σ h':=by
 obtain⟨b,role,r1,r2,r3⟩:=x
 have rI:=(r3 I p hI).1
 have bI:=(r1 I _ rI).1
 refine⟨fun a o q=>e a o (fun z=>by rw[z,bI] at q;cases q) (b a o q),fun d=>if d=I then none else role d,fun a r q=>?_,fun a c q=>?_,fun L' m q=>?_⟩
 ·by_cases z:a=I
  ·exact gG ((if_pos z).symm.trans q)
  ·refine w6 (fun p1 o p2=>?_) (r1 a r ((if_neg z).symm.trans q))
   exact⟨p1,o,e a o z p2⟩
 ·obtain⟨p1,p2⟩:=r2 a c q
  have z:a≠I:=fun z=>by rw[z,rI] at p1;cases p1
  refine⟨(if_neg z).trans p1,p2.move (e a · z) fun dx h=>?_⟩
  have zd:dx≠I:=fun z=>by rw[z,rI] at h;cases h
  exact⟨(if_neg zd).trans h,(e dx · zd)⟩
 ·by_cases z:L'=I
  ·exact gG ((if_pos z).symm.trans q)
  ·obtain⟨p1,p2⟩:=r3 L' m ((if_neg z).symm.trans q)
   obtain⟨o,ho⟩:=p2.there
   exact⟨(if_neg z).trans p1,p2.same ((e _ _ z ho).trans ho.symm)⟩
theorem ju {I:Addr} {p:Pin} {m:Pin} (h:I≠L):(Z8.put I p).put L m=(Z8.put L m).put I p:=by
 funext b
 unfold Fm.put
 by_cases e:b=L
 ·subst e;simp[Ne.symm h]
 ·simp[e]
theorem Err.less {F F':Fm} {e:Value} (h:Err w Z9 os F l R e s) (k:∀ b p,F' b=some p→F b=some p):Err w Z9 os F' l R e s:=by
 obtain⟨h1,h2,a,sym,σ',rfl,⟨B,a0,f1,f2,f3,oa,dx,mA,v,e1,e2,e3,e4,e5,e6⟩,h4⟩:=h
 refine⟨h1,h2,a,sym,σ',rfl,⟨B,a0,f1,f2.lessFrames fun L p q=>?_,fun L m q=>f3 L m (k _ _ q),oa,dx,mA,v,e1,e2,e3,e4,e5,e6⟩,h4⟩
 unfold lw at q ⊢
 split at q
 ·rename_i P e
  rw[k _ _ e]
  exact q
 ·cases q
theorem Made.less {F F':Fm} {e:Value} (h:Made w Z9 os F l R e s) (k:∀ b p,F' b=some p→F b=some p):Made w Z9 os F' l R e s:=by
 revert h;refine iJ fun h1 h2 z3=>jc (fun a sym σ' z4=>cM (fun hh z1 f1 f2=>?_) z4) z3;subst z1
 exact⟨h1,h2,a,sym,σ',hh,rfl,f1.lessFrames k,f2⟩
theorem Fg {F:Fm} {I:Addr} {P:Obj→Prop} (h:cB F l) (hI:F I=none):cB (F.put I (.it P)) l:=by
 intro env he
 refine qz (fun h1 L m h2 h3=>?_) (h env he)
 refine⟨h1,L,m,h2,?_⟩
 unfold Fm.put
 rw[if_neg]
 ·exact h3
 ·intro e;rw[e,hI] at h3;cases h3
theorem Sx.pin {I:Addr} {P:Obj→Prop} (c:Sx K w Z9 os n R A l Z8 sc env L E') (hI:Z8 I=none) (hL:I≠L):Sx K w Z9 os n R A l (Z8.put I (.it P)) sc env L E':=by
 have less:∀ m b p,(Z8.put L (.ns m)) b=some p→((Z8.put I (.it P)).put L (.ns m)) b=some p:=fun m b p q=>by
  unfold Fm.put at q ⊢
  by_cases e:b=L
  ·rw[if_pos e] at q ⊢;exact q
  ·rw[if_neg e] at q ⊢
   by_cases e2:b=I
   ·rw[e2,hI] at q;cases q
   ·rw[if_neg e2];exact q
 refine⟨c.bs,c.room,c.eo,fun m=>?_,c.own,fun m e s h=>c.err m e s (h.less (less m)),fun m e s h=>c.made m e s (h.less (less m)),c.top⟩
 rw[ju hL]
 exact Fg (c.frames m) (by unfold Fm.put;rw[if_neg hL];exact hI)
theorem Dyn.pin {I:Addr} {p:Pin} {h':Heap} {t:Nat} (d:Dyn w Z9 os Z8 L ns ρ σ s) (ha:s.heap.get? I=none) (k:s.heap.StaysIn h') (ho:PinOk h' I p) :
  Dyn w Z9 os (Z8.put I p) L ns ρ σ { s with heap:=h',toks:=t }∧Z8 I=none∧I≠L:=by
 obtain⟨m,g,lo⟩:=d
 refine iJ (fun x e1 e2=>?_) (g.sr.newFrame ha k ho)
 have hL:I≠L:=fun e=>by
  unfold Fm.put at e1
  rw[if_pos e] at e1;cases e1
 refine⟨⟨m,g.heap (by rw[ju hL];exact x),lo⟩,?_,hL⟩
 unfold Fm.put at e1
 rw[if_neg hL] at e1;exact e1
theorem Dyn.step {I:Addr} {p p':Pin} {h':Heap} {t:Nat} (d:Dyn w Z9 os (Z8.put I p) L ns ρ σ s) (hL:I≠L) (k:Heap.SameBut I s.heap h') (ho:PinOk h' I p') :
  Dyn w Z9 os (Z8.put I p') L ns ρ σ { s with heap:=h',toks:=t }:=by
 obtain⟨m,g,lo⟩:=d
 have g':=g
 rw[ju hL] at g'
 refine⟨m,g.heap ?_,lo⟩
 have:=g'.sr.frame Fm.aa k ho
 rw[Fm.put_put] at this
 rw[ju hL];exact this
theorem Dyn.drop {I:Addr} {p:Pin} {h':Heap} {t:Nat} (d:Dyn w Z9 os (Z8.put I p) L ns ρ σ s) (hL:I≠L) (hI:Z8 I=none) (k:Heap.ExtBut I s.heap h') :
  Dyn w Z9 os Z8 L ns ρ σ { s with heap:=h',toks:=t }:=by
 obtain⟨m,g,lo⟩:=d
 rw[ju hL] at g
 refine⟨m,g.heap (F':=Z8.put L (.ns m)) ?_,lo⟩
 have x:=g.sr.drop Fm.aa k
 refine x.lessFrames fun b q e=>?_
 unfold Fm.put at e ⊢
 by_cases z:b=I
 ·subst z
  rw[if_neg hL,hI] at e;cases e
 ·rw[if_neg z,if_neg z];exact e
theorem Dyn.forget {I:Addr} {p:Pin} (d:Dyn w Z9 os (Z8.put I p) L ns ρ σ s) (hL:I≠L) (hI:Z8 I=none):Dyn w Z9 os Z8 L ns ρ σ s:=by
 obtain⟨m,g,lo⟩:=d
 refine⟨m,⟨g.sr.lessFrames fun b q e=>?_,g.gens,g.os⟩,lo⟩
 unfold Fm.put at e ⊢
 by_cases z:b=L
 ·rw[if_pos z] at e ⊢;exact e
 ·rw[if_neg z] at e ⊢
  by_cases z2:b=I
  ·rw[z2,hI] at e;cases e
  ·rw[if_neg z2];exact e
structure JB (w:World) (Z9:Heap) (os:OsState) (A:Around) (I:Addr) (vs:List Value) (src:Hp→Prop) (P:Nat→Obj→Prop):Prop where
 item:∀ {F σ s j u} {Q:Option Value→Shared→Prop} {E:Value→Shared→Prop},GS w Z9 os F σ s→src σ→(∃ o,s.heap.get? I=some o∧P j o)→vs[j]?=some u →
  (∀ v h' t,er v=u→(∃ o,h'.get? I=some o∧P (j+1) o)→Heap.SameBut I s.heap h'→Q (some v) { s with heap:=h',toks:=t })→wpAny (model PP w) A (pyNext (.ref I)) Q E s
 fin:∀ {F σ s} {Q:Option Value→Shared→Prop} {E:Value→Shared→Prop},GS w Z9 os F σ s→src σ→(∃ o,s.heap.get? I=some o∧P vs.length o) →
  (∀ h',Heap.ExtBut I s.heap h'→Q none { s with heap:=h' })→wpAny (model PP w) A (pyNext (.ref I)) Q E s
theorem Ri {target:Expr} {body:List Stmt} {I:Addr} {vs:List Value} {src:Hp→Prop} {P:Nat→Obj→Prop} {k:Fl→Loc→Hp→Prop} (it:JB w Z9 os A I vs src P) (own:PassesOwn (model PP w) A env E') (hI:Z8 I=none) (hL:I≠L)
  (go:∀ {j v s} {Q:Unit→Shared→Prop} {E:Value→Shared→Prop},(∃ o,s.heap.get? I=some o∧P j o)→Q () s→wpAny (model PP w) A (letOwnedTupleGo target (.ref I) v) Q E s)
  (Inv:Nat→Loc→Hp→Prop) (hsrc:∀ m ρ σ,Inv m ρ σ→src σ) (hend:∀ ρ σ,Inv vs.length ρ σ→k .next ρ σ)
  (turn:∀ {j u v ρ σ Z7},vs[j]?=some u→er v=u→Inv j ρ σ→Dyn w Z9 os (Z8.put I (.it (P (j+1)))) L ns ρ σ Z7 →
   wpAny (model PP w) A (assign target env v) (fun _ Z5=>wpAny (model PP w) A (execs body env) (Out w Z9 os (Z8.put I (.it (P (j+1)))) L ns (sW (Inv (j+1)) k)) E' Z5) E' Z7)
  (h0:Inv 0 ρ σ) (d:Dyn w Z9 os (Z8.put I (.it (P 0))) L ns ρ σ s) :
  codeAny (model PP w) A (.forLoop target (.ref I) body [] env) (fun r s'=>match r with|.ok f=>Out w Z9 os Z8 L ns k f s'|.error e=>cameBackBy (model PP w) A env E' e s') s:=by
 have pin:∀ {j ρ σ s},Dyn w Z9 os (Z8.put I (.it (P j))) L ns ρ σ s→∃ F,GS w Z9 os F σ s∧∃ o,s.heap.get? I=some o∧P j o:=fun d=>by
  obtain⟨m,g,lo⟩:=d
  have g':=g
  rw[ju hL] at g'
  obtain⟨_,_,_,_,r3⟩:=g'.sr
  exact⟨_,g,(r3 I _ Fm.aa).2⟩
 refine codeAny_forLoop_any (R:=fun r s'=>match r with|.ok f=>Out w Z9 os Z8 L ns k f s'|.error e=>cameBackBy (model PP w) A env E' e s')
  (fun c s=>∃ j ρ σ,c=vs.length - j∧j≤vs.length∧Inv j ρ σ∧Dyn w Z9 os (Z8.put I (.it (P j))) L ns ρ σ s) (fun c s hj=>?_) (vs.length - 0) ⟨0,ρ,σ,rfl,Nat.zero_le _,h0,d⟩
 revert hj;refine gD fun j ρ σ z5 hle hj d=>?_;subst z5
 refine aV (fun F g ho=>?_) (pin d)
 by_cases hlt:j < vs.length
 ·have e:=List.getElem?_eq_getElem hlt
  refine it.item g (hsrc _ _ _ hj) ho e (fun v h' t hv ho' hs=>?_)
  dsimp only
  refine go (s:={ s with heap:=h',toks:=t }) ho' ?_
  have d':=d.step (t:=t) (p':=.it (P (j+1))) hL hs ho'
  refine wpAny_passesOwn own (wpAny_mono (turn e hv hj d') (fun _ Z5 q=>?_) fun _ _ e=>e)
  refine wpAny_passesOwn own (wpAny_mono q (fun f Z1 zz=>?_) fun _ _ e=>e)
  obtain⟨f',ZS,Z4,hf,ZV,q⟩:=zz
  cases f' with
  |next =>
   cases f<;>first|exact hf.elim|skip
   exact⟨_,by lia,j+1,ZS,Z4,rfl,hlt,q,ZV⟩
  |brk =>
   cases f<;>first|exact hf.elim|skip
   exact⟨.next,ZS,Z4,trivial,ZV.forget hL hI,q⟩
  |ret v =>
   cases f<;>first|exact hf.elim|skip
   exact⟨.ret v,ZS,Z4,hf,ZV.forget hL hI,q⟩
 ·have hj':j=vs.length:=by lia
  subst hj'
  refine it.fin g (hsrc _ _ _ hj) ho (fun h' he=>?_)
  exact wpAny_execs_nil ⟨.next,ρ,σ,trivial,d.drop (t:=s.toks) hL hI he,hend _ _ hj⟩
theorem JR {I a:Addr} {vs:List Value} (hh:A.handled=none):JB w Z9 os A I vs (fun σ=>σ a=some (.list vs)) (fun j o=>o.cls=.type "list_iterator"∧o.data=.fields #[.ref a,.int j 0]):=by
 refine⟨fun {F σ s j u Q E} g hs ho e h=>?_,fun {F σ s Q E} g hs ho h=>?_⟩
 ·refine aC (fun xs kk t ee z=>?_) (g.lst hs)
  subst ee
  have hl:s.heap.IsList a (List.toArray xs):=⟨_,t,rfl,_,rfl⟩
  rw[List.getElem?_map,Option.map_eq_some_iff] at e
  revert e;refine aV fun v hv z6=>?_;subst z6
  exact wpAny_pyNext_list_item ho hl (by simpa using hv) fun h' hit hs'=>h v h' s.toks rfl hit hs'
 ·refine aC (fun xs kk t ee z=>?_) (g.lst hs)
  subst ee
  have hl:s.heap.IsList a (List.toArray xs):=⟨_,t,rfl,_,rfl⟩
  exact wpAny_pyNext_list_end hh ho hl (by simp) h
theorem Qw {I a:Addr} {vs:List Value} (hh:A.handled=none):JB w Z9 os A I vs (fun σ=>σ a=some (.tup vs)) (fun j o=>o.cls=.type "tuple_iterator"∧o.data=.fields #[.ref a,.int j 0]):=by
 refine⟨fun {F σ s j u Q E} g hs ho e h=>?_,fun {F σ s Q E} g hs ho h=>?_⟩
 ·refine aC (fun xs kk t ee z=>?_) (g.tp hs)
  subst ee
  have hl:IsTup s.heap a (List.toArray xs):=⟨_,t,rfl,_,rfl⟩
  rw[List.getElem?_map,Option.map_eq_some_iff] at e
  revert e;refine aV fun v hv z7=>?_;subst z7
  exact next_tuple_item ho hl (by simpa using hv) fun h' hit hs'=>h v h' s.toks rfl hit hs'
 ·refine aC (fun xs kk t ee z=>?_) (g.tp hs)
  subst ee
  have hl:IsTup s.heap a (List.toArray xs):=⟨_,t,rfl,_,rfl⟩
  exact next_tuple_end hh ho hl (by simp) h
theorem Qi {I:Addr} {x:Str} {t:Tok} (hh:A.handled=none):JB w Z9 os A I (chars x) (fun _=>True) (fun j o=>o.cls=.type "str_ascii_iterator"∧o.data=.fields #[.str x t,.int j 0]):=by
 refine⟨fun {F σ s j u Q E} g hs ho e h=>?_,fun {F σ s Q E} g hs ho h=>?_⟩
 ·unfold chars at e
  rw[List.getElem?_map,Option.map_eq_some_iff] at e
  revert e;refine aV fun c hc z8=>?_;subst z8
  exact wpAny_pyNext_ascii_item ho (c:=c) (by simpa using hc) fun h' hit hs'=>h _ h' (s.toks+1) rfl hit hs'
 ·exact wpAny_pyNext_ascii_end hh ho (by unfold chars;simp) h
theorem En {I:Addr} {top:Nat} (hh:A.handled=none):JB w Z9 os A I ((List.range top).map fun(j:Nat)=>vi (j:Int)) (fun _=>True)
  (fun j o=>j≤top∧o={ cls:=.type "range_iterator",dict:=none,data:=.fields #[rawInt j,rawInt ((top:Int) - j),rawInt 1],slots:=#[] }):=by
 refine⟨fun {F σ s j u Q E} g hs ho e h=>?_,fun {F σ s Q E} g hs ho h=>?_⟩
 ·revert ho;refine cM fun o ho hj z9=>?_;subst z9
  rw[List.getElem?_map,Option.map_eq_some_iff] at e
  revert e;refine aV fun c hc z10=>?_;subst z10
  have hlt:j < top:=by
   have:=(List.getElem?_eq_some_iff.mp hc).1;simpa using this
  have hcj:c=j:=by
   rw[List.getElem?_range hlt] at hc;cases hc;rfl
  subst hcj
  refine wpAny_pyNext_range_item ho (by lia) fun h' hit hs'=>h _ h' (s.toks+1) rfl ⟨_,hit,hlt,?_⟩ hs'
  have e1:((c:Int)+1)=((c+1:Nat):Int):=by lia
  have e2:((top:Int) - c - 1)=(top:Int) - ((c+1:Nat):Int):=by lia
  rw[e1,e2]
 ·revert ho;refine cM fun o ho hj z11=>?_;subst z11
  rw[List.length_map,List.length_range] at ho
  exact wpAny_pyNext_range_end hh ho (by lia) h
theorem Gq {i:Nat} {x:Str} {p:Pos} {v:Value} {Q:Unit→Shared→Prop} (hc:dz sc ns i x=true) (eo:EnvOk sc env L) (d:Dyn w Z9 os Z8 L ns ρ σ s)
  (h:∀ s',Dyn w Z9 os Z8 L ns (dW ρ i (er v)) σ s'→Q () s'):wpAny (model PP w) A (assign (.Name x p) env v) Q E' s:=by
 obtain⟨m,g,lo⟩:=d
 exact wpAny_assign_Name (pY hc eo g lo h)
theorem w7 {it:Expr} (h:vJ it=true) (x:Value):foldedSetIterable it env x=pure x:=by
 cases it<;>first|rfl|exact Bool.noConfusion (show false=true from h)
noncomputable def Hu (w:World) (Z9:Heap) (os:OsState) (Z8:Fm) (L:Addr) (ns:List Str) (k:Fl→Loc→Hp→Prop) (A:Around) (env:Env) (E':Value→Shared→Prop) (r:Except Value Flow) (s':Shared):Prop:=match r with
 |.ok f=>Out w Z9 os Z8 L ns k f s'
 |.error e=>cameBackBy (model PP w) A env E' e s'
theorem uK {x:Str} {p:Pos} {body:List Stmt} {i:Nat} {b:S} {vs:List Value} {src:Hp→Prop} {P:Nat→Obj→Prop} {k:Fl→Loc→Hp→Prop} {o:Obj} (it:JB w Z9 os A s.heap.objs.size vs src P) (c:Sx K w Z9 os n R A l Z8 sc env L E') (d:Dyn w Z9 os Z8 L ns ρ σ s) (ho:P 0 o) (hf:o.isFreed=false)
  (h1:dz sc ns i x=true) (ob:pF K w Z9 os n b) (h4:bZ sc ns b (.many body)=true) (Inv:Nat→Loc→Hp→Prop) (i0:Inv 0 ρ σ) (hsrc:∀ m ρ σ,Inv m ρ σ→src σ) (hend:∀ ρ σ,Inv vs.length ρ σ→k .next ρ σ)
  (turn:∀ m v ρ σ,vs[m]?=some v→Inv m ρ σ→ex w Z9 os n R b (dW ρ i v) σ (sW (Inv (m+1)) k)) :
  codeAny (model PP w) A (.forLoop (.Name x p) (.ref s.heap.objs.size) body [] env) (Hu w Z9 os Z8 L ns k A env E') { s with heap:=s.heap.push o }:=by
 refine iJ (fun d' e1 e2=>?_) (d.pin (I:=s.heap.objs.size) (t:=s.toks) (p:=.it (P 0)) (h':=s.heap.push o) (c7 _) (fun b o q=>Heap.get?_push_of_some _ q) ⟨_,Heap.get?_push_size _ hf,ho⟩)
 refine Ri it c.own e1 e2 (fun _ h=>wpAny_pure h) Inv hsrc hend (fun {j u v ρ σ Z7} hu hv hi d=>?_) i0 d'
 refine Gq h1 c.eo d fun Z5 ZV=>?_
 rw[hv] at ZV
 exact ob.m body _ h4 (c.pin e1 e2) ZV (turn j u ρ σ hu hi)
theorem Ld {x:Str} {p:Pos} {body:List Stmt} {i:Nat} {b:S} {v ev:Value} {k:Fl→Loc→Hp→Prop} (hv:er v=ev) (q:Bh (fun ρ σ k=>ex w Z9 os n R b ρ σ k) i ρ σ k ev) (c:Sx K w Z9 os n R A l Z8 sc env L E') (d:Dyn w Z9 os Z8 L ns ρ σ s)
  (h1:dz sc ns i x=true) (ob:pF K w Z9 os n b) (h4:bZ sc ns b (.many body)=true) :
  wpAny (model PP w) A (call (.type "range") [v]) (fun v s'=>wpAny (model PP w) A (pyIter v) (fun it Z5=>codeAny (model PP w) A (.forLoop (.Name x p) it body [] env) (Hu w Z9 os Z8 L ns k A env E') Z5) E' s') E' s:=by
 cases q with
 |g_forR Inv ht i0 i1 i2 =>
  obtain⟨t',rfl⟩:=yr hv
  obtain⟨tn,rfl⟩:=Int.eq_ofNat_of_zero_le ht.1
  have t1:=ht.2
  refine call_range_1 ?_
  have hsz:Builtin.Range.rangeSize 0 (tn:Int) 1=(tn:Int):=by
   unfold Builtin.Range.rangeSize
   simp
   lia
  refine wpAny_pyIter_range (Heap.get?_push_size _ rfl:IsRange _ s.heap.objs.size 0 tn 1 s.toks t' (s.toks+1)) ?_ ?_
  ·unfold Builtin.Range.small
   rw[hsz]
   unfold Builtin.Range.rangeFitsLong
   simp
   lia
  rw[hsz]
  have d:Dyn w Z9 os Z8 L ns ρ σ { s with heap:=s.heap.push { cls:=.type "range",data:=.fields #[.int 0 s.toks,.int (tn:Nat) t',.int 1 (s.toks+1)] },toks:=s.toks+1+1 }:=d.keeps fun b o q=>Heap.get?_push_of_some _ q
  refine uK (s:={ s with heap:=s.heap.push { cls:=.type "range",data:=.fields #[.int 0 s.toks,.int (tn:Nat) t',.int 1 (s.toks+1)] },toks:=s.toks+1+1 }) (En (top:=tn) c.room.handled) c d ⟨Nat.zero_le _,by simp⟩ rfl h1 ob h4 Inv i0 (fun _ _ _ _=>trivial) (fun ρ σ hi=>i1 ρ σ (by simpa using hi)) fun j u ρ σ hu hi=>?_
  have hlt:j < tn:=by
   have:=(List.getElem?_eq_some_iff.mp hu).1;simpa using this
  rw[List.getElem?_map,List.getElem?_range hlt] at hu
  cases hu
  exact i2 j ρ σ hlt hi
theorem PX (i:Nat) (e:E) {b:S} (ob:pF K w Z9 os n b):pF K w Z9 os n (.forR i e b):=by
 refine⟨?_,cG rfl⟩
 intro R A l Z8 sc ns env L E' ρ σ s x k hc c g h
 obtain⟨m,g,lo⟩:=g
 refine Li hc ?_
 intro x p r p2 a p3 body p4 h1 h2 h3 h4
 have hs:starEach [a] env=[(false,eval a env)]:=notStar h3 [] env
 refine wpAny_For ?_ (fun y=>rfl)
 refine Call_Name rfl ?_
 have nm:∀ {Q:Value→Shared→Prop},Q (.type "range") s→wpAny (model PP w) A (eval (.Name r p2) env) Q E' s:=fun hq=>by
  simp only[gr,Bool.and_eq_true,beq_iff_eq] at h2
  obtain⟨rfl,h2⟩:=h2
  obtain⟨mg,hg⟩:=c.bs.g
  refine aV (fun mb hb hb2=>?_) c.bs.b
  refine Calls.Name_function_global c.eo.kind (by unfold Env.kindOf;rw[c.eo.names];exact h2) ?_ (by decide +kernel)
  exact Calls.loadGlobal_builtin (by rw[c.eo.globals];exact hg.keeps g.sr.base) (mg_none_of c.bs.kin hg c.bs.kf.norange) (by rw[c.eo.builtins];exact hb.keeps g.sr.base) ((hb2 _ (by decide +kernel)).trans boot_range) hq
 refine nm ?_
 refine PyProof.Rows.callWith_type (by rw[hs];rfl) ?_
 rw[hs]
 refine evalArgs_plain (rest:=[]) (Calls.spliced_cons (wpAny_mono (c.one (ok e) h3 lo g h) (fun v s' ⟨σ',g',q⟩=>Calls.spliced_nil ?_) fun _ _ e=>e))
 exact Ld rfl q c ⟨m,g',lo⟩ h1 ob h4
theorem Rb {x:Str} {p:Pos} {body:List Stmt} {i:Nat} {b:S} {v ev:Value} {k:Fl→Loc→Hp→Prop} {m:_} (hv:er v=ev) (q:xn (fun ρ σ k=>ex w Z9 os n R b ρ σ k) i ρ σ k ev) (c:Sx K w Z9 os n R A l Z8 sc env L E') (g:GS w Z9 os (Z8.put L (.ns m)) σ s) (d:Dyn w Z9 os Z8 L ns ρ σ s)
  (h1:dz sc ns i x=true) (ob:pF K w Z9 os n b) (h4:bZ sc ns b (.many body)=true) :
  wpAny (model PP w) A (pyIter v) (fun it Z5=>codeAny (model PP w) A (.forLoop (.Name x p) it body [] env) (Hu w Z9 os Z8 L ns k A env E') Z5) E' s:=by
 cases q with
 |g_forL_l Inv e i0 i1 i2 i3 =>
  cases il hv
  refine aC (fun xs kk ee tt z=>?_) (g.lstC e)
  exact wpAny_pyIter_list (items:=List.toArray xs) ⟨_,tt,rfl,_,rfl⟩ (uK (JR c.room.handled) c d ⟨rfl,rfl⟩ rfl h1 ob h4 Inv i0 i1 i2 i3)
 |g_forL_s Inv ha i0 i2 i3 =>
  obtain⟨t',rfl⟩:=oH hv
  exact wpAny_pyIter_ascii ha (uK (Qi c.room.handled) c d ⟨rfl,rfl⟩ rfl h1 ob h4 Inv i0 (fun _ _ _ _=>trivial) i2 i3)
theorem M4 (i:Nat) (e:E) {b:S} (ob:pF K w Z9 os n b):pF K w Z9 os n (.forL i e b):=by
 refine⟨?_,cG rfl⟩
 intro R A l Z8 sc ns env L E' ρ σ s x k hc c g h
 obtain⟨m,g,lo⟩:=g
 refine KC hc ?_
 intro x p it body p4 h1 h2 h3 h4
 refine wpAny_For (wpAny_mono (c.one (ok e) h3 lo g h) (fun v s' zz=>?_) fun _ _ e=>e) (w7 h2)
 obtain⟨σ',g',q⟩:=zz
 exact Rb rfl q c g' ⟨m,g',lo⟩ h1 ob h4
theorem VG {ts:List Expr} {kk:_} {p:Pos} {body:List Stmt} {is:List Nat} {b:S} {v ev:Value} {k:Fl→Loc→Hp→Prop} {m:_} (hv:er v=ev) (q:Bb (fun ρ σ k=>ex w Z9 os n R b ρ σ k) is ρ σ k ev) (c:Sx K w Z9 os n R A l Z8 sc env L E') (g:GS w Z9 os (Z8.put L (.ns m)) σ s) (d:Dyn w Z9 os Z8 L ns ρ σ s)
  (h1:namesOk sc ns is ts=true) (ob:pF K w Z9 os n b) (h5:bZ sc ns b (.many body)=true) :
  wpAny (model PP w) A (pyIter v) (fun it Z5=>codeAny (model PP w) A (.forLoop (.Tuple ts kk p) it body [] env) (Hu w Z9 os Z8 L ns k A env E') Z5) E' s:=by
 cases q with
 |@g_forU a _ Inv e i0 i1 i2 i3 =>
  cases il hv
  refine aC (fun xs n' ee tt z=>?_) (g.tpC e)
  refine iter_tuple (items:=List.toArray xs) ⟨_,tt,rfl,_,rfl⟩ ?_
  refine iJ (fun d' e1 e2=>?_) (d.pin (I:=s.heap.objs.size) (t:=s.toks)
   (p:=.it (fun o=>o.cls=.type "tuple_iterator"∧o.data=.fields #[.ref a,.int (0:Nat) 0]))
   (h':=s.heap.push { cls:=.type "tuple_iterator",data:=.fields #[.ref a,.int 0 0] })
   (c7 _) (fun b o q=>Heap.get?_push_of_some _ q) ⟨_,Heap.get?_push_size _ rfl,rfl,rfl⟩)
  refine Ri (Qw c.room.handled) c.own e1 e2 (fun {j v s Q E} ho h=>?_) Inv i1 i2 (fun {j u v ρ σ Z7} hu hv hi d=>?_) i0 d'
  ·revert ho;refine cM fun o ho hc1 hc2=>?_
   unfold letOwnedTupleGo
   dsimp only
   cases v<;>first|exact wpAny_pure h|skip
   refine wpAny_bind (wpAny_load ho ?_)
   rw[hc1,hc2]
   exact wpAny_pure h
  ·refine gD (fun t us ρ' z12 e hs q=>?_) (i3 j u ρ σ hu hi);subst z12
   cases il hv
   obtain⟨xs,n'',rfl,tt,z⟩:∃ xs n,us=List.map er xs∧IsT Z7.heap t (List.toArray xs) n∧xs.length≤big:=let ⟨m',g₁,lo₁⟩:=d;g₁.tpC e
   exact Gz c.room.handled c.eo d h1 ⟨_,tt,rfl,_,rfl⟩ hs fun Z5 ZV=>ob.m body _ h5 (c.pin e1 e2) ZV q
theorem Oj (is:List Nat) (e:E) {b:S} (ob:pF K w Z9 os n b):pF K w Z9 os n (.forU is e b):=by
 refine⟨?_,cG rfl⟩
 intro R A l Z8 sc ns env L E' ρ σ s x k hc c g h
 obtain⟨m,g,lo⟩:=g
 refine JM hc ?_
 intro ts k1 p1 it body p4 h1 h2 h3 h4 h5
 refine wpAny_For (wpAny_mono (c.one (ok e) h4 lo g h) (fun v s' zz=>?_) fun _ _ e=>e) (w7 h3)
 obtain⟨σ',g',q⟩:=zz
 exact VG rfl q c g' ⟨m,g',lo⟩ h1 ob h5
end
section
variable {K:Frag} {w:World} {Z9:Heap} {os:OsState} {n:Nat} {R:Value→Hp→Prop} {A:Around} {l:List Env} {F Z8:Fm} {sc:List (Str × NameKind)} {ns:List Str} {ρ:Loc} {env:Env} {L:Addr} {σ:Hp} {s:Shared} {E':Value→Shared→Prop}
theorem zf6 {r:E} {C:E→Prop} (h:Nat.beq (wU r) 0=true) (k:C .nil):C r:=by
 cases r with
 |nil=>exact k
 |_=>exact(Bool.false_ne_true h).elim
theorem Xj {σ σ':Hp} {v:Value} {b:Bf} {args:E} (h:cT (.blt b args)=true) (k:cT (Yh args)=true→pv σ v (Yh args)=pv σ' v (Yh args)):pv σ v (.blt b args)=pv σ' v (.blt b args):=by
 cases args with
 |cons a r =>
  show cond (Nat.beq (wU r) 0) (Option.bind (pv σ v a) _) _=cond (Nat.beq (wU r) 0) (Option.bind (pv σ' v a) _) _
  generalize q:Nat.beq (wU r) 0=t
  cases t with
  |true=>rw[show pv σ v a=pv σ' v a from k (zf6 (C:=fun r=>cT (.blt b (.cons a r))=true→cT a=true) q id h)]
  |false=>rfl
 |_=>rfl
theorem Df {σ σ':Hp} {v:Value}:∀ e:E,cT e=true→pv σ v e=pv σ' v e:=by
 have key:∀ e:E,(cT e=true→pv σ v e=pv σ' v e)∧(cT (Yh e)=true→pv σ v (Yh e)=pv σ' v (Yh e)):=fun e=>by
  induction e with
  |idx=>exact⟨fun h=>(Bool.false_ne_true h).elim,fun _=>rfl⟩
  |bin op a b x y=>exact⟨fun h=>b2 h fun h1 h2=>by show cond _ (Option.bind (pv σ v a) fun x=>Option.bind (pv σ v b) _) _=_;rw[x.1 h1,y.1 h2];rfl,fun _=>rfl⟩
  |cmp op a b x y=>exact⟨fun h=>b2 h fun h1 h2=>by show (Option.bind (pv σ v a) fun x=>Option.bind (pv σ v b) _)=_;rw[x.1 h1,y.1 h2];rfl,fun _=>rfl⟩
  |bor a b x y=>exact⟨fun h=>b2 h fun h1 h2=>by show (Option.bind (pv σ v a) fun x=>Option.bind _ fun c=>cond c _ (Option.bind (pv σ v b) _))=_;rw[x.1 h1,y.1 h2];rfl,fun _=>rfl⟩
  |blt b args x=>exact⟨fun h=>Xj h x.2,fun _=>rfl⟩
  |cons a b x=>exact⟨fun _=>rfl,x.1⟩
  |_=>exact⟨fun _=>rfl,fun _=>rfl⟩
 exact fun e=>(key e).1
theorem HB {σ σ':Hp} {v:Value} {e:E} (h:cT e=true):ji σ e v=ji σ' e v:=by
 unfold ji;rw[Df (σ':=σ') e h]
theorem Aj {σ σ':Hp} {elt cond:E} (h1:cT elt=true) (h2:cT cond=true):∀ vs,dm σ elt cond vs=dm σ' elt cond vs
 |[]=>rfl
 |v::vs=>by unfold dm;rw[HB (σ':=σ') h2,Df (σ':=σ') elt h1,Aj h1 h2 vs]
theorem SR.frameNew {h h':Heap} {D:Addr} {m m':Pin} {c:Cell} (x:SR Z9 F σ h) (hL:F L=some m) (hD:h.get? D=none) (e:Heap.ExtBut L h h') (p:PinOk h' L m') (hc:∀ role,CellOk h' role D c) (hn:∀ C fs,c≠.inst C fs) (ho:∃ o,h'.get? D=some o) :
  SR Z9 (F.put L m') (σ.put D c) h'∧σ D=none:=by
 obtain⟨b,role,r1,r2,r3⟩:=x
 have rL:=(r3 L m hL).1
 have bL:=(r1 L _ rL).1
 have rD:=nP r1 hD
 have ne:∀ {a r},r≠.frame→role a=some r→a≠L:=fun hr q z=>by rw[z,rL] at q;cases q;exact hr rfl
 have nw:∀ {d r},role d=some r→(if d=D then some .cell else role d)=some r:=fun h=>(if_neg (uH rD h)).trans h
 refine⟨⟨fun a o q=>e a o (fun z=>by rw[z,bL] at q;cases q) (b a o q),fun d=>if d=D then some .cell else role d,fun a r q=>?_,fun a c' q=>?_,fun L' ZM q=>?_⟩,yV r2 rD⟩
 ·by_cases z:a=D
  ·subst z;exact⟨nu b hD,ho⟩
  ·refine w6 (fun p1 o p2=>?_) (r1 a r ((if_neg z).symm.trans q))
   by_cases z2:a=L
   ·subst z2;exact⟨p1,p.there⟩
   ·exact⟨p1,o,e a o z2 p2⟩
 ·unfold Hp.put at q
  by_cases z:a=D
  ·subst z;rw[if_pos rfl] at q;cases q;exact⟨if_pos rfl,hc _⟩
  ·rw[if_neg z] at q
   obtain⟨p1,p2⟩:=r2 a c' q
   exact⟨nw p1,p2.move (e a · (ne (by intro q;cases q) p1)) fun dx h=>⟨nw h,(e dx · (ne (by intro q;cases q) h))⟩⟩
 ·unfold Fm.put at q
  by_cases z:L'=L
  ·subst z;rw[if_pos rfl] at q;cases q;exact⟨nw rL,p⟩
  ·rw[if_neg z] at q
   obtain⟨p1,p2⟩:=r3 L' ZM q
   obtain⟨o,ho⟩:=p2.there
   exact⟨nw p1,p2.same ((e _ _ z ho).trans ho.symm)⟩
theorem Px {i:Nat} {x y:Str} {elt cond:E} {el:Expr} {ifs:List Expr} {scope:Scope} {vE out:List Value} {cnt t:Nat} {P:Nat→Value→Prop} {St:Nat→Heap→Prop} {o:Obj} {fp:List Addr} {k:Fl→Loc→Hp→Prop} {m:Str→Option Value} {Z7:Shared} {σ0:Hp}
  (c2:gF scope y=true) (c4:aL scope.names [y] elt (.one el)=true) (c5:Hg (uP cond) (fun d=>aL scope.names [y] cond (.one d)) ifs=true) (p1:cT elt=true) (p2:cT cond=true) (bs:Bs K Z9) (eo:EnvOk sc env L) (lx:ns[i]?=some x) (lo:LocOk ns ρ m)
  (g:GS w Z9 os (Z8.put L (.ns m)) σ Z7) (W:Walks PP w A Z7.heap.objs.size fp [Z7.heap.objs.size] cnt P St) (hn:cnt≤sizeLine) (hst:St 0 (Z7.heap.push o)) (hfp:∀ b∈fp,b≤Z7.heap.objs.size)
  (hP:∀ i v,P i v→er v∈vE) (hv:dm σ elt cond vE=some out) (hfin:∀ vs:List Value,vs.length=cnt→(∀ j v,vs[j]?=some v→P j v)→vs.map er=vE) (hz:vE.length≤big) (q:∀ D,σ D=none→k .next (dW ρ i (.ref D)) (σ.put D (.list out))) :
  ∃ I fp wr n P St m,Value.ref Z7.heap.objs.size=.ref I∧Walks PP w A I fp wr n P St∧n≤sizeLine∧St 0 (Z7.heap.push o)∧(∀ b∈fp,b < (Z7.heap.push o).objs.size) ∧
   env.locals∉wr∧(Z7.heap.push o).Ns env.locals m∧QuietOn PP w A env scope y ifs el wr P (fun u=>ji σ0 cond (er u) == some true) (fun u r=>pv σ0 (er u) elt=some (er r)) { Z7 with heap:=Z7.heap.push o,toks:=t } ∧
   (∀ D h' tk ys (vs:List Value),(Z7.heap.push o).get? D=none→h'.IsList D ys→h'.PlainList D ys→vs.length=n→(∀ j v,vs[j]?=some v→P j v)→Paired (fun u r=>pv σ0 (er u) elt=some (er r)) (vs.filter fun u=>ji σ0 cond (er u) == some true) ys.toList →
    h'.Ns env.locals (fun z=>if z=x then some (.ref D) else m z)→(∀ b o',b≠env.locals→b∉wr→(Z7.heap.push o).get? b=some o'→h'.get? b=some o')→Out w Z9 os Z8 L ns k .next { Z7 with heap:=h',toks:=tk }):=by
 have hq:=CG (w:=w) (A:=A) (I:=Z7.heap.objs.size) (Z5:={ Z7 with heap:=Z7.heap.push o,toks:=t }) (P:=P) c2 c4 c5 bs eo g (fun h' hk=>LSm.kept_iter hk) hP hv
 rw[Aj (σ':=σ0) p1 p2] at hv
 have ep:(fun u=>ji σ cond (er u) == some true)=(fun u=>ji σ0 cond (er u) == some true):=funext fun u=>by rw[HB (σ':=σ0) p2]
 have eF:(fun u r=>pv σ (er u) elt=some (er r))=(fun u r=>pv σ0 (er u) elt=some (er r)):=funext fun u=>funext fun r=>by rw[Df (σ':=σ0) elt p1]
 rw[ep,eF] at hq
 have hnL:=g.sr.nsAt Fm.aa
 refine⟨_,fp,[Z7.heap.objs.size],cnt,P,St,m,rfl,W,hn,hst,fun b hb=>by rw[Heap.size_push];exact Nat.lt_succ_of_le (hfp b hb),?_,by rw[eo.locals];exact hnL.push _,hq,?_⟩
 ·rw[eo.locals]
  refine iH (fun o _ _ ho _=>?_) hnL
  exact fun z=>Nat.lt_irrefl _ (List.mem_singleton.mp z▸Heap.lt_size ho)
 ·intro D h' tk ys vs hD hlD hpD hlen hPs hF hnD hk
  rw[eo.locals] at hnD hk
  refine iJ (fun c1 c2 c3=>?_) (uR hv)
  have e:=c3 vs ys.toList (hfin vs hlen hPs) hF
  obtain⟨kk,hp⟩:=hpD
  have hD1:Z7.heap.get? D=none:=by
   cases e:Z7.heap.get? D with
   |none=>rfl
   |some o=>rw[Heap.get?_push_of_some _ e] at hD;cases hD
  have ext:Heap.ExtBut L Z7.heap h':=fun b o hb ho=>hk b o hb (fun hm=>Nat.lt_irrefl _ (List.mem_singleton.mp hm▸Heap.lt_size ho)) (Heap.get?_push_of_some _ ho)
  obtain⟨y1,y2⟩:=g.sr.frameNew (D:=D) (c:=.list out) (m':=.ns _) Fm.aa hD1 ext hnD (fun role=>⟨ys.toList,kk,hp,e,Nat.le_trans c2 hz⟩) (fun _ _ q=>by cases q) ⟨_,hp⟩
  rw[Fm.put_put] at y1
  exact⟨.next,_,_,trivial,⟨_,g.heap y1,lo.set lx⟩,q D y2⟩
theorem Ek {e:E} (h:wi e=true):∃ elt src cond,e=.comp elt src cond∧cT elt=true∧cT cond=true:=by
 cases e with
 |comp a b c=>exact⟨a,b,c,rfl,Bool.and_eq_true_iff.mp h⟩
 |_=>exact(Bool.false_ne_true h).elim
theorem VM (i:Nat) (e:E):pF K w Z9 os n (.asg i e):=by
 refine⟨?_,cG rfl⟩
 intro R A l Z8 sc ns env L E' ρ σ s x k hc c g h
 obtain⟨m,g,lo⟩:=g
 refine Np hc ?_
 intro x p v p2 h1 h2 h3
 cases hn:di v with
 |true =>
  refine wpAny_Assign_Name (wpAny_mono (c.one (ok _) h3 lo g h) (fun v s' zz=>?_) fun _ _ e=>e) (uF hn)
  obtain⟨σ',g',q⟩:=zz
  exact pY h1 c.eo g' lo fun Z5 d=>⟨.next,_,σ',trivial,d,q⟩
 |false =>
  rw[hn] at h2
  obtain⟨a0,h2⟩:=Bool.and_eq_true_iff.mp h2
  refine fD (fun elt src cond z0 p1 p2'=>?_) (Ek h2);subst z0
  clear hn h2
  revert a0
  refine vh h3 fun el y py it ifs scope pos c1 c2 c3 c4 c5 a0=>?_
  obtain⟨a1,a3⟩:=Bool.and_eq_true_iff.mp a0
  obtain⟨a1,a2⟩:=Bool.and_eq_true_iff.mp a1
  obtain⟨lx1,lx2⟩:=HR h1
  have hsw:swapsWith (.ListComp el [⟨.Name y py,it,ifs,0⟩] scope pos) (some (.Name x p)) p2.line env=pure true:=by
   show (pure (env.blockKind == .function&&env.kindOf x == some .local&&p.line == pos.line&&!(scope.names.any fun(n,k)=>n == x&&(k == .local||k == .cell))):Sem Bool)=pure true
   rw[show (env.blockKind == ScopeKind.function)=true by unfold Env.blockKind;rw[c.eo.kind];rfl,show (env.kindOf x == some NameKind.local)=true by unfold Env.kindOf;rw[c.eo.names];exact a2,a3,show (p.line == pos.line)=true from a1]
   rfl
  refine lz (fun k1 k2 k3 k4 k5=>?_) (yc c2)
  exact wpAny_Assign_ListComp_walk (fun u=>ji σ cond (er u) == some true) (fun u r=>pv σ (er u) elt=some (er r)) hsw k1 k2 k3 k4 k5 (c.eo.kof lx2) c.eo.notCls
   (wpAny_mono (c.one (ok src) c3 lo g h) (fun v Z7 ⟨σ',g',q⟩=>xJ c.room g' rfl q fun W hn hst hfp hP hv hfin hz q=>Px c2 c4 c5 p1 p2' c.bs c.eo lx1 lo g' W hn hst hfp hP hv hfin hz q) fun _ _ e=>e)
   (fun y=>Al (C:=fun it=>foldedSetIterable it env y=pure y) c1 (fun _ _=>rfl) fun _ _ _=>rfl)
end
noncomputable def Mild {α:Type}:Sem α→Prop
 |.pure _=>True
 |.raise _=>True
 |.unsupported _=>True
 |.finish _=>True
 |.rule _ k=>Mild (k ())
 |.at _ k=>Mild (k ())
 |.load _ _ k=>∀ o,Mild (k o)
 |.update _ _ f k=>(∀ o,(f o).dict=o.dict)∧Mild (k ())
 |.alloc _ k=>∀ a,Mild (k a)
 |.loadIfAlive _ k=>∀ o,Mild (k o)
 |.point _ k=>Mild (k ())
 |.fresh k=>∀ t,Mild (k t)
 |.ask k=>∀ t,Mild (k t)
 |.handled _ k=>∀ t,Mild (k t)
 |.stack k=>∀ t,Mild (k t)
 |_=>False
theorem Mild.bindS {α β:Type} {f:α→Sem β} (hf:∀ a,Mild (f a)):∀ {m:Sem α},Mild m→Mild (m.bind f):=by
 intro m
 induction m with
 |pure a=>intro _;exact hf a
 |raise e=>intro _;trivial
 |unsupported e=>intro _;trivial
 |finish e=>intro _;trivial
 |rule t k ih=>intro h;exact ih () h
 |«at» t k ih=>intro h;exact ih () h
 |load a p k ih=>intro h o;exact ih o (h o)
 |update a p g k ih=>intro h;exact⟨h.1,ih () h.2⟩
 |alloc o k ih=>intro h a;exact ih a (h a)
 |loadIfAlive o k ih=>intro h a;exact ih a (h a)
 |point o k ih=>intro h;exact ih () h
 |fresh k ih=>intro h a;exact ih a (h a)
 |ask k ih=>intro h a;exact ih a (h a)
 |handled o k ih=>intro h a;exact ih a (h a)
 |stack k ih=>intro h a;exact ih a (h a)
 |_=>intro h;exact h.elim
theorem Mild.bind {α β:Type} {m:Sem α} {f:α→Sem β} (h:Mild m) (hf:∀ a,Mild (f a)):Mild (m >>= f):=Mild.bindS hf h
noncomputable def DictKept (Z9 h:Heap):Prop:=∀ (b:Nat) (o:Obj),Z9.objs[b]?=some o→∃ o',h.objs[b]?=some o'∧o'.dict=o.dict
theorem DictKept.update {Z9 h:Heap} {a:Addr} {f:Obj→Obj} (k:DictKept Z9 h) (hf:∀ o,(f o).dict=o.dict):DictKept Z9 (h.update a f):=by
 intro b o hb
 refine aV (fun o' h1 h2=>?_) (k b o hb)
 by_cases e:a=b
 ·subst e
  refine⟨f o',?_,(hf o').trans h2⟩
  show (h.objs.modify a f)[a]?=_
  rw[Array.getElem?_modify,if_pos rfl,h1];rfl
 ·refine⟨o',?_,h2⟩
  show (h.objs.modify a f)[b]?=_
  rw[Array.getElem?_modify,if_neg e];exact h1
theorem DictKept.push {Z9 h:Heap} {x:Obj} (k:DictKept Z9 h):DictKept Z9 (h.push x):=by
 intro b o hb
 refine aV (fun o' h1 h2=>?_) (k b o hb)
 refine⟨o',?_,h2⟩
 show (h.objs.push x)[b]?=_
 have:=(Array.getElem?_eq_some_iff.mp h1).1
 rw[Array.getElem?_push,if_neg (by lia)];exact h1
theorem TV {α:Type} {M:Model} {Γ:Ctx} {Z9:Heap}:∀ {t:Sem α} {Q:α→Pos→Shared→Prop} {E:Value→Pos→Shared→Prop} {p:Pos} {s:Shared},Mild t→Sem.wp M Γ t Q E p s→DictKept Z9 s.heap →
  Sem.wp M Γ t (fun a p s'=>Q a p s'∧DictKept Z9 s'.heap) E p s:=by
 intro t
 induction t with
 |pure a=>intro Q E p s _ h k;rw[Sem.wp] at h ⊢;exact⟨h,k⟩
 |raise e=>intro Q E p s _ h k;rw[Sem.wp] at h ⊢;exact h
 |unsupported e=>intro Q E p s _ h k;rw[Sem.wp] at h ⊢;exact h
 |finish e=>intro Q E p s _ h k;rw[Sem.wp] at h ⊢;exact h
 |rule t k ih=>intro Q E p s m h kk;rw[Sem.wp] at h ⊢;exact ih () m h kk
 |«at» t k ih=>intro Q E p s m h kk;rw[Sem.wp] at h ⊢;exact ih () m h kk
 |load a p k ih=>intro Q E p s m h kk;rw[Sem.wp] at h ⊢;refine aV (fun o h1 h2=>?_) h;exact⟨o,h1,ih o (m o) h2 kk⟩
 |update a p g k ih=>intro Q E p s m h kk;rw[Sem.wp] at h ⊢;exact⟨h.1,ih () m.2 h.2 (kk.update m.1)⟩
 |alloc o k ih=>intro Q E p s m h kk;rw[Sem.wp] at h ⊢;exact ih _ (m _) h kk.push
 |loadIfAlive o k ih=>intro Q E p s m h kk;rw[Sem.wp] at h ⊢;exact ih _ (m _) h kk
 |point o k ih=>intro Q E p s m h kk;rw[Sem.wp] at h ⊢;exact ih () m h kk
 |fresh k ih=>intro Q E p s m h kk;rw[Sem.wp] at h ⊢;exact ih _ (m _) h kk
 |ask k ih=>intro Q E p s m h kk;rw[Sem.wp] at h ⊢;exact ih _ (m _) h kk
 |handled o k ih=>intro Q E p s m h kk;rw[Sem.wp] at h ⊢;exact ih _ (m _) h kk
 |stack k ih=>intro Q E p s m h kk;rw[Sem.wp] at h ⊢;exact ih _ (m _) h kk
 |_=>intro Q E p s m;exact m.elim
theorem gM {α:Type} {M:Model} {A:Around} {t:Sem α} {Q:α→Shared→Prop} {E:Value→Shared→Prop} {s:Shared} (m:Mild t) (h:wpAny M A t Q E s):wpAny M A t (fun a s'=>Q a s'∧DictKept s.heap s'.heap) E s :=
 fun Γ p hΓ=>TV m (h Γ p hΓ) fun _ o e=>⟨o,e,rfl⟩
theorem rT (a:Addr):Mild (load a):=fun _=>trivial
theorem kW (v:Value) (i:Nat):Mild (field v i):=by
 unfold field fieldsOf
 refine Mild.bind ?_ fun vs=>?_
 ·cases v<;>first|exact trivial|skip
  refine Mild.bind (rT _) fun o=>?_
  cases o.data<;>exact trivial
 ·cases vs[i]?<;>exact trivial
theorem iY (v:Value) (i:Nat) (x:Value):Mild (setField v i x):=by
 unfold setField
 cases v<;>first|exact trivial|skip
 unfold updateField
 refine Mild.bind (rT _) fun o=>?_
 cases o.data<;>first|exact trivial|skip
 dsimp only
 split
 ·exact⟨fun o=>by obtain⟨c,d,dt,sl⟩:=o;cases dt<;>rfl,trivial⟩
 ·exact trivial
theorem o7:Mild PySem.stack:=fun _=>trivial
theorem Er:Mild underTheClaimsCaller:=by
 unfold underTheClaimsCaller
 exact Mild.bind o7 fun _=>trivial
theorem Jf (env:Env) (im:Bool):∀ l:List Env,Mild (keptBack env im l)
 |[]=>by
  show Mild (if env.scope.isGenerator||env.scope.isCoroutine then pure Value.none else do return if ← underTheClaimsCaller then .notImplemented else .none)
  split
  ·exact trivial
  ·exact Mild.bind Er fun b=>trivial
 |_::_=>trivial
theorem Cg (env:Env) (outer:List Env):Mild (behindIsImport env outer):=by
 unfold behindIsImport
 split
 ·exact trivial
 ·split
  ·exact trivial
  ·exact Mild.bind (kW _ _) fun _=>trivial
theorem jk:∀ l:List Env,Mild (readyFrames l)
 |[]=>trivial
 |env::outer=>by
  unfold readyFrames
  cases env.frame with
  |none=>exact trivial
  |some f =>
   dsimp only
   refine Mild.bind (rT _) fun o=>?_
   split
   ·exact trivial
   ·refine Mild.bind (Cg _ _) fun im=>Mild.bind (Jf _ _ _) fun b=>?_
    refine Mild.bind (m:=PySem.update _ _) ⟨fun o=>rfl,trivial⟩ fun _=>jk outer
theorem yE (env:Env):Mild (PySem.frameOf env):=by
 unfold PySem.frameOf frameEnvs
 refine Mild.bind (Mild.bind o7 fun _=>trivial) fun es=>Mild.bind ?_ fun f=>?_
 ·cases List.dropWhile _ es with
  |nil=>exact trivial
  |cons e r =>
   unfold frameObject
   exact Mild.bind (jk _) fun _=>trivial
 ·cases f<;>exact trivial
theorem Fy (f:Addr) (b:Bool):Mild (entryPlaceOf f b):=by
 unfold entryPlaceOf
 refine Mild.bind o7 fun acts=>?_
 dsimp only
 split<;>exact trivial
theorem Ga (a b c d e:Value) (l:List Value):Mild (EntryCells.newEntry a b c d e l):=by
 have as:∀ d,Mild (newObjAsIs (.type "traceback") d none):=fun d=>fun a=>trivial
 unfold EntryCells.newEntry newFields newObj
 dsimp only
 split
 ·split
  ·exact Mild.bind (m:=unsupported _) trivial fun _=>as _
  ·exact as _
 ·split
  ·exact Mild.bind (m:=unsupported _) trivial fun _=>as _
  ·exact as _
theorem gR (e:Value) (f:Option Addr):Mild (setFlight e f):=by
 unfold setFlight
 refine Mild.bind (kW _ _) fun tb=>?_
 split
 ·exact iY _ _ _
 ·exact trivial
theorem mC (e:Value) (env:Env):Mild (noteFrame e env):=by
 unfold noteFrame
 cases env.frame with
 |none=>exact trivial
 |some f =>
  dsimp only
  have tail:∀ head:Value,Mild (do setField e 1 (← EntryCells.newEntry head (← PySem.frameOf env) .none (rawInt f) .none (← entryPlaceOf f (head != .none)))):=fun head =>
   Mild.bind (yE _) fun _=>Mild.bind (Fy _ _) fun _=>Mild.bind (Ga _ _ _ _ _ _) fun _=>iY _ _ _
  refine Mild.bind (kW _ _) fun head=>?_
  split
  ·refine Mild.bind (kW _ _) fun h3=>?_
   split
   ·exact trivial
   ·exact Mild.bind (iY _ _ _) fun _=>tail head
  ·exact tail head
theorem qj (env:Env) (e:Value):Mild (leaving env e):=by
 unfold leaving
 exact Mild.bind (mC _ _) fun _=>gR _ _
section
variable {K:Frag} {w:World} {Z9:Heap} {os:OsState} {n:Nat} {R:Value→Hp→Prop} {A:Around} {l:List Env} {Z8:Fm} {sc:List (Str × NameKind)} {ns:List Str} {ρ:Loc} {env:Env} {L:Addr} {σ:Hp} {s:Shared} {E':Value→Shared→Prop}
theorem jE {h:Heap} {a:Addr} {o:Obj} (e:h.get? a=some o):h.objs[a]?=some o:=((Heap.get?_eq_some _ _ _).1 e).1
theorem BX {m:Str→Option Value} {B:Heap} (hL:Z8 L=none) (sr:SR Z9 (lw (Z8.put L (.ns m))) σ B):SR Z9 (lw Z8) σ B:=sr.lessFrames fun L' p e=>by
 unfold lw at e ⊢
 have:L'≠L:=fun z=>by rw[z,hL] at e;cases e
 unfold Fm.put
 rw[if_neg this];exact e
theorem Aa {m:Str→Option Value} {h h' B:Heap} (hL:Z8 L=none) (fr:∀ L' m',Z8.put L (.ns m) L'=some (.ns m')→h.Ns L' m'∧B.get? L'=none) (up:h.UpToSlots h') (L':Addr) (m':Str→Option Value) (e:Z8 L'=some (.ns m')):h'.Ns L' m'∧B.get? L'=none:=by
 have:L'≠L:=fun z=>by rw[z,hL] at e;cases e
 obtain⟨y1,y2⟩:=fr L' m' (by unfold Fm.put;rw[if_neg this];exact e)
 exact⟨up.ns y1,y2⟩
theorem J2 {m} {a:Addr} {sym:Value} {Q:Unit→Shared→Prop} (hfr:A.frames=some (env::l)) (hf:env.frame=some L) (hL:Z8 L=none) (x:Fly Z9 (Z8.put L (.ns m)) σ (env::l) a sym s.heap)
  (h:∀ h',Fly Z9 Z8 σ l a sym h'→Q () { s with heap:=h' }):wpAny (model PP w) A (leaving env (.ref a)) Q E' s:=by
 obtain⟨B,a0,fl,sr,fr,oa,dx,mA,v,e1,e2,e3,e4,e5,e6⟩:=x
 have base:wpAny (model PP w) A (leaving env (.ref a)) (fun _ s'=>∃ h',s'={ s with heap:=h' }∧Heap.FlyingW B l a (.ref dY) a0 h'∧s.heap.UpToSlots h') E' s :=
  wpAny_leaves_onW hfr hf fl fun h' x1 x2=>⟨h',rfl,x1,x2⟩
 refine wpAny_mono (gM (qj env (.ref a)) base) (fun _ s' q=>?_) fun _ _ e=>e
 obtain⟨⟨h',rfl,x1,x2⟩,x3⟩:=q
 have k:∃ oa',h'.get? a=some oa'∧oa'.dict=some dx:=by
  refine aV (fun ob h1 h2=>?_) x1.there
  refine aV (fun o' h3 h4=>?_) (x3 a oa (jE e1))
  cases (jE h1).symm.trans h3
  exact⟨ob,h1,h4.trans e2⟩
 refine aV (fun oa' k1 k2=>?_) k
 exact h h' ⟨B,a0,x1,BX hL sr,Aa hL fr x2,oa',dx,mA,v,k1,k2,e3,e4,e5,e6⟩
noncomputable def jr (h:Heap) (p:Addr→Prop):Heap:=⟨h.objs.mapIdx fun i o=>@ite _ (p i) (Classical.propDecidable _) { o with data:=.freed } o,h.life⟩
theorem rR {h:Heap} {p:Addr→Prop} {b:Addr} (e:p b):(jr h p).get? b=none:=by
 cases q:(jr h p).get? b with
 |none=>rfl
 |some o =>
  obtain⟨q1,q2⟩:=(Heap.get?_eq_some _ _ _).1 q
  have q1:(h.objs.mapIdx fun i o=>@ite _ (p i) (Classical.propDecidable _) { o with data:=.freed } o)[b]?=some o:=q1
  rw[Array.getElem?_mapIdx,Option.map_eq_some_iff] at q1
  refine aV (fun o' _ q3=>?_) q1
  rw[if_pos e] at q3
  subst q3;cases q2
theorem uE {h:Heap} {p:Addr→Prop} {b:Addr} {o:Obj} (e:¬ p b) (q:h.get? b=some o):(jr h p).get? b=some o:=by
 obtain⟨q1,q2⟩:=(Heap.get?_eq_some _ _ _).1 q
 refine(Heap.get?_eq_some _ _ _).2 ⟨?_,q2⟩
 show (h.objs.mapIdx fun i o=>@ite _ (p i) (Classical.propDecidable _) { o with data:=.freed } o)[b]?=some o
 rw[Array.getElem?_mapIdx,q1,Option.map_some,if_neg e]
theorem Rf {h:Heap} {p:Addr→Prop} {b:Addr} {o:Obj} (q:(jr h p).get? b=some o):h.get? b=some o:=by
 by_cases e:p b
 ·rw[rR e] at q;cases q
 ·obtain⟨q1,q2⟩:=(Heap.get?_eq_some _ _ _).1 q
  have q1:(h.objs.mapIdx fun i o=>@ite _ (p i) (Classical.propDecidable _) { o with data:=.freed } o)[b]?=some o:=q1
  rw[Array.getElem?_mapIdx,Option.map_eq_some_iff] at q1
  refine aV (fun o' q4 q3=>?_) q1
  rw[if_neg e] at q3
  subst q3
  exact(Heap.get?_eq_some _ _ _).2 ⟨q4,q2⟩
theorem SR.jr {F:Fm} {h h':Heap} {a:Addr} (x:SR Z9 F σ h) (k:h.StaysIn h') (ha:h.get? a=none):SR Z9 (lw F) σ (jr h' fun b=>b=a∨∃ m,F b=some (.ns m)):=by
 obtain⟨b,role,r1,r2,r3⟩:=x
 have there:∀ c r o,role c=some r→(∀ m,F c≠some (.ns m))→h.get? c=some o→(Internal.jr h' fun b=>b=a∨∃ m,F b=some (.ns m)).get? c=some o:=fun c r o hr hn ho =>
  uE (fun q=>q.elim (fun q=>by rw[q,ha] at ho;cases ho) fun⟨m,q⟩=>hn m q) (k _ _ ho)
 have notf:∀ c,role c≠some .frame→∀ m,F c≠some (.ns m):=fun c hc m e=>hc (r3 c _ e).1
 have back:Z9.StaysIn (Internal.jr h' fun b=>b=a∨∃ m,F b=some (.ns m)):=fun c o e=>by
  refine uE (fun q=>?_) (k _ _ (b c o e))
  rcases q with rfl|⟨m,q⟩
  ·have:=b c o e;rw[ha] at this;cases this
  ·have:=(r1 c _ (r3 c _ q).1).1;rw[e] at this;cases this
 have nf:∀ {c r},r≠.frame→role c=some r→¬ ∃ m,F c=some (.ns m):=fun hr p ⟨m,e⟩=>notf _ (by rw[p];intro q;cases q;exact hr rfl) m e
 refine⟨back,fun c=>@ite _ (∃ m,F c=some (.ns m)) (Classical.propDecidable _) none (role c),fun c r e=>?_,fun c cl e=>?_,fun L p e=>?_⟩
 ·by_cases z:∃ m,F c=some (.ns m)
  ·exact gG ((if_pos z).symm.trans e)
  ·refine w6 (fun p o q=>?_) (r1 c r ((if_neg z).symm.trans e))
   exact⟨p,o,there c r o ((if_neg z).symm.trans e) (fun m q=>z ⟨m,q⟩) q⟩
 ·obtain⟨p,q⟩:=r2 c cl e
  have z:=nf (by intro q;cases q) p
  refine⟨(if_neg z).trans p,q.move (fun o=>there c _ o p fun m e=>z ⟨m,e⟩) fun dx h=>?_⟩
  have y:=nf (by intro q;cases q) h
  exact⟨(if_neg y).trans h,fun o=>there dx _ o h fun m e=>y ⟨m,e⟩⟩
 ·unfold lw at e
  split at e
  ·rename_i P q
   cases e
   refine JP (fun p o ho hP=>?_) (r3 L _ q)
   have z:¬ ∃ m,F L=some (.ns m):=fun⟨m,e⟩=>by rw[q] at e;cases e
   exact⟨(if_neg z).trans p,o,there L _ o p (fun m e=>z ⟨m,e⟩) ho,hP⟩
  ·cases e
theorem qP {h B:Heap} {F:Fm}:∀ {l:List Env},cB F l→(∀ L m,F L=some (.ns m)→h.Ns L m∧B.get? L=none)→h.FunFrames B l
 |[],_,_=>trivial
 |env::l,fr,k=>by
  refine qz (fun hk L m hf e=>?_) (fr env List.mem_cons_self)
  obtain⟨⟨o,es,ep,ho,hd,_⟩,hb⟩:=k L m e
  exact⟨(by rw[hk];intro q;cases q),⟨L,o,hf,hb,ho,fun vs q=>by rw[hd] at q;cases q⟩,qP (fun e he=>fr e (List.mem_cons_of_mem _ he)) k⟩
theorem GF {m} {e:Value} {Q:Unit→Shared→Prop} (hfr:A.frames=some (env::l)) (hf:env.frame=some L) (hL:Z8 L=none) (fr:cB (Z8.put L (.ns m)) (env::l)) (x:Made w Z9 os (Z8.put L (.ns m)) (env::l) R e s)
  (h:∀ h' a sym σ,e=.ref a→Fly Z9 Z8 σ l a sym h'→R sym σ→Q () { s with heap:=h' }):wpAny (model PP w) A (leaving env e) Q E' s:=by
 revert x;refine iJ fun g1 g2 z2=>jc (fun a sym σ z3=>jV (fun h1 z0 sr st ha z4=>oA (fun z1 hr=>?_) z4) z3) z2;subst z0;obtain⟨t,dx,sl,mA,v,e1,e2,e3,e4,e5,e6,e7⟩:=z1
 have frs:∀ L' m',(Z8.put L (.ns m)) L'=some (.ns m')→s.heap.Ns L' m'∧(Internal.jr s.heap fun b=>b=a∨∃ m',(Z8.put L (.ns m)) b=some (.ns m')).get? L'=none:=fun L' m' e=>by
  obtain⟨_,_,_,_,r3⟩:=sr.keeps st
  exact⟨(r3 L' _ e).2,rR (.inr ⟨m',e⟩)⟩
 have sb:=sr.jr st ha
 have hide:∀ b o,(Internal.jr s.heap fun b=>b=a∨∃ m',(Z8.put L (.ns m)) b=some (.ns m')).get? b=some o→s.heap.get? b=some o:=fun b o q=>Rf q
 have dxB:(Internal.jr s.heap fun b=>b=a∨∃ m',(Z8.put L (.ns m)) b=some (.ns m')).Ns dx mA:=by
  refine iH (fun od es ep ho hq=>?_) e3
  refine⟨od,es,ep,uE (fun q=>?_) ho,hq⟩
  rcases q with rfl|⟨m',q⟩
  ·exact e2 rfl
  ·obtain⟨_,role,r1,_,r3⟩:=sr
   refine w6 (fun _ o ho'=>?_) (r1 dx _ (r3 dx _ q).1)
   rw[e4] at ho';cases ho'
 generalize hB:(Internal.jr s.heap fun b=>b=a∨∃ m',(Z8.put L (.ns m)) b=some (.ns m'))=B at frs sb hide dxB
 have hBa:B.get? a=none:=by rw[← hB];exact rR (.inl rfl)
 have base:=wpAny_leaving_firstW (M:=model PP w) (E:=E') (Q:=fun _ s'=>∃ h',s'={ s with heap:=h' }∧Heap.LeftW B (env::l) a (.ref dY) (.ref t) s.heap h') hfr (qP fr frs) hf e1 (fun b o q=>hide b o q) hBa rfl rfl rfl fun h' hL=>⟨h',rfl,hL⟩
 refine wpAny_mono (gM (qj env (.ref a)) base) (fun _ s' q=>?_) fun _ _ e=>e
 obtain⟨⟨h',rfl,x1,x2,x3,x4⟩,y⟩:=q
 have x2':=x2.2.2
 refine jc (fun oe vs T z5=>aC (fun oT ts t1 t2 _=>?_) z5) (id x3)
 refine aV (fun o' h3 h4=>?_) (y a _ (jE e1))
 cases (jE t1).symm.trans h3
 exact h h' a sym σ rfl ⟨B,.ref t,⟨x1,hBa,x2',x3⟩,BX hL sb,Aa hL frs x4,oe,dx,mA,v,t1,h4,dxB,e5,e6,e7⟩ hr
noncomputable def j0 (Q:Value→Hp→Prop):Fl→Loc→Hp→Prop
 |.ret v,_,σ=>Q v σ
 |.next,_,σ=>Q .none σ
 |.brk,_,_=>False
theorem fst_sub:∀ {ps:List Str} {vs:List Value},((ps.zip vs).map (·.1)).Sublist ps
 |[],_=>List.Sublist.slnil
 |_::_,[]=>List.nil_sublist _
 |_::_,_::_=>fst_sub.cons₂ _
theorem Dj:∀ {ps:List Str} {vs:List Value} {i:Nat} {x:Str} {v:Value},ps.Nodup→ps[i]?=some x→vs[i]?=some v→(ps.zip vs).reverse.lookup x=some v:=by
 intro ps vs i x v hn hp hv
 have key:∀ (l:List (Str × Value)),(l.map (·.1)).Nodup→(x,v)∈l→l.lookup x=some v:=by
  intro l
  induction l with
  |nil=>intro _ h;cases h
  |cons y r ih =>
   intro hd hm
   obtain⟨yx,yv⟩:=y
   rw[List.map_cons,List.nodup_cons] at hd
   rcases List.mem_cons.mp hm with e|hm
   ·cases e;rw[List.lookup_cons];simp
   ·have:x≠yx:=fun q=>hd.1 (by rw[← q];exact List.mem_map_of_mem (f:=(·.1)) hm)
    rw[List.lookup_cons]
    have e:(x == yx)=false:=by simpa using this
    rw[e];exact ih hd.2 hm
 refine key _ ?_ ?_
 ·rw[List.map_reverse]
  refine List.pairwise_reverse.mpr ((List.Nodup.sublist ?_ hn).imp fun h e=>h e.symm)
  exact fst_sub
 ·rw[List.mem_reverse]
  refine List.mem_of_getElem? (i:=i) ?_
  rw[List.getElem?_zip_eq_some]
  exact⟨hp,hv⟩
theorem Oz:∀ {ρ:Loc} {i:Nat} {v:Value},lk ρ i=some v→ρ[i]?=some (some v)
 |[],_,_,h=>by cases h
 |x::r,0,v,h=>by
  have:x=some v:=h
  rw[this];rfl
 |x::r,i+1,v,h=>by rw[List.getElem?_cons_succ];exact Oz (ρ:=r) h
theorem lN (F:Fm) (L:Addr) (m) (e:F L=none) (env:Env) (hk:env.scope.kind=.function) (hf:env.frame=some L) (h:cB F l):cB (F.put L (.ns m)) (env::l):=by
 intro en hen
 rcases List.mem_cons.mp hen with rfl|hen
 ·exact⟨hk,L,m,hf,Fm.aa⟩
 ·refine qz (fun h1 L' m' h2 h3=>?_) (h en hen)
  refine⟨h1,L',m',h2,?_⟩
  unfold Fm.put
  rw[if_neg (fun z=>by rw[z,e] at h3;cases h3)];exact h3
theorem zr {ps more:List Str} {vals dv args:List Value} {i:Nat} {v:Value} (hv:vals.map er=args) (hn:(ps++more).Nodup) (hlen:args.length+dv.length=ps.length) (hi:lk ((args++dv.map er).map some++more.map fun _=>none) i=some v) :
  ∃ x v',(ps++more)[i]?=some x∧(ps.zip (vals++dv)).reverse.lookup x=some v'∧er v'=v:=by
 have hvl:vals.length=args.length:=by rw[← hv,List.length_map]
 have hi:=Oz hi
 have hlt:i < (args++dv.map er).length:=by
  apply Classical.byContradiction
  intro q
  rw[List.getElem?_append_right (by simp only[List.length_map];lia),List.getElem?_map] at hi
  cases e:more[i - ((args++dv.map er).map some).length]? with
  |none=>rw[e] at hi;cases hi
  |some y=>rw[e] at hi;cases hi
 rw[List.getElem?_append_left (by simpa using hlt),List.getElem?_map] at hi
 have hi':(args++dv.map er)[i]?=some v:=by
  cases e:(args++dv.map er)[i]? with
  |none=>rw[e] at hi;cases hi
  |some y=>rw[e] at hi;cases hi;rfl
 rw[← hv,← List.map_append,List.getElem?_map] at hi'
 refine aV (fun v' h1 h2=>?_) (Option.map_eq_some_iff.mp hi')
 have hip:i < ps.length:=by
  have:=(List.getElem?_eq_some_iff.mp h1).1
  rw[List.length_append] at this;lia
 refine⟨ps[i],v',?_,?_,h2⟩
 ·rw[List.getElem?_append_left hip,List.getElem?_eq_getElem hip]
 ·exact Dj (List.nodup_append.mp hn).1 (List.getElem?_eq_getElem hip) h1
theorem Nk {a:Addr} {ps:List Str} {dv:List Value} {body:List Stmt} {more:List Str} {S:S} {args:List Value} {Q:Value→Hp→Prop} (b:Bs K Z9) (f:Vd K a sc ps dv body) (oS:pF K w Z9 os n S)
  (hS:bZ sc (ps++more) S (.many body)=true) (hn:(ps++more).Nodup) (hlen:args.length+dv.length=ps.length)
  (h:ex w Z9 os n R S ((args++dv.map er).map some++more.map fun _=>none) σ (j0 Q)):CallSem w Z9 os (n+1) (.ref a) args σ Q R:=by
 intro A l F s vals room fr sr g o hv
 obtain⟨obj,plain,loc⟩:=f
 obtain⟨ob,fd,f1,f2,⟨c,oc,vs,t,c1,c2,c3,c4⟩,f3,f4,f5,f6,f7,f8,f9,bind⟩:=obj
 have X:K.In s.heap:=b.kin.keeps sr.base
 have hvl:vals.length=args.length:=by rw[← hv,List.length_map]
 have hd:A.depth < recursionLimit:=by have:=room.depth;have:recursionLimit=1000:=rfl;lia
 refine codeAny_call_def hd (X _ _ f1) f2 (by obtain⟨mc,hmc⟩:=b.nolimit;exact⟨mc,hmc.1.keeps sr.base,hmc.2⟩) ⟨c,oc,vs,t,c1,X _ _ c2,c3,c4⟩ f3 (kp_binds X (bind vals (by lia)))
  (by rw[f4];exact plain) (fun x hx=>by rw[f4];exact loc _ (List.of_mem_zip hx).1) (fun ZX hns hst=>?_) f7 f6 f5
 refine iJ (fun sr1 e1 e2=>?_) (sr.newFrame (L:=s.heap.objs.size) (c7 _) hst (m:=.ns fun x=>(ps.zip (vals++dv)).reverse.lookup x) hns)
 have kf:(callEnv fd s.heap.objs.size a).scope.kind=.function:=f5
 have hfr:(A.deeper (callEnv fd s.heap.objs.size a)).frames=some (callEnv fd s.heap.objs.size a::l):=Around.frames_deeper room.frames
 have C:Sx K w Z9 os n R (A.deeper (callEnv fd s.heap.objs.size a)) (callEnv fd s.heap.objs.size a::l) F sc (callEnv fd s.heap.objs.size a) s.heap.objs.size
   (fun e s'=>wpAny (model PP w) (A.deeper (callEnv fd s.heap.objs.size a)) (leaving (callEnv fd s.heap.objs.size a) e) (fun _ s''=>Rs Z9 os F l Q R s'' (.error e)) (fun e' s''=>Rs Z9 os F l Q R s'' (.error e')) s'):=by
  refine⟨b,⟨hfr,room.handled,?_,?_⟩,⟨f5,f4,rfl,f8,f9,rfl⟩,fun m=>lN F _ m e1 _ kf rfl fr,PassesOwn.leaving,fun m e s' er=>?_,fun m e s' er=>?_,_,rfl⟩
  ·show A.depth+1+4 * n≤990;have:=room.depth;lia
  ·show A.units+3+40 * n≤9000;have:=room.units;lia
  ·obtain⟨g',o',x,sym,σ',rfl,fl,hr⟩:=er
   exact J2 hfr rfl e1 fl fun h' fl'=>.err g' o' fl' hr
  ·revert er;refine iJ fun g' o' er'=>?_
   exact GF hfr rfl e1 (lN F _ m e1 _ kf rfl fr) ⟨g',o',er'⟩ fun h' a sym σ' q fl hr=>by subst q;exact .err g' o' fl hr
 refine wpAny_mono (oS.m body _ hS C (ns:=ps++more) (ρ:=(args++dv.map er).map some++more.map fun _=>none) ⟨_,⟨sr1,g,o⟩,hn,fun i v hi=>?_⟩ h) (fun fl s' q=>?_) fun _ _ e=>e
 ·exact zr hv hn hlen hi
 ·obtain⟨f',ρ',σ',hf,⟨m,g',_⟩,hk⟩:=q
  have sr2:SR Z9 F σ' s'.heap:=g'.sr.lessFrames fun L' m' e=>by
   unfold Fm.put
   rw[if_neg (fun z=>by rw[z,e1] at e;cases e)];exact e
  cases f' with
  |next=>cases fl<;>first|exact hf.elim|exact .ret g'.gens g'.os sr2 hk
  |brk=>exact hk.elim
  |ret v =>
   cases fl<;>first|exact hf.elim|skip
   have hf:er _=v:=hf
   exact .ret g'.gens g'.os sr2 (by rw[hf];exact hk)
end
section
open Builtin Builtin.ObjectAttr
section
variable {prog:Program} {w:World} {A:Around} {E:Value→Shared→Prop} {h:Heap} {g:Array GenState} {d:Drawn} {t:Nat} {os:OsState}
variable {nm q:Str} {C N x:Addr} {bs:List Value} {sn:List Str} {sub:List Value} {ab:Bool} {col:Option Bool} {dd:Option Addr} {k0 k1 k2 k3 k5:Option Value} {newId:String}
 {mN:Str→Option Value} {name:Str} {v:Value}
noncomputable abbrev zgH (nm q:Str) (C N:Addr) (bs:List Value) (sn:List Str) (sub:List Value) (ab:Bool) (col:Option Bool) (dd:Option Addr) (k0 k1 k2 k3 k5:Option Value):Obj :=
 excClassObj nm q C N bs O9 true sn sub ab col dd k0 k1 k2 k3 k5 "Exception.__new__"
theorem Gx {o:Obj} {fs:Array Value} {Q:Unit→Shared→Prop}
  (hC:h.get? C=some (zgH nm q C N bs sn sub ab col dd k0 k1 k2 k3 k5)) (hn:h.Ns N mN) (hns:mN "__setattr__"=none) (hna:mN name=none)
  (hB:typeLookup (.type "Exception") name=pure none) (hx:h.get? x=some o) (hc:o.cls=.ref C) (hdn:o.dict=none) (hdt:o.data=.fields fs)
  (hq:∀ h' tk',h'.get? x=some ⟨o.cls,some h.objs.size,o.data,o.slots⟩→h'.Ns1 h.objs.size (fun y=>if y=name then some v else none) →
   (∀ b o,b≠x→h.get? b=some o→h'.get? b=some o)→Q () ⟨h',g,d,tk',os⟩) :
  wpAny (model prog w) A (setAttr (.ref x) name v) Q E ⟨h,g,d,t,os⟩:=by
 have SF:=PySem.F.store_Exception
 have f3:=SF.slot.bind (.ref x)
 have hpass:=SF.passes (.ref x)
 unfold setAttr callSpecial? specialOf
 repeat (any_goals (first|with_reducible assumption|(with_reducible refine wpAny_loadPart_at hx ?_;rw[hc])|(with_reducible refine wpAny_typeLookup_exc hC hn SF.mro SF.slot.lookup ?_;rw[hns])|wp_step))
 with_reducible refine codeAny_call_builtin SF.slot.plain SF.entry (wpAny_check_sa SF hC hx hc ?_)
 unfold Builtin.«object.__setattr__»
 repeat (first|rw[refuse_eq]|(rw[refuseLoop_ref,hpass])|(with_reducible refine wpAny_loadPart_at hx ?_;rw[hc])|with_reducible refine wpAny_mroOf_exc hC ?_|(with_reducible refine wpAny_typeLookup_exc hC hn SF.mro hB ?_;rw[hna])|wp_step)
 rw[hdn,if_neg (by simp[typeHasDict])]
 split
 ·rename_i q;cases q
 split
 ·rename_i q;rw[hdt] at q;cases q
 have hx1:(h.push emptyDict).get? x=some o:=Heap.get?_push_of_some _ hx
 have hxs:x≠h.objs.size:=Nat.ne_of_lt (Heap.lt_size hx)
 refine wpAny_bind (wpAny_alloc' ?_)
 refine wpAny_bind (wpAny_update' hx1 ?_)
 refine wpAny_pure ?_
 have hgd:((h.push emptyDict).update x fun o=>{ cls:=o.cls,dict:=some h.objs.size,data:=o.data,slots:=o.slots }).get? h.objs.size=some emptyDict :=
  (Heap.get?_update_ne _ _ _ _ hxs.symm).trans (Heap.get?_push_at rfl rfl)
 have hnd:((h.push emptyDict).update x fun o=>{ cls:=o.cls,dict:=some h.objs.size,data:=o.data,slots:=o.slots }).Ns h.objs.size (fun _=>none) :=
  ⟨_,#[],_,hgd,rfl,fun e he=>absurd he (by simp),fun _=>rfl⟩
 show wpAny _ _ (storeInDict h.objs.size (.str name _) name v) _ _ _
 unfold storeInDict newKeyGuard
 refine wpAny_bind (wpAny_pure (wpAny_bind (wpAny_nsSet1 (Heap.Ns1.of_empty hnd) fun h' hn' hs=>?_)))
 refine fD (fun oD esD epD hoD hdD hcD=>?_) (hn'.count (Within.cons name v Within.nil))
 refine wpAny_bind (wpAny_lookBehind hoD (by rw[hdD];exact pastItsLine_dict (Nat.le_trans hcD (by rw[List.length_cons,List.length_nil,sizeLine_eq];lia))) ?_)
 wp_walk
 refine hq h' _ ((hs.2 x hxs).trans (Heap.get?_update_self _ hx1 ?_)) hn' fun b o hb ho=>?_
 ·show Obj.isFreed _=false
  obtain⟨oc,od,odt,osl⟩:=o
  dsimp only at hdt;subst hdt;rfl
 ·exact(hs.2 b (Nat.ne_of_lt (Heap.lt_size ho))).trans ((Heap.get?_update_ne _ _ _ _ hb).trans (Heap.get?_push_of_some _ ho))
end
section
variable {K:Frag} {w:World} {Z9:Heap} {os:OsState} {n:Nat} {R:Value→Hp→Prop} {A:Around} {l:List Env} {Z8 F:Fm} {sc:List (Str × NameKind)} {ns:List Str} {ρ:Loc} {env:Env} {L:Addr} {σ:Hp} {s:Shared} {E':Value→Shared→Prop}
noncomputable def zgB (h h':Heap) (a:Addr) (x:Value):Prop:=h.StaysIn h'∧h.get? a=none ∧
 ∃ t dx sl mA,h'.get? a=some ⟨.ref dY,some dx,.fields #[.ref t,.none,.none,.none,.bool false,.none],sl⟩∧dx≠a∧h'.Ns dx mA∧h.get? dx=none∧mA "symbol"=some x
theorem zb5:typeLookup (.type "Exception") ("symbol":Str)=pure none:=by rw[typeLookup_type,builtinLookup_eq_fast];kernel_rfl
theorem Wz:typeLookup (.type "Exception") ("data":Str)=pure none:=by rw[typeLookup_type,builtinLookup_eq_fast];kernel_rfl
theorem RP {x y:Value} {Q:Value→Shared→Prop} (b:Bs K Z9) (room:mU n A l) (hn:1 < n) (hs:K.In s.heap) (hlim:s.heap.NoLimit)
  (h:∀ h' tk a,zgB s.heap h' a x→Q (.ref a) { s with heap:=h',toks:=tk }):wpAny (model PP w) A (call (.ref dY) [x,y]) Q E' s:=by
 obtain⟨nm,q,N,bs,sn,sub,ab,col,dd,k0,k1,k2,k3,k5,mN,c1,c2,c3,c4,c5,c6⟩:=b.xk.cls
 obtain⟨sc,p1,p2,p3,p4,p5,p6,p7,p8,obj,plain,loc⟩:=b.xk.init
 obtain⟨ob,fd,f1,f2,⟨c,oc,vs,t,d1,d2,d3,d4⟩,f3,f4,f5,f6,f7,f8,f9,bind⟩:=obj
 have hcls:ob.cls=.type "function":=by
  have:(K.lookup 93).map (·.cls)=some (.type "function"):=b.xk.fnc
  rw[f1] at this
  simpa using this
 have hC:=hs _ _ c1
 obtain⟨hp,g,d,tk,os'⟩:=s
 refine wpAny_call_exc_init (hrest:=by rw[sizeLine_eq];simp) PySem.F.excBase_Exception hC (c2 _ hs) c3 (hs _ _ f1) hcls fun h1 e hm=>?_
 have X1:K.In h1:=hs.keeps hm.keeps
 refine wpAny_call (codeAny_call_def (by show A.depth+1 < _;have:=room.depth;have:recursionLimit=1000:=rfl;lia) (X1 _ _ f1) f2 (by obtain⟨mc,hmc⟩:=hlim;exact⟨mc,hmc.1.keeps hm.keeps,hmc.2⟩) ⟨c,oc,vs,t,d1,X1 _ _ d2,d3,d4⟩ f3
  (kp_binds X1 (bind [.ref e,x,y] rfl)) (by rw[f4];exact plain) (fun z hz=>by rw[f4];exact loc _ (List.of_mem_zip hz).1) (fun h2 hns hst=>?_) f7 f6 f5)
 have kl:∀ z∈([("self":Str),"symbol","data"]),(callEnv fd h1.objs.size 93).kindOf z=some .local:=fun z hz=>by
  unfold Env.kindOf
  show fd.scope.names.lookup z=_
  rw[f4];exact loc z hz
 have X2:K.In h2:=X1.keeps hst
 refine cM (fun t0 hm1 hm2 hm3=>?_) hm.there
 have he2:=hst _ _ hm1
 have hne:e≠h1.objs.size:=Nat.ne_of_lt (Heap.lt_size hm1)
 refine wpAny_execs_cons (plainObj_wpAny_Assign_Attribute (ldc f5 (kl _ (by simp)) hns (v:=x) (by rfl) (ldc f5 (kl _ (by simp)) hns (v:=.ref e) (by rfl) ?_)) (uF rfl))
 refine Gx (X2 _ _ c1) (c2 _ X2) c4 c5 zb5 he2 rfl rfl rfl fun h3 tk3 s1 s2 s3=>?_
 have stay:∀ b o,hp.get? b=some o→h2.get? b=some o:=fun b o q=>hst b o (hm.keeps b o q)
 have X3:K.In h3:=fun a o q=>s3 a o (fun z=>by
  have:=hs a o q
  rw[z,hm.new] at this;cases this) (X2 a o q)
 have hns3:h3.Ns h1.objs.size (fun x'=>(([("self":Str),"symbol","data"]).zip ([.ref e,x,y]++[])).reverse.lookup x'):=by
  refine iH (fun o es ep ho hr=>?_) hns
  exact⟨o,es,ep,s3 _ _ hne.symm ho,hr⟩
 have hdn:h2.objs.size≠e:=Nat.ne_of_gt (Heap.lt_size he2)
 refine wpAny_execs_cons (plainObj_wpAny_Assign_Attribute (ldc f5 (kl _ (by simp)) hns3 (v:=y) (by rfl) (ldc f5 (kl _ (by simp)) hns3 (v:=.ref e) (by rfl) ?_)) (uF rfl))
 refine store_attr (ns:=[("symbol":Str)]) PySem.F.store_Exception (X3 _ _ c1) (c2 _ X3) c4 c6 Wz (fun q=>by rw[q] at hm;have:=hm.new;rw[hC] at this;cases this) ⟨_,s1,rfl,(fun c z=>by cases z),.inr ⟨_,rfl,hdn,s2⟩⟩ (fun h4 tk4 i1 i2 i3=>?_) ?_ (by rw[sizeLine_eq];decide)
 ·refine jV (fun o4 j1 j2 j3 j4 j5=>?_) (i3 _ s1)
  have jd:=j5 _ rfl
  refine kZ (fun o5 l1 l2 l3 l4=>?_) i1
  rw[j1] at l1;cases l1
  have hn4:h4.Ns h2.objs.size (fun y_1=>if y_1=("data":Str) then some y else if y_1=("symbol":Str) then some x else none):=by
   rcases l4 with ⟨l4,_⟩|⟨d5,m1,m2,m3⟩
   ·rw[jd] at l4;cases l4
   ·rw[jd] at m1;cases m1;exact m3.ns
  refine wpAny_execs_nil ⟨rfl,?_⟩
  refine h h4 _ e ⟨fun b o q=>?_,hm.new,t0,h2.objs.size,o4.slots,_,?_,hdn,hn4,?_,rfl⟩
  ·have hb:b≠e:=fun z=>by rw[z,hm.new] at q;cases q
   exact i2 b o hb (fun o₀ dx z1 z2=>by rw[s1] at z1;cases z1;cases z2;exact Nat.ne_of_lt (Heap.lt_size (stay b o q))) (s3 b o hb (stay b o q))
  ·rw[j1]
   obtain⟨oc',od',odt',osl'⟩:=o4
   dsimp only at j2 j3 jd
   subst j2 j3 jd;rfl
  ·show hp.get? h2.objs.size=none
   cases q:hp.get? h2.objs.size with
   |none=>rfl
   |some o=>exact absurd (Heap.lt_size (stay _ o q)) (Nat.lt_irrefl _)
 ·exact Within.cons _ _ Within.nil
end
end
section
open Builtin Builtin.ObjectAttr
section
variable {K:Frag} {w:World} {Z9:Heap} {os:OsState} {n:Nat} {R:Value→Hp→Prop} {A:Around} {l:List Env} {Z8 F:Fm} {sc:List (Str × NameKind)} {ns:List Str} {ρ:Loc} {env:Env} {L:Addr} {σ:Hp} {s:Shared} {E':Value→Shared→Prop}
theorem Gg {x:Sem Value} {Q:Flow→Shared→Prop} (b:Bs K Z9) (hh:A.handled=none)
  (h:wpAny (model PP w) A x (fun v Z7=>∃ e d t sl,v=.ref e∧K.In Z7.heap∧Z7.heap.get? e=some ⟨.ref dY,d,.fields #[.ref t,.none,.none,.none,.bool false,.none],sl⟩∧E' (.ref e) Z7) E' s) :
  wpAny (model PP w) A (raiseStmt env (some x) none) Q E' s:=by
 obtain⟨nm,q,N,bs,sn,sub,ab,col,dd,k0,k1,k2,k3,k5,mN,c1,c2,c3,c4,c5,c6⟩:=b.xk.cls
 have hcB:(Value.ref dY::O9).contains (.type "BaseException")=true:=by decide
 unfold raiseStmt
 refine wpAny_bind (wpAny_mono h (fun v Z7 ZX=>?_) fun _ _ x=>x)
 revert ZX;refine jc fun e d t z1=>kZ (fun sl z0 X he hE=>?_) z1;subst z0
 have hC:=X _ _ c1
 obtain⟨hp,g,d,tk,os⟩:=Z7
 repeat (first|with_reducible refine wpAny_loadPart_at he ?_|with_reducible refine wpAny_loadPart_at hC ?_|(with_reducible refine wpAny_isSubtype_exc hC ?_;rw[hcB])|wp_step)
 exact wpAny_raiseNew_none hh hE
theorem Vp {vs es:List Value} (he:vs.map er=es) (q:u5 R σ es):∃ v1 v2,vs=[v1,v2]∧aB (er v1)=true∧R (er v1) σ:=by
 cases q with
 |g_raise hp h =>
  refine aC (fun v1 v2 z2 e1 e2=>?_) (map_two he);subst z2
  rw[← e1] at hp h
  exact⟨v1,v2,rfl,hp,h⟩
theorem K9 (es:E) (hn:1 < n):pF K w Z9 os n (.raise_ es):=by
 refine⟨?_,cG rfl⟩
 intro R A l Z8 sc ns env L E' ρ σ s x k hc c g h
 obtain⟨m,g,lo⟩:=g
 refine Ax hc ?_
 intro x np as cp pos h1 h2 h3
 rw[arm_exec_Raise]
 refine wpAny_bind (wpAny_standAt (Gg c.bs c.room.handled (wpAny_bind ?_)))
 have nm:=rE (Q:=fun xs σ'=>xs=[.ref dY]∧σ'=σ) (p:=np) h1 (c.cx lo) g ⟨rfl,rfl⟩
 refine wpAny_mono (Call_Name (E:=E') (Q:=fun v Z7=>∃ e d t sl,v=.ref e∧K.In Z7.heap∧Z7.heap.get? e=some ⟨.ref dY,d,.fields #[.ref t,.none,.none,.none,.bool false,.none],sl⟩∧E' (.ref e) Z7) rfl (wpAny_mono nm (fun v s' zz=>?_) (c.err m))) (fun v Z1 ZP=>wpAny_bind (wpAny_standAt (wpAny_pure ZP))) fun _ _ e=>e
 obtain⟨σ',g',hv,e⟩:=zz
 simp only[List.cons.injEq,and_true] at hv
 cases il hv
 subst e
 refine callWith_of (P:=K.In) (by rw[cu h3];rfl) (keeps_K c.bs.xk.keep) (wpAny_mono (nD (ok _) h3 (c.cx lo) g' h) (fun ar Z5 zz=>?_) (c.err m))
 obtain⟨vs,hv,Z4,Z6,q⟩:=zz
 subst hv
 have X:=Z6.kin c.bs
 obtain⟨v1,v2,rfl,q1,q⟩:=Vp rfl q
 refine⟨X,RP c.bs c.room hn X (by obtain⟨mc,hmc⟩:=c.bs.nolimit;exact⟨mc,hmc.1.keeps Z6.sr.base,hmc.2⟩) fun h' tk a nx=>?_⟩
 obtain⟨n1,n2,t,dx,sl,mA,n3,n4,n5,n6,n7⟩:=nx
 exact⟨a,_,_,_,rfl,X.keeps n1,n3,c.made m _ _ ⟨Z6.gens,Z6.os,a,_,Z4,Z5.heap,rfl,Z6.sr,n1,n2,⟨t,dx,sl,mA,v1,n3,n4,n5,n6,n7,pJ q1,rfl⟩,q⟩⟩
end
end
section
open Builtin Builtin.ObjectAttr
section
variable {K:Frag} {w:World} {Z9:Heap} {os:OsState} {n:Nat} {R:Value→Hp→Prop} {A:Around} {l:List Env} {Z8 F:Fm} {sc:List (Str × NameKind)} {ns:List Str} {ρ:Loc} {env:Env} {L:Addr} {σ:Hp} {s:Shared} {E':Value→Shared→Prop}
theorem Ed {a dx:Addr} {fs:Array Value} {sl:Array (Option Value)} {mA:Str→Option Value} {v:Value} {expr:Bool} {Q:Value→Shared→Prop} (xk:XK K) (X:K.In s.heap)
  (ha:s.heap.get? a=some ⟨.ref dY,some dx,.fields fs,sl⟩) (hd:s.heap.Ns dx mA) (hv:mA "symbol"=some v) (hh:handedIn v=true) (h:∀ tk,Q v { s with toks:=tk }) :
  wpAny (model PP w) A (getAttr (.ref a) "symbol" expr) Q E' s:=by
 refine iH (fun od es ep ho hr=>?_) (id hd)
 have I:PySem.W.InstAt s.heap a ⟨.ref dY,some dx,.fields fs,sl⟩ dY (some od):=⟨ha,rfl,rfl,ho⟩
 have hf:findObj K dY (some od) "symbol"=some (.value v):=findObj_own (attr:=none) xk.own xk.sym rfl (by rw[qX hd ho,hv])
 obtain⟨nm,q,N,bs,sn,sub,ab,col,dd,k0,k1,k2,k3,k5,mN,c1,c2,c3,c4,c5,c6⟩:=xk.cls
 have L2:Looks (model PP w) s.heap (isInstance (.ref a) (.type "BaseException")) true:=I.type.andThen (looks_mroIn X (by unfold mroIn clsIn;rw[c1];rfl))
 obtain⟨hp,g,d,t,os⟩:=s
 have L0:=I.type (M:=model PP w)
 have L1:=looks_findIn (M:=model PP w) X xk.ga
 have L3:=looks_find (M:=model PP w) X I hf
 have f3:=PySem.F.attr_Exception.ga.bind (.ref a)
 have hx0:(expr&&onTheHeap (Value.builtin "BaseException.__getattribute__"))=false:=by cases expr<;>rfl
 have hx2:(Value.builtin "BaseException.__getattribute__" == Value.builtin "object.__getattribute__")=false:=by decide +kernel
 have hx1:(onTheHeap (Value.ref dY)&&Value.builtin "BaseException.__getattribute__" == Value.builtin "object.__getattribute__")=false:=by rw[hx2];rfl
 have hk:builtinKind "BaseException.__getattribute__"=some .slot:=by decide +kernel
 have hsplit:splitId "BaseException.__getattribute__"=some ("BaseException","__getattribute__"):=by decide +kernel
 unfold getAttr getAttrBy
 refine wpAny_bind (wpAny_mkText (wpAny_holding (wpAny_bind (L0.at (wpAny_bind (L1.at ?_))))))
 dsimp only
 rw[hx1]
 simp only[Bool.false_eq_true,if_false]
 unfold getAttrByItsOwn
 repeat (any_goals (first|with_reducible assumption|with_reducible refine L0.at ?_|with_reducible refine L1.at ?_|with_reducible refine(looks_findIn (M:=model PP w) X xk.gt).at ?_|wp_step))
 refine codeAny_call_builtin PySem.F.attr_Exception.ga.plain PySem.F.entry_bexc_ga (@check_slot (model PP w) _ _ _ "BaseException.__getattribute__" "BaseException" "__getattribute__" (.ref a) [.str "symbol" t] [] _ hk hsplit L2 (PySem.F.args_bexc_ga _ _) ?_)
 unfold Builtin.«object.__getattribute__»
 repeat (any_goals (first|with_reducible assumption|with_reducible refine L0.at ?_|with_reducible refine L3.at ?_|wp_step))
 show wpAny _ _ (handedOut v) _ _ _
 rw[handedOut_of hh]
 exact wpAny_pure (h _)
theorem SR.unhide {F:Fm} {B h:Heap} (x:SR Z9 (lw F) σ B) (k:B.StaysIn h) (fr:∀ L m,F L=some (.ns m)→h.Ns L m∧B.get? L=none):SR Z9 F σ h:=by
 obtain⟨b,role,r1,r2,r3⟩:=x
 have rN:∀ L m,F L=some (.ns m)→role L=none:=fun L m e=>nP r1 (fr L m e).2
 have keepR:∀ c r,role c=some r→¬ ∃ m,F c=some (.ns m):=fun c r e ⟨m,q⟩=>by rw[rN c m q] at e;cases e
 refine⟨fun a o q=>k _ _ (b a o q),fun c=>@ite _ (∃ m,F c=some (.ns m)) (Classical.propDecidable _) (some .frame) (role c),fun c r e=>?_,fun c cl e=>?_,fun L p e=>?_⟩
 ·by_cases z:∃ m,F c=some (.ns m)
  ·obtain⟨m,q⟩:=z
   obtain⟨⟨o,_,_,ho,_⟩,hb⟩:=fr c m q
   exact⟨nu b hb,o,ho⟩
  ·refine w6 (fun p o q=>?_) (r1 c r ((if_neg z).symm.trans e))
   exact⟨p,o,k _ _ q⟩
 ·obtain⟨p,q⟩:=r2 c cl e
  exact⟨(if_neg (keepR c _ p)).trans p,q.move (k c) fun dx h=>⟨(if_neg (keepR dx _ h)).trans h,k dx⟩⟩
 ·by_cases z:∃ m,F L=some (.ns m)
  ·refine⟨if_pos z,?_⟩
   obtain⟨m,q⟩:=z
   rw[q] at e;cases e
   exact(fr L m q).1
  ·have e':lw F L=some p:=by
    unfold lw
    cases p with
    |ns m=>exact absurd ⟨m,e⟩ z
    |it P=>rw[e]
   obtain⟨y1,y2⟩:=r3 L p e'
   exact⟨(if_neg z).trans y1,y2.keeps k⟩
theorem DictKept.trans {ZX ZR ZP:Heap} (x:DictKept ZX ZR) (y:DictKept ZR ZP):DictKept ZX ZP:=fun b o e=>by
 refine aV (fun o2 e2 d2=>?_) (x b o e)
 refine aV (fun o3 e3 d3=>?_) (y b o2 e2)
 exact⟨o3,e3,d3.trans d2⟩
theorem Th {B h1 h4 h5 h6:Heap} {m m':Str→Option Value} (sr:SR Z9 (lw (Z8.put L (.ns m))) σ B) (fr:∀ L' p,Z8.put L (.ns m) L'=some (.ns p)→h1.Ns L' p∧B.get? L'=none) (up:h1.UpToSlots h4)
  (hs5:∀ b,b≠L→h5.get? b=h4.get? b) (hs6:∀ b,b≠L→h6.get? b=h5.get? b) (B6:B.StaysIn h6) (hn:h6.Ns L m') (hL:B.get? L=none):SR Z9 (Z8.put L (.ns m')) σ h6:=by
 refine SR.unhide (sr.lessFrames fun L' p q=>?_) B6 fun L' p q=>?_
 ·unfold lw Fm.put at q ⊢
  by_cases z:L'=L
  ·rw[if_pos z] at q;cases q
  ·rw[if_neg z] at q ⊢;exact q
 ·unfold Fm.put at q
  by_cases z:L'=L
  ·rw[if_pos z] at q;cases q;rw[z];exact⟨hn,hL⟩
  ·rw[if_neg z] at q
   obtain⟨t1,t2⟩:=fr L' p (by unfold Fm.put;rw[if_neg z];exact q)
   refine iH (fun ob es ep tb tr=>?_) (up.ns t1)
   exact⟨⟨ob,es,ep,(hs6 L' z).trans ((hs5 L' z).trans tb),tr⟩,t2⟩
theorem opq {α:Type} {M:Model} {A:Around} {X:Sem α} {Q0:α→Shared→Prop} {E:Value→Shared→Prop} {s:Shared} (h:∀ Q:α→Shared→Prop,(∀ a s,Q0 a s→Q a s)→wpAny M A X Q E s):wpAny M A X Q0 E s:=h Q0 fun _ _ h=>h
theorem Q3 (e:E):pF K w Z9 os n (.told e):=by
 refine⟨?_,cG rfl⟩
 intro R A l Z8 sc ns env L E' ρ σ s x k hc c g h
 obtain⟨m,g,lo⟩:=g
 refine Lb hc ?_
 intro v p1 x p2 y p3 p4 p5 p6 p7 h1 h2 h3 h4 h5
 obtain⟨outer,rfl⟩:=c.top
 refine opq fun Q hQ=>?_
 have eo:=c.eo
 have X0:=c.bs.kin
 have cx:Cx K w Z9 os n (fun sym σ=>k (.ret sym) ρ σ) A (env::outer) (Z8.put L (.ns m)) sc ns ρ env:=⟨c.bs,c.room,c.frames m,L,m,eo,Fm.aa,lo⟩
 refine wpAny_Try_except (wpAny_execs_cons (wpAny_Return_some (wpAny_mono ((ok e).one h5 cx g h) (fun u s' q=>?_) fun er s1 er1=>?_)))
 ·obtain⟨σ',g',q⟩:=q
  exact hQ _ _ ⟨.ret _,ρ,σ',rfl,⟨m,g',lo⟩,q⟩
 ·obtain⟨gg,oo,a,sym,σ',rfl,⟨B,a0,fl,sr,fr,oa,dx,mA,v,e1,e2,e3,e4,e5,e6⟩,hk⟩:=er1
  have hfr:=c.room.frames
  obtain⟨hp1,gn1,dr1,tk1,os1⟩:=s1
  have hL:B.get? L=none:=(fr L m Fm.aa).2
  refine wpAny_mono (gM (mC (.ref a) env) (wpAny_looks_onW (Q:=fun _ s'=>∃ h',s'=⟨h',gn1,dr1,tk1,os1⟩∧Heap.HeldW B (env::outer) a (.ref dY) a0 L h'∧hp1.UpToSlots h') hfr eo.frame fl fun h' x1 x2=>⟨h',rfl,x1,x2⟩)) (fun _ s2 q=>?_) fun _ _ e=>e
  obtain⟨⟨h2',rfl,hd2,up2⟩,k2⟩:=q
  refine wpAny_mono (gM (gR (.ref a) none) (wpAny_landsW (Q:=fun _ s'=>∃ h',s'=⟨h',gn1,dr1,tk1,os1⟩∧Heap.FlyingW B (env::outer) a (.ref dY) a0 h'∧h2'.UpToSlots h') hd2 fun h' x1 x2=>⟨h',rfl,x1,x2⟩)) (fun _ s3 q=>?_) fun _ _ e=>e
  obtain⟨⟨h3',rfl,fl3,up3⟩,k3⟩:=q
  have X3:K.In h3':=(X0.keeps sr.base).keeps fl3.1
  obtain⟨mg,hg⟩:=c.bs.g
  refine iJ (fun g1 g2 g3=>?_) (v9 h1)
  refine aV (fun v' y1 y2=>?_) (c.bs.kf.glob (x,Value.ref dY) g1)
  cases il y2
  obtain⟨nm,q,N,bs,sn,sub,ab,col,dd,k0,k1,kk2,kk3,k5,mN,c1,_,_,_,_,_⟩:=c.bs.xk.cls
  refine wpAny_handleBy_cons (codeAny_handlers_test (wpAny_Name (ks_loadName_global eo.kind (eo.kof g2) (yu eo.globals ((hg.keeps sr.base).keeps fl3.1) (mg_of c.bs.kin hg y1) ?_)) g3)) (by intro q;cases q)
  refine bR (fun oe ws he hec hed _=>?_) fl3.first
  refine wpAny_excMatches_sub_self (X3 _ _ c1) he hec (by decide) (codeAny_handlers_suite_as ?_)
  refine wpAny_mono (gM (gR (.ref a) none) (lands_againW (Q:=fun _ s'=>∃ h',s'=⟨h',gn1,dr1,tk1,os1⟩∧Heap.FlyingW B (env::outer) a (.ref dY) a0 h'∧h3'.UpToSlots h') fl3 fun h' x1 x2=>⟨h',rfl,x1,x2⟩)) (fun _ s4 q=>?_) fun _ _ e=>e
  obtain⟨⟨h4',rfl,fl4,up4⟩,k4⟩:=q
  have up:=(up2.trans up3).trans up4
  have n4:h4'.Ns L m:=up.ns (fr L m Fm.aa).1
  have hloc:env.kindOf y=some .local:=eo.kof h3
  refine wpAny_storeName_local hloc (by rw[eo.locals];exact n4) (fun h5' hn5 hs5=>?_) eo.notCls
  rw[eo.locals] at hn5 hs5
  refine bR (fun oe4 ws4 he4 hec4 hed4 _=>?_) fl4.first
  have hal:a≠L:=fun z=>by
   refine fD (fun oL es ep hoL hdL _=>?_) n4
   rw[z,hoL] at he4;cases he4
   rw[hdL] at hed4;cases hed4
  have hdl:dx≠L:=fun z=>by
   refine iH (fun od _ _ hod _=>?_) e3
   rw[z,hL] at hod;cases hod
  have hdict:oe4.dict=some dx:=by
   refine aV (fun o' q1 q2=>?_) ((k2.trans (k3.trans k4)) a oa (jE e1))
   rw[jE he4] at q1;cases q1
   exact q2.trans e2
  have B5:B.StaysIn h5':=fun b o q=>(hs5.2 b fun z=>by rw[z,hL] at q;cases q).trans (fl4.1 b o q)
  obtain⟨oc4,od4,odt4,osl4⟩:=oe4
  dsimp only at hec4 hed4 hdict
  subst hec4 hed4 hdict
  refine wpAny_execs_cons (wpAny_Return_some (Attribute_name (wpAny_Name (wpAny_loadName_local eo.kind hloc (by rw[eo.locals];exact hn5) (if_pos rfl) ?_) h2)))
  refine Ed c.bs.xk ((X0.keeps sr.base).keeps B5) ((hs5.2 a hal).trans he4) (e3.keeps B5) e4 e5 fun tk=>?_
  refine wpAny_nameGoes_keeps hloc (by rw[eo.locals];exact hn5) eo.notCls fun h6' v6 hn6 hs6=>?_
  rw[eo.locals] at hn6 hs6
  have B6:B.StaysIn h6':=fun b o q=>(hs6.2 b fun z=>by rw[z,hL] at q;cases q).trans (B5 b o q)
  refine hQ _ _ ⟨.ret _,ρ,σ',rfl,⟨fun x=>if x=y then v6 else if x=y then some (.ref a) else m x,⟨Th sr fr up hs5.2 hs6.2 B6 hn6 hL,gg,oo⟩,lo.nodup,fun i u hu=>?_⟩,?_⟩
  ·refine aC (fun x' u' r1 r2 r3=>?_) (lo.has i u hu)
   have:x'≠y:=fun z=>by
    rw[z] at r1
    have hm:y∈ns:=List.mem_of_getElem? r1
    have:=List.contains_iff_mem.mpr hm
    rw[h4] at this;cases this
   exact⟨x',u',r1,by rw[if_neg this,if_neg this];exact r2,r3⟩
  ·rw[e6];exact hk
theorem Wn (hn:1 < n):∀ st:S,pF K w Z9 os n st
 |.nil=>Tp
 |.seq a b=>Wu (Wn hn a) (Wn hn b)
 |.asg i e=>VM i e
 |.fasg o f e=>Ph o f e
 |.iasg o i e=>Mr o i e
 |.unpT is es=>Qc is es
 |.unp is e=>VL is e
 |.ite t a b=>Ud t (Wn hn a) (Wn hn b)
 |.whl t b=>U6 t (Wn hn b)
 |.forR i e b=>PX i e (Wn hn b)
 |.forL i e b=>M4 i e (Wn hn b)
 |.forU is e b=>Oj is e (Wn hn b)
 |.ret e=>Tg e
 |.exp e=>Ui e
 |.brk=>Vu
 |.raise_ es=>K9 es hn
 |.told e=>Q3 e
end
end
noncomputable def bG:S:=(.seq (.fasg (.loc 0) 0 (.loc 1)) (.seq (.fasg (.loc 0) 1 (.loc 2)) (.seq (.fasg (.loc 0) 2 (.loc 3)) (.seq (.fasg (.loc 0) 3 (.loc 4)) (.seq (.fasg (.loc 0) 4 (.loc 5)) (.seq (.fasg (.loc 0) 5 (.loc 6)) (.seq (.fasg (.loc 0) 6 (.loc 7)) (.seq (.fasg (.loc 0) 7 (.loc 8)) (.seq (.fasg (.loc 0) 8 (.loc 9)) (.seq (.fasg (.loc 0) 9 (.loc 10)) (.seq (.fasg (.loc 0) 10 (.loc 11)) (.seq (.fasg (.loc 0) 11 (.loc 12)) .nil))))))))))))
noncomputable def dI:S:=(.seq (.ret (.bin .Sub (.blt .len (.cons (.fld (.loc 0) 0) .nil)) (.fld (.loc 0) 1))) .nil)
noncomputable def pB:S:=(.seq (.unp [1,2,3,4,5,6,7,8,9,10,11,12] (.loc 0)) (.seq (.ret (.new 1 68 37 (.cons (.loc 1) (.cons (.loc 2) (.cons (.loc 3) (.cons (.loc 4) (.cons (.loc 5) (.cons (.loc 6) (.cons (.loc 7) (.cons (.loc 8) (.cons (.loc 9) (.cons (.loc 10) (.cons (.loc 11) (.cons (.loc 12) .nil)))))))))))))) .nil))
noncomputable def iT:S:=(.seq (.fasg (.loc 0) 14 (.loc 1)) (.seq (.fasg (.loc 0) 15 (.loc 2)) (.seq (.fasg (.loc 0) 16 (.loc 3)) .nil)))
noncomputable def jU:S:=(.seq (.ret (.cmp .In (.loc 1) (.fld (.loc 0) 16))) .nil)
noncomputable def iu:S:=(.seq (.ret (.bor (.cmp .Eq (.fld (.loc 0) 14) (.gv 12 (.str "\\" 0))) (.cmp .Eq (.fld (.loc 0) 14) (.gv 13 (.str "/" 0))))) .nil)
noncomputable def fu:S:=(.seq (.ret (.bor (.cmp .Eq (.fld (.loc 0) 14) (.gv 5 (.str "w" 0))) (.cmp .Eq (.fld (.loc 0) 14) (.gv 6 (.str "_" 0))))) .nil)
noncomputable def lU:S:=(.seq (.ret (.bin .Add (.ite (.meth (.loc 0) 30 (.cons (.cst (.str "b" 0)) .nil)) (.cst (.str "b" 0)) (.cst (.str "" 0))) (.ite (.meth (.loc 0) 30 (.cons (.cst (.str "c" 0)) .nil)) (.cst (.str "c" 0)) (.cst (.str "" 0))))) .nil)
noncomputable def iV:S:=(.seq (.ite (.cmp .Eq (.loc 0) (.cst (.str "" 0))) (.seq (.raise_ (.cons (.cst (.str "error" 0)) (.cons (.lst (.cons (.cst (.str "Invalid syntax description letter" 0)) .nil)) .nil))) .nil) .nil) (.seq (.asg 1 (.ite (.cmp .Eq (.idx (.loc 0) (.cst (.int 0 0))) (.cst (.str "-" 0))) (.gv 4 (.str " " 0)) (.idx (.loc 0) (.cst (.int 0 0))))) (.seq (.asg 2 (.ite (.bor (.cmp .Lt (.blt .len (.cons (.loc 0) .nil)) (.cst (.int 2 0))) (.cmp .Eq (.idx (.loc 0) (.cst (.int 1 0))) (.cst (.str " " 0)))) (.cst .none) (.blt .ord (.cons (.idx (.loc 0) (.cst (.int 1 0))) .nil)))) (.seq (.asg 3 (.from_ (.loc 0) (.cst (.int 2 0)))) (.seq (.ite (.bor (.cmp .NotIn (.loc 1) (.gv 20 (.str " w_.()'\"\\/$<>@!|" 0))) (.not (.blt .all (.cons (.comp (.bor (.cmp .In (.loc 0) (.gv 21 (.str "1234bcnp" 0))) (.cmp .Eq (.loc 0) (.cst (.str " " 0)))) (.loc 3) .nil) .nil)))) (.seq (.raise_ (.cons (.cst (.str "error" 0)) (.cons (.lst (.cons (.cst (.str "Invalid syntax description letter" 0)) .nil)) .nil))) .nil) .nil) (.seq (.ret (.new 22 144 113 (.cons (.loc 1) (.cons (.loc 2) (.cons (.call (.gv 23 (.ref 153)) (.cons (.loc 3) .nil)) .nil))))) .nil))))))
noncomputable def bB:S:=(.seq (.fasg (.loc 0) 17 (.loc 1)) (.seq (.fasg (.loc 0) 18 .dct) .nil))
noncomputable def cj:S:=(.seq (.asg 3 (.call (.gv 24 (.ref 158)) (.cons (.loc 2) .nil))) (.seq (.forL 4 (.loc 1) (.seq (.iasg (.fld (.loc 0) 18) (.blt .ord (.cons (.loc 4) .nil)) (.loc 3)) .nil)) .nil))
noncomputable def eH:S:=(.seq (.asg 2 (.bm (.fld (.loc 0) 18) .get (.cons (.loc 1) (.cons (.cst .none) .nil)))) (.seq (.ret (.ite (.bor (.cmp .Is (.loc 2) (.cst .none)) (.cmp .Eq (.fld (.loc 2) 14) (.gv 17 (.str "@" 0)))) (.cst .none) (.loc 2))) .nil))
noncomputable def fJ:S:=(.seq (.asg 2 (.loc 0)) (.seq (.whl (.cmp .IsNot (.loc 2) (.cst .none)) (.seq (.asg 3 (.meth (.loc 2) 34 (.cons (.loc 1) .nil))) (.seq (.ite (.cmp .IsNot (.loc 3) (.cst .none)) (.seq (.ret (.loc 3)) .nil) .nil) (.seq (.asg 2 (.fld (.loc 2) 17)) .nil)))) (.seq (.ret (.new 22 144 113 (.cons (.ite (.cmp .Gt (.loc 1) (.cst (.int 127 0))) (.gv 5 (.str "w" 0)) (.gv 7 (.str "." 0))) (.cons (.cst .none) (.cons (.cst (.str "" 0)) .nil))))) .nil)))
noncomputable def rn:S:=(.seq (.ret (.cst (.str "abcdefghijklmnopqrstuvwxyzABCDEFGHIJKLMNOPQRSTUVWXYZ0123456789" 0))) .nil)
noncomputable def fC:S:=(.seq (.asg 0 (.new 25 225 173 .nil)) (.seq (.exp (.meth (.loc 0) 33 (.cons (.bin .Add (.call (.gv 26 (.ref 236)) .nil) (.cst (.str "$%" 0))) (.cons (.cst (.str "w" 0)) .nil)))) (.seq (.exp (.meth (.loc 0) 33 (.cons (.cst (.str " \t\n\r\x0c" 0)) (.cons (.cst (.str " " 0)) .nil)))) (.seq (.exp (.meth (.loc 0) 33 (.cons (.cst (.str "_-+*/&|<>=" 0)) (.cons (.cst (.str "_" 0)) .nil)))) (.seq (.exp (.meth (.loc 0) 33 (.cons (.cst (.str ".,;:?!#@~^'`" 0)) (.cons (.cst (.str "." 0)) .nil)))) (.seq (.forU [1,2] (.tup (.cons (.tup (.cons (.cst (.str "(" 0)) (.cons (.cst (.str ")" 0)) .nil))) (.cons (.tup (.cons (.cst (.str "[" 0)) (.cons (.cst (.str "]" 0)) .nil))) (.cons (.tup (.cons (.cst (.str "{" 0)) (.cons (.cst (.str "}" 0)) .nil))) .nil)))) (.seq (.exp (.meth (.loc 0) 33 (.cons (.loc 1) (.cons (.bin .Add (.cst (.str "(" 0)) (.loc 2)) .nil)))) (.seq (.exp (.meth (.loc 0) 33 (.cons (.loc 2) (.cons (.bin .Add (.cst (.str ")" 0)) (.loc 1)) .nil)))) .nil))) (.seq (.exp (.meth (.loc 0) 33 (.cons (.cst (.str "\"" 0)) (.cons (.cst (.str "\"" 0)) .nil)))) (.seq (.exp (.meth (.loc 0) 33 (.cons (.cst (.str "\\" 0)) (.cons (.cst (.str "\\" 0)) .nil)))) (.seq (.ret (.loc 0)) .nil)))))))))
noncomputable def jK:S:=(.seq (.asg 0 (.new 25 225 173 (.cons (.call (.gv 27 (.ref 243)) .nil) .nil))) (.seq (.exp (.meth (.loc 0) 33 (.cons (.cst (.str "!$%&*+-./:<=>?@^_{}~|" 0)) (.cons (.cst (.str "_" 0)) .nil)))) (.seq (.exp (.meth (.loc 0) 33 (.cons (.cst (.str "\n" 0)) (.cons (.cst (.str ">" 0)) .nil)))) (.seq (.exp (.meth (.loc 0) 33 (.cons (.cst (.str ";" 0)) (.cons (.cst (.str "<" 0)) .nil)))) (.seq (.exp (.meth (.loc 0) 33 (.cons (.cst (.str "`'," 0)) (.cons (.cst (.str "'" 0)) .nil)))) (.seq (.exp (.meth (.loc 0) 33 (.cons (.cst (.str "@" 0)) (.cons (.cst (.str "_ p" 0)) .nil)))) (.seq (.exp (.meth (.loc 0) 33 (.cons (.cst (.str "#" 0)) (.cons (.cst (.str "' 14" 0)) .nil)))) (.seq (.exp (.meth (.loc 0) 33 (.cons (.cst (.str "|" 0)) (.cons (.cst (.str "_ 23bn" 0)) .nil)))) (.seq (.ret (.loc 0)) .nil)))))))))
noncomputable def mO:S:=(.seq (.fasg (.loc 0) 19 (.loc 1)) (.seq (.fasg (.loc 0) 7 (.loc 2)) (.seq (.fasg (.loc 0) 8 (.loc 3)) (.seq (.fasg (.loc 0) 20 (.loc 4)) .nil))))
noncomputable def mD:S:=(.seq (.asg 3 (.meth (.loc 0) 59 (.cons (.loc 2) .nil))) (.seq (.ret (.ite (.cmp .Lt (.loc 3) (.cst (.int 0 0))) (.cst .none) (.meth (.loc 1) 35 (.cons (.loc 3) .nil)))) .nil))
noncomputable def pR:S:=(.seq (.asg 2 (.ite (.meth (.loc 0) 30 (.cons (.cst (.str "b" 0)) .nil)) (.cst (.str "b" 0)) (.cst (.str "" 0)))) (.seq (.ret (.bin .Add (.loc 2) (.ite (.bor (.meth (.loc 0) 30 (.cons (.cst (.str "c" 0)) .nil)) (.meth (.loc 1) 30 (.cons (.cst (.str "c" 0)) .nil))) (.cst (.str "c" 0)) (.cst (.str "" 0))))) .nil))
noncomputable def pM:S:=(.seq (.unpT [3,4] (.cons (.call (.gv 30 (.ref 278)) (.cons (.loc 0) (.cons (.loc 1) (.cons (.loc 2) .nil)))) (.cons (.call (.gv 30 (.ref 278)) (.cons (.loc 0) (.cons (.loc 1) (.cons (.bin .Add (.loc 2) (.cst (.int 1 0))) .nil)))) .nil))) (.seq (.ite (.cmp .Is (.loc 3) (.cst .none)) (.seq (.ret (.cst .none)) .nil) .nil) (.seq (.ite (.band (.cmp .IsNot (.loc 4) (.cst .none)) (.band (.meth (.loc 3) 30 (.cons (.cst (.str "1" 0)) .nil)) (.meth (.loc 4) 30 (.cons (.cst (.str "2" 0)) .nil)))) (.seq (.ret (.new 29 267 264 (.cons (.cst (.int 2 0)) (.cons (.call (.gv 31 (.ref 285)) (.cons (.loc 4) (.cons (.loc 3) .nil))) (.cons (.bor (.meth (.loc 3) 30 (.cons (.cst (.str "n" 0)) .nil)) (.meth (.loc 4) 30 (.cons (.cst (.str "n" 0)) .nil))) (.cons (.cst (.bool false)) .nil)))))) .nil) .nil) (.seq (.ite (.cmp .Eq (.fld (.loc 3) 14) (.gv 15 (.str "<" 0))) (.seq (.ret (.new 29 267 264 (.cons (.cst (.int 1 0)) (.cons (.meth (.loc 3) 7 .nil) (.cons (.meth (.loc 3) 30 (.cons (.cst (.str "n" 0)) .nil)) (.cons (.cst (.bool false)) .nil)))))) .nil) .nil) (.seq (.ret (.ite (.cmp .Eq (.fld (.loc 3) 14) (.gv 18 (.str "!" 0))) (.new 29 267 264 (.cons (.cst (.int 1 0)) (.cons (.cst (.str "" 0)) (.cons (.cst (.bool false)) (.cons (.cst (.bool true)) .nil))))) (.cst .none))) .nil)))))
noncomputable def vZ:S:=(.seq (.unpT [3,4] (.cons (.call (.gv 30 (.ref 278)) (.cons (.loc 0) (.cons (.loc 1) (.cons (.loc 2) .nil)))) (.cons (.call (.gv 30 (.ref 278)) (.cons (.loc 0) (.cons (.loc 1) (.cons (.bin .Add (.loc 2) (.cst (.int 1 0))) .nil)))) .nil))) (.seq (.ite (.cmp .Is (.loc 3) (.cst .none)) (.seq (.ret (.cst .none)) .nil) .nil) (.seq (.ite (.band (.cmp .IsNot (.loc 4) (.cst .none)) (.band (.meth (.loc 3) 30 (.cons (.cst (.str "3" 0)) .nil)) (.meth (.loc 4) 30 (.cons (.cst (.str "4" 0)) .nil)))) (.seq (.ret (.new 29 267 264 (.cons (.cst (.int 2 0)) (.cons (.call (.gv 31 (.ref 285)) (.cons (.loc 3) (.cons (.loc 4) .nil))) (.cons (.bor (.meth (.loc 3) 30 (.cons (.cst (.str "n" 0)) .nil)) (.meth (.loc 4) 30 (.cons (.cst (.str "n" 0)) .nil))) (.cons (.cst (.bool false)) .nil)))))) .nil) .nil) (.seq (.ite (.cmp .Eq (.fld (.loc 3) 14) (.gv 16 (.str ">" 0))) (.seq (.ret (.new 29 267 264 (.cons (.cst (.int 1 0)) (.cons (.meth (.loc 3) 7 .nil) (.cons (.meth (.loc 3) 30 (.cons (.cst (.str "n" 0)) .nil)) (.cons (.cst (.bool false)) .nil)))))) .nil) .nil) (.seq (.ret (.ite (.cmp .Eq (.fld (.loc 3) 14) (.gv 18 (.str "!" 0))) (.new 29 267 264 (.cons (.cst (.int 1 0)) (.cons (.cst (.str "" 0)) (.cons (.cst (.bool false)) (.cons (.cst (.bool true)) .nil))))) (.cst .none))) .nil)))))
noncomputable def DX:S:=(.seq (.ite (.bor (.cmp .Is (.loc 0) (.cst .none)) (.cmp .NotEq (.fld (.loc 0) 20) (.loc 3))) (.seq (.ret (.cst (.bool false))) .nil) .nil) (.seq (.ret (.bor (.loc 3) (.band (.cmp .Eq (.fld (.loc 0) 7) (.loc 1)) (.cmp .Eq (.fld (.loc 0) 8) (.loc 2))))) .nil))
noncomputable def mj:S:=(.seq (.asg 3 (.cst (.int 0 0))) (.seq (.asg 4 (.call (.gv 30 (.ref 278)) (.cons (.loc 0) (.cons (.loc 1) (.cons (.bin .Sub (.loc 2) (.cst (.int 1 0))) .nil))))) (.seq (.whl (.band (.cmp .IsNot (.loc 4) (.cst .none)) (.meth (.loc 4) 31 .nil)) (.seq (.asg 3 (.bin .Add (.loc 3) (.cst (.int 1 0)))) (.seq (.asg 4 (.call (.gv 30 (.ref 278)) (.cons (.loc 0) (.cons (.loc 1) (.cons (.bin .Sub (.bin .Sub (.loc 2) (.cst (.int 1 0))) (.loc 3)) .nil))))) .nil))) (.seq (.ret (.cmp .Eq (.bin .Mod (.loc 3) (.cst (.int 2 0))) (.cst (.int 1 0)))) .nil))))
noncomputable def mJ:S:=(.seq (.fasg (.loc 0) 21 (.loc 1)) (.seq (.fasg (.loc 0) 22 (.loc 2)) (.seq (.fasg (.loc 0) 23 (.loc 3)) (.seq (.fasg (.loc 0) 0 (.blt .list (.cons (.fld (.loc 4) 0) .nil))) (.seq (.fasg (.loc 0) 1 (.fld (.loc 4) 1)) (.seq (.fasg (.loc 0) 2 (.fld (.loc 4) 2)) (.seq (.fasg (.loc 0) 3 (.fld (.loc 4) 3)) (.seq (.fasg (.loc 0) 4 (.fld (.loc 4) 4)) (.seq (.fasg (.loc 0) 5 (.fld (.loc 4) 5)) (.seq (.fasg (.loc 0) 6 (.fld (.loc 4) 6)) (.seq (.fasg (.loc 0) 7 (.fld (.loc 4) 7)) (.seq (.fasg (.loc 0) 8 (.fld (.loc 4) 8)) (.seq (.fasg (.loc 0) 9 (.fld (.loc 4) 9)) (.seq (.fasg (.loc 0) 10 (.fld (.loc 4) 10)) (.seq (.fasg (.loc 0) 11 (.fld (.loc 4) 11)) .nil)))))))))))))))
noncomputable def kJ:S:=(.seq (.asg 1 (.tup (.cons (.fld (.loc 0) 5) (.cons (.fld (.loc 0) 6) (.cons (.fld (.loc 0) 7) (.cons (.fld (.loc 0) 8) (.cons (.fld (.loc 0) 9) (.cons (.fld (.loc 0) 10) (.cons (.fld (.loc 0) 11) .nil))))))))) (.seq (.ret (.call (.gv 2 (.ref 79)) (.cons (.bin .Add (.tup (.cons (.blt .tuple (.cons (.fld (.loc 0) 0) .nil)) (.cons (.fld (.loc 0) 1) (.cons (.fld (.loc 0) 2) (.cons (.fld (.loc 0) 3) (.cons (.fld (.loc 0) 4) .nil)))))) (.loc 1)) .nil))) .nil))
noncomputable def jT:S:=(.seq (.ret (.bin .Sub (.blt .len (.cons (.fld (.loc 0) 0) .nil)) (.fld (.loc 0) 1))) .nil)
noncomputable def fY:S:=(.seq (.ite (.cmp .IsNot (.fld (.loc 0) 4) (.cst .none)) (.seq (.fasg (.loc 0) 3 (.fld (.loc 0) 4)) (.seq (.fasg (.loc 0) 4 (.cst .none)) .nil)) .nil) .nil)
noncomputable def d8:S:=(.seq (.ite (.cmp .Is (.fld (.loc 0) 4) (.cst .none)) (.seq (.fasg (.loc 0) 4 (.fld (.loc 0) 23)) .nil) .nil) .nil)
noncomputable def ie:S:=(.seq (.exp (.meth (.loc 0) 37 .nil)) (.seq (.exp (.bm (.fld (.loc 0) 0) .append (.cons (.loc 1) .nil))) (.seq (.fasg (.loc 0) 3 (.cst .none)) .nil)))
noncomputable def kO:S:=(.seq (.exp (.meth (.loc 0) 37 .nil)) (.seq (.ite (.cmp .Eq (.fld (.loc 0) 0) (.lst .nil)) (.seq (.fasg (.loc 0) 1 (.bin .Add (.fld (.loc 0) 1) (.cst (.int 1 0)))) (.seq (.fasg (.loc 0) 3 (.cst .none)) .nil)) (.seq (.fasg (.loc 0) 3 (.bm (.fld (.loc 0) 0) .pop .nil)) .nil)) (.seq (.fasg (.loc 0) 2 (.blt .min (.cons (.fld (.loc 0) 2) (.cons (.meth (.loc 0) 24 .nil) .nil)))) .nil)))
noncomputable def cU:S:=(.seq (.exp (.meth (.loc 0) 37 .nil)) (.seq (.fasg (.loc 0) 6 (.ite (.fld (.loc 1) 20) (.neg (.cst (.int 1 0))) (.cst (.int 1 0)))) (.seq (.fasg (.loc 0) 7 (.fld (.loc 1) 7)) (.seq (.fasg (.loc 0) 8 (.fld (.loc 1) 8)) (.seq (.fasg (.loc 0) 9 (.loc 2)) .nil)))))
noncomputable def bW:S:=(.seq (.ite (.cmp .Gt (.fld (.loc 0) 6) (.cst (.int 1 0))) (.seq (.fasg (.loc 0) 6 (.bin .Sub (.fld (.loc 0) 6) (.cst (.int 1 0)))) .nil) (.seq (.fasg (.loc 0) 6 (.cst (.int 0 0))) (.seq (.fasg (.loc 0) 7 (.cst (.str "" 0))) (.seq (.fasg (.loc 0) 8 (.cst (.bool false))) (.seq (.fasg (.loc 0) 9 (.cst .none)) .nil))))) .nil)
noncomputable def dw:S:=(.seq (.exp (.meth (.loc 0) 37 .nil)) (.seq (.fasg (.loc 0) 5 (.loc 1)) (.seq (.fasg (.loc 0) 9 (.fld (.loc 0) 23)) .nil)))
noncomputable def eX:S:=(.seq (.fasg (.loc 0) 3 (.fld (.loc 0) 9)) (.seq (.fasg (.loc 0) 5 (.cst .none)) (.seq (.fasg (.loc 0) 9 (.cst .none)) .nil)))
noncomputable def lO:S:=(.seq (.ite (.band (.cmp .Eq (.fld (.loc 1) 19) (.cst (.int 2 0))) (.cmp .GtE (.bin .Add (.fld (.loc 0) 23) (.cst (.int 1 0))) (.loc 3))) (.seq (.fasg (.loc 0) 23 (.bin .Add (.fld (.loc 0) 23) (.cst (.int 1 0)))) (.seq (.fasg (.loc 0) 11 (.loc 2)) (.seq (.ret (.cst (.bool false))) .nil))) .nil) (.seq (.fasg (.loc 0) 23 (.bin .Add (.fld (.loc 0) 23) (.fld (.loc 1) 19))) (.seq (.ret (.cst (.bool true))) .nil)))
noncomputable def cI:S:=(.seq (.asg 2 (.cmp .Lt (.fld (.loc 0) 6) (.cst (.int 0 0)))) (.seq (.ite (.call (.gv 34 (.ref 306)) (.cons (.call (.gv 33 (.ref 299)) (.cons (.fld (.loc 0) 21) (.cons (.fld (.loc 0) 22) (.cons (.fld (.loc 0) 23) .nil)))) (.cons (.fld (.loc 0) 7) (.cons (.fld (.loc 0) 8) (.cons (.loc 2) .nil))))) (.seq (.ite (.meth (.loc 0) 45 (.cons (.call (.gv 33 (.ref 299)) (.cons (.fld (.loc 0) 21) (.cons (.fld (.loc 0) 22) (.cons (.fld (.loc 0) 23) .nil)))) (.cons (.cst (.str "end" 0)) (.cons (.loc 1) .nil)))) (.seq (.exp (.meth (.loc 0) 42 .nil)) .nil) .nil) (.seq (.ret (.cst .none)) .nil)) .nil) (.seq (.asg 3 (.call (.gv 32 (.ref 292)) (.cons (.fld (.loc 0) 21) (.cons (.fld (.loc 0) 22) (.cons (.fld (.loc 0) 23) .nil))))) (.seq (.ite (.band (.fld (.loc 0) 8) (.call (.gv 34 (.ref 306)) (.cons (.loc 3) (.cons (.fld (.loc 0) 7) (.cons (.cst (.bool true)) (.cons (.cst (.bool false)) .nil)))))) (.seq (.ite (.meth (.loc 0) 45 (.cons (.loc 3) (.cons (.cst (.str "nest" 0)) (.cons (.loc 1) .nil)))) (.seq (.fasg (.loc 0) 6 (.bin .Add (.fld (.loc 0) 6) (.cst (.int 1 0)))) .nil) .nil) (.seq (.ret (.cst .none)) .nil)) .nil) (.seq (.fasg (.loc 0) 23 (.bin .Add (.fld (.loc 0) 23) (.cst (.int 1 0)))) .nil)))))
noncomputable def cQ:S:=(.seq (.asg 1 (.meth (.fld (.loc 0) 21) 59 (.cons (.fld (.loc 0) 23) .nil))) (.seq (.asg 2 (.meth (.fld (.loc 0) 22) 35 (.cons (.loc 1) .nil))) (.seq (.ite (.fld (.loc 0) 10) (.seq (.fasg (.loc 0) 10 (.cst (.bool false))) .nil) (.seq (.ite (.meth (.loc 2) 31 .nil) (.seq (.fasg (.loc 0) 10 (.cst (.bool true))) .nil) (.seq (.ite (.bor (.band (.cmp .Eq (.fld (.loc 0) 5) (.cst (.int 0 0))) (.cmp .Eq (.fld (.loc 2) 14) (.gv 19 (.str "|" 0)))) (.band (.cmp .Eq (.loc 1) (.fld (.loc 0) 5)) (.cmp .Eq (.fld (.loc 2) 14) (.gv 11 (.str "\"" 0))))) (.seq (.exp (.meth (.loc 0) 44 .nil)) .nil) .nil) .nil)) .nil)) (.seq (.fasg (.loc 0) 23 (.bin .Add (.fld (.loc 0) 23) (.cst (.int 1 0)))) .nil))))
noncomputable def pq:S:=(.seq (.asg 1 (.fld (.loc 0) 11)) (.seq (.fasg (.loc 0) 11 (.cst (.str "" 0))) (.seq (.ite (.cmp .Eq (.loc 1) (.cst (.str "begin" 0))) (.seq (.exp (.meth (.loc 0) 41 (.cons (.call (.gv 32 (.ref 292)) (.cons (.fld (.loc 0) 21) (.cons (.fld (.loc 0) 22) (.cons (.bin .Sub (.fld (.loc 0) 23) (.cst (.int 1 0))) .nil)))) (.cons (.bin .Sub (.fld (.loc 0) 23) (.cst (.int 1 0))) .nil)))) .nil) (.seq (.ite (.cmp .Eq (.loc 1) (.cst (.str "nest" 0))) (.seq (.fasg (.loc 0) 6 (.bin .Add (.fld (.loc 0) 6) (.cst (.int 1 0)))) .nil) (.seq (.exp (.meth (.loc 0) 42 .nil)) .nil)) .nil)) (.seq (.fasg (.loc 0) 23 (.bin .Add (.fld (.loc 0) 23) (.cst (.int 1 0)))) .nil))))
noncomputable def eO:S:=(.seq (.ite (.fld (.loc 0) 10) (.seq (.fasg (.loc 0) 10 (.cst (.bool false))) (.seq (.fasg (.loc 0) 23 (.bin .Add (.fld (.loc 0) 23) (.cst (.int 1 0)))) (.seq (.ret (.cst .none)) .nil))) .nil) (.seq (.asg 2 (.call (.gv 32 (.ref 292)) (.cons (.fld (.loc 0) 21) (.cons (.fld (.loc 0) 22) (.cons (.fld (.loc 0) 23) .nil))))) (.seq (.ite (.cmp .IsNot (.loc 2) (.cst .none)) (.seq (.asg 3 (.fld (.loc 0) 23)) (.seq (.ite (.meth (.loc 0) 45 (.cons (.loc 2) (.cons (.cst (.str "begin" 0)) (.cons (.loc 1) .nil)))) (.seq (.exp (.meth (.loc 0) 41 (.cons (.loc 2) (.cons (.loc 3) .nil)))) .nil) (.seq (.exp (.meth (.loc 0) 37 .nil)) .nil)) (.seq (.ret (.cst .none)) .nil))) .nil) (.seq (.asg 4 (.call (.gv 30 (.ref 278)) (.cons (.fld (.loc 0) 21) (.cons (.fld (.loc 0) 22) (.cons (.fld (.loc 0) 23) .nil))))) (.seq (.ite (.not (.meth (.loc 4) 30 (.cons (.cst (.str "p" 0)) .nil))) (.seq (.exp (.meth (.loc 0) 50 (.cons (.loc 4) .nil))) .nil) .nil) (.seq (.fasg (.loc 0) 23 (.bin .Add (.fld (.loc 0) 23) (.cst (.int 1 0)))) .nil))))))
noncomputable def du:S:=(.seq (.ite (.meth (.loc 1) 31 .nil) (.seq (.exp (.meth (.loc 0) 38 .nil)) (.seq (.fasg (.loc 0) 10 (.cst (.bool true))) .nil)) (.seq (.ite (.meth (.loc 1) 32 .nil) (.seq (.exp (.meth (.loc 0) 38 .nil)) .nil) (.seq (.ite (.cmp .Eq (.fld (.loc 1) 14) (.gv 8 (.str "(" 0))) (.seq (.exp (.meth (.loc 0) 39 (.cons (.fld (.loc 0) 23) .nil))) .nil) (.seq (.ite (.cmp .Eq (.fld (.loc 1) 14) (.gv 9 (.str ")" 0))) (.seq (.exp (.meth (.loc 0) 40 .nil)) .nil) (.seq (.ite (.cmp .Eq (.fld (.loc 1) 14) (.gv 11 (.str "\"" 0))) (.seq (.exp (.meth (.loc 0) 43 (.cons (.meth (.fld (.loc 0) 21) 59 (.cons (.fld (.loc 0) 23) .nil)) .nil))) .nil) (.seq (.ite (.cmp .Eq (.fld (.loc 1) 14) (.gv 19 (.str "|" 0))) (.seq (.exp (.meth (.loc 0) 43 (.cons (.cst (.int 0 0)) .nil))) .nil) (.seq (.ite (.cmp .NotEq (.fld (.loc 1) 14) (.gv 10 (.str "'" 0))) (.seq (.exp (.meth (.loc 0) 37 .nil)) .nil) .nil) .nil)) .nil)) .nil)) .nil)) .nil)) .nil)) .nil)
noncomputable def lQ:S:=(.seq (.ite (.cmp .NotEq (.fld (.loc 0) 11) (.cst (.str "" 0))) (.seq (.exp (.meth (.loc 0) 48 .nil)) .nil) (.seq (.ite (.cmp .NotEq (.fld (.loc 0) 6) (.cst (.int 0 0))) (.seq (.exp (.meth (.loc 0) 46 (.cons (.loc 1) .nil))) .nil) (.seq (.ite (.cmp .IsNot (.fld (.loc 0) 5) (.cst .none)) (.seq (.exp (.meth (.loc 0) 47 .nil)) .nil) (.seq (.exp (.meth (.loc 0) 49 (.cons (.loc 1) .nil))) .nil)) .nil)) .nil)) .nil)
noncomputable def nU:S:=(.seq (.ite (.bor (.cmp .NotEq (.fld (.loc 0) 11) (.cst (.str "" 0))) (.bor (.fld (.loc 0) 10) (.bor (.cmp .IsNot (.fld (.loc 0) 4) (.cst .none)) (.bor (.cmp .NotEq (.fld (.loc 0) 6) (.cst (.int 0 0))) (.cmp .IsNot (.fld (.loc 0) 5) (.cst .none)))))) (.seq (.ret (.cst (.bool false))) .nil) .nil) (.seq (.ite (.cmp .IsNot (.call (.gv 32 (.ref 292)) (.cons (.fld (.loc 0) 21) (.cons (.fld (.loc 0) 22) (.cons (.fld (.loc 0) 23) .nil)))) (.cst .none)) (.seq (.ret (.cst (.bool false))) .nil) .nil) (.seq (.asg 1 (.call (.gv 30 (.ref 278)) (.cons (.fld (.loc 0) 21) (.cons (.fld (.loc 0) 22) (.cons (.fld (.loc 0) 23) .nil))))) (.seq (.ite (.meth (.loc 1) 30 (.cons (.cst (.str "p" 0)) .nil)) (.seq (.ret (.cst (.bool false))) .nil) .nil) (.seq (.ret (.bor (.meth (.loc 1) 31 .nil) (.bor (.meth (.loc 1) 32 .nil) (.cmp .In (.fld (.loc 1) 14) (.tup (.cons (.gv 8 (.str "(" 0)) (.cons (.gv 11 (.str "\"" 0)) (.cons (.gv 19 (.str "|" 0)) .nil)))))))) .nil)))))
noncomputable def fX:S:=(.seq (.asg 8 (.new 36 449 327 (.cons (.loc 0) (.cons (.loc 1) (.cons (.loc 2) (.cons (.ite (.cmp .Is (.loc 4) (.cst .none)) (.new 1 68 37 .nil) (.loc 4)) .nil)))))) (.seq (.whl (.cmp .Lt (.fld (.loc 8) 23) (.loc 3)) (.seq (.ite (.band (.loc 6) (.call (.gv 37 (.ref 460)) (.cons (.loc 8) .nil))) (.seq .brk .nil) .nil) (.seq (.unpT [9,10] (.cons (.meth (.loc 8) 24 .nil) (.cons (.fld (.loc 8) 6) .nil))) (.seq (.exp (.meth (.loc 8) 51 (.cons (.loc 3) .nil))) (.seq (.ite (.band (.cmp .IsNot (.loc 5) (.cst .none)) (.band (.cmp .NotEq (.meth (.loc 8) 24 .nil) (.loc 9)) (.cmp .Eq (.meth (.loc 8) 24 .nil) (.loc 5)))) (.seq .brk .nil) .nil) (.seq (.ite (.band (.loc 7) (.band (.cmp .Eq (.loc 10) (.cst (.int 0 0))) (.cmp .NotEq (.fld (.loc 8) 6) (.cst (.int 0 0))))) (.seq .brk .nil) .nil) .nil)))))) (.seq (.ret (.tup (.cons (.fld (.loc 8) 23) (.cons (.meth (.loc 8) 36 .nil) .nil)))) .nil)))
noncomputable def oJ:S:=(.seq (.ret (.idx (.call (.gv 38 (.ref 468)) (.cons (.loc 0) (.cons (.loc 1) (.cons (.meth (.loc 0) 57 .nil) (.cons (.loc 2) .nil))))) (.cst (.int 1 0)))) .nil)
noncomputable def iU:S:=(.seq (.asg 3 (.new 36 449 327 (.cons (.loc 0) (.cons (.loc 1) (.cons (.loc 2) (.cons (.new 1 68 37 .nil) .nil)))))) (.seq (.exp (.meth (.loc 3) 51 (.cons (.meth (.loc 0) 58 .nil) .nil))) (.seq (.whl (.cmp .NotEq (.fld (.loc 3) 6) (.cst (.int 0 0))) (.seq (.ite (.cmp .GtE (.fld (.loc 3) 23) (.meth (.loc 0) 58 .nil)) (.seq (.ret (.cst .none)) .nil) .nil) (.seq (.exp (.meth (.loc 3) 51 (.cons (.meth (.loc 0) 58 .nil) .nil))) .nil))) (.seq (.ret (.fld (.loc 3) 23)) .nil))))
noncomputable def oO:S:=(.seq (.asg 3 (.new 36 449 327 (.cons (.loc 0) (.cons (.loc 1) (.cons (.meth (.loc 0) 57 .nil) (.cons (.new 1 68 37 .nil) .nil)))))) (.seq (.unpT [4,5] (.cons .dct (.cons .dct .nil))) (.seq (.whl (.cmp .Lt (.fld (.loc 3) 23) (.loc 2)) (.seq (.unpT [6,7,8] (.cons (.fld (.loc 3) 9) (.cons (.fld (.loc 3) 6) (.cons (.fld (.loc 3) 5) .nil)))) (.seq (.exp (.meth (.loc 3) 51 (.cons (.meth (.loc 0) 58 .nil) .nil))) (.seq (.ite (.band (.cmp .NotEq (.loc 7) (.cst (.int 0 0))) (.cmp .Eq (.fld (.loc 3) 6) (.cst (.int 0 0)))) (.seq (.iasg (.loc 4) (.fld (.loc 3) 23) (.loc 6)) .nil) (.seq (.ite (.band (.cmp .IsNot (.loc 8) (.cst .none)) (.cmp .Is (.fld (.loc 3) 5) (.cst .none))) (.seq (.iasg (.loc 5) (.fld (.loc 3) 23) (.loc 6)) .nil) .nil) .nil)) .nil)))) (.seq (.ret (.tup (.cons (.loc 4) (.cons (.loc 5) .nil)))) .nil))))
noncomputable def lV:S:=(.seq (.fasg (.loc 0) 21 (.loc 1)) (.seq (.fasg (.loc 0) 22 (.loc 2)) (.seq (.fasg (.loc 0) 23 (.loc 3)) (.seq (.fasg (.loc 0) 24 (.loc 4)) (.seq (.fasg (.loc 0) 2 (.ite (.cmp .Gt (.loc 4) (.cst (.int 0 0))) (.cst (.int 0 0)) (.loc 4))) (.seq (.fasg (.loc 0) 25 (.loc 3)) (.seq (.fasg (.loc 0) 26 (.loc 5)) (.seq (.fasg (.loc 0) 27 (.cst (.bool false))) (.seq (.fasg (.loc 0) 28 (.cst (.bool false))) .nil)))))))))
noncomputable def iZ:S:=(.seq (.ret (.band (.fld (.loc 0) 26) (.cmp .Eq (.fld (.loc 0) 24) (.cst (.int 0 0))))) .nil)
noncomputable def zV:S:=(.seq (.raise_ (.cons (.cst (.str "scan-error" 0)) (.cons (.lst (.cons (.gv 43 (.str "Unbalanced parentheses" 0)) (.cons (.fld (.loc 0) 25) (.cons (.fld (.loc 0) 23) .nil)))) .nil))) .nil)
noncomputable def iR:S:=(.seq (.fasg (.loc 0) 24 (.bin .Add (.fld (.loc 0) 24) (.cst (.int 1 0)))) (.seq (.fasg (.loc 0) 28 (.cmp .Eq (.fld (.loc 0) 24) (.cst (.int 0 0)))) .nil))
noncomputable def dg:S:=(.seq (.fasg (.loc 0) 24 (.bin .Sub (.fld (.loc 0) 24) (.cst (.int 1 0)))) (.seq (.fasg (.loc 0) 28 (.cmp .Eq (.fld (.loc 0) 24) (.cst (.int 0 0)))) (.seq (.ite (.cmp .Lt (.fld (.loc 0) 24) (.fld (.loc 0) 2)) (.seq (.raise_ (.cons (.cst (.str "scan-error" 0)) (.cons (.lst (.cons (.gv 42 (.str "Containing expression ends prematurely" 0)) (.cons (.fld (.loc 0) 25) (.cons (.loc 1) .nil)))) .nil))) .nil) .nil) .nil)))
noncomputable def Bq:S:=(.seq (.ite (.fld (.loc 0) 26) (.seq (.fasg (.loc 0) 27 (.not (.fld (.loc 0) 27))) (.seq (.ite (.fld (.loc 0) 27) (.seq (.exp (.meth (.loc 0) 54 .nil)) .nil) (.seq (.exp (.meth (.loc 0) 55 (.cons (.loc 1) .nil))) .nil)) .nil)) .nil) .nil)
noncomputable def kj:S:=(.seq (.asg 3 (.call (.gv 30 (.ref 278)) (.cons (.loc 0) (.cons (.loc 1) (.cons (.loc 2) .nil))))) (.seq (.asg 4 (.meth (.loc 0) 59 (.cons (.loc 2) .nil))) (.seq (.asg 5 (.bin .Add (.loc 2) (.cst (.int 1 0)))) (.seq (.whl (.cmp .Lt (.loc 5) (.meth (.loc 0) 58 .nil)) (.seq (.asg 6 (.call (.gv 30 (.ref 278)) (.cons (.loc 0) (.cons (.loc 1) (.cons (.loc 5) .nil))))) (.seq (.ite (.band (.cmp .Eq (.fld (.loc 6) 14) (.fld (.loc 3) 14)) (.bor (.cmp .Eq (.fld (.loc 3) 14) (.gv 19 (.str "|" 0))) (.cmp .Eq (.meth (.loc 0) 59 (.cons (.loc 5) .nil)) (.loc 4)))) (.seq (.ret (.bin .Add (.loc 5) (.cst (.int 1 0)))) .nil) .nil) (.seq (.asg 5 (.ite (.meth (.loc 6) 31 .nil) (.bin .Add (.loc 5) (.cst (.int 2 0))) (.bin .Add (.loc 5) (.cst (.int 1 0))))) .nil)))) (.seq (.ret (.cst .none)) .nil)))))
noncomputable def ph:S:=(.seq (.unpT [1,2] (.cons (.fld (.loc 0) 21) (.cons (.fld (.loc 0) 22) .nil))) (.seq (.whl (.band (.cmp .Lt (.fld (.loc 0) 23) (.meth (.loc 1) 58 .nil)) (.cmp .Is (.call (.gv 32 (.ref 292)) (.cons (.loc 1) (.cons (.loc 2) (.cons (.fld (.loc 0) 23) .nil)))) (.cst .none))) (.seq (.asg 3 (.call (.gv 30 (.ref 278)) (.cons (.loc 1) (.cons (.loc 2) (.cons (.fld (.loc 0) 23) .nil))))) (.seq (.ite (.meth (.loc 3) 31 .nil) (.seq (.fasg (.loc 0) 23 (.bin .Add (.fld (.loc 0) 23) (.cst (.int 1 0)))) (.seq (.ite (.cmp .GtE (.fld (.loc 0) 23) (.meth (.loc 1) 58 .nil)) (.seq (.exp (.meth (.loc 0) 53 .nil)) .nil) .nil) .nil)) (.seq (.ite (.band (.not (.meth (.loc 3) 32 .nil)) (.cmp .NotEq (.fld (.loc 3) 14) (.gv 10 (.str "'" 0)))) (.seq (.ret (.cst .none)) .nil) .nil) .nil)) (.seq (.fasg (.loc 0) 23 (.bin .Add (.fld (.loc 0) 23) (.cst (.int 1 0)))) .nil)))) .nil))
noncomputable def gV:S:=(.seq (.unpT [1,2] (.cons (.fld (.loc 0) 21) (.cons (.fld (.loc 0) 22) .nil))) (.seq (.ite (.cmp .IsNot (.call (.gv 32 (.ref 292)) (.cons (.loc 1) (.cons (.loc 2) (.cons (.fld (.loc 0) 23) .nil)))) (.cst .none)) (.seq (.asg 3 (.call (.gv 40 (.ref 482)) (.cons (.loc 1) (.cons (.loc 2) (.cons (.fld (.loc 0) 23) .nil))))) (.seq (.fasg (.loc 0) 28 (.band (.cmp .Is (.loc 3) (.cst .none)) (.cmp .Eq (.fld (.loc 0) 24) (.cst (.int 0 0))))) (.seq (.fasg (.loc 0) 23 (.ite (.cmp .Is (.loc 3) (.cst .none)) (.meth (.loc 1) 58 .nil) (.loc 3))) (.seq (.ret (.cst .none)) .nil)))) .nil) (.seq (.asg 4 (.call (.gv 30 (.ref 278)) (.cons (.loc 1) (.cons (.loc 2) (.cons (.fld (.loc 0) 23) .nil))))) (.seq (.ite (.meth (.loc 4) 30 (.cons (.cst (.str "p" 0)) .nil)) (.seq (.fasg (.loc 0) 23 (.bin .Add (.fld (.loc 0) 23) (.cst (.int 1 0)))) .nil) (.seq (.ite (.bor (.meth (.loc 4) 31 .nil) (.meth (.loc 4) 32 .nil)) (.seq (.ite (.meth (.loc 0) 52 .nil) (.seq (.exp (.call (.gv 46 (.ref 559)) (.cons (.loc 0) .nil))) (.seq (.fasg (.loc 0) 28 (.cst (.bool true))) .nil)) (.seq (.fasg (.loc 0) 23 (.bin .Add (.fld (.loc 0) 23) (.ite (.meth (.loc 4) 31 .nil) (.cst (.int 2 0)) (.cst (.int 1 0))))) .nil)) .nil) (.seq (.ite (.bor (.cmp .Eq (.fld (.loc 4) 14) (.gv 11 (.str "\"" 0))) (.cmp .Eq (.fld (.loc 4) 14) (.gv 19 (.str "|" 0)))) (.seq (.asg 3 (.call (.gv 45 (.ref 552)) (.cons (.loc 1) (.cons (.loc 2) (.cons (.fld (.loc 0) 23) .nil))))) (.seq (.ite (.cmp .Is (.loc 3) (.cst .none)) (.seq (.fasg (.loc 0) 23 (.meth (.loc 1) 58 .nil)) (.seq (.exp (.meth (.loc 0) 53 .nil)) .nil)) .nil) (.seq (.fasg (.loc 0) 23 (.loc 3)) (.seq (.fasg (.loc 0) 28 (.meth (.loc 0) 52 .nil)) .nil)))) (.seq (.fasg (.loc 0) 23 (.bin .Add (.fld (.loc 0) 23) (.cst (.int 1 0)))) (.seq (.exp (.call (.gv 48 (.ref 573)) (.cons (.loc 0) (.cons (.fld (.loc 4) 14) (.cons (.gv 8 (.str "(" 0)) (.cons (.gv 9 (.str ")" 0)) .nil)))))) .nil))) .nil)) .nil)) .nil))))
noncomputable def dO:S:=(.seq (.ite (.cmp .Eq (.loc 1) (.loc 2)) (.seq (.exp (.meth (.loc 0) 54 .nil)) .nil) (.seq (.ite (.cmp .Eq (.loc 1) (.loc 3)) (.seq (.exp (.meth (.loc 0) 55 (.cons (.fld (.loc 0) 23) .nil))) .nil) (.seq (.ite (.cmp .Eq (.loc 1) (.gv 14 (.str "$" 0))) (.seq (.exp (.meth (.loc 0) 56 (.cons (.fld (.loc 0) 23) .nil))) .nil) .nil) .nil)) .nil)) .nil)
noncomputable def jb:S:=(.seq (.asg 5 (.new 44 541 503 (.cons (.loc 0) (.cons (.loc 1) (.cons (.loc 2) (.cons (.loc 3) (.cons (.loc 4) .nil))))))) (.seq (.whl (.cmp .Lt (.fld (.loc 5) 23) (.meth (.loc 0) 58 .nil)) (.seq (.ite (.cmp .Eq (.fld (.loc 5) 24) (.fld (.loc 5) 2)) (.seq (.fasg (.loc 5) 25 (.fld (.loc 5) 23)) .nil) .nil) (.seq (.exp (.call (.gv 47 (.ref 566)) (.cons (.loc 5) .nil))) (.seq (.ite (.fld (.loc 5) 28) (.seq (.ret (.fld (.loc 5) 23)) .nil) .nil) .nil)))) (.seq (.ite (.cmp .NotEq (.fld (.loc 5) 24) (.cst (.int 0 0))) (.seq (.exp (.meth (.loc 5) 53 .nil)) .nil) .nil) (.seq (.ret (.cst .none)) .nil))))
noncomputable def uT:S:=(.seq (.asg 3 (.call (.gv 30 (.ref 278)) (.cons (.loc 0) (.cons (.loc 1) (.cons (.loc 2) .nil))))) (.seq (.asg 4 (.loc 2)) (.seq (.whl (.cmp .Gt (.loc 4) (.meth (.loc 0) 57 .nil)) (.seq (.asg 4 (.bin .Sub (.loc 4) (.cst (.int 1 0)))) (.seq (.asg 5 (.call (.gv 30 (.ref 278)) (.cons (.loc 0) (.cons (.loc 1) (.cons (.loc 4) .nil))))) (.seq (.asg 6 (.bor (.cmp .Eq (.fld (.loc 3) 14) (.gv 19 (.str "|" 0))) (.cmp .Eq (.meth (.loc 0) 59 (.cons (.loc 4) .nil)) (.meth (.loc 0) 59 (.cons (.loc 2) .nil))))) (.seq (.ite (.band (.cmp .Eq (.fld (.loc 5) 14) (.fld (.loc 3) 14)) (.band (.loc 6) (.not (.call (.gv 35 (.ref 313)) (.cons (.loc 0) (.cons (.loc 1) (.cons (.loc 4) .nil))))))) (.seq (.ret (.loc 4)) .nil) .nil) .nil))))) (.seq (.ret (.cst .none)) .nil))))
noncomputable def jP:S:=(.seq (.unpT [2,3] (.cons (.fld (.loc 0) 21) (.cons (.fld (.loc 0) 22) .nil))) (.seq (.whl (.band (.cmp .Gt (.fld (.loc 0) 23) (.meth (.loc 2) 57 .nil)) (.cmp .NotIn (.fld (.loc 0) 23) (.loc 1))) (.seq (.ite (.call (.gv 35 (.ref 313)) (.cons (.loc 2) (.cons (.loc 3) (.cons (.bin .Sub (.fld (.loc 0) 23) (.cst (.int 1 0))) .nil)))) (.seq (.fasg (.loc 0) 23 (.bin .Sub (.fld (.loc 0) 23) (.cst (.int 2 0)))) .nil) (.seq (.asg 4 (.call (.gv 30 (.ref 278)) (.cons (.loc 2) (.cons (.loc 3) (.cons (.bin .Sub (.fld (.loc 0) 23) (.cst (.int 1 0))) .nil))))) (.seq (.ite (.band (.not (.meth (.loc 4) 32 .nil)) (.band (.not (.meth (.loc 4) 31 .nil)) (.cmp .NotEq (.fld (.loc 4) 14) (.gv 10 (.str "'" 0))))) (.seq (.ret (.cst .none)) .nil) .nil) (.seq (.fasg (.loc 0) 23 (.bin .Sub (.fld (.loc 0) 23) (.cst (.int 1 0)))) .nil)))) .nil)) .nil))
noncomputable def fV:S:=(.seq (.unpT [3,4] (.cons (.fld (.loc 0) 21) (.cons (.fld (.loc 0) 22) .nil))) (.seq (.ite (.cmp .In (.fld (.loc 0) 23) (.loc 1)) (.seq (.fasg (.loc 0) 23 (.idx (.loc 1) (.fld (.loc 0) 23))) (.seq (.ret (.cst .none)) .nil)) .nil) (.seq (.asg 5 (.call (.gv 30 (.ref 278)) (.cons (.loc 3) (.cons (.loc 4) (.cons (.bin .Sub (.fld (.loc 0) 23) (.cst (.int 1 0))) .nil))))) (.seq (.asg 6 (.call (.gv 35 (.ref 313)) (.cons (.loc 3) (.cons (.loc 4) (.cons (.bin .Sub (.fld (.loc 0) 23) (.cst (.int 1 0))) .nil))))) (.seq (.ite (.bor (.loc 6) (.bor (.meth (.loc 5) 31 .nil) (.band (.meth (.loc 5) 32 .nil) (.not (.meth (.loc 5) 30 (.cons (.cst (.str "p" 0)) .nil)))))) (.seq (.ite (.meth (.loc 0) 52 .nil) (.seq (.exp (.call (.gv 51 (.ref 594)) (.cons (.loc 0) (.cons (.loc 1) .nil)))) (.seq (.fasg (.loc 0) 28 (.cst (.bool true))) .nil)) (.seq (.fasg (.loc 0) 23 (.bin .Sub (.fld (.loc 0) 23) (.ite (.loc 6) (.cst (.int 2 0)) (.cst (.int 1 0))))) .nil)) .nil) (.seq (.ite (.meth (.loc 5) 30 (.cons (.cst (.str "p" 0)) .nil)) (.seq (.fasg (.loc 0) 23 (.bin .Sub (.fld (.loc 0) 23) (.cst (.int 1 0)))) .nil) (.seq (.ite (.bor (.cmp .Eq (.fld (.loc 5) 14) (.gv 11 (.str "\"" 0))) (.cmp .Eq (.fld (.loc 5) 14) (.gv 19 (.str "|" 0)))) (.seq (.asg 7 (.bm (.loc 2) .get (.cons (.fld (.loc 0) 23) (.cons (.cst .none) .nil)))) (.seq (.asg 7 (.ite (.cmp .Is (.loc 7) (.cst .none)) (.call (.gv 50 (.ref 587)) (.cons (.loc 3) (.cons (.loc 4) (.cons (.bin .Sub (.fld (.loc 0) 23) (.cst (.int 1 0))) .nil)))) (.loc 7))) (.seq (.ite (.cmp .Is (.loc 7) (.cst .none)) (.seq (.fasg (.loc 0) 23 (.meth (.loc 3) 57 .nil)) (.seq (.exp (.meth (.loc 0) 53 .nil)) .nil)) .nil) (.seq (.fasg (.loc 0) 23 (.loc 7)) (.seq (.fasg (.loc 0) 28 (.meth (.loc 0) 52 .nil)) .nil))))) (.seq (.fasg (.loc 0) 23 (.bin .Sub (.fld (.loc 0) 23) (.cst (.int 1 0)))) (.seq (.exp (.call (.gv 48 (.ref 573)) (.cons (.loc 0) (.cons (.fld (.loc 5) 14) (.cons (.gv 9 (.str ")" 0)) (.cons (.gv 8 (.str "(" 0)) .nil)))))) .nil))) .nil)) .nil)) .nil)))))
noncomputable def ik:S:=(.seq (.unp [5,6] (.call (.gv 41 (.ref 489)) (.cons (.loc 0) (.cons (.loc 1) (.cons (.loc 2) .nil))))) (.seq (.asg 7 (.new 44 541 503 (.cons (.loc 0) (.cons (.loc 1) (.cons (.loc 2) (.cons (.loc 3) (.cons (.loc 4) .nil))))))) (.seq (.whl (.cmp .Gt (.fld (.loc 7) 23) (.meth (.loc 0) 57 .nil)) (.seq (.ite (.cmp .Eq (.fld (.loc 7) 24) (.fld (.loc 7) 2)) (.seq (.fasg (.loc 7) 25 (.fld (.loc 7) 23)) .nil) .nil) (.seq (.exp (.call (.gv 52 (.ref 601)) (.cons (.loc 7) (.cons (.loc 5) (.cons (.loc 6) .nil))))) (.seq (.ite (.fld (.loc 7) 28) (.seq (.ret (.fld (.loc 7) 23)) .nil) .nil) .nil)))) (.seq (.ite (.cmp .NotEq (.fld (.loc 7) 24) (.cst (.int 0 0))) (.seq (.exp (.meth (.loc 7) 53 .nil)) .nil) .nil) (.seq (.ret (.cst .none)) .nil)))))
noncomputable def nM:S:=(.seq (.whl (.band (.cmp .IsNot (.loc 2) (.cst .none)) (.cmp .Gt (.loc 3) (.cst (.int 0 0)))) (.seq (.asg 2 (.call (.gv 49 (.ref 580)) (.cons (.loc 0) (.cons (.loc 1) (.cons (.loc 2) (.cons (.loc 4) (.cons (.loc 5) .nil))))))) (.seq (.asg 4 (.cst (.int 0 0))) (.seq (.asg 3 (.bin .Sub (.loc 3) (.cst (.int 1 0)))) .nil)))) (.seq (.whl (.band (.cmp .IsNot (.loc 2) (.cst .none)) (.cmp .Lt (.loc 3) (.cst (.int 0 0)))) (.seq (.asg 2 (.call (.gv 53 (.ref 608)) (.cons (.loc 0) (.cons (.loc 1) (.cons (.loc 2) (.cons (.loc 4) (.cons (.loc 5) .nil))))))) (.seq (.asg 4 (.cst (.int 0 0))) (.seq (.asg 3 (.bin .Add (.loc 3) (.cst (.int 1 0)))) .nil)))) (.seq (.ret (.loc 2)) .nil)))
noncomputable def gC:S:=(.seq (.ret (.call (.gv 54 (.ref 615)) (.cons (.loc 0) (.cons (.loc 1) (.cons (.loc 2) (.cons (.loc 3) (.cons (.loc 4) (.cons (.cst (.bool false)) .nil)))))))) .nil)
noncomputable def gj:S:=(.seq (.ret (.call (.gv 54 (.ref 615)) (.cons (.loc 0) (.cons (.loc 1) (.cons (.loc 2) (.cons (.loc 3) (.cons (.cst (.int 0 0)) (.cons (.cst (.bool true)) .nil)))))))) .nil)
noncomputable def eG:S:=(.seq (.asg 3 (.idx (.call (.gv 41 (.ref 489)) (.cons (.loc 0) (.cons (.loc 1) (.cons (.loc 2) .nil)))) (.cst (.int 0 0)))) (.seq (.whl (.band (.cmp .Gt (.loc 2) (.meth (.loc 0) 57 .nil)) (.band (.cmp .NotIn (.loc 2) (.loc 3)) (.not (.call (.gv 35 (.ref 313)) (.cons (.loc 0) (.cons (.loc 1) (.cons (.bin .Sub (.loc 2) (.cst (.int 1 0))) .nil))))))) (.seq (.asg 4 (.call (.gv 30 (.ref 278)) (.cons (.loc 0) (.cons (.loc 1) (.cons (.bin .Sub (.loc 2) (.cst (.int 1 0))) .nil))))) (.seq (.ite (.band (.cmp .NotEq (.fld (.loc 4) 14) (.gv 10 (.str "'" 0))) (.not (.meth (.loc 4) 30 (.cons (.cst (.str "p" 0)) .nil)))) (.seq .brk .nil) .nil) (.seq (.asg 2 (.bin .Sub (.loc 2) (.cst (.int 1 0)))) .nil)))) (.seq (.ret (.loc 2)) .nil)))
noncomputable def zj:S:=(.seq (.ret (.ite (.cmp .Gt (.loc 1) (.cst (.int 0 0))) (.meth (.loc 0) 58 .nil) (.meth (.loc 0) 57 .nil))) .nil)
noncomputable def dZ:S:=(.seq (.asg 4 (.call (.gv 56 (.ref 629)) (.cons (.loc 0) (.cons (.loc 1) (.cons (.loc 2) (.cons (.loc 3) .nil)))))) (.seq (.ite (.cmp .Is (.loc 4) (.cst .none)) (.seq (.ret (.call (.gv 58 (.ref 643)) (.cons (.loc 0) (.cons (.loc 3) .nil)))) .nil) .nil) (.seq (.ret (.ite (.cmp .Lt (.loc 3) (.cst (.int 0 0))) (.call (.gv 57 (.ref 636)) (.cons (.loc 0) (.cons (.loc 1) (.cons (.loc 4) .nil)))) (.loc 4))) .nil)))
noncomputable def gQ:S:=(.seq (.asg 4 (.call (.gv 55 (.ref 622)) (.cons (.loc 0) (.cons (.loc 1) (.cons (.loc 2) (.cons (.loc 3) (.cons (.cst (.int 0 0)) .nil))))))) (.seq (.ret (.ite (.cmp .Is (.loc 4) (.cst .none)) (.call (.gv 58 (.ref 643)) (.cons (.loc 0) (.cons (.loc 3) .nil))) (.loc 4))) .nil))
noncomputable def jY:S:=(.seq (.asg 5 (.ite (.cmp .Gt (.loc 3) (.cst (.int 0 0))) (.cst (.int 1 0)) (.neg (.cst (.int 1 0))))) (.seq (.forR 6 (.blt .abs (.cons (.loc 3) .nil)) (.seq (.asg 2 (.call (.gv 55 (.ref 622)) (.cons (.loc 0) (.cons (.loc 1) (.cons (.loc 2) (.cons (.loc 5) (.cons (.loc 4) .nil))))))) .nil)) (.seq (.ret (.loc 2)) .nil)))
noncomputable def nC:S:=(.seq (.ret (.call (.gv 61 (.ref 664)) (.cons (.loc 0) (.cons (.loc 1) (.cons (.loc 2) (.cons (.loc 3) (.cons (.cst (.int 1 0)) .nil))))))) .nil)
noncomputable def iM:S:=(.seq (.ret (.call (.gv 61 (.ref 664)) (.cons (.loc 0) (.cons (.loc 1) (.cons (.loc 2) (.cons (.loc 3) (.cons (.neg (.cst (.int 1 0))) .nil))))))) .nil)
noncomputable def kh:S:=(.seq (.asg 3 (.call (.gv 30 (.ref 278)) (.cons (.loc 0) (.cons (.loc 1) (.cons (.loc 2) .nil))))) (.seq (.ite (.bor (.cmp .Is (.loc 3) (.cst .none)) (.call (.gv 35 (.ref 313)) (.cons (.loc 0) (.cons (.loc 1) (.cons (.loc 2) .nil))))) (.seq (.ret (.cst .none)) .nil) .nil) (.seq (.ite (.cmp .Eq (.fld (.loc 3) 14) (.gv 8 (.str "(" 0))) (.seq (.ret (.bin .Sub (.call (.gv 55 (.ref 622)) (.cons (.loc 0) (.cons (.loc 1) (.cons (.loc 2) (.cons (.cst (.int 1 0)) (.cons (.cst (.int 0 0)) .nil)))))) (.cst (.int 1 0)))) .nil) .nil) (.seq (.ret (.ite (.cmp .Eq (.fld (.loc 3) 14) (.gv 9 (.str ")" 0))) (.call (.gv 55 (.ref 622)) (.cons (.loc 0) (.cons (.loc 1) (.cons (.bin .Add (.loc 2) (.cst (.int 1 0))) (.cons (.neg (.cst (.int 1 0))) (.cons (.cst (.int 0 0)) .nil)))))) (.cst .none))) .nil))))
noncomputable def gK:S:=(.seq (.fasg (.loc 0) 29 (.blt .list (.cons (.loc 1) .nil))) (.seq (.fasg (.loc 0) 23 (.loc 2)) .nil))
noncomputable def fU:S:=(.seq (.ret (.fld (.loc 0) 23)) .nil)
noncomputable def iQ:S:=(.seq (.ret (.bin .Add (.fld (.loc 0) 23) (.blt .len (.cons (.fld (.loc 0) 29) .nil)))) .nil)
noncomputable def d7:S:=(.seq (.ite (.btw (.fld (.loc 0) 23) (.loc 1) (.bin .Add (.fld (.loc 0) 23) (.blt .len (.cons (.fld (.loc 0) 29) .nil)))) (.seq (.ret (.idx (.fld (.loc 0) 29) (.bin .Sub (.loc 1) (.fld (.loc 0) 23)))) .nil) .nil) (.seq (.ret (.neg (.cst (.int 1 0)))) .nil))
noncomputable def o8:S:=(.seq (.asg 1 (.comp (.bin .Mod (.blt .abs (.cons (.loc 0) .nil)) (.pow 10 90)) (.upto (.loc 0) (.cst (.int 24 0))) .nil)) (.seq (.ret (.lst (.cons (.comp (.loc 0) (.loc 1) (.cmp .GtE (.loc 0) (.pow 10 18))) (.cons (.bin .Add (.blt .len (.cons (.loc 1) .nil)) (.blt .sum (.cons (.loc 1) .nil))) (.cons (.cst (.int 0 0)) .nil))))) .nil))
noncomputable def pA:S:=(.seq (.ite (.cmp .NotEq (.idx (.loc 0) (.cst (.int 0 0))) (.lst .nil)) (.seq (.asg 2 (.idx (.idx (.loc 0) (.cst (.int 0 0))) (.cst (.int 0 0)))) (.seq (.iasg (.idx (.loc 0) (.cst (.int 0 0))) (.cst (.int 0 0)) (.bin .FloorDiv (.loc 2) (.loc 1))) (.seq (.ite (.cmp .Eq (.idx (.idx (.loc 0) (.cst (.int 0 0))) (.cst (.int 0 0))) (.cst (.int 0 0))) (.seq (.exp (.bm (.idx (.loc 0) (.cst (.int 0 0))) .pop0 (.cons (.cst (.int 0 0)) .nil))) .nil) .nil) (.seq (.ret (.bin .Mod (.loc 2) (.loc 1))) .nil)))) .nil) (.seq (.iasg (.loc 0) (.cst (.int 2 0)) (.bin .Add (.idx (.loc 0) (.cst (.int 2 0))) (.cst (.int 1 0)))) (.seq (.asg 3 (.bin .Mod (.bin .Add (.bin .Mod (.idx (.loc 0) (.cst (.int 1 0))) (.cst (.int 4294966297 0))) (.bin .Mult (.cst (.int 1640531527 0)) (.idx (.loc 0) (.cst (.int 2 0))))) (.cst (.int 4294966297 0)))) (.seq (.asg 3 (.bin .Mod (.bin .Add (.bin .Mult (.loc 3) (.loc 3)) (.bin .Mult (.cst (.int 122949823 0)) (.idx (.loc 0) (.cst (.int 2 0))))) (.cst (.int 4294966237 0)))) (.seq (.ret (.bin .Mod (.bin .FloorDiv (.bin .Mod (.bin .Mult (.loc 3) (.loc 3)) (.cst (.int 4294966187 0))) (.cst (.int 1024 0))) (.loc 1))) .nil)))))
noncomputable def oX:S:=(.seq (.unpT [3,4] (.cons (.loc 1) (.cons (.blt .sum (.cons (.comp (.blt .abs (.cons (.loc 0) .nil)) (.upto (.loc 0) (.cst (.int 24 0))) .nil) .nil)) .nil))) (.seq (.whl (.band (.cmp .Lt (.loc 3) (.loc 2)) (.cmp .Gt (.loc 4) (.cst (.int 1000 0)))) (.seq (.unpT [3,4] (.cons (.bin .Add (.loc 3) (.cst (.int 1 0))) (.cons (.bin .FloorDiv (.loc 4) (.cst (.int 1000 0))) .nil))) .nil)) (.seq (.ret (.loc 3)) .nil)))
noncomputable def rM:S:=(.seq (.exp (.bm (.loc 0) .extend (.cons (.comp (.blt .ord (.cons (.loc 0) .nil)) (.loc 1) .nil) .nil))) .nil)
noncomputable def je:S:=(.seq (.asg 3 (.call (.gv 67 (.ref 740)) (.cons (.loc 0) (.cons (.cst (.int 6 0)) .nil)))) (.seq (.ite (.band (.cmp .Eq (.loc 3) (.cst (.int 0 0))) (.not (.loc 2))) (.seq (.ret (.cst .none)) .nil) .nil) (.seq (.ite (.cmp .Eq (.loc 3) (.cst (.int 1 0))) (.seq (.exp (.call (.gv 69 (.ref 750)) (.cons (.loc 1) (.cons (.bin .Add (.bin .Add (.cst (.str ";" 0)) (.idx (.lst (.cons (.cst (.str "" 0)) (.cons (.cst (.str "(" 0)) (.cons (.cst (.str ")a" 0)) (.cons (.cst (.str "\"" 0)) (.cons (.cst (.str "#|" 0)) .nil)))))) (.call (.gv 67 (.ref 740)) (.cons (.loc 0) (.cons (.cst (.int 5 0)) .nil))))) (.cst (.str "\n" 0))) .nil)))) .nil) (.seq (.ite (.cmp .Eq (.loc 3) (.cst (.int 2 0))) (.seq (.asg 4 (.idx (.lst (.cons (.cst (.str "" 0)) (.cons (.cst (.str "(" 0)) (.cons (.cst (.str "a)" 0)) (.cons (.cst (.str "\"" 0)) (.cons (.cst (.str ";" 0)) (.cons (.cst (.str "#|(|#" 0)) .nil))))))) (.call (.gv 67 (.ref 740)) (.cons (.loc 0) (.cons (.cst (.int 6 0)) .nil))))) (.seq (.exp (.call (.gv 69 (.ref 750)) (.cons (.loc 1) (.cons (.bin .Add (.bin .Add (.bin .Add (.cst (.str " #|" 0)) (.loc 4)) (.cst (.str "|#" 0))) (.bin .Mult (.cst (.str " " 0)) (.call (.gv 67 (.ref 740)) (.cons (.loc 0) (.cons (.cst (.int 2 0)) .nil))))) .nil)))) .nil)) (.seq (.exp (.call (.gv 69 (.ref 750)) (.cons (.loc 1) (.cons (.idx (.lst (.cons (.cst (.str " " 0)) (.cons (.cst (.str "\n" 0)) (.cons (.cst (.str "  " 0)) .nil)))) (.call (.gv 67 (.ref 740)) (.cons (.loc 0) (.cons (.cst (.int 3 0)) .nil)))) .nil)))) .nil)) .nil)) .nil)))
noncomputable def pg:S:=(.seq (.ite (.cmp .Gt (.call (.gv 67 (.ref 740)) (.cons (.loc 0) (.cons (.cst (.int 3 0)) .nil))) (.cst (.int 0 0))) (.seq (.forR 2 (.bin .Add (.cst (.int 1 0)) (.call (.gv 67 (.ref 740)) (.cons (.loc 0) (.cons (.cst (.int 3 0)) .nil)))) (.seq (.exp (.call (.gv 69 (.ref 750)) (.cons (.loc 1) (.cons (.idx (.lst (.cons (.cst (.str "a" 0)) (.cons (.cst (.str "b" 0)) (.cons (.cst (.str "-" 0)) (.cons (.cst (.str "\\(" 0)) .nil))))) (.call (.gv 67 (.ref 740)) (.cons (.loc 0) (.cons (.cst (.int 4 0)) .nil)))) .nil)))) .nil)) (.seq (.ret (.cst (.str "word" 0))) .nil)) .nil) (.seq (.exp (.call (.gv 69 (.ref 750)) (.cons (.loc 1) (.cons (.cst (.str "\"" 0)) .nil)))) (.seq (.forR 2 (.call (.gv 67 (.ref 740)) (.cons (.loc 0) (.cons (.cst (.int 3 0)) .nil))) (.seq (.exp (.call (.gv 69 (.ref 750)) (.cons (.loc 1) (.cons (.idx (.lst (.cons (.cst (.str "a" 0)) (.cons (.cst (.str "(" 0)) (.cons (.cst (.str ")" 0)) (.cons (.cst (.str ";" 0)) (.cons (.cst (.str "\\\"" 0)) (.cons (.cst (.str "\\\\" 0)) (.cons (.cst (.str "#|" 0)) .nil)))))))) (.call (.gv 67 (.ref 740)) (.cons (.loc 0) (.cons (.cst (.int 7 0)) .nil)))) .nil)))) .nil)) (.seq (.exp (.call (.gv 69 (.ref 750)) (.cons (.loc 1) (.cons (.cst (.str "\"" 0)) .nil)))) (.seq (.ret (.cst (.str "string" 0))) .nil)))))
noncomputable def pG:S:=(.seq (.asg 7 (.idx (.lst (.cons (.cst (.str "" 0)) (.cons (.cst (.str "" 0)) (.cons (.cst (.str "" 0)) (.cons (.cst (.str "'" 0)) (.cons (.cst (.str "`" 0)) (.cons (.cst (.str "," 0)) (.cons (.cst (.str ",@" 0)) (.cons (.cst (.str "#'" 0)) .nil))))))))) (.call (.gv 67 (.ref 740)) (.cons (.loc 0) (.cons (.cst (.int 8 0)) .nil))))) (.seq (.asg 8 (.band (.cmp .Gt (.loc 3) (.cst (.int 0 0))) (.band (.cmp .Gt (.idx (.loc 4) (.cst (.int 0 0))) (.cst (.int 0 0))) (.cmp .Eq (.call (.gv 67 (.ref 740)) (.cons (.loc 0) (.cons (.cst (.int 2 0)) .nil))) (.cst (.int 0 0)))))) (.seq (.exp (.call (.gv 70 (.ref 757)) (.cons (.loc 0) (.cons (.loc 1) (.cons (.bor (.cmp .Eq (.loc 6) (.cst (.str "word" 0))) (.band (.cmp .NotEq (.loc 6) (.cst (.str "" 0))) (.bor (.cmp .NotEq (.loc 7) (.cst (.str "" 0))) (.not (.loc 8))))) .nil))))) (.seq (.asg 9 (.bin .Add (.cst (.int 1 0)) (.blt .len (.cons (.loc 1) .nil)))) (.seq (.exp (.call (.gv 69 (.ref 750)) (.cons (.loc 1) (.cons (.loc 7) .nil)))) (.seq (.unpT [10,11,12] (.cons (.bin .Add (.cst (.int 1 0)) (.blt .len (.cons (.loc 1) .nil))) (.cons (.cst .none) (.cons (.cst (.str "list" 0)) .nil)))) (.seq (.ite (.loc 8) (.seq (.unp [13,14] (.idx (.lst (.cons (.cst (.str "()" 0)) (.cons (.cst (.str "[]" 0)) .nil))) (.call (.gv 67 (.ref 740)) (.cons (.loc 0) (.cons (.cst (.int 2 0)) .nil))))) (.seq (.exp (.call (.gv 69 (.ref 750)) (.cons (.loc 1) (.cons (.loc 13) .nil)))) (.seq (.asg 11 (.call (.gv 73 (.ref 778)) (.cons (.loc 0) (.cons (.loc 1) (.cons (.bin .Add (.loc 2) (.tup (.cons (.loc 10) .nil))) (.cons (.bin .Sub (.loc 3) (.cst (.int 1 0))) (.cons (.loc 4) .nil))))))) (.seq (.exp (.call (.gv 69 (.ref 750)) (.cons (.loc 1) (.cons (.loc 14) .nil)))) .nil)))) (.seq (.asg 12 (.call (.gv 71 (.ref 764)) (.cons (.loc 0) (.cons (.loc 1) .nil)))) .nil)) (.seq (.exp (.bm (.loc 5) .append (.cons (.tup (.cons (.loc 9) (.cons (.loc 10) (.cons (.bin .Add (.cst (.int 1 0)) (.blt .len (.cons (.loc 1) .nil))) (.cons (.loc 11) (.cons (.loc 2) .nil)))))) .nil))) (.seq (.ret (.loc 12)) .nil)))))))))
noncomputable def lM:S:=(.seq (.unpT [5,6] (.cons (.lst .nil) (.cons (.cst (.str "" 0)) .nil))) (.seq (.whl (.band (.cmp .Gt (.idx (.loc 4) (.cst (.int 0 0))) (.cst (.int 0 0))) (.bor (.cmp .Eq (.loc 2) (.tup .nil)) (.cmp .Gt (.call (.gv 67 (.ref 740)) (.cons (.loc 0) (.cons (.cst (.int 4 0)) .nil))) (.cst (.int 0 0))))) (.seq (.iasg (.loc 4) (.cst (.int 0 0)) (.bin .Sub (.idx (.loc 4) (.cst (.int 0 0))) (.cst (.int 1 0)))) (.seq (.asg 6 (.call (.gv 72 (.ref 771)) (.cons (.loc 0) (.cons (.loc 1) (.cons (.loc 2) (.cons (.loc 3) (.cons (.loc 4) (.cons (.loc 5) (.cons (.loc 6) .nil))))))))) .nil))) (.seq (.ite (.bor (.cmp .NotEq (.loc 6) (.cst (.str "" 0))) (.cmp .Eq (.call (.gv 67 (.ref 740)) (.cons (.loc 0) (.cons (.cst (.int 2 0)) .nil))) (.cst (.int 0 0)))) (.seq (.exp (.call (.gv 70 (.ref 757)) (.cons (.loc 0) (.cons (.loc 1) (.cons (.cst (.bool false)) .nil))))) .nil) .nil) (.seq (.ret (.loc 5)) .nil))))
noncomputable def ir:S:=(.seq (.told (.call (.loc 0) (.cons (.loc 1) (.cons (.loc 2) (.cons (.loc 3) (.cons (.loc 4) .nil)))))) .nil)
noncomputable def eY:S:=(.seq (.unp [3,4,5,6,7] (.loc 2)) (.seq (.asg 8 (.ite (.cmp .NotEq (.loc 6) (.lst .nil)) (.idx (.idx (.loc 6) (.cst (.int 0 0))) (.cst (.int 0 0))) (.bin .Add (.loc 4) (.cst (.int 1 0))))) (.seq (.ite (.bor (.cmp .NotEq (.call (.gv 62 (.ref 671)) (.cons (.loc 0) (.cons (.loc 1) (.cons (.loc 8) (.cons (.cst (.int 1 0)) .nil))))) (.loc 5)) (.cmp .NotEq (.call (.gv 62 (.ref 671)) (.cons (.loc 0) (.cons (.loc 1) (.cons (.loc 8) (.cons (.neg (.cst (.int 1 0))) .nil))))) (.loc 4))) (.seq (.ret (.cst (.bool false))) .nil) .nil) (.seq (.ite (.bor (.cmp .NotEq (.call (.gv 63 (.ref 678)) (.cons (.loc 0) (.cons (.loc 1) (.cons (.loc 3) (.cons (.cst (.int 1 0)) .nil))))) (.bin .Add (.loc 4) (.cst (.int 1 0)))) (.cmp .NotEq (.call (.gv 63 (.ref 678)) (.cons (.loc 0) (.cons (.loc 1) (.cons (.loc 5) (.cons (.neg (.cst (.int 1 0))) .nil))))) (.bin .Sub (.loc 5) (.cst (.int 1 0))))) (.seq (.ret (.cst (.bool false))) .nil) .nil) (.seq (.ret (.band (.cmp .Eq (.call (.gv 64 (.ref 685)) (.cons (.loc 0) (.cons (.loc 1) (.cons (.loc 4) .nil)))) (.bin .Sub (.loc 5) (.cst (.int 1 0)))) (.cmp .Eq (.call (.gv 64 (.ref 685)) (.cons (.loc 0) (.cons (.loc 1) (.cons (.bin .Sub (.loc 5) (.cst (.int 1 0))) .nil)))) (.loc 4)))) .nil)))))
noncomputable def eE:S:=(.seq (.asg 6 (.ite (.cmp .NotEq (.loc 5) (.tup .nil)) (.lst (.cons (.cst (.str "scan-error" 0)) (.cons (.cst (.str "scan-error" 0)) .nil))) (.lst (.cons (.meth (.loc 0) 58 .nil) (.cons (.meth (.loc 0) 57 .nil) .nil))))) (.seq (.forR 7 (.bin .Add (.blt .len (.cons (.loc 2) .nil)) (.cst (.int 1 0))) (.seq (.asg 8 (.ite (.cmp .Eq (.loc 7) (.cst (.int 0 0))) (.loc 3) (.idx (.idx (.loc 2) (.bin .Sub (.loc 7) (.cst (.int 1 0)))) (.cst (.int 2 0))))) (.seq (.asg 9 (.ite (.cmp .Lt (.loc 7) (.blt .len (.cons (.loc 2) .nil))) (.idx (.idx (.loc 2) (.loc 7)) (.cst (.int 0 0))) (.loc 4))) (.seq (.asg 10 (.lst (.cons (.ite (.cmp .Lt (.loc 7) (.blt .len (.cons (.loc 2) .nil))) (.idx (.idx (.loc 2) (.loc 7)) (.cst (.int 2 0))) (.idx (.loc 6) (.cst (.int 0 0)))) (.cons (.ite (.cmp .Gt (.loc 7) (.cst (.int 0 0))) (.idx (.idx (.loc 2) (.bin .Sub (.loc 7) (.cst (.int 1 0)))) (.cst (.int 0 0))) (.idx (.loc 6) (.cst (.int 1 0)))) .nil)))) (.seq (.ite (.cmp .NotEq (.lst (.cons (.call (.gv 74 (.ref 785)) (.cons (.gv 59 (.ref 650)) (.cons (.loc 0) (.cons (.loc 1) (.cons (.loc 8) (.cons (.cst (.int 1 0)) .nil)))))) (.cons (.call (.gv 74 (.ref 785)) (.cons (.gv 59 (.ref 650)) (.cons (.loc 0) (.cons (.loc 1) (.cons (.loc 9) (.cons (.neg (.cst (.int 1 0))) .nil)))))) .nil))) (.loc 10)) (.seq (.ret (.cst (.bool false))) .nil) .nil) (.seq (.asg 11 (.bin .Add (.comp (.idx (.loc 0) (.cst (.int 2 0))) (.from_ (.loc 2) (.loc 7)) (.cmp .IsNot (.idx (.loc 0) (.cst (.int 3 0))) (.cst .none))) (.upto (.loc 6) (.cst (.int 1 0))))) (.seq (.ite (.cmp .NotEq (.call (.gv 74 (.ref 785)) (.cons (.gv 60 (.ref 657)) (.cons (.loc 0) (.cons (.loc 1) (.cons (.loc 8) (.cons (.cst (.int 1 0)) .nil)))))) (.idx (.loc 11) (.cst (.int 0 0)))) (.seq (.ret (.cst (.bool false))) .nil) .nil) (.seq (.ite (.cmp .NotEq (.fld (.call (.gv 39 (.ref 475)) (.cons (.loc 0) (.cons (.loc 1) (.cons (.loc 9) .nil)))) 0) (.loc 5)) (.seq (.ret (.cst (.bool false))) .nil) .nil) .nil)))))))) (.seq (.forL 12 (.loc 2) (.seq (.ite (.cmp .IsNot (.idx (.loc 12) (.cst (.int 3 0))) (.cst .none)) (.seq (.ite (.not (.call (.gv 75 (.ref 792)) (.cons (.loc 0) (.cons (.loc 1) (.cons (.loc 12) .nil))))) (.seq (.ret (.cst (.bool false))) .nil) .nil) (.seq (.ite (.not (.call (.gv 76 (.ref 797)) (.cons (.loc 0) (.cons (.loc 1) (.cons (.idx (.loc 12) (.cst (.int 3 0))) (.cons (.bin .Add (.idx (.loc 12) (.cst (.int 1 0))) (.cst (.int 1 0))) (.cons (.bin .Sub (.idx (.loc 12) (.cst (.int 2 0))) (.cst (.int 1 0))) (.cons (.bin .Add (.loc 5) (.tup (.cons (.idx (.loc 12) (.cst (.int 1 0))) .nil))) .nil)))))))) (.seq (.ret (.cst (.bool false))) .nil) .nil) .nil)) .nil) .nil)) (.seq (.ret (.cst (.bool true))) .nil))))
noncomputable def Q6:S:=(.seq (.unpT [1,2] (.cons (.call (.gv 66 (.ref 733)) (.cons (.loc 0) .nil)) (.cons (.lst .nil) .nil))) (.seq (.asg 3 (.call (.gv 73 (.ref 778)) (.cons (.loc 1) (.cons (.loc 2) (.cons (.tup .nil) (.cons (.cst (.int 3 0)) (.cons (.lst (.cons (.call (.gv 68 (.ref 745)) (.cons (.loc 0) (.cons (.cst (.int 3 0)) (.cons (.cst (.int 9 0)) .nil)))) .nil)) .nil))))))) (.seq (.unpT [4,5] (.cons (.new 65 724 700 (.cons (.loc 2) .nil)) (.cons (.call (.gv 28 (.ref 250)) .nil) .nil))) (.seq (.ite (.not (.call (.gv 76 (.ref 797)) (.cons (.loc 4) (.cons (.loc 5) (.cons (.loc 3) (.cons (.meth (.loc 4) 57 .nil) (.cons (.meth (.loc 4) 58 .nil) (.cons (.tup .nil) .nil)))))))) (.seq (.ret (.cst (.bool false))) .nil) .nil) (.seq (.ret (.band (.cmp .Eq (.fld (.loc 4) 29) (.loc 2)) (.cmp .Eq (.meth (.call (.gv 39 (.ref 475)) (.cons (.loc 4) (.cons (.loc 5) (.cons (.meth (.loc 4) 58 .nil) .nil)))) 24 .nil) (.cst (.int 0 0))))) .nil)))))
section
variable {w:World} {Z9:Heap} {os:OsState} {n:Nat} {R:Value→Hp→Prop} {ρ:Loc} {σ:Hp} {k:List Value→Hp→Prop} {kb:Bool→Prop}
theorem aJ {v:Value} {k:Value→Prop} (h:k v):one [v] k:=h
theorem j9 {b:Bool} {k:Bool→Prop} (h:k b):cZ [.bool b] k:=h
theorem xW (h:k [] σ):ev w Z9 os n R ρ .nil σ k:=h
theorem jL {a b:E} (h:ev w Z9 os n R ρ a σ fun xs σ=>one xs fun x=>ev w Z9 os n R ρ b σ fun ys σ=>k (x::ys) σ):ev w Z9 os n R ρ (.cons a b) σ k:=h
theorem fj {i:Nat} {v:Value} (e:lk ρ i=some v) (h:k [v] σ):ev w Z9 os n R ρ (.loc i) σ k:=zA e h
theorem lu {v:Value} (h:k [v] σ):ev w Z9 os n R ρ (.cst v) σ k:=h
theorem zbi {i:Nat} {v:Value} (h:k [v] σ):ev w Z9 os n R ρ (.gv i v) σ k:=h
theorem vG {e:E} {f:Nat} (h:ev w Z9 os n R ρ e σ fun xs σ=>one xs fun x=>GX σ f k x):ev w Z9 os n R ρ (.fld e f) σ k:=h
theorem XN {op:Operator} {a b:E} (h:ev w Z9 os n R ρ a σ fun xs σ=>one xs fun x=>ev w Z9 os n R ρ b σ fun ys σ=>one ys fun y=>qp σ k op x y):ev w Z9 os n R ρ (.bin op a b) σ k:=h
theorem gO {i j:Int} (c:i.natAbs < 2 ^ 62∨j.natAbs < 2 ^ 62) (h:k [vi (i * j)] σ):qp σ k .Mult (.int i 0) (.int j 0):=binH.gO c h
theorem jo {i j:Int} (c:0 < j∧j < 2 ^ 29) (h:k [vi (Int.fdiv i j)] σ):qp σ k .FloorDiv (.int i 0) (.int j 0):=binH.jo c h
theorem cY {i j:Int} (c:j≠0) (h:k [vi (Int.fmod i j)] σ):qp σ k .Mod (.int i 0) (.int j 0):=binH.cY c h
theorem cC {s t:Str} (c:s.length+t.length≤1000) (h:k [vs (s++t)] σ):qp σ k .Add (.str s 0) (.str t 0):=binH.cC c h
theorem qg {s:Str} {j:Int} (c:0≤j∧j≤10∧s.length≤10) (h:k [vs (kE s j.toNat)] σ):qp σ k .Mult (.str s 0) (.int j 0):=binH.qg c h
theorem qD {a b:Addr} {xs ys:List Value} (e1:σ a=some (.list xs)) (e2:σ b=some (.list ys)) (c:xs.length+ys.length≤big) (h:bf σ (.list (xs++ys)) fun r σ'=>k [.ref r] σ'):qp σ k .Add (.ref a) (.ref b):=binH.qD e1 e2 c h
theorem jt {a b:Addr} {xs ys:List Value} (e1:σ a=some (.tup xs)) (e2:σ b=some (.tup ys)) (c:xs.length+ys.length≤big) (h:bf σ (.tup (xs++ys)) fun r σ'=>k [.ref r] σ') (h1:xs=[]→k [.ref b] σ) (h2:ys=[]→k [.ref a] σ):qp σ k .Add (.ref a) (.ref b):=binH.jt e1 e2 c h h1 h2
theorem uX {op:CmpOp} {a b:E} (h:ev w Z9 os n R ρ a σ fun xs σ=>one xs fun x=>ev w Z9 os n R ρ b σ fun ys σ=>one ys fun y=>fQ σ (fun c=>k [.bool c] σ) op x y):ev w Z9 os n R ρ (.cmp op a b) σ k:=h
theorem Hd {i j:Int} (h:kb (decide (i=j))):fQ σ kb .Eq (.int i 0) (.int j 0):=h
theorem zf {i j:Int} (h:kb (!decide (i=j))):fQ σ kb .NotEq (.int i 0) (.int j 0):=h
theorem ut {i j:Str} (h:kb (decide (i=j))):fQ σ kb .Eq (.str i 0) (.str j 0):=h
theorem qd {i j:Str} (h:kb (!decide (i=j))):fQ σ kb .NotEq (.str i 0) (.str j 0):=h
theorem pK {a b:Addr} {xs ys:List Value} (e1:σ a=some (.list xs)) (e2:σ b=some (.list ys)) (c:(xs.all flat=true∧ys.all flat=true)∨xs.length≠ys.length) (h:kb (decide (xs=ys))):fQ σ kb .Eq (.ref a) (.ref b):=cmpH.pK e1 e2 c h
theorem jG {a b:Addr} {xs ys:List Value} (e1:σ a=some (.list xs)) (e2:σ b=some (.list ys)) (c:(xs.all flat=true∧ys.all flat=true)∨xs.length≠ys.length) (h:kb (!decide (xs=ys))):fQ σ kb .NotEq (.ref a) (.ref b):=cmpH.jG e1 e2 c h
theorem um {a b:Addr} {xs ys:List Value} (e1:σ a=some (.tup xs)) (e2:σ b=some (.tup ys)) (c:xs.all flat=true∧ys.all flat=true) (h:kb (decide (xs=ys))):fQ σ kb .Eq (.ref a) (.ref b):=cmpH.um e1 e2 c h
theorem pP {a b:Addr} {xs ys:List Value} (e1:σ a=some (.tup xs)) (e2:σ b=some (.tup ys)) (c:xs.all flat=true∧ys.all flat=true) (h:kb (!decide (xs=ys))):fQ σ kb .NotEq (.ref a) (.ref b):=cmpH.pP e1 e2 c h
theorem zgN {x:Value} (h:kb (isNone x)):fQ σ kb .Is x .none:=h
theorem R3 {x:Value} (h:kb (!isNone x)):fQ σ kb .IsNot x .none:=h
theorem ye {i:Int} {d:Addr} {m:Nat} {f:Int→Option Value} (e:σ d=some (.dict m f)) (h:kb (f i).isSome):fQ σ kb .In (.int i 0) (.ref d):=cmpH.ye e h
theorem uq {i:Int} {d:Addr} {m:Nat} {f:Int→Option Value} (e:σ d=some (.dict m f)) (h:kb (!(f i).isSome)):fQ σ kb .NotIn (.int i 0) (.ref d):=cmpH.uq e h
theorem Eo {a b:E} (h:ev w Z9 os n R ρ a σ fun xs σ=>cZ xs fun x=>dR x (ev w Z9 os n R ρ b σ fun ys σ=>cZ ys fun y=>k [.bool y] σ) (k [.bool false] σ)):ev w Z9 os n R ρ (.band a b) σ k:=h
theorem zdc {a b:E} (h:ev w Z9 os n R ρ a σ fun xs σ=>cZ xs fun x=>dR x (k [.bool true] σ) (ev w Z9 os n R ρ b σ fun ys σ=>cZ ys fun y=>k [.bool y] σ)):ev w Z9 os n R ρ (.bor a b) σ k:=h
theorem zep {e:E} (h:ev w Z9 os n R ρ e σ fun xs σ=>cZ xs fun x=>k [.bool (!x)] σ):ev w Z9 os n R ρ (.not e) σ k:=h
theorem zft {i:Int} {t:Nat} (h:k [vi (-i)] σ):Qd σ k (.int i t):=h
theorem Bj {t a b:E} (h:ev w Z9 os n R ρ t σ fun xs σ=>cZ xs fun x=>dR x (ev w Z9 os n R ρ a σ k) (ev w Z9 os n R ρ b σ k)):ev w Z9 os n R ρ (.ite t a b) σ k:=h
noncomputable def iD (w:World) (Z9:Heap) (os:OsState) (n:Nat) (R:Value→Hp→Prop) (f:Value) (xs:List Value) (σ:Hp) (k:List Value→Hp→Prop):Prop:=CallSem w Z9 os n f xs σ (fun v σ=>k [v] σ) R
theorem zbd {f args:E} (h:ev w Z9 os n R ρ f σ fun fs σ=>one fs fun f=>dR (fnV f) (ev w Z9 os n R ρ args σ fun xs σ=>iD w Z9 os n R f xs σ k) False):ev w Z9 os n R ρ (.call f args) σ k:=h
theorem aF {m:Nat} {f:Value} {xs:List Value} {Q:Value→Hp→Prop} (c:CallSem w Z9 os m f xs σ Q R) (hm:m≤n) (h:∀ v σ',Q v σ'→k [v] σ'):iD w Z9 os n R f xs σ k:=c.mono hm fun v σ' q=>h v σ' q
noncomputable def RL (w:World) (Z9:Heap) (os:OsState) (n:Nat) (R:Value→Hp→Prop) (ρ:Loc) (x:Value) (m:Nat) (args:E) (σ:Hp) (k:List Value→Hp→Prop):Prop :=
 RT σ m (fun a f=>ev w Z9 os n R ρ args σ fun ys σ=>CallSem w Z9 os n (.ref f) (.ref a::ys) σ (fun v σ=>k [v] σ) R) x
theorem Eg {e:E} {m:Nat} {args:E} (h:ev w Z9 os n R ρ e σ fun xs σ=>one xs fun x=>RL w Z9 os n R ρ x m args σ k):ev w Z9 os n R ρ (.meth e m args) σ k:=h
theorem vL {a C f:Addr} {fs:List (Nat × Value)} {m:Nat} {args:E} (e:σ a=some (.inst C fs)) (hm:iI rG C m=some f) (hl:cz fs m=none)
  (h:ev w Z9 os n R ρ args σ fun ys σ=>iD w Z9 os n R (.ref f) (.ref a::ys) σ k):RL w Z9 os n R ρ (.ref a) m args σ k:=.mk e hm hl h
noncomputable def Fx (w:World) (Z9:Heap) (os:OsState) (n:Nat) (R:Value→Hp→Prop) (C I:Addr) (xs:List Value) (σ:Hp) (k:List Value→Hp→Prop):Prop :=
 0 < n∧bf σ (.inst C []) fun a σ=>CallSem w Z9 os (n - 1) (.ref I) (.ref a::xs) σ (fun v σ=>v=.none∧k [.ref a] σ) R
theorem zdQ {x:Nat} {C I:Addr} {args:E} (h:ev w Z9 os n R ρ args σ fun xs σ=>Fx w Z9 os n R C I xs σ k):ev w Z9 os n R ρ (.new x C I args) σ k:=h
theorem pW {m:Nat} {C I:Addr} {xs:List Value} {Q:Addr→Value→Hp→Prop} (hm:m+1≤n) (c:∀ a,σ a=none→CallSem w Z9 os m (.ref I) (.ref a::xs) (σ.put a (.inst C [])) (Q a) R)
  (h:∀ a v σ',σ a=none→Q a v σ'→v=.none∧k [.ref a] σ'):Fx w Z9 os n R C I xs σ k :=
 ⟨by omega,fun a ha=>(c a ha).mono (by omega) fun v σ' q=>h a v σ' ha q⟩
theorem q8 {m:Bm} {a:Addr} {xs:List Value} {P:Prop} (hm:Nat.blt m.ctorIdx 4=true) (e:σ a=some (.list xs)) (h:P):sV σ m (.ref a)∧P:=⟨.l hm e,h⟩
theorem zdg {a:Addr} {m:Nat} {f:Int→Option Value} {P:Prop} (e:σ a=some (.dict m f)) (h:P):sV σ .get (.ref a)∧P:=⟨.g e,h⟩
theorem zfS {es:E} (h:ev w Z9 os n R ρ es σ fun xs σ=>bf σ (.list xs) fun a σ=>k [.ref a] σ):ev w Z9 os n R ρ (.lst es) σ k:=h
end
section
variable {w:World} {Z9:Heap} {os:OsState} {n:Nat} {R:Value→Hp→Prop} {ρ:Loc} {σ:Hp} {k:Fl→Loc→Hp→Prop}
noncomputable def lE (w:World) (Z9:Heap) (os:OsState) (n:Nat) (R:Value→Hp→Prop) (b:S) (k:Fl→Loc→Hp→Prop):Fl→Loc→Hp→Prop:=fun f ρ σ=>(match f with
  |.next=>ex w Z9 os n R b ρ σ k
  |f=>k f ρ σ)
theorem xm (h:k .next ρ σ):ex w Z9 os n R .nil ρ σ k:=h
theorem aY {a b:S} (h:ex w Z9 os n R a ρ σ (lE w Z9 os n R b k)):ex w Z9 os n R (.seq a b) ρ σ k:=h
theorem bU {b:S} (h:ex w Z9 os n R b ρ σ k):lE w Z9 os n R b k .next ρ σ:=h
theorem BV {b:S} {v:Value} (h:k (.ret v) ρ σ):lE w Z9 os n R b k (.ret v) ρ σ:=h
theorem zfi {b:S} (h:k .brk ρ σ):lE w Z9 os n R b k .brk ρ σ:=h
theorem Xz {i:Nat} {e:E} (h:ev w Z9 os n R ρ e σ fun xs σ=>one xs fun x=>k .next (dW ρ i x) σ):ex w Z9 os n R (.asg i e) ρ σ k:=h
theorem zbw {o:E} {f:Nat} {e:E} (h:ev w Z9 os n R ρ e σ fun xs σ=>one xs fun x=>ev w Z9 os n R ρ o σ fun ys σ=>one ys fun y=>wX x f ρ σ k y):ex w Z9 os n R (.fasg o f e) ρ σ k:=h
theorem zcb {is:List Nat} {xs:List Value} {ρ':Loc} (e:cA ρ is xs=some ρ') (h:k .next ρ' σ):BP is xs ρ σ k:=by unfold BP;rw[e];exact h
theorem NQ {is:List Nat} {e:E} (h:ev w Z9 os n R ρ e σ fun xs σ=>one xs fun x=>Gl is ρ σ k x):ex w Z9 os n R (.unp is e) ρ σ k:=h
theorem XS {t:E} {a b:S} (h:ev w Z9 os n R ρ t σ fun xs σ=>cZ xs fun x=>dR x (ex w Z9 os n R a ρ σ k) (ex w Z9 os n R b ρ σ k)):ex w Z9 os n R (.ite t a b) ρ σ k:=h
noncomputable def Xk (I:Nat→Loc→Hp→Prop) (m:Nat) (k:Fl→Loc→Hp→Prop):Fl→Loc→Hp→Prop:=fun f ρ σ=>(match f with
    |.next=>∃ m',m' < m∧I m' ρ σ
    |.brk=>k .next ρ σ
    |.ret v=>k (.ret v) ρ σ)
theorem gh {t:E} {b:S} (I:Nat→Loc→Hp→Prop) (m:Nat) (h0:I m ρ σ) (h:∀ m ρ σ,I m ρ σ→ev w Z9 os n R ρ t σ fun xs σ=>cZ xs fun x=>dR x (ex w Z9 os n R b ρ σ (Xk I m k)) (k .next ρ σ)):ex w Z9 os n R (.whl t b) ρ σ k:=by
 exact⟨I,⟨m,h0⟩,h⟩
theorem w_next {I:Nat→Loc→Hp→Prop} {m m':Nat} (hm:m' < m) (h:I m' ρ σ):Xk I m k .next ρ σ:=⟨m',hm,h⟩
theorem zdT {I:Nat→Loc→Hp→Prop} {m:Nat} (h:k .next ρ σ):Xk I m k .brk ρ σ:=h
theorem lR {I:Loc→Hp→Prop} (h:I ρ σ):sW I k .next ρ σ:=h
theorem xQ {e:E} (h:ev w Z9 os n R ρ e σ fun xs σ=>one xs fun x=>k (.ret x) ρ σ):ex w Z9 os n R (.ret e) ρ σ k:=h
theorem uG {Q:Value→Hp→Prop} {v:Value} (h:Q v σ):j0 Q (.ret v) ρ σ:=h
theorem Vy {Q:Value→Hp→Prop} (h:Q .none σ):j0 Q .next ρ σ:=h
end
theorem zaq {σ:Hp} {kb:Bool→Prop} {op:CmpOp} {x y:Value} {b:Bool} (e:Mg op x y=some b) (h:kb b):fQ σ kb op x y:=by unfold fQ;rw[e];exact h
theorem zbL {σ:Hp} {k:List Value→Hp→Prop} {op:Operator} {x y v:Value} (e:VK op x y=some v) (h:k [v] σ):qp σ k op x y:=by unfold qp;rw[e];exact h
@[reducible] def evS (w:World) (Z9:Heap) (os:OsState) (n:Nat) (R:Value→Hp→Prop) (ρ:Loc) (e:E) (σ:Hp) (k:List Value→Hp→Prop):Prop:=match e with
 |.loc i=>ev w Z9 os n R ρ (.loc i) σ k
 |.nil=>k [] σ
 |.cons a b=>ev w Z9 os n R ρ a σ fun xs σ=>one xs fun x=>ev w Z9 os n R ρ b σ fun ys σ=>k (x::ys) σ
 |.cst v=>k [v] σ
 |.gv i v=>k [v] σ
 |.fld e f=>ev w Z9 os n R ρ e σ fun xs σ=>one xs fun x=>GX σ f k x
 |.bin op a b=>ev w Z9 os n R ρ a σ fun xs σ=>one xs fun x=>ev w Z9 os n R ρ b σ fun ys σ=>one ys fun y=>qp σ k op x y
 |.pow a b=>k [vi ((a ^ b:Nat):Int)] σ
 |.cmp op a b=>ev w Z9 os n R ρ a σ fun xs σ=>one xs fun x=>ev w Z9 os n R ρ b σ fun ys σ=>one ys fun y=>fQ σ (fun c=>k [.bool c] σ) op x y
 |.btw a b c=>ev w Z9 os n R ρ a σ fun xs σ=>one xs fun x=>ev w Z9 os n R ρ b σ fun ys σ=>one ys fun y=>fQ σ (fun q=>dR q (ev w Z9 os n R ρ c σ fun zs σ=>one zs fun z=>fQ σ (fun q=>k [.bool q] σ) .Lt y z) (k [.bool false] σ)) .LtE x y
 |.band a b=>ev w Z9 os n R ρ a σ fun xs σ=>cZ xs fun x=>dR x (ev w Z9 os n R ρ b σ fun ys σ=>cZ ys fun y=>k [.bool y] σ) (k [.bool false] σ)
 |.bor a b=>ev w Z9 os n R ρ a σ fun xs σ=>cZ xs fun x=>dR x (k [.bool true] σ) (ev w Z9 os n R ρ b σ fun ys σ=>cZ ys fun y=>k [.bool y] σ)
 |.not e=>ev w Z9 os n R ρ e σ fun xs σ=>cZ xs fun x=>k [.bool (!x)] σ
 |.neg e=>ev w Z9 os n R ρ e σ fun xs σ=>one xs fun x=>Qd σ k x
 |.ite t a b=>ev w Z9 os n R ρ t σ fun xs σ=>cZ xs fun x=>dR x (ev w Z9 os n R ρ a σ k) (ev w Z9 os n R ρ b σ k)
 |.call f args=>ev w Z9 os n R ρ f σ fun fs σ=>one fs fun f=>dR (fnV f) (ev w Z9 os n R ρ args σ fun xs σ=>iD w Z9 os n R f xs σ k) False
 |.meth e m args=>ev w Z9 os n R ρ e σ fun xs σ=>one xs fun x=>RL w Z9 os n R ρ x m args σ k
 |.new x C I args=>ev w Z9 os n R ρ args σ fun xs σ=>Fx w Z9 os n R C I xs σ k
 |.blt b args=>ev w Z9 os n R ρ args σ fun xs σ=>nQ Z9 σ k b xs
 |.bm e m args=>ev w Z9 os n R ρ e σ fun xs σ=>one xs fun x=>sV σ m x∧ev w Z9 os n R ρ args σ fun ys σ=>RX σ k m x ys
 |.idx a i=>ev w Z9 os n R ρ a σ fun xs σ=>one xs fun x=>ev w Z9 os n R ρ i σ fun ys σ=>one ys fun y=>idxV σ k x y
 |.upto a i=>ev w Z9 os n R ρ a σ fun xs σ=>one xs fun x=>ev w Z9 os n R ρ i σ fun ys σ=>one ys fun y=>uY Z9 σ k x y
 |.from_ a i=>ev w Z9 os n R ρ a σ fun xs σ=>one xs fun x=>ev w Z9 os n R ρ i σ fun ys σ=>one ys fun y=>pX σ k x y
 |.lst es=>ev w Z9 os n R ρ es σ fun xs σ=>bf σ (.list xs) fun a σ=>k [.ref a] σ
 |.tup es=>ev w Z9 os n R ρ es σ fun xs σ=>bf σ (.tup xs) fun a σ=>k [.ref a] σ
 |.dct=>bf σ (.dict 0 fun _=>none) fun a σ=>k [.ref a] σ
 |.comp elt src cond=>ev w Z9 os n R ρ src σ fun xs σ=>one xs fun x=>tG σ elt cond k x
theorem zdF {w:World} {Z9:Heap} {os:OsState} {n:Nat} {R:Value→Hp→Prop} {ρ:Loc} {e:E} {σ:Hp} {k:List Value→Hp→Prop} (_:Nat.beq (wU e) 2=false) (h:evS w Z9 os n R ρ e σ k):ev w Z9 os n R ρ e σ k:=by
 cases e<;>exact h
@[reducible] def exS (w:World) (Z9:Heap) (os:OsState) (n:Nat) (R:Value→Hp→Prop) (s:S) (ρ:Loc) (σ:Hp) (k:Fl→Loc→Hp→Prop):Prop:=match s with
 |.whl a b=>ex w Z9 os n R (.whl a b) ρ σ k
 |.nil=>k .next ρ σ
 |.seq a b=>ex w Z9 os n R a ρ σ (lE w Z9 os n R b k)
 |.asg i e=>ev w Z9 os n R ρ e σ fun xs σ=>one xs fun x=>k .next (dW ρ i x) σ
 |.fasg o f e=>ev w Z9 os n R ρ e σ fun xs σ=>one xs fun x=>ev w Z9 os n R ρ o σ fun ys σ=>one ys fun y=>wX x f ρ σ k y
 |.iasg o i e=>ev w Z9 os n R ρ e σ fun xs σ=>one xs fun x=>ev w Z9 os n R ρ o σ fun ys σ=>one ys fun y=>ev w Z9 os n R ρ i σ fun zs σ=>one zs fun z=>xH x ρ σ k y z
 |.unpT is es=>ev w Z9 os n R ρ es σ fun xs σ=>BP is xs ρ σ k
 |.unp is e=>ev w Z9 os n R ρ e σ fun xs σ=>one xs fun x=>Gl is ρ σ k x
 |.ite t a b=>ev w Z9 os n R ρ t σ fun xs σ=>cZ xs fun x=>dR x (ex w Z9 os n R a ρ σ k) (ex w Z9 os n R b ρ σ k)
 |.forR i e b=>ev w Z9 os n R ρ e σ fun xs σ=>one xs fun x=>Bh (ex w Z9 os n R b) i ρ σ k x
 |.forL i e b=>ev w Z9 os n R ρ e σ fun xs σ=>one xs fun x=>xn (ex w Z9 os n R b) i ρ σ k x
 |.forU is e b=>ev w Z9 os n R ρ e σ fun xs σ=>one xs fun x=>Bb (ex w Z9 os n R b) is ρ σ k x
 |.ret e=>ev w Z9 os n R ρ e σ fun xs σ=>one xs fun x=>k (.ret x) ρ σ
 |.exp e=>ev w Z9 os n R ρ e σ fun _ σ=>k .next ρ σ
 |.brk=>k .brk ρ σ
 |.raise_ es=>ev w Z9 os n R ρ es σ fun xs σ=>u5 R σ xs
 |.told e=>ev w Z9 os n (fun sym σ=>k (.ret sym) ρ σ) ρ e σ fun xs σ=>one xs fun x=>k (.ret x) ρ σ
noncomputable def isW (s:S):Bool:=match s with
 |.whl ..=>true
 |_=>false
theorem zeE {w:World} {Z9:Heap} {os:OsState} {n:Nat} {R:Value→Hp→Prop} {s:S} {ρ:Loc} {σ:Hp} {k:Fl→Loc→Hp→Prop} (_:isW s=false) (h:exS w Z9 os n R s ρ σ k):ex w Z9 os n R s ρ σ k:=by
 cases s<;>exact h
structure FnI where
 a:Addr
 ps:List Str
 more:List Str
 dv:List Value
 S:S
noncomputable def fns:List FnI:=[
 ⟨37,["self","opens","below","least","whole","word","string","comment","style","nests","start","quoted","half"],[],[],bG⟩,
 ⟨37,["self","opens","below","least","whole","word","string","comment","style","nests","start","quoted","half"],[],[.ref 29,.int 0 208,.int 0 209,.none,.none,.none,.int 0 210,.str "" 211,.bool false,.none,.bool false,.str "" 212],bG⟩,
 ⟨44,["self"],[],[],dI⟩,
 ⟨79,["items"],["opens","below","least","whole","word","string","comment","style","nests","start","quoted","half"],[],pB⟩,
 ⟨113,["self","kind","match","flags"],[],[],iT⟩,
 ⟨120,["self","flag"],[],[],jU⟩,
 ⟨127,["self"],[],[],iu⟩,
 ⟨134,["self"],[],[],fu⟩,
 ⟨141,["self"],[],[],lU⟩,
 ⟨158,["text"],["kind","match","flags"],[],iV⟩,
 ⟨173,["self","parent"],[],[],bB⟩,
 ⟨173,["self","parent"],[],[.none],bB⟩,
 ⟨187,["self","text","description"],["syntax","sign"],[],cj⟩,
 ⟨201,["self","code"],["found"],[],eH⟩,
 ⟨208,["self","code"],["table","found"],[],fJ⟩,
 ⟨236,[],[],[],rn⟩,
 ⟨243,[],["table","opens","closes"],[],fC⟩,
 ⟨250,[],["table"],[],jK⟩,
 ⟨264,["self","length","style","nests","is_fence"],[],[],mO⟩,
 ⟨278,["view","table","place"],["code"],[],mD⟩,
 ⟨285,["told","other"],["style"],[],pR⟩,
 ⟨292,["view","table","place"],["one","other"],[],pM⟩,
 ⟨299,["view","table","place"],["one","other"],[],vZ⟩,
 ⟨306,["mark","style","nests","is_fence"],[],[],DX⟩,
 ⟨313,["view","table","place"],["count","before"],[],mj⟩,
 ⟨327,["self","view","table","place","state"],[],[],mJ⟩,
 ⟨334,["self"],["inner"],[],kJ⟩,
 ⟨341,["self"],[],[],jT⟩,
 ⟨348,["self"],[],[],fY⟩,
 ⟨355,["self"],[],[],d8⟩,
 ⟨362,["self","place"],[],[],ie⟩,
 ⟨369,["self"],[],[],kO⟩,
 ⟨376,["self","mark","start"],[],[],cU⟩,
 ⟨383,["self"],[],[],bW⟩,
 ⟨390,["self","ender"],[],[],dw⟩,
 ⟨397,["self"],[],[],eX⟩,
 ⟨404,["self","mark","word","limit"],[],[],lO⟩,
 ⟨411,["self","limit"],["is_fence","mark"],[],cI⟩,
 ⟨418,["self"],["code","syntax"],[],cQ⟩,
 ⟨425,["self"],["word"],[],pq⟩,
 ⟨432,["self","limit"],["mark","start","syntax"],[],eO⟩,
 ⟨439,["self","syntax"],[],[],du⟩,
 ⟨446,["self","limit"],[],[],lQ⟩,
 ⟨460,["walk"],["syntax"],[],nU⟩,
 ⟨468,["view","table","place","limit","state","target","stop_before","stop_comment"],["walk","depth","comment"],[.none,.none,.bool false,.bool false],fX⟩,
 ⟨475,["view","table","place"],[],[],oJ⟩,
 ⟨482,["view","table","at"],["walk"],[],iU⟩,
 ⟨489,["view","table","limit"],["walk","comments","strings","start","comment","string"],[],oO⟩,
 ⟨503,["self","view","table","place","depth","is_expression"],[],[],lV⟩,
 ⟨510,["self"],[],[],iZ⟩,
 ⟨517,["self"],[],[],zV⟩,
 ⟨524,["self"],[],[],iR⟩,
 ⟨531,["self","end"],[],[],dg⟩,
 ⟨538,["self","end"],[],[],Bq⟩,
 ⟨552,["view","table","place"],["begin","code","at","syntax"],[],kj⟩,
 ⟨559,["scan"],["view","table","syntax"],[],ph⟩,
 ⟨566,["scan"],["view","table","end","syntax"],[],gV⟩,
 ⟨573,["scan","kind","opens","closes"],[],[],dO⟩,
 ⟨580,["view","table","at","depth","is_expression"],["scan"],[],jb⟩,
 ⟨587,["view","table","place"],["end","at","syntax","is_alike"],[],uT⟩,
 ⟨594,["scan","comments"],["view","table","syntax"],[],jP⟩,
 ⟨601,["scan","comments","strings"],["view","table","syntax","quoted","begin"],[],fV⟩,
 ⟨608,["view","table","at","depth","is_expression"],["comments","strings","scan"],[],ik⟩,
 ⟨615,["view","table","at","count","depth","is_expression"],[],[],nM⟩,
 ⟨622,["view","table","at","count","depth"],[],[],gC⟩,
 ⟨629,["view","table","at","count"],[],[],gj⟩,
 ⟨636,["view","table","at"],["comments","syntax"],[],eG⟩,
 ⟨643,["view","count"],[],[],zj⟩,
 ⟨650,["view","table","at","count"],["found"],[],dZ⟩,
 ⟨657,["view","table","at","count"],["found"],[],gQ⟩,
 ⟨664,["view","table","at","count","depth"],["way","turn"],[],jY⟩,
 ⟨671,["view","table","at","count"],[],[],nC⟩,
 ⟨678,["view","table","at","count"],[],[],iM⟩,
 ⟨685,["view","table","place"],["syntax"],[],kh⟩,
 ⟨700,["self","codes","place"],[],[.int 1 1233],gK⟩,
 ⟨707,["self"],[],[],fU⟩,
 ⟨714,["self"],[],[],iQ⟩,
 ⟨721,["self","place"],[],[],d7⟩,
 ⟨733,["script"],["cells"],[],o8⟩,
 ⟨740,["deck","many"],["rest","mixed"],[],pA⟩,
 ⟨745,["script","least","most"],["many","size"],[],oX⟩,
 ⟨750,["codes_so_far","text"],[],[],rM⟩,
 ⟨757,["deck","codes_so_far","is_needed"],["way","inner"],[],je⟩,
 ⟨764,["deck","codes_so_far"],["nth"],[],pg⟩,
 ⟨771,["deck","codes_so_far","around","deep","left","items","before"],["prefix","lists_it","first","start","inner","kind","opens","closes"],[],pG⟩,
 ⟨778,["deck","codes_so_far","around","deep","left"],["items","before"],[],lM⟩,
 ⟨785,["move","view","table","at","count"],[],[],ir⟩,
 ⟨792,["view","table","item"],["first","start","end","inner","around","spot"],[],eY⟩,
 ⟨797,["view","table","items","begin","end","around"],["rims","at","behind","ahead","due","lists","item"],[],eE⟩,
 ⟨804,["script"],["deck","codes_so_far","items","view","table"],[],Q6⟩]
structure bc (K:Frag):Prop where
 all:∀ p∈fns,∃ sc body,Vd K p.a sc p.ps p.dv body∧bZ sc (p.ps++p.more) p.S (.many body)=true∧(p.ps++p.more).Nodup
section
variable {K:Frag} {w:World} {Z9:Heap} {os:OsState} {n:Nat} {R:Value→Hp→Prop} {σ:Hp} {Q:Value→Hp→Prop}
theorem zdz {i:Nat} {p:FnI} {args:List Value} (X:Bs K Z9) (F:bc K) (hi:fns[i]?=some p) (hn:1 < n) (hlen:args.length+p.dv.length=p.ps.length) (h:ex w Z9 os n R p.S ((args++p.dv.map er).map some++p.more.map fun _=>none) σ (j0 Q)):CallSem w Z9 os (n+1) (.ref p.a) args σ Q R:=by
 refine aC (fun sc body f1 f2 f3=>?_) (F.all p (List.mem_of_getElem? hi))
 exact Nk X f1 (Wn hn _) f2 f3 hlen h
noncomputable abbrev CF (K:Frag) (w:World) (Z9:Heap) (os:OsState) (n:Nat) (R:Value→Hp→Prop) (σ:Hp) (Q:Value→Hp→Prop) (S:S) (a:Addr) (args:List Value) (ρ:Loc):Prop:=Bs K Z9→bc K→1 < n→ex w Z9 os n R S ρ σ (j0 Q)→CallSem w Z9 os (n+1) (.ref a) args σ Q R
theorem az {i:Nat} {p:FnI} {args:List Value} (hi:fns[i]?=some p) (hlen:args.length+p.dv.length=p.ps.length):CF K w Z9 os n R σ Q p.S p.a args ((args++p.dv.map er).map some++p.more.map fun _=>none):=fun X F hn h=>zdz X F hi hn hlen h
theorem my {a0 a1 a2 a3 a4 a5 a6 a7 a8 a9 a10 a11 a12:Value}:CF K w Z9 os n R σ Q bG 37 [a0,a1,a2,a3,a4,a5,a6,a7,a8,a9,a10,a11,a12] [some a0,some a1,some a2,some a3,some a4,some a5,some a6,some a7,some a8,some a9,some a10,some a11,some a12]:=az (i:=0) rfl rfl
theorem jN {a0:Value}:CF K w Z9 os n R σ Q bG 37 [a0] [some a0,some (.ref 29),some (.int 0 0),some (.int 0 0),some (.none),some (.none),some (.none),some (.int 0 0),some (.str "" 0),some (.bool false),some (.none),some (.bool false),some (.str "" 0)]:=az (i:=1) rfl rfl
theorem lG {a0:Value}:CF K w Z9 os n R σ Q dI 44 [a0] [some a0]:=az (i:=2) rfl rfl
theorem wL {a0:Value}:CF K w Z9 os n R σ Q pB 79 [a0] [some a0,none,none,none,none,none,none,none,none,none,none,none,none]:=az (i:=3) rfl rfl
theorem rK {a0 a1 a2 a3:Value}:CF K w Z9 os n R σ Q iT 113 [a0,a1,a2,a3] [some a0,some a1,some a2,some a3]:=az (i:=4) rfl rfl
theorem tY {a0 a1:Value}:CF K w Z9 os n R σ Q jU 120 [a0,a1] [some a0,some a1]:=az (i:=5) rfl rfl
theorem lF {a0:Value}:CF K w Z9 os n R σ Q iu 127 [a0] [some a0]:=az (i:=6) rfl rfl
theorem jh {a0:Value}:CF K w Z9 os n R σ Q fu 134 [a0] [some a0]:=az (i:=7) rfl rfl
theorem qJ {a0:Value}:CF K w Z9 os n R σ Q lU 141 [a0] [some a0]:=az (i:=8) rfl rfl
theorem qZ {a0:Value}:CF K w Z9 os n R σ Q iV 158 [a0] [some a0,none,none,none]:=az (i:=9) rfl rfl
theorem lD {a0 a1:Value}:CF K w Z9 os n R σ Q bB 173 [a0,a1] [some a0,some a1]:=az (i:=10) rfl rfl
theorem jm {a0:Value}:CF K w Z9 os n R σ Q bB 173 [a0] [some a0,some (.none)]:=az (i:=11) rfl rfl
theorem gq {a0 a1 a2:Value}:CF K w Z9 os n R σ Q cj 187 [a0,a1,a2] [some a0,some a1,some a2,none,none]:=az (i:=12) rfl rfl
theorem nj {a0 a1:Value}:CF K w Z9 os n R σ Q eH 201 [a0,a1] [some a0,some a1,none]:=az (i:=13) rfl rfl
theorem nT {a0 a1:Value}:CF K w Z9 os n R σ Q fJ 208 [a0,a1] [some a0,some a1,none,none]:=az (i:=14) rfl rfl
theorem yz:CF K w Z9 os n R σ Q rn 236 [] []:=az (i:=15) rfl rfl
theorem nR:CF K w Z9 os n R σ Q fC 243 [] [none,none,none]:=az (i:=16) rfl rfl
theorem ue:CF K w Z9 os n R σ Q jK 250 [] [none]:=az (i:=17) rfl rfl
theorem uI {a0 a1 a2 a3 a4:Value}:CF K w Z9 os n R σ Q mO 264 [a0,a1,a2,a3,a4] [some a0,some a1,some a2,some a3,some a4]:=az (i:=18) rfl rfl
theorem u6 {a0 a1 a2:Value}:CF K w Z9 os n R σ Q mD 278 [a0,a1,a2] [some a0,some a1,some a2,none]:=az (i:=19) rfl rfl
theorem tZ {a0 a1:Value}:CF K w Z9 os n R σ Q pR 285 [a0,a1] [some a0,some a1,none]:=az (i:=20) rfl rfl
theorem tL {a0 a1 a2:Value}:CF K w Z9 os n R σ Q pM 292 [a0,a1,a2] [some a0,some a1,some a2,none,none]:=az (i:=21) rfl rfl
theorem wV {a0 a1 a2:Value}:CF K w Z9 os n R σ Q vZ 299 [a0,a1,a2] [some a0,some a1,some a2,none,none]:=az (i:=22) rfl rfl
theorem IW {a0 a1 a2 a3:Value}:CF K w Z9 os n R σ Q DX 306 [a0,a1,a2,a3] [some a0,some a1,some a2,some a3]:=az (i:=23) rfl rfl
theorem uD {a0 a1 a2:Value}:CF K w Z9 os n R σ Q mj 313 [a0,a1,a2] [some a0,some a1,some a2,none,none]:=az (i:=24) rfl rfl
theorem vm {a0 a1 a2 a3 a4:Value}:CF K w Z9 os n R σ Q mJ 327 [a0,a1,a2,a3,a4] [some a0,some a1,some a2,some a3,some a4]:=az (i:=25) rfl rfl
theorem uc {a0:Value}:CF K w Z9 os n R σ Q kJ 334 [a0] [some a0,none]:=az (i:=26) rfl rfl
theorem ud {a0:Value}:CF K w Z9 os n R σ Q jT 341 [a0] [some a0]:=az (i:=27) rfl rfl
theorem oR {a0:Value}:CF K w Z9 os n R σ Q fY 348 [a0] [some a0]:=az (i:=28) rfl rfl
theorem mV {a0:Value}:CF K w Z9 os n R σ Q d8 355 [a0] [some a0]:=az (i:=29) rfl rfl
theorem qL {a0 a1:Value}:CF K w Z9 os n R σ Q ie 362 [a0,a1] [some a0,some a1]:=az (i:=30) rfl rfl
theorem tV {a0:Value}:CF K w Z9 os n R σ Q kO 369 [a0] [some a0]:=az (i:=31) rfl rfl
theorem jC {a0 a1 a2:Value}:CF K w Z9 os n R σ Q cU 376 [a0,a1,a2] [some a0,some a1,some a2]:=az (i:=32) rfl rfl
theorem dU {a0:Value}:CF K w Z9 os n R σ Q bW 383 [a0] [some a0]:=az (i:=33) rfl rfl
theorem km {a0 a1:Value}:CF K w Z9 os n R σ Q dw 390 [a0,a1] [some a0,some a1]:=az (i:=34) rfl rfl
theorem mF {a0:Value}:CF K w Z9 os n R σ Q eX 397 [a0] [some a0]:=az (i:=35) rfl rfl
theorem uz {a0 a1 a2 a3:Value}:CF K w Z9 os n R σ Q lO 404 [a0,a1,a2,a3] [some a0,some a1,some a2,some a3]:=az (i:=36) rfl rfl
theorem iB {a0 a1:Value}:CF K w Z9 os n R σ Q cI 411 [a0,a1] [some a0,some a1,none,none]:=az (i:=37) rfl rfl
theorem jg {a0:Value}:CF K w Z9 os n R σ Q cQ 418 [a0] [some a0,none,none]:=az (i:=38) rfl rfl
theorem mZ {a0 a1:Value}:CF K w Z9 os n R σ Q eO 432 [a0,a1] [some a0,some a1,none,none,none]:=az (i:=40) rfl rfl
theorem jM {a0 a1:Value}:CF K w Z9 os n R σ Q du 439 [a0,a1] [some a0,some a1]:=az (i:=41) rfl rfl
theorem vq {a0 a1:Value}:CF K w Z9 os n R σ Q lQ 446 [a0,a1] [some a0,some a1]:=az (i:=42) rfl rfl
theorem mH {a0 a1 a2 a3:Value}:CF K w Z9 os n R σ Q fX 468 [a0,a1,a2,a3] [some a0,some a1,some a2,some a3,some (.none),some (.none),some (.bool false),some (.bool false),none,none,none]:=az (i:=44) rfl rfl
theorem wN {a0 a1 a2:Value}:CF K w Z9 os n R σ Q oJ 475 [a0,a1,a2] [some a0,some a1,some a2]:=az (i:=45) rfl rfl
theorem rP {a0 a1 a2:Value}:CF K w Z9 os n R σ Q iU 482 [a0,a1,a2] [some a0,some a1,some a2,none]:=az (i:=46) rfl rfl
theorem wy {a0 a1 a2:Value}:CF K w Z9 os n R σ Q oO 489 [a0,a1,a2] [some a0,some a1,some a2,none,none,none,none,none,none]:=az (i:=47) rfl rfl
theorem vB {a0 a1 a2 a3 a4 a5:Value}:CF K w Z9 os n R σ Q lV 503 [a0,a1,a2,a3,a4,a5] [some a0,some a1,some a2,some a3,some a4,some a5]:=az (i:=48) rfl rfl
theorem rC {a0:Value}:CF K w Z9 os n R σ Q iZ 510 [a0] [some a0]:=az (i:=49) rfl rfl
theorem rW {a0:Value}:CF K w Z9 os n R σ Q iR 524 [a0] [some a0]:=az (i:=51) rfl rfl
theorem gf {a0 a1:Value}:CF K w Z9 os n R σ Q dg 531 [a0,a1] [some a0,some a1]:=az (i:=52) rfl rfl
theorem tX {a0 a1 a2:Value}:CF K w Z9 os n R σ Q kj 552 [a0,a1,a2] [some a0,some a1,some a2,none,none,none,none]:=az (i:=54) rfl rfl
theorem wO {a0:Value}:CF K w Z9 os n R σ Q ph 559 [a0] [some a0,none,none,none]:=az (i:=55) rfl rfl
theorem qw {a0:Value}:CF K w Z9 os n R σ Q gV 566 [a0] [some a0,none,none,none,none]:=az (i:=56) rfl rfl
theorem eU {a0 a1 a2 a3:Value}:CF K w Z9 os n R σ Q dO 573 [a0,a1,a2,a3] [some a0,some a1,some a2,some a3]:=az (i:=57) rfl rfl
theorem sO {a0 a1 a2 a3 a4:Value}:CF K w Z9 os n R σ Q jb 580 [a0,a1,a2,a3,a4] [some a0,some a1,some a2,some a3,some a4,none]:=az (i:=58) rfl rfl
theorem t6 {a0 a1:Value}:CF K w Z9 os n R σ Q jP 594 [a0,a1] [some a0,some a1,none,none,none]:=az (i:=60) rfl rfl
theorem o6 {a0 a1 a2:Value}:CF K w Z9 os n R σ Q fV 601 [a0,a1,a2] [some a0,some a1,some a2,none,none,none,none,none]:=az (i:=61) rfl rfl
theorem pQ {a0 a1 a2 a3 a4:Value}:CF K w Z9 os n R σ Q ik 608 [a0,a1,a2,a3,a4] [some a0,some a1,some a2,some a3,some a4,none,none,none]:=az (i:=62) rfl rfl
theorem pL {a0 a1 a2 a3 a4 a5:Value}:CF K w Z9 os n R σ Q nM 615 [a0,a1,a2,a3,a4,a5] [some a0,some a1,some a2,some a3,some a4,some a5]:=az (i:=63) rfl rfl
theorem lq {a0 a1 a2 a3 a4:Value}:CF K w Z9 os n R σ Q gC 622 [a0,a1,a2,a3,a4] [some a0,some a1,some a2,some a3,some a4]:=az (i:=64) rfl rfl
theorem lr {a0 a1 a2 a3:Value}:CF K w Z9 os n R σ Q gj 629 [a0,a1,a2,a3] [some a0,some a1,some a2,some a3]:=az (i:=65) rfl rfl
theorem mW {a0 a1 a2:Value}:CF K w Z9 os n R σ Q eG 636 [a0,a1,a2] [some a0,some a1,some a2,none,none]:=az (i:=66) rfl rfl
theorem xM {a0 a1:Value}:CF K w Z9 os n R σ Q zj 643 [a0,a1] [some a0,some a1]:=az (i:=67) rfl rfl
theorem iG {a0 a1 a2 a3:Value}:CF K w Z9 os n R σ Q dZ 650 [a0,a1,a2,a3] [some a0,some a1,some a2,some a3,none]:=az (i:=68) rfl rfl
theorem qF {a0 a1 a2 a3:Value}:CF K w Z9 os n R σ Q gQ 657 [a0,a1,a2,a3] [some a0,some a1,some a2,some a3,none]:=az (i:=69) rfl rfl
theorem nY {a0 a1 a2 a3 a4:Value}:CF K w Z9 os n R σ Q jY 664 [a0,a1,a2,a3,a4] [some a0,some a1,some a2,some a3,some a4,none,none]:=az (i:=70) rfl rfl
theorem ql {a0 a1 a2 a3:Value}:CF K w Z9 os n R σ Q nC 671 [a0,a1,a2,a3] [some a0,some a1,some a2,some a3]:=az (i:=71) rfl rfl
theorem mY {a0 a1 a2 a3:Value}:CF K w Z9 os n R σ Q iM 678 [a0,a1,a2,a3] [some a0,some a1,some a2,some a3]:=az (i:=72) rfl rfl
theorem oE {a0 a1 a2:Value}:CF K w Z9 os n R σ Q kh 685 [a0,a1,a2] [some a0,some a1,some a2,none]:=az (i:=73) rfl rfl
theorem nW {a0 a1:Value}:CF K w Z9 os n R σ Q gK 700 [a0,a1] [some a0,some a1,some (.int 1 0)]:=az (i:=74) rfl rfl
theorem oV {a0:Value}:CF K w Z9 os n R σ Q fU 707 [a0] [some a0]:=az (i:=75) rfl rfl
theorem sS {a0:Value}:CF K w Z9 os n R σ Q iQ 714 [a0] [some a0]:=az (i:=76) rfl rfl
theorem lW {a0 a1:Value}:CF K w Z9 os n R σ Q d7 721 [a0,a1] [some a0,some a1]:=az (i:=77) rfl rfl
theorem wz {a0:Value}:CF K w Z9 os n R σ Q o8 733 [a0] [some a0,none]:=az (i:=78) rfl rfl
theorem wJ {a0 a1:Value}:CF K w Z9 os n R σ Q pA 740 [a0,a1] [some a0,some a1,none,none]:=az (i:=79) rfl rfl
theorem wD {a0 a1 a2:Value}:CF K w Z9 os n R σ Q oX 745 [a0,a1,a2] [some a0,some a1,some a2,none,none]:=az (i:=80) rfl rfl
theorem yp {a0 a1:Value}:CF K w Z9 os n R σ Q rM 750 [a0,a1] [some a0,some a1]:=az (i:=81) rfl rfl
theorem sH {a0 a1 a2:Value}:CF K w Z9 os n R σ Q je 757 [a0,a1,a2] [some a0,some a1,some a2,none,none]:=az (i:=82) rfl rfl
theorem wC {a0 a1:Value}:CF K w Z9 os n R σ Q pg 764 [a0,a1] [some a0,some a1,none]:=az (i:=83) rfl rfl
theorem wR {a0 a1 a2 a3 a4 a5 a6:Value}:CF K w Z9 os n R σ Q pG 771 [a0,a1,a2,a3,a4,a5,a6] [some a0,some a1,some a2,some a3,some a4,some a5,some a6,none,none,none,none,none,none,none,none]:=az (i:=84) rfl rfl
theorem wj {a0 a1 a2 a3 a4:Value}:CF K w Z9 os n R σ Q lM 778 [a0,a1,a2,a3,a4] [some a0,some a1,some a2,some a3,some a4,none,none]:=az (i:=85) rfl rfl
theorem iW {a0 a1 a2 a3 a4:Value}:CF K w Z9 os n R σ Q ir 785 [a0,a1,a2,a3,a4] [some a0,some a1,some a2,some a3,some a4]:=az (i:=86) rfl rfl
theorem mG {a0 a1 a2:Value}:CF K w Z9 os n R σ Q eY 792 [a0,a1,a2] [some a0,some a1,some a2,none,none,none,none,none,none]:=az (i:=87) rfl rfl
theorem lH {a0 a1 a2 a3 a4 a5:Value}:CF K w Z9 os n R σ Q eE 797 [a0,a1,a2,a3,a4,a5] [some a0,some a1,some a2,some a3,some a4,some a5,none,none,none,none,none,none,none]:=az (i:=88) rfl rfl
theorem Mx {a0:Value}:CF K w Z9 os n R σ Q Q6 804 [a0] [some a0,none,none,none,none,none]:=az (i:=89) rfl rfl
end
inductive Ch where
 |nl|sp|dq|hs|qt|lp|rp|cm|mi|sc|am|lb|bs|rb|bq|a|b|br
 deriving DecidableEq
noncomputable def code:Ch→Nat
 |.nl=>10|.sp=>32|.dq=>34|.hs=>35|.qt=>39|.lp=>40|.rp=>41|.cm=>44|.mi=>45|.sc=>59|.am=>64|.lb=>91|.bs=>92|.rb=>93|.bq=>96|.a=>97|.b=>98|.br=>124
noncomputable def kind:Ch→Str
 |.nl=>">"|.sp=>" "|.dq=>"\""|.hs=>"'"|.qt=>"'"|.lp=>"("|.rp=>")"|.cm=>"'"|.mi=>"_"|.sc=>"<"|.am=>"_"|.lb=>"("|.bs=>"\\"|.rb=>")"|.bq=>"'"|.a=>"w"|.b=>"w"|.br=>"_"
noncomputable def flags:Ch→Str
 |.hs=>"14"|.am=>"p"|.br=>"23bn"|_=>""
noncomputable def aM (c:Ch):Bool:=decide (c=.bs)
noncomputable def cH:Ch→Bool
 |.mi=>true|.am=>true|.a=>true|.b=>true|.br=>true|_=>false
noncomputable def fW:Ch→Bool
 |.lp=>true|.lb=>true|_=>false
noncomputable def dX:Ch→Bool
 |.rp=>true|.rb=>true|_=>false
noncomputable def eZ:Ch→Bool
 |.hs=>true|.qt=>true|.cm=>true|.bq=>true|_=>false
noncomputable def chs:List Ch:=[.nl,.sp,.dq,.hs,.qt,.lp,.rp,.cm,.mi,.sc,.am,.lb,.bs,.rb,.bq,.a,.b,.br]
@[elab_as_elim] theorem pH {P:Ch→Prop} [DecidablePred P] (y:Ch) (h:chs.all (fun y=>decide (P y))=true):P y :=
 of_decide_eq_true (List.all_eq_true.mp h y (by cases y<;>(unfold chs;repeat constructor)))
noncomputable def ao (cs:List Ch) (p:Int):Option Ch:=if 1≤p then cs[(p - 1).toNat]? else none
noncomputable def Q7:Option Ch→Int
 |some c=>code c
 |none=>-1
structure Mk where
 len:Int
 style:Str
 nests:Bool
 fence:Bool
noncomputable def aQ (c d:Option Ch):Option Mk:=match c with
 |some .hs=>(match d with
  |some .br=>some ⟨2,"b",true,false⟩
  |_=>none)
 |some .sc=>some ⟨1,"",false,false⟩
 |_=>none
noncomputable def jz (c d:Option Ch):Option Mk:=match c with
 |some .br=>(match d with
  |some .hs=>some ⟨2,"b",true,false⟩
  |_=>none)
 |some .nl=>some ⟨1,"",false,false⟩
 |_=>none
noncomputable def dN (o:Option Mk) (st:Str) (ns fe:Bool):Bool:=match o with
 |none=>false
 |some k=>if k.fence=fe then fe||(decide (k.style=st)&&k.nests == ns) else false
noncomputable def Ext (σ σ':Hp):Prop:=∀ a c,σ a=some c→σ' a=some c
theorem Ext.refl {σ:Hp}:Ext σ σ:=fun _ _ e=>e
theorem Ext.trans {a b c:Hp} (x:Ext a b) (y:Ext b c):Ext a c:=fun q r e=>y q r (x q r e)
theorem Ext.put {σ:Hp} {a:Addr} {c:Cell} (h:σ a=none):Ext σ (σ.put a c):=fun _ _ e=>eQ h e
noncomputable def Mod (X:Addr→Prop) (σ σ':Hp):Prop:=∀ a c,¬ X a→σ a=some c→σ' a=some c
noncomputable def RW (Z9:Heap):Prop:=∃ n,IsT Z9 29 (List.toArray []) n
structure ViewAt (σ:Hp) (v c:Addr) (cs:List Ch):Prop where
 vw:σ v=some (.inst 724 [(29,.ref c),(23,vi 1)])
 co:σ c=some (.list (cs.map fun x=>vi (code x)))
noncomputable def SynAt (σ:Hp) (s:Addr) (c:Ch):Prop:=∃ m,σ s=some (.inst 144 [(14,vs (kind c)),(15,m),(16,vs (flags c))])
structure TableAt (σ:Hp) (t:Addr):Prop where
 at_:∃ p d d2 n n2 f f2,σ t=some (.inst 225 [(17,.ref p),(18,.ref d)])∧σ d=some (.dict n f)∧σ p=some (.inst 225 [(17,.none),(18,.ref d2)])∧σ d2=some (.dict n2 f2) ∧
  ∀ c:Ch,(∃ s,f (code c)=some (.ref s)∧SynAt σ s c)∨(f (code c)=none∧∃ s,f2 (code c)=some (.ref s)∧SynAt σ s c)
noncomputable def SynV (σ:Hp) (r:Value) (o:Option Ch):Prop:=match o with
 |none=>r=.none
 |some c=>∃ s,r=.ref s∧SynAt σ s c
noncomputable def MarkV (σ:Hp) (r:Value) (o:Option Mk):Prop:=match o with
 |none=>r=.none
 |some k=>∃ m,r=.ref m∧σ m=some (.inst 267 [(19,vi k.len),(7,vs k.style),(8,.bool k.nests),(20,.bool k.fence)])
theorem SynAt.ext {σ σ':Hp} {s c} (x:SynAt σ s c) (e:Ext σ σ'):SynAt σ' s c:=let ⟨m,h⟩:=x;⟨m,e _ _ h⟩
theorem SynV.ext {σ σ':Hp} {r o} (x:SynV σ r o) (e:Ext σ σ'):SynV σ' r o:=by
 cases o with
 |none=>exact x
 |some c=>refine aV (fun s h k=>?_) x;exact⟨s,h,k.ext e⟩
theorem MarkV.ext {σ σ':Hp} {r o} (x:MarkV σ r o) (e:Ext σ σ'):MarkV σ' r o:=by
 cases o with
 |none=>exact x
 |some c=>refine aV (fun s h k=>?_) x;exact⟨s,h,e _ _ k⟩
theorem ViewAt.ext {σ σ':Hp} {v c cs} (x:ViewAt σ v c cs) (e:Ext σ σ'):ViewAt σ' v c cs:=⟨e _ _ x.vw,e _ _ x.co⟩
theorem TableAt.ext {σ σ':Hp} {t} (x:TableAt σ t) (e:Ext σ σ'):TableAt σ' t:=by
 obtain⟨p,d,d2,n,n2,f,f2,h1,h2,h3,h4,h5⟩:=x
 exact⟨p,d,d2,n,n2,f,f2,e _ _ h1,e _ _ h2,e _ _ h3,e _ _ h4,fun c=>(h5 c).elim (fun⟨s,a,b⟩=>.inl ⟨s,a,b.ext e⟩) fun⟨q,s,a,b⟩=>.inr ⟨q,s,a,b.ext e⟩⟩
noncomputable def qR (cs:List Ch) (p:Int):Nat:=(((cs.take (p - 1).toNat).reverse).takeWhile fun c=>decide (c=.bs)).length
noncomputable def isQ (cs:List Ch) (p:Int):Bool:=decide (qR cs p % 2=1)
theorem bC {σ:Hp} {a b:Addr} {c d:Cell} (h1:σ a=some c) (h2:σ b=some d) (h:c≠d):a≠b:=fun e=>h (by rw[e,h2] at h1;exact(Option.some.inj h1).symm)
theorem cJ {σ:Hp} {a b:Addr} {c:Cell} (h1:σ a=some c) (h2:σ b=none):a≠b:=fun e=>by rw[e,h2] at h1;cases h1
theorem cO {p:Prop} [Decidable p] {A B:Prop} (h1:p→A) (h2:¬ p→B):dR (decide p) A B:=by
 by_cases h:p
 ·rw[decide_eq_true h];exact h1 h
 ·rw[decide_eq_false h];exact h2 h
theorem yt {p:Prop} [Decidable p] {A B:Prop} (h1:p→B) (h2:¬ p→A):dR (!decide p) A B:=by
 by_cases h:p
 ·rw[decide_eq_true h];exact h1 h
 ·rw[decide_eq_false h];exact h2 h
theorem ze4 {f:Value} {P Q:Prop} (h:fnV f=true) (p:P):dR (fnV f) P Q:=by rw[h];exact p
theorem bF {A B:Prop} (h:A):dR true A B:=h
theorem bD {A B:Prop} (h:B):dR false A B:=h
theorem dK {A B:Prop} (h:B):dR (!true) A B:=h
theorem nZ {A B:Prop} (h:A):dR (!false) A B:=h
theorem jj {b:Bool} {P P' A B:Prop} (h:dR b P P') (f:P→A) (g:P'→B):dR b A B:=by
 cases b
 ·exact g h
 ·exact f h
theorem jR {b:Bool} {P P':Prop} (h:dR b P P') (e:b=true):P:=by subst e;exact h
theorem jH {b:Bool} {P P':Prop} (h:dR b P P') (e:b=false):P':=by subst e;exact h
theorem lg {b:Bool} {P P' Q Q':Prop} (h:dR b P P') (f:P→Q) (g:P'→Q'):dR b Q Q':=by
 cases b
 ·exact g h
 ·exact f h
theorem jQ {o:Option Value} (h:o=none):o.isSome=false:=by rw[h];rfl
noncomputable abbrev Skp (P G:Prop):Prop:=(P→G)→P→G
section
variable {w:World} {Z9:Heap} {os:OsState} {n m:Nat} {R:Value→Hp→Prop} {σ:Hp} {k:List Value→Hp→Prop} {f:Value} {xs:List Value}
theorem ak {V:Value} {τ:Hp} (c:CallSem w Z9 os m f xs σ (fun r σ'=>r=V∧σ'=τ) R) (hm:m≤n) (h:k [V] τ):iD w Z9 os n R f xs σ k:=aF c hm (by rintro v s ⟨rfl,rfl⟩;exact h)
theorem cR {Q:Value→Prop} {τ:Hp} (c:CallSem w Z9 os m f xs σ (fun r σ'=>Q r∧σ'=τ) R) (hm:m≤n) (h:∀ v,Q v→k [v] τ):iD w Z9 os n R f xs σ k:=aF c hm (by rintro v s ⟨q,rfl⟩;exact h v q)
theorem au {Q:Hp→Prop} {V:Value} (c:CallSem w Z9 os m f xs σ (fun r σ'=>r=V∧Q σ') R) (hm:m≤n) (h:∀ s,Q s→k [V] s):iD w Z9 os n R f xs σ k:=aF c hm (by rintro v s ⟨rfl,q⟩;exact h s q)
theorem Pz {ρ:Loc} {t:E} {b:S} {k:Fl→Loc→Hp→Prop} (I:Nat→Loc→Hp→Prop) (m:Nat) (h0:I m ρ σ) (h:∀ J:Nat→Loc→Hp→Prop,(∀ m ρ σ,I m ρ σ→J m ρ σ)→∀ m ρ σ,I m ρ σ→ev w Z9 os n R ρ t σ fun xs σ=>cZ xs fun x=>dR x (ex w Z9 os n R b ρ σ (Xk J m k)) (k .next ρ σ)):ex w Z9 os n R (.whl t b) ρ σ k :=
 gh I m h0 (h I fun _ _ _ h=>h)
theorem cps {n:Nat} {S:S} {ρ:Loc} {Post:Value→Hp→Prop} (h:∀ Q,(∀ r σ',Post r σ'→Q r σ')→ex w Z9 os n R S ρ σ (j0 Q)):ex w Z9 os n R S ρ σ (j0 Post):=h Post (fun _ _ h=>h)
end
section
variable {w:World} {Z9:Heap} {os:OsState} {R:Value→Hp→Prop} {σ:Hp}
noncomputable def Pu (w:World) (Z9:Heap) (os:OsState) (n:Nat) (R:Value→Hp→Prop) (ρ:Loc) (σ:Hp) (e:E) (b:Bool):Prop:=∀ k:List Value→Hp→Prop,k [.bool b] σ→ev w Z9 os n R ρ e σ k
section
variable {n:Nat} {ρ:Loc} {e e':E} {b b':Bool}
theorem Pu.or (h:Pu w Z9 os n R ρ σ e b) (h':Pu w Z9 os n R ρ σ e' b'):Pu w Z9 os n R ρ σ (.bor e e') (b||b'):=fun k q=>by
 refine zdc (h _ ?_)
 cases b
 ·exact h' _ q
 ·exact q
theorem Pu.and (h:Pu w Z9 os n R ρ σ e b) (h':Pu w Z9 os n R ρ σ e' b'):Pu w Z9 os n R ρ σ (.band e e') (b&&b'):=fun k q=>by
 refine Eo (h _ ?_)
 cases b
 ·exact q
 ·exact h' _ q
theorem Pu.not (h:Pu w Z9 os n R ρ σ e b):Pu w Z9 os n R ρ σ (.not e) (!b):=fun _ q=>zep (h _ q)
theorem Pu.ite {A B:S} {k:Fl→Loc→Hp→Prop} (h:Pu w Z9 os n R ρ σ e b) (q:dR b (ex w Z9 os n R A ρ σ k) (ex w Z9 os n R B ρ σ k)):ex w Z9 os n R (.ite e A B) ρ σ k:=XS (h _ q)
theorem zcj {i:Nat} (hl:lk ρ i=some (.bool b)):Pu w Z9 os n R ρ σ (.loc i) b:=fun _ q=>fj hl q
theorem Pu.andF (h:Pu w Z9 os n R ρ σ e false):Pu w Z9 os n R ρ σ (.band e e') false:=fun k q=>Eo (h _ q)
theorem Pu.andT (h:Pu w Z9 os n R ρ σ e true) (h':Pu w Z9 os n R ρ σ e' b'):Pu w Z9 os n R ρ σ (.band e e') b':=fun k q=>Eo (h _ (h' _ q))
theorem zcr {i:Nat} {c:Int} (hl:lk ρ i=some (vi c)):Pu w Z9 os n R ρ σ (.cmp .NotEq (.loc i) (.cst (.int 0 0))) (!decide (c=0)):=fun _ q=>uX (fj hl (aJ (lu (aJ (zf q)))))
section
variable {i f:Nat} {a C:Addr} {fs:List (Nat × Value)} (hl:lk ρ i=some (.ref a)) (he:σ a=some (.inst C fs)) (hm:iI rG C f=none)
include hl he hm
theorem zar {c:Int} (hv:cz fs f=some (vi c)):Pu w Z9 os n R ρ σ (.cmp .Eq (.fld (.loc i) f) (.cst (.int 0 0))) (decide (c=0)):=fun _ q=>uX (vG (fj hl (aJ (g_fld he hm hv (aJ (lu (aJ (Hd q))))))))
theorem zc2 {x:Value} (hv:cz fs f=some x):Pu w Z9 os n R ρ σ (.cmp .Is (.fld (.loc i) f) (.cst .none)) (isNone x):=fun _ q=>uX (vG (fj hl (aJ (g_fld he hm hv (aJ (lu (aJ (zgN q))))))))
end
theorem uW {i:Nat} {x:Value} (hl:lk ρ i=some x):Pu w Z9 os n R ρ σ (.cmp .IsNot (.loc i) (.cst .none)) (!isNone x):=fun _ q=>uX (fj hl (aJ (lu (aJ (R3 q)))))
end
end
local macro_rules | `(tactic| walk_at "m get")=>`(tactic| first
 |assumption
 |exact aa
 |exact eQ (by assumption) (by walk_at "m get")
 |exact aq (by first|assumption|exact Ne.symm (by assumption)) (by walk_at "m get")
 |exact aq (bC (by assumption) (by assumption) (by intro q;cases q)) (by walk_at "m get")
 |exact aq (cJ (by assumption) (by assumption)) (by walk_at "m get")
 |exact(by assumption:Ext _ _) _ _ (by walk_at "m get"))
local macro_rules | `(tactic| walk_at "m one")=>`(tactic| first
 |with_reducible refine aJ ?_
 |((with_reducible show ev _ _ _ _ _ _ _ _ _);first|with_reducible refine fj (by with_unfolding_all rfl) ?_|with_reducible refine zdF (by with_unfolding_all rfl) ?_)
 |((with_reducible show ex _ _ _ _ _ _ _ _ _);with_reducible refine zeE (by with_unfolding_all rfl) ?_)
 |with_reducible refine j9 ?_
 |with_reducible refine bU ?_|with_reducible refine BV ?_|with_reducible refine zfi ?_
 |with_reducible refine bF ?_|with_reducible refine ze4 (by decide) ?_|with_reducible refine bD ?_
 |with_reducible refine uG ?_|with_reducible refine Vy ?_
 |with_reducible refine zcb (by with_unfolding_all rfl) ?_
 |with_reducible refine dK ?_|with_reducible refine nZ ?_|with_reducible refine zft ?_
 |with_reducible refine zaq (by with_unfolding_all rfl) ?_
 |with_reducible refine zbL (by with_unfolding_all rfl) ?_)
local macro_rules | `(tactic| walk_at "m step")=>`(tactic|
 (refine' (?f:Skp _ _) ?aux ?x;(case aux=>(intro h;(walk_at "m one");(with_reducible conv=>whnf);exact h));(case f=>with_unfolding_all exact fun _ x=>x)))
local macro_rules | `(tactic| walk_at "m it")=>`(tactic| first
 |(refine' (?f:Skp _ _) ?aux ?x;(case aux=>(intro h;(repeat1' (walk_at "m one"));(with_reducible conv=>whnf);exact h));(case f=>with_unfolding_all exact fun _ x=>x))
 |((with_reducible refine' g_fld ?e ?m ?v ?_);(case e=>walk_at "m get");(case m=>with_unfolding_all rfl);(case v=>first|assumption|with_unfolding_all rfl))
 |((with_reducible refine' vL ?e ?m ?v ?_);(case e=>walk_at "m get");(case m=>with_unfolding_all rfl);(case v=>with_unfolding_all rfl))
 |((with_reducible refine' g_fasg ?e ?m ?p ?f ?_);(case e=>walk_at "m get");(case m=>with_unfolding_all rfl);(case p=>first|assumption|with_unfolding_all rfl);(case f=>with_unfolding_all rfl))
 |((with_reducible refine' f_len_l ?e ?_);(case e=>walk_at "m get"))|((with_reducible refine' f_len_t ?e ?_);(case e=>walk_at "m get"))|with_reducible refine f_min ?_|with_reducible refine f_abs ?_
 |((with_reducible refine' ye ?e ?_);(case e=>walk_at "m get"))|((with_reducible refine' uq ?e ?_);(case e=>walk_at "m get"))
 |((with_reducible refine' m_get ?e ?_);(case e=>walk_at "m get"))|((with_reducible refine' zdg ?e ?_);(case e=>walk_at "m get")))
local macro_rules | `(tactic| walk_at "m")=>`(tactic| repeat' (walk_at "m it"))
section
variable {K:Frag} {w:World} {Z9:Heap} {os:OsState} {R:Value→Hp→Prop} {σ:Hp} {v c t:Addr} {cs:List Ch}
theorem iC (X:Bs K Z9) (F:bc K) (V:ViewAt σ v c cs):CallSem w Z9 os 3 (.ref 707) [.ref v] σ (fun r σ'=>r=vi 1∧σ'=σ) R:=by
 obtain⟨h1,h2⟩:=V
 refine oV X F (by decide) ?_
 unfold fU
 walk_at "m"
 exact⟨rfl,rfl⟩
theorem lB (X:Bs K Z9) (F:bc K) (V:ViewAt σ v c cs):CallSem w Z9 os 3 (.ref 714) [.ref v] σ (fun r σ'=>r=vi (1+cs.length)∧σ'=σ) R:=by
 obtain⟨h1,h2⟩:=V
 refine sS X F (by decide) ?_
 unfold iQ
 walk_at "m"
 exact⟨by rw[List.length_map],rfl⟩
theorem cP {p:Int} {x:Ch} (h:ao cs p=some x):1≤p∧p < 1+cs.length∧cs[(p - 1).toNat]?=some x:=by
 unfold ao at h
 split at h
 ·have:=(List.getElem?_eq_some_iff.mp h).1
  exact⟨by assumption,by omega,h⟩
 ·cases h
theorem Wg {p:Int} (h1:1≤p) (h2:p < 1+cs.length):∃ x,ao cs p=some x:=by
 unfold ao
 rw[if_pos h1,List.getElem?_eq_getElem (by omega)]
 exact⟨_,rfl⟩
theorem Bg {p:Int} (h:¬ (1≤p∧p < 1+cs.length)):ao cs p=none:=by
 cases e:ao cs p with
 |none=>rfl
 |some x=>exact absurd ⟨(cP e).1,(cP e).2.1⟩ h
theorem jw (X:Bs K Z9) (F:bc K) (V:ViewAt σ v c cs) (p:Int):CallSem w Z9 os 3 (.ref 721) [.ref v,vi p] σ (fun r σ'=>r=vi (Q7 (ao cs p))∧σ'=σ) R:=by
 obtain⟨h1,h2⟩:=V
 refine lW X F (by decide) ?_
 unfold d7
 walk_at "m"
 refine cO (fun q1=>?_) fun q1=>?_
 ·walk_at "m"
  rw[List.length_map]
  refine cO (fun q2=>?_) fun q2=>?_
  ·walk_at "m"
   obtain⟨x,hx⟩:=Wg q1 q2
   refine i_list h2 (v:=vi (code x)) ?_ ?_
   ·unfold itemAt
    rw[if_pos (by omega),List.getElem?_map,(cP hx).2.2];rfl
   ·walk_at "m"
    rw[hx];exact⟨rfl,rfl⟩
  ·walk_at "m"
   rw[Bg (by omega)];exact⟨rfl,rfl⟩
 ·walk_at "m"
  rw[Bg (by omega)];exact⟨rfl,rfl⟩
theorem Yi (X:Bs K Z9) (F:bc K) {d:Addr} {n:Nat} {f:Int→Option Value} {q:Value} {x:Ch} (h1:σ t=some (.inst 225 [(17,q),(18,.ref d)])) (h2:σ d=some (.dict n f)) (h:f (code x)=none∨∃ s,f (code x)=some (.ref s)∧SynAt σ s x) :
  CallSem w Z9 os 3 (.ref 201) [.ref t,vi (code x)] σ (fun r σ'=>r=(f (code x)).getD .none∧σ'=σ) R:=by
 refine nj X F (by decide) (cps fun Q hQ=>?_)
 replace hQ:=hQ _ _ ⟨rfl,rfl⟩
 unfold eH
 walk_at "m"
 rcases h with h|⟨s,h,m,hs⟩
 ·rw[h] at hQ ⊢
  refine bF ?_
  walk_at "m"
  exact hQ
 ·rw[h] at hQ ⊢
  dsimp only [Option.getD_some]
  refine bD ?_
  walk_at "m"
  refine aH (show decide (kind x="@")=false from pH x (by kernel_rfl)) ?_
  walk_at "m"
  exact hQ
theorem zdA (X:Bs K Z9) (F:bc K) (T:TableAt σ t) (x:Ch):CallSem w Z9 os 4 (.ref 208) [.ref t,vi (code x)] σ (fun r σ'=>∃ s,r=.ref s∧SynAt σ s x∧σ'=σ) R:=by
 obtain⟨p,d,d2,n,n2,f,f2,h1,h2,h3,h4,h5⟩:=T
 refine nT X F (by decide) (cps fun Q hQ=>?_)
 replace hQ:∀ {s},SynAt σ s x→Q (.ref s) σ:=fun h=>hQ _ _ ⟨_,rfl,h,rfl⟩
 unfold fJ
 walk_at "m"
 refine gh (fun m ρ σ'=>σ'=σ∧∃ u,((m=1∧ρ=[some (.ref t),some (vi (code x)),some (.ref t),u])∨(m=0∧f (code x)=none∧ρ=[some (.ref t),some (vi (code x)),some (.ref p),u]))) 1 ⟨rfl,_,.inl ⟨rfl,rfl⟩⟩ fun m ρ σ' hI=>?_
 revert hI;refine w6 fun z0 u z1=>?_;subst z0;obtain⟨rfl,rfl⟩|⟨rfl,hn,rfl⟩:=z1
 ·walk_at "m"
  refine bF ?_
  walk_at "m"
  refine ak (Yi X F h1 h2 ((h5 x).elim .inr fun q=>.inl q.1)) (by decide) ?_
  walk_at "m"
  rcases h5 x with ⟨s,e,hs⟩|⟨e,s,e2,hs⟩
  ·rw[e]
   refine bF ?_
   walk_at "m"
   exact hQ hs
  ·rw[e]
   refine bD ?_
   walk_at "m"
   exact w_next (Nat.lt_succ_self 0) ⟨rfl,_,.inr ⟨rfl,rfl,rfl⟩⟩
 ·refine aV (fun s e2 hs=>?_) ((h5 x).elim (fun⟨s,e,_⟩=>by rw[hn] at e;cases e) And.right)
  walk_at "m"
  refine bF ?_
  walk_at "m"
  refine ak (Yi X F h3 h4 (.inr ⟨s,e2,hs⟩)) (by decide) ?_
  walk_at "m"
  rw[e2]
  refine bF ?_
  walk_at "m"
  exact hQ hs
theorem zah (x:Ch):¬ Q7 (some x) < 0:=pH x (by kernel_rfl)
theorem aX (X:Bs K Z9) (F:bc K) (V:ViewAt σ v c cs) (T:TableAt σ t) (p:Int):CallSem w Z9 os 5 (.ref 278) [.ref v,.ref t,vi p] σ (fun r σ'=>SynV σ r (ao cs p)∧σ'=σ) R:=by
 refine u6 X F (by decide) (cps fun Q hQ=>?_)
 replace hQ:∀ {r},SynV σ r (ao cs p)→Q r σ:=fun h=>hQ _ _ ⟨h,rfl⟩
 unfold mD
 have h1:=V.vw
 refine jc (fun _ _ _ z2=>jc (fun _ _ _ z3=>aV (fun _ h2 _=>?_) z3) z2) T.at_
 walk_at "m"
 refine ak (jw X F V p) (by decide) ?_
 walk_at "m"
 cases e:ao cs p<;>rw[e] at hQ
 ·refine aP rfl ?_
  walk_at "m"
  exact hQ rfl
 ·refine aH (decide_eq_false (zah _)) ?_
  walk_at "m"
  refine aF (zdA X F T _) (by decide) fun r s' h=>?_
  revert h;refine cM fun s z4 hs z5=>?_;subst z4;subst z5
  walk_at "m"
  exact hQ ⟨s,rfl,hs⟩
theorem zey (X:Bs K Z9) (F:bc K) {s:Addr} {x:Ch} (h:SynAt σ s x) (f:Str):CallSem w Z9 os 3 (.ref 120) [.ref s,vs f] σ (fun r σ'=>r=.bool (dG f (flags x))∧σ'=σ) R:=by
 obtain⟨m,h⟩:=h
 refine tY X F (by decide) ?_
 unfold jU
 walk_at "m"
 exact⟨rfl,rfl⟩
section
variable {n:Nat} {ρ:Loc} {i sy:Nat} {y:Ch} (hl:lk ρ i=some (.ref sy)) (hs:SynAt σ sy y)
include hl hs
theorem lA (j:Nat) (s:Str):Pu w Z9 os n R ρ σ (.cmp .Eq (.fld (.loc i) 14) (.gv j (.str s 0))) (decide (kind y=s)):=fun _ q=>let ⟨_,h0⟩:=hs;uX (vG (fj hl (aJ (g_fld h0 rfl rfl (aJ (zbi (aJ (ut q))))))))
theorem Iv (j:Nat) (s:Str):Pu w Z9 os n R ρ σ (.cmp .NotEq (.fld (.loc i) 14) (.gv j (.str s 0))) (!decide (kind y=s)):=fun _ q=>let ⟨_,h0⟩:=hs;uX (vG (fj hl (aJ (g_fld h0 rfl rfl (aJ (zbi (aJ (qd q))))))))
theorem gY (X:Bs K Z9) (F:bc K) (hn:3≤n) (f:Str):Pu w Z9 os n R ρ σ (.meth (.loc i) 30 (.cons (.cst (.str f 0)) .nil)) (dG f (flags y)):=fun _ q=>let ⟨_,h0⟩:=hs;Eg (fj hl (aJ (vL h0 rfl rfl (jL (lu (aJ (xW (ak (zey X F hs f) hn q))))))))
end
theorem dM (X:Bs K Z9) (F:bc K) {s:Addr} {x:Ch} (h:SynAt σ s x):CallSem w Z9 os 3 (.ref 127) [.ref s] σ (fun r σ'=>r=.bool (aM x)∧σ'=σ) R:=by
 refine lF X F (by decide) (aY (xQ (Pu.or (lA rfl h _ _) (lA rfl h _ _) _ (aJ (BV (uG ⟨congrArg Value.bool ?_,rfl⟩))))))
 exact pH x (by kernel_rfl)
theorem v5 (X:Bs K Z9) (F:bc K) {s:Addr} {x:Ch} (h:SynAt σ s x):CallSem w Z9 os 3 (.ref 134) [.ref s] σ (fun r σ'=>r=.bool (cH x)∧σ'=σ) R:=by
 refine jh X F (by decide) (aY (xQ (Pu.or (lA rfl h _ _) (lA rfl h _ _) _ (aJ (BV (uG ⟨congrArg Value.bool ?_,rfl⟩))))))
 exact pH x (by kernel_rfl)
section
variable {n:Nat} {ρ:Loc} {i sy:Nat} {y:Ch} (hl:lk ρ i=some (.ref sy)) (hs:SynAt σ sy y)
include hl hs
theorem yR (X:Bs K Z9) (F:bc K) (hn:3≤n):Pu w Z9 os n R ρ σ (.meth (.loc i) 31 .nil) (aM y):=fun _ q=>let ⟨_,h0⟩:=hs;Eg (fj hl (aJ (vL h0 rfl rfl (xW (ak (dM X F hs) hn q)))))
theorem zQ (X:Bs K Z9) (F:bc K) (hn:3≤n):Pu w Z9 os n R ρ σ (.meth (.loc i) 32 .nil) (cH y):=fun _ q=>let ⟨_,h0⟩:=hs;Eg (fj hl (aJ (vL h0 rfl rfl (xW (ak (v5 X F hs) hn q)))))
end
theorem zd3 (x:Ch):dG "c" (flags x)=false:=pH x (by kernel_rfl)
theorem WY (X:Bs K Z9) (F:bc K) {s:Addr} {x:Ch} (h:SynAt σ s x) (hb:dG "b" (flags x)=false):CallSem w Z9 os 4 (.ref 141) [.ref s] σ (fun r σ'=>r=vs ""∧σ'=σ) R :=
 qJ X F (by decide) (aY (xQ (XN (Bj (gY rfl h X F (by decide) _ _ (j9 (aH hb (lu (aJ (Bj (gY rfl h X F (by decide) _ _ (j9 (aH (zd3 x) (lu (aJ (cC (by decide) (aJ (BV (uG ⟨rfl,rfl⟩)))))))))))))))))))
end
section
variable {K:Frag} {w:World} {Z9:Heap} {os:OsState} {R:Value→Hp→Prop} {σ:Hp} {v c t:Addr} {cs:List Ch}
theorem zgC (x:Ch):dG "p" (flags x)=decide (x=.am):=pH x (by kernel_rfl)
theorem QB {n i sy:Nat} {ρ:Loc} {y:Ch} (hl:lk ρ i=some (.ref sy)) (hs:SynAt σ sy y) (X:Bs K Z9) (F:bc K) (hn:3≤n):Pu w Z9 os n R ρ σ (.meth (.loc i) 30 (.cons (.cst (.str "p" 0)) .nil)) (decide (y=.am)):=by
 rw[← zgC];exact gY hl hs X F hn _
theorem Xy {n i sy:Nat} {ρ:Loc} {y:Ch} (hl:lk ρ i=some (.ref sy)) (hs:SynAt σ sy y):Pu w Z9 os n R ρ σ (.bor (.cmp .Eq (.fld (.loc i) 14) (.gv 11 (.str "\"" 0))) (.cmp .Eq (.fld (.loc i) 14) (.gv 19 (.str "|" 0)))) (decide (y=.dq)):=by
 have e:decide (y=.dq)=(decide (kind y=("\"":Str))||decide (kind y=("|":Str))):=pH y (by kernel_rfl)
 rw[e];exact .or (lA hl hs _ _) (lA hl hs _ _)
theorem yQ (X:Bs K Z9) (F:bc K) {s u:Addr} {x y:Ch} (h:SynAt σ s x) (h':SynAt σ u y) (hb:dG "b" (flags x)=true):CallSem w Z9 os 4 (.ref 285) [.ref s,.ref u] σ (fun r σ'=>r=vs "b"∧σ'=σ) R :=
 tZ X F (by decide) (aY (Xz (Bj (gY rfl h X F (by decide) _ _ (j9 (aP hb (lu (aJ (bU (aY (xQ (XN (fj rfl (aJ (Bj (Pu.or (gY rfl h X F (by decide) _) (gY rfl h' X F (by decide) _) _ (j9 (aH (by rw[zd3,zd3];rfl) (lu (aJ (cC (by decide) (aJ (BV (uG ⟨rfl,rfl⟩))))))))))))))))))))))))
theorem Ad (X:Bs K Z9) (F:bc K) {m:Addr} {l:Int} {st:Str} {ns fe:Bool} (hm:σ m=some (.inst 267 [])):CallSem w Z9 os 3 (.ref 264) [.ref m,vi l,vs st,.bool ns,.bool fe] σ (fun r σ'=>r=.none∧σ' m=some (.inst 267 [(19,vi l),(7,vs st),(8,.bool ns),(20,.bool fe)])∧Mod (·=m) σ σ') R:=by
 refine uI X F (by decide) ?_
 unfold mO
 walk_at "m"
 refine⟨rfl,aa,fun a c h e=>aq h (aq h (aq h (aq h e)))⟩
theorem Ai (X:Bs K Z9) (F:bc K) {n:Nat} {k:List Value→Hp→Prop} {l:Int} {st:Str} {ns fe:Bool} (hn:4≤n) (h:∀ m σ',Ext σ σ'→σ' m=some (.inst 267 [(19,vi l),(7,vs st),(8,.bool ns),(20,.bool fe)])→k [.ref m] σ'):Fx w Z9 os n R 267 264 [vi l,vs st,.bool ns,.bool fe] σ k :=
 pW (m:=3) hn (fun a ha=>Ad X F aa) fun a r σ' ha ⟨h1,h2,h3⟩=>⟨h1,h a σ' (fun b c e=>h3 b c (cJ e ha) (eQ ha e)) h2⟩
noncomputable abbrev zgi (f1 f2 kd:Str) (g i j:Nat):S:=(.seq (.unpT [3,4] (.cons (.call (.gv 30 (.ref 278)) (.cons (.loc 0) (.cons (.loc 1) (.cons (.loc 2) .nil)))) (.cons (.call (.gv 30 (.ref 278)) (.cons (.loc 0) (.cons (.loc 1) (.cons (.bin .Add (.loc 2) (.cst (.int 1 0))) .nil)))) .nil))) (.seq (.ite (.cmp .Is (.loc 3) (.cst .none)) (.seq (.ret (.cst .none)) .nil) .nil) (.seq (.ite (.band (.cmp .IsNot (.loc 4) (.cst .none)) (.band (.meth (.loc 3) 30 (.cons (.cst (.str f1 0)) .nil)) (.meth (.loc 4) 30 (.cons (.cst (.str f2 0)) .nil)))) (.seq (.ret (.new 29 267 264 (.cons (.cst (.int 2 0)) (.cons (.call (.gv 31 (.ref 285)) (.cons (.loc i) (.cons (.loc j) .nil))) (.cons (.bor (.meth (.loc 3) 30 (.cons (.cst (.str "n" 0)) .nil)) (.meth (.loc 4) 30 (.cons (.cst (.str "n" 0)) .nil))) (.cons (.cst (.bool false)) .nil)))))) .nil) .nil) (.seq (.ite (.cmp .Eq (.fld (.loc 3) 14) (.gv g (.str kd 0))) (.seq (.ret (.new 29 267 264 (.cons (.cst (.int 1 0)) (.cons (.meth (.loc 3) 7 .nil) (.cons (.meth (.loc 3) 30 (.cons (.cst (.str "n" 0)) .nil)) (.cons (.cst (.bool false)) .nil)))))) .nil) .nil) (.seq (.ret (.ite (.cmp .Eq (.fld (.loc 3) 14) (.gv 18 (.str "!" 0))) (.new 29 267 264 (.cons (.cst (.int 1 0)) (.cons (.cst (.str "" 0)) (.cons (.cst (.bool false)) (.cons (.cst (.bool true)) .nil))))) (.cst .none))) .nil)))))
noncomputable def Nj (f:Str):Option Ch→Bool
 |none=>false
 |some y=>dG f (flags y)
noncomputable def mkOf (f1 f2 kd:Str):Option Ch→Option Ch→Option Mk
 |none,_=>none
 |some x,o=>bif dG f1 (flags x)&&Nj f2 o then some ⟨2,"b",true,false⟩ else bif decide (kind x=kd) then some ⟨1,"",false,false⟩ else none
theorem VH (X:Bs K Z9) (F:bc K) {n sy:Nat} {ρ:Loc} {x:Ch} {f1 f2:Str} {o:Option Ch} {r:Value} (hn:3≤n) (h3:lk ρ 3=some (.ref sy)) (h4:lk ρ 4=some r) (hs:SynAt σ sy x) (hr:SynV σ r o) :
  Pu w Z9 os n R ρ σ (.band (.cmp .IsNot (.loc 4) (.cst .none)) (.band (.meth (.loc 3) 30 (.cons (.cst (.str f1 0)) .nil)) (.meth (.loc 4) 30 (.cons (.cst (.str f2 0)) .nil)))) (dG f1 (flags x)&&Nj f2 o):=by
 cases o with
 |none =>
  cases hr
  rw[show Nj f2 none=false from rfl,Bool.and_false]
  exact(uW h4).andF
 |some y =>
  revert hr;refine aV fun s z0 hy=>?_;subst z0
  exact(uW h4).andT (.and (gY h3 hs X F hn _) (gY h4 hy X F hn _))
theorem zej (X:Bs K Z9) (F:bc K) (V:ViewAt σ v c cs) (T:TableAt σ t) (p:Int) {f1 f2 kd:Str} {g i j:Nat} {Q:Value→Hp→Prop} (hQ:∀ {r σ'},MarkV σ' r (mkOf f1 f2 kd (ao cs p) (ao cs (p+1)))→Ext σ σ'→Q r σ')
  (hk:∀ x,kind x=kd→dG "b" (flags x)=false∧dG "n" (flags x)=false)
  (hp:∀ x y s s2,dG f1 (flags x)=true→dG f2 (flags y)=true→SynAt σ s x→SynAt σ s2 y→(dG "n" (flags x)||dG "n" (flags y))=true ∧
   ∃ s3 s4 x3 x4,lk [some (.ref v),some (.ref t),some (vi p),some (.ref s),some (.ref s2)] i=some (.ref s3)∧lk [some (.ref v),some (.ref t),some (vi p),some (.ref s),some (.ref s2)] j=some (.ref s4)∧SynAt σ s3 x3∧SynAt σ s4 x4∧dG "b" (flags x3)=true) :
  ex w Z9 os 5 R (zgi f1 f2 kd g i j) [some (.ref v),some (.ref t),some (vi p),none,none] σ (j0 Q):=by
 have h1:=V.vw
 walk_at "m"
 refine cR (aX X F V T p) (by decide) fun r hr=>?_
 walk_at "m"
 refine cR (aX X F V T (p+1)) (by decide) fun r' hr'=>?_
 walk_at "m"
 cases ec:ao cs p with
 |none =>
  rw[ec] at hr hQ
  cases hr
  refine bF ?_
  walk_at "m"
  exact hQ rfl Ext.refl
 |some x =>
  rw[ec] at hr hQ
  revert hr;refine aV fun s z1 hs=>?_;subst z1
  refine bD (xm (bU (aY (Pu.ite (VH X F (by decide) rfl rfl hs hr') ?_))))
  cases eb:(dG f1 (flags x)&&Nj f2 (ao cs (p+1))) with
  |true =>
   have hQ:∀ {r σ'},MarkV σ' r (some ⟨2,"b",true,false⟩)→Ext σ σ'→Q r σ':=by
    unfold mkOf at hQ;dsimp only at hQ;rw[eb] at hQ;exact hQ
   cases ed:ao cs (p+1) with
   |none=>rw[ed,show Nj f2 none=false from rfl,Bool.and_false] at eb;cases eb
   |some y =>
    rw[ed] at hr' eb
    revert hr';refine aV fun s2 z2 hs2=>?_;subst z2
    obtain⟨b1,b2⟩:=Bool.and_eq_true_iff.mp eb
    have b2:dG f2 (flags y)=true:=b2
    refine w6 (fun hn s3 z3=>bY (fun s4 x3 x4 l3 l4 k3 k4 hb=>?_) z3) (hp x y s s2 b1 b2 hs hs2)
    refine bF (aY (xQ (zdQ (jL (lu (aJ (jL (zbd (zbi (aJ (ze4 (by decide) (jL (fj l3 (aJ (jL (fj l4 (aJ (xW (ak (yQ X F k3 k4 hb) (by decide) ?_)))))))))))))))))))
    refine aJ (jL (Pu.or (gY rfl hs X F (by decide) _) (gY rfl hs2 X F (by decide) _) _ ?_))
    rw[hn]
    walk_at "m"
    refine Ai X F (by decide) fun m σ' he hm=>?_
    walk_at "m"
    exact hQ ⟨m,rfl,hm⟩ he
  |false =>
   have hQ:∀ {r σ'},MarkV σ' r (bif decide (kind x=kd) then some ⟨1,"",false,false⟩ else none)→Ext σ σ'→Q r σ':=by
    unfold mkOf at hQ;dsimp only at hQ;rw[eb] at hQ;exact hQ
   refine bD (xm (bU (aY (Pu.ite (lA rfl hs _ _) ?_))))
   have ⟨m0,hs0⟩:=hs
   cases ek:decide (kind x=kd)<;>rw[ek] at hQ
   ·refine bD (xm (bU (aY (xQ (Bj (lA rfl hs _ _ _ ?_))))))
    rw[show decide (kind x="!")=false from pH x (by kernel_rfl)]
    walk_at "m"
    exact hQ rfl Ext.refl
   ·obtain⟨k1,k2⟩:=hk x (of_decide_eq_true ek)
    refine bF ?_
    walk_at "m"
    refine ak (WY X F hs k1) (by decide) ?_
    refine aJ (jL (gY rfl hs X F (by decide) _ _ ?_))
    rw[k2]
    walk_at "m"
    refine Ai X F (by decide) fun m σ' he hm=>?_
    walk_at "m"
    exact hQ ⟨m,rfl,hm⟩ he
theorem zgx:∀ a b:Option Ch,aQ a b=mkOf "1" "2" "<" a b
 |none,_=>rfl
 |some x,none=>by cases x<;>kernel_rfl
 |some x,some y=>by
  cases x with
  |hs=>cases y<;>kernel_rfl
  |_=>kernel_rfl
theorem zgw:∀ a b:Option Ch,jz a b=mkOf "3" "4" ">" a b
 |none,_=>rfl
 |some x,none=>by cases x<;>kernel_rfl
 |some x,some y=>by
  cases x with
  |br=>cases y<;>kernel_rfl
  |_=>kernel_rfl
theorem gA (X:Bs K Z9) (F:bc K) (V:ViewAt σ v c cs) (T:TableAt σ t) (p:Int):CallSem w Z9 os 6 (.ref 292) [.ref v,.ref t,vi p] σ (fun r σ'=>MarkV σ' r (aQ (ao cs p) (ao cs (p+1)))∧Ext σ σ') R :=
 tL X F (by decide) (cps fun Q hQ=>zej X F V T p (fun h e=>hQ _ _ ⟨by rw[zgx];exact h,e⟩) (fun x=>pH x (by kernel_rfl)) fun x y s s2 h1 h2 k1 k2 =>
  have hy:dG "n" (flags y)=true∧dG "b" (flags y)=true:=by revert h2;exact pH y (by kernel_rfl)
  ⟨by rw[hy.1,Bool.or_true],s2,s,y,x,rfl,rfl,k2,k1,hy.2⟩)
theorem uV (X:Bs K Z9) (F:bc K) (V:ViewAt σ v c cs) (T:TableAt σ t) (p:Int):CallSem w Z9 os 6 (.ref 299) [.ref v,.ref t,vi p] σ (fun r σ'=>MarkV σ' r (jz (ao cs p) (ao cs (p+1)))∧Ext σ σ') R :=
 wV X F (by decide) (cps fun Q hQ=>zej X F V T p (fun h e=>hQ _ _ ⟨by rw[zgw];exact h,e⟩) (fun x=>pH x (by kernel_rfl)) fun x y s s2 h1 h2 k1 k2 =>
  have hx:dG "n" (flags x)=true∧dG "b" (flags x)=true:=by revert h1;exact pH x (by kernel_rfl)
  ⟨by rw[hx.1,Bool.true_or],s,s2,x,y,rfl,rfl,k1,k2,hx.2⟩)
theorem Ov (X:Bs K Z9) (F:bc K) {r:Value} {o:Option Mk} (h:MarkV σ r o) (st:Str) (ns fe:Bool):CallSem w Z9 os 3 (.ref 306) [r,vs st,.bool ns,.bool fe] σ (fun r σ'=>r=.bool (dN o st ns fe)∧σ'=σ) R:=by
 refine IW X F (by decide) ?_
 unfold DX
 walk_at "m"
 cases o with
 |none =>
  obtain rfl:r=.none:=h
  refine bF ?_
  walk_at "m"
  exact⟨rfl,rfl⟩
 |some k =>
  revert h;refine aV fun m z4 hm=>?_;subst z4
  refine bD ?_
  walk_at "m"
  cases e1:k.fence<;>cases fe
  ·refine bD ?_
   walk_at "m"
   refine cO (fun q=>?_) fun q=>?_
   ·walk_at "m"
    simp[dN,e1,q]
   ·walk_at "m"
    simp[dN,e1,q]
  ·refine bF ?_
   walk_at "m"
   simp[dN,e1]
  ·refine bF ?_
   walk_at "m"
   simp[dN,e1]
  ·refine bD ?_
   walk_at "m"
   simp[dN,e1]
end
section
variable {K:Frag} {w:World} {Z9:Heap} {os:OsState} {R:Value→Hp→Prop} {σ:Hp} {v c t:Addr} {cs:List Ch}
theorem O2 {f:Ch→Bool}:∀ {l:List Ch} {j:Nat},j < (l.takeWhile f).length→∃ x,l[j]?=some x∧f x=true
 |[],_,h=>by simp at h
 |y::l,j,h=>by
  rw[List.takeWhile_cons] at h
  split at h
  ·rename_i q
   cases j with
   |zero=>exact⟨y,rfl,q⟩
   |succ j =>
    rw[List.length_cons] at h
    refine aV (fun x h1 h2=>?_) (O2 (l:=l) (Nat.lt_of_succ_lt_succ h))
    exact⟨x,by rw[List.getElem?_cons_succ];exact h1,h2⟩
  ·simp at h
theorem O3 {f:Ch→Bool}:∀ {l:List Ch} {x:Ch},l[(l.takeWhile f).length]?=some x→f x=false
 |[],_,h=>by simp at h
 |y::l,x,h=>by
  rw[List.takeWhile_cons] at h
  split at h
  ·rename_i q
   rw[List.length_cons,List.getElem?_cons_succ] at h
   exact O3 h
  ·rename_i q
   have:y=x:=by simpa using h
   rw[← this];simpa using q
theorem NP (k:Nat):ao cs ((k:Int)+1)=cs[k]?:=by
 unfold ao
 rw[if_pos (by lia),Int.add_sub_cancel]
 rfl
theorem V8 {p:Int} (h1:1≤p) (h2:p≤1+cs.length) (j:Nat):((cs.take (p - 1).toNat).reverse)[j]?=ao cs (p - 1 - j):=by
 obtain⟨n,rfl⟩:∃ n:Nat,p=n+1:=⟨(p - 1).toNat,by lia⟩
 rw[Int.add_sub_cancel,Int.toNat_natCast]
 have hl:(cs.take n).length=n:=List.length_take_of_le (by lia)
 by_cases h:j < n
 ·obtain⟨k,rfl⟩:=Nat.exists_eq_add_of_lt h
  rw[show (((j+k+1:Nat):Int) - (j:Int))=(k:Int)+1 by lia,NP,List.getElem?_reverse (by rw[hl];exact h),hl,show j+k+1 - 1 - j=k by lia,List.getElem?_take_of_lt (by lia)]
 ·rw[List.getElem?_eq_none (by rw[List.length_reverse,hl];exact Nat.le_of_not_lt h)]
  unfold ao
  rw[if_neg (by lia)]
theorem fO (X:Bs K Z9) (F:bc K) (V:ViewAt σ v c cs) (T:TableAt σ t) {p:Int} (h1:1≤p) (h2:p≤1+cs.length):CallSem w Z9 os 6 (.ref 313) [.ref v,.ref t,vi p] σ (fun r σ'=>r=.bool (isQ cs p)∧σ'=σ) R:=by
 refine uD X F (by decide) ?_
 unfold mj
 walk_at "m"
 refine cR (aX X F V T (p - 1)) (by decide) ?_
 rintro r hr
 walk_at "m"
 refine gh (fun m ρ σ'=>σ'=σ∧∃ (j:Nat) (rb:Value),j+m=qR cs p∧ρ=[some (.ref v),some (.ref t),some (vi p),some (vi j),some rb]∧SynV σ rb (ao cs (p - 1 - j))) (qR cs p)
  ⟨rfl,0,r,by lia,rfl,by rw[show p - 1 - ((0:Nat):Int)=p - 1 by lia];exact hr⟩ fun m ρ σ' hI=>?_
 revert hI;refine qz fun z0 j rb hj z2=>oA (fun z1 hb=>?_) z2;subst z0;subst z1
 have bt:=V8 (cs:=cs) h1 h2 j
 have fin:m=0→lE w Z9 os 5 R (.seq (.ret (.cmp .Eq (.bin .Mod (.loc 3) (.cst (.int 2 0))) (.cst (.int 1 0)))) .nil) (j0 fun r σ''=>r=.bool (isQ cs p)∧σ''=σ') .next [some (.ref v),some (.ref t),some (vi p),some (vi j),some rb] σ':=by
  intro hm
  walk_at "m"
  refine cY (by decide) ?_
  walk_at "m"
  refine⟨?_,rfl⟩
  unfold isQ
  have e:qR cs p=j:=by lia
  rw[e]
  congr 1
  rw[decide_eq_decide,Int.fmod_eq_emod_of_nonneg _ (by decide)]
  lia
 cases eb:ao cs (p - 1 - j) with
 |none =>
  rw[eb] at hb bt
  obtain rfl:rb=.none:=hb
  walk_at "m"
  have hm:m=0:=by
   apply Classical.byContradiction
   intro hm
   refine aV (fun x hx _=>?_) (O2 (f:=fun c=>decide (c=.bs)) (l:=(cs.take (p - 1).toNat).reverse) (j:=j) (by show j < qR cs p;lia))
   rw[hx] at bt;cases bt
  exact fin hm
 |some x =>
  rw[eb] at hb bt
  revert hb;refine aV fun s z3 hs=>?_;subst z3
  obtain⟨m0,hs0⟩:=id hs
  walk_at "m"
  refine bF ?_
  walk_at "m"
  refine ak (dM X F hs) (by decide) ?_
  walk_at "m"
  refine cO (fun q=>?_) fun q=>?_
  ·walk_at "m"
   refine cR (aX X F V T (p - 1 - (j+1))) (by decide) ?_
   rintro r3 hr3
   walk_at "m"
   have hm:m≠0:=by
    intro hm
    have e:qR cs p=j:=by lia
    unfold qR at e
    have:=O3 (f:=fun c=>decide (c=.bs)) (l:=(cs.take (p - 1).toNat).reverse) (x:=x) (by rw[e];exact bt)
    rw[q] at this;cases this
   refine w_next (m':=m - 1) (by lia) ⟨rfl,j+1,r3,by lia,rfl,?_⟩
   have e:p - 1 - (((j+1:Nat)):Int)=p - 1 - (j+1):=by lia
   rw[e];exact hr3
  ·have hm:m=0:=by
    apply Classical.byContradiction
    intro hm
    refine aV (fun y hy hy2=>?_) (O2 (f:=fun c=>decide (c=.bs)) (l:=(cs.take (p - 1).toNat).reverse) (j:=j) (by show j < qR cs p;lia))
    rw[hy] at bt;cases bt
    exact q (of_decide_eq_true hy2)
   exact fin hm
end
theorem Hp.put_put {σ:Hp} {a:Addr} {c d:Cell}:(σ.put a c).put a d=σ.put a d:=by
 funext b;unfold Hp.put;by_cases h:b=a<;>simp[h]
theorem Hp.put_same {σ:Hp} {a:Addr} {c:Cell} (h:σ a=some c):σ.put a c=σ:=by
 funext b;unfold Hp.put;by_cases e:b=a
 ·rw[if_pos e,e,h]
 ·rw[if_neg e]
theorem Hp.put_comm {σ:Hp} {a b:Addr} {c d:Cell} (h:a≠b):(σ.put a c).put b d=(σ.put b d).put a c:=by
 funext x;unfold Hp.put
 by_cases h1:x=b
 ·have:x≠a:=fun q=>h (q▸h1▸rfl)
  simp[h1,Ne.symm h]
 ·simp[h1]
structure WF where
 p:Int
 o:Addr
 wh:Value
 wo:Value
 str:Value
 com:Value
 sty:Value
 nes:Value
 sta:Value
 quo:Value
noncomputable def fsW (v t:Addr) (f:WF):List (Nat × Value):=[(21,.ref v),(22,.ref t),(23,vi f.p),(0,.ref f.o),(1,vi 0),(2,vi 0),(3,f.wh),(4,f.wo),(5,f.str),(6,f.com),(7,f.sty),(8,f.nes),(9,f.sta),(10,f.quo),(11,vs "")]
noncomputable abbrev cW (v t:Addr) (f:WF):Cell:=.inst 449 (fsW v t f)
section
variable {K:Frag} {w:World} {Z9:Heap} {os:OsState} {R:Value→Hp→Prop} {σ:Hp} {v c t a:Addr} {cs:List Ch} {f:WF}
theorem iw (X:Bs K Z9) (F:bc K) (h:σ a=some (cW v t f)) (hp:aB f.wo=true) (hq:aB f.wh=true):CallSem w Z9 os 3 (.ref 348) [.ref a] σ (fun r σ'=>∃ wh',aB wh'=true∧r=.none∧σ'=σ.put a (cW v t { f with wh:=wh',wo:=.none })) R:=by
 refine oR X F (by decide) ?_
 unfold fY
 walk_at "m"
 refine HW (fun q=>?_) fun q=>?_
 ·walk_at "m"
  exact⟨f.wo,hp,rfl,Hp.put_put⟩
 ·walk_at "m"
  refine⟨f.wh,hq,rfl,?_⟩
  have:f.wo=.none:=by
   revert q;cases f.wo<;>first|(intro _;rfl)|(intro q;cases q)
  have e:{ f with wo:=.none }=f:=by obtain⟨_,_,_,wo,_,_,_,_,_,_⟩:=f;cases this;rfl
  have e2:({ f with wh:=f.wh,wo:=.none }:WF)=f:=e
  rw[e2,Hp.put_same h]
theorem qI (X:Bs K Z9) (F:bc K) (h:σ a=some (cW v t f)) (hp:aB f.wo=true):CallSem w Z9 os 3 (.ref 355) [.ref a] σ (fun r σ'=>∃ wo',aB wo'=true∧r=.none∧σ'=σ.put a (cW v t { f with wo:=wo' })) R:=by
 refine mV X F (by decide) ?_
 unfold d8
 walk_at "m"
 refine HW (fun q=>?_) fun q=>?_
 ·walk_at "m"
  exact⟨vi f.p,rfl,rfl,rfl⟩
 ·walk_at "m"
  exact⟨f.wo,hp,rfl,(Hp.put_same h).symm⟩
theorem J4 (X:Bs K Z9) (F:bc K) {ops:List Int} {p:Int} (h:σ a=some (cW v t f)) (ho:σ f.o=some (.list (ops.map vi))) (hp:aB f.wo=true) (hq:aB f.wh=true) (hl:ops.length < big):CallSem w Z9 os 4 (.ref 362) [.ref a,vi p] σ (fun r σ'=>r=.none∧σ'=(σ.put a (cW v t { f with wh:=.none,wo:=.none })).put f.o (.list ((ops++[p]).map vi))) R:=by
 refine qL X F (by decide) ?_
 unfold ie
 have hne:a≠f.o:=bC h ho (by intro q;cases q)
 walk_at "m"
 refine aF (iw X F h hp hq) (by decide) ?_
 refine fun r s'=>cM fun wh' e1 z0 z1=>?_;subst z0;subst z1
 walk_at "m"
 have ho':(σ.put a (cW v t { f with wh:=wh',wo:=.none })) f.o=some (.list (ops.map vi)):=aq hne.symm ho
 refine q8 rfl ho' ?_
 walk_at "m"
 refine m_append ho' (by rw[List.length_map];exact hl) ?_
 walk_at "m"
 refine⟨rfl,?_⟩
 rw[Hp.put_comm hne,Hp.put_put,Hp.put_comm hne.symm,List.map_append];rfl
theorem qC (X:Bs K Z9) (F:bc K) {ops:List Int} (h:σ a=some (cW v t f)) (ho:σ f.o=some (.list (ops.map vi))):CallSem w Z9 os 3 (.ref 341) [.ref a] σ (fun r σ'=>r=vi ops.length∧σ'=σ) R:=by
 refine ud X F (by decide) ?_
 unfold jT
 walk_at "m"
 exact⟨by rw[List.length_map,Int.sub_zero],rfl⟩
noncomputable abbrev Mod2 (a o:Addr) (σ σ':Hp):Prop:=Mod (fun x=>x=a∨x=o) σ σ'
theorem Mod2.refl {a o:Addr}:Mod2 a o σ σ:=fun _ _ _ e=>e
theorem Mod2.ext {a o:Addr} {σ':Hp} (e:Ext σ σ'):Mod2 a o σ σ':=fun b c _ q=>e b c q
theorem Mod2.put1 {a o:Addr} {σ':Hp} {c:Cell} (m:Mod2 a o σ σ'):Mod2 a o σ (σ'.put a c):=fun b d h e=>aq (fun q=>h (.inl q)) (m b d h e)
theorem Mod2.put2 {a o:Addr} {σ':Hp} {c:Cell} (m:Mod2 a o σ σ'):Mod2 a o σ (σ'.put o c):=fun b d h e=>aq (fun q=>h (.inr q)) (m b d h e)
theorem Mod2.new {a o b:Addr} {σ':Hp} {c:Cell} (m:Mod2 a o σ σ') (hb:σ' b=none):Mod2 a o σ (σ'.put b c):=fun d l h e=>eQ hb (m d l h e)
theorem Mod2.trans {a o:Addr} {Z2 Z4:Hp} (m:Mod2 a o σ Z2) (m':Mod2 a o Z2 Z4):Mod2 a o σ Z4:=fun d l h e=>m' d l h (m d l h e)
theorem Vi (X:Bs K Z9) (F:bc K) {ops:List Int} {p:Int} (h:σ a=some (cW v t f)) (ho:σ f.o=some (.list ((ops++[p]).map vi))) (hp:aB f.wo=true) (hq:aB f.wh=true):CallSem w Z9 os 4 (.ref 369) [.ref a] σ (fun r σ'=>r=.none∧σ' a=some (cW v t { f with wh:=vi p,wo:=.none })∧σ' f.o=some (.list (ops.map vi))∧Mod2 a f.o σ σ') R:=by
 refine tV X F (by decide) (cps fun Q hQ=>?_)
 unfold kO
 have hne:a≠f.o:=bC h ho (by intro q;cases q)
 walk_at "m"
 refine aF (iw X F h hp hq) (by decide) ?_
 refine fun r s'=>cM fun wh' e1 z2 z3=>?_;subst z2;subst z3
 walk_at "m"
 have ho':(σ.put a (cW v t { f with wh:=wh',wo:=.none })) f.o=some (.list ((ops++[p]).map vi)):=aq hne.symm ho
 have m1:Mod2 a f.o σ (σ.put a (cW v t { f with wh:=wh',wo:=.none })):=Mod2.refl.put1
 intro b hb
 have m2:=m1.new (c:=.list []) hb
 have hba:a≠b:=cJ aa hb
 have hbo:f.o≠b:=cJ ho' hb
 walk_at "m"
 have e1':((σ.put a (cW v t { f with wh:=wh',wo:=.none })).put b (.list [])) f.o=some (.list ((ops++[p]).map vi)):=aq hbo ho'
 have e2:((σ.put a (cW v t { f with wh:=wh',wo:=.none })).put b (.list [])) a=some (cW v t { f with wh:=wh',wo:=.none }):=aq hba aa
 have e0:((σ.put a (cW v t { f with wh:=wh',wo:=.none })).put b (.list [])) b=some (.list []):=aa
 generalize ((σ.put a (cW v t { f with wh:=wh',wo:=.none })).put b (.list []))=σ1 at e0 e1' e2 m2 ⊢
 refine pK e1' e0 (.inr (by simp)) ?_
 rw[decide_eq_false (by simp)]
 walk_at "m"
 refine q8 rfl e1' ?_
 walk_at "m"
 refine m_pop (ys:=ops.map vi) (v:=vi p) (by rw[e1',List.map_append];rfl) ?_
 have e3:(σ1.put f.o (.list (ops.map vi))) a=some (cW v t { f with wh:=wh',wo:=.none }):=aq hne e2
 walk_at "m"
 refine ak (qC (ops:=ops) X F (f:={ f with wh:=vi p,wo:=.none }) aa (aq hne.symm aa)) (by decide) ?_
 walk_at "m"
 have e4:(if (ops.length:Int) < 0 then (ops.length:Int) else 0)=0:=by rw[if_neg (by lia)]
 refine hQ _ _ ⟨rfl,?_,aq hne.symm (aq hne.symm aa),((m2.put2).put1).put1⟩
 rw[e4];exact aa
end
section
variable {K:Frag} {w:World} {Z9:Heap} {os:OsState} {R:Value→Hp→Prop} {σ:Hp} {v c t a:Addr} {cs:List Ch} {f:WF}
noncomputable abbrev Mod1 (a:Addr) (σ σ':Hp):Prop:=Mod (fun x=>x=a) σ σ'
theorem Mod1.refl {a:Addr}:Mod1 a σ σ:=fun _ _ _ e=>e
theorem Mod1.ext {a:Addr} {σ':Hp} (e:Ext σ σ'):Mod1 a σ σ':=fun b c _ q=>e b c q
theorem Mod1.put {a:Addr} {σ':Hp} {c:Cell} (m:Mod1 a σ σ'):Mod1 a σ (σ'.put a c):=fun b d h e=>aq h (m b d h e)
theorem Mod1.trans {a:Addr} {Z2 Z4:Hp} (m:Mod1 a σ Z2) (m':Mod1 a Z2 Z4):Mod1 a σ Z4:=fun d l h e=>m' d l h (m d l h e)
theorem Mod1.two {a o:Addr} {σ':Hp} (m:Mod1 a σ σ'):Mod2 a o σ σ':=fun d l h e=>m d l (fun q=>h (.inl q)) e
theorem ViewAt.mod {P:Addr→Prop} {σ':Hp} (V:ViewAt σ v c cs) (m:Mod P σ σ') (h1:¬ P v) (h2:¬ P c):ViewAt σ' v c cs:=⟨m _ _ h1 V.vw,m _ _ h2 V.co⟩
noncomputable def vN:Cell→Prop
 |.inst C _=>C≠225∧C≠144
 |.dict ..=>False
 |_=>True
theorem qu {P:Addr→Prop} {b:Addr} {cl:Cell} (hP:∀ b,P b→∃ cl,σ b=some cl∧vN cl) (h:σ b=some cl) (hc:¬ vN cl):¬ P b:=fun q=>by
 refine aV (fun d e k=>?_) (hP b q)
 rw[h] at e;cases e;exact hc k
theorem SynAt.mod {P:Addr→Prop} {σ':Hp} {s:Addr} {x:Ch} (S:SynAt σ s x) (m:Mod P σ σ') (hP:∀ b,P b→∃ cl,σ b=some cl∧vN cl):SynAt σ' s x:=by
 obtain⟨m0,h⟩:=S
 exact⟨m0,m _ _ (qu hP h fun q=>q.2 rfl) h⟩
theorem TableAt.mod {P:Addr→Prop} {σ':Hp} (T:TableAt σ t) (m:Mod P σ σ') (hP:∀ b,P b→∃ cl,σ b=some cl∧vN cl):TableAt σ' t:=by
 obtain⟨p,d,d2,n,n2,f,f2,h1,h2,h3,h4,h5⟩:=T
 refine⟨p,d,d2,n,n2,f,f2,m _ _ (qu hP h1 fun q=>q.1 rfl) h1,m _ _ (qu hP h2 fun q=>q) h2,m _ _ (qu hP h3 fun q=>q.1 rfl) h3,m _ _ (qu hP h4 fun q=>q) h4,fun c=>?_⟩
 rcases h5 c with ⟨s,a,b⟩|⟨q,s,a,b⟩
 ·exact .inl ⟨s,a,b.mod m hP⟩
 ·exact .inr ⟨q,s,a,b.mod m hP⟩
theorem t8 (X:Bs K Z9) (F:bc K) {m:Addr} {l:Int} {sty:Str} {ns:Bool} {p:Int} (h:σ a=some (cW v t f)) (hm:σ m=some (.inst 267 [(19,vi l),(7,vs sty),(8,.bool ns),(20,.bool false)])) (hp:aB f.wo=true) (hq:aB f.wh=true) :
  CallSem w Z9 os 4 (.ref 376) [.ref a,.ref m,vi p] σ (fun r σ'=>∃ wh',aB wh'=true∧r=.none∧σ'=σ.put a (cW v t { f with wh:=wh',wo:=.none,com:=vi 1,sty:=vs sty,nes:=.bool ns,sta:=vi p })) R:=by
 refine jC X F (by decide) ?_
 unfold cU
 have hne:m≠a:=bC hm h (by intro q;cases q)
 walk_at "m"
 refine aF (iw X F h hp hq) (by decide) ?_
 refine fun r s'=>cM fun wh' e1 z0 z1=>?_;subst z0;subst z1
 walk_at "m"
 refine⟨wh',e1,rfl,?_⟩
 rw[Hp.put_put,Hp.put_put,Hp.put_put,Hp.put_put];rfl
theorem rJ (X:Bs K Z9) (F:bc K) (h:σ a=some (cW v t f)) (hc:f.com=vi 1) :
  CallSem w Z9 os 3 (.ref 383) [.ref a] σ (fun r σ'=>r=.none∧σ'=σ.put a (cW v t { f with com:=vi 0,sty:=vs "",nes:=.bool false,sta:=.none })) R:=by
 obtain⟨p,o,wh,wo,str,com,sty,nes,sta,quo⟩:=f
 cases hc
 refine dU X F (by decide) ?_
 unfold bW
 walk_at "m"
 refine bD ?_
 walk_at "m"
 refine⟨rfl,?_⟩
 rw[Hp.put_put,Hp.put_put,Hp.put_put];rfl
theorem sU (X:Bs K Z9) (F:bc K) {d:Int} (h:σ a=some (cW v t f)) (hc:f.com=vi d) (hd:1 < d) :
  CallSem w Z9 os 3 (.ref 383) [.ref a] σ (fun r σ'=>r=.none∧σ'=σ.put a (cW v t { f with com:=vi (d - 1) })) R:=by
 obtain⟨p,o,wh,wo,str,com,sty,nes,sta,quo⟩:=f
 cases hc
 refine dU X F (by decide) ?_
 unfold bW
 walk_at "m"
 rw[decide_eq_true hd]
 walk_at "m"
 exact⟨rfl,rfl⟩
theorem vo (X:Bs K Z9) (F:bc K) {e:Value} (h:σ a=some (cW v t f)) (hp:aB f.wo=true) (hq:aB f.wh=true) (he:aB e=true) :
  CallSem w Z9 os 4 (.ref 390) [.ref a,e] σ (fun r σ'=>∃ wh',aB wh'=true∧r=.none∧σ'=σ.put a (cW v t { f with wh:=wh',wo:=.none,str:=e,sta:=vi f.p })) R:=by
 refine km X F (by decide) ?_
 unfold dw
 walk_at "m"
 refine aF (iw X F h hp hq) (by decide) ?_
 refine fun r s'=>cM fun wh' e1 z2 z3=>?_;subst z2;subst z3
 walk_at "m"
 refine⟨wh',e1,rfl,?_⟩
 rw[Hp.put_put,Hp.put_put];rfl
theorem yF (X:Bs K Z9) (F:bc K) (h:σ a=some (cW v t f)) (hs:aB f.sta=true) :
  CallSem w Z9 os 3 (.ref 397) [.ref a] σ (fun r σ'=>r=.none∧σ'=σ.put a (cW v t { f with wh:=f.sta,str:=.none,sta:=.none })) R:=by
 refine mF X F (by decide) ?_
 unfold eX
 walk_at "m"
 refine⟨rfl,?_⟩
 rw[Hp.put_put,Hp.put_put];rfl
theorem Eh (X:Bs K Z9) (F:bc K) {m:Addr} {k:Mk} {wd:Str} {lim:Int} (h:σ a=some (cW v t f)) (hm:σ m=some (.inst 267 [(19,vi k.len),(7,vs k.style),(8,.bool k.nests),(20,.bool k.fence)])) (hl:k.len=2→f.p+1 < lim) :
  CallSem w Z9 os 3 (.ref 404) [.ref a,.ref m,vs wd,vi lim] σ (fun r σ'=>r=.bool true∧σ'=σ.put a (cW v t { f with p:=f.p+k.len })) R:=by
 refine uz X F (by decide) ?_
 unfold lO
 have hne:m≠a:=bC hm h (by intro q;cases q)
 walk_at "m"
 refine cO (fun q=>?_) fun q=>?_
 ·walk_at "m"
  rw[decide_eq_false (by have:=hl q;lia)]
  walk_at "m"
  exact⟨rfl,rfl⟩
 ·walk_at "m"
  exact⟨rfl,rfl⟩
noncomputable def ln (ns:Bool):Int:=bif ns then 2 else 1
noncomputable def dC (f:WF) (d:Int) (st:Str) (ns:Bool) (x y:Option Ch):WF :=
 bif dN (jz x y) st ns false then (bif decide (1 < d) then { f with p:=f.p+ln ns,com:=vi (d - 1) } else { f with p:=f.p+ln ns,com:=vi 0,sty:=vs "",nes:=.bool false,sta:=.none })
 else bif ns&&dN (aQ x y) st true false then { f with p:=f.p+ln ns,com:=vi (d+1) } else { f with p:=f.p+1 }
theorem SN {x y:Option Ch} {k:Mk} (h:jz x y=some k):k=⟨2,"b",true,false⟩∨k=⟨1,"",false,false⟩:=by
 cases x with
 |none=>exact gG h
 |some x=>cases x with
  |br=>cases y with
   |none=>exact gG h
   |some y=>cases y with
    |hs=>exact .inl (Option.some.inj h).symm
    |_=>exact gG h
  |nl=>exact .inr (Option.some.inj h).symm
  |_=>exact gG h
theorem I9 {x y:Option Ch} {k:Mk} (h:aQ x y=some k):k=⟨2,"b",true,false⟩∨k=⟨1,"",false,false⟩:=by
 cases x with
 |none=>exact gG h
 |some x=>cases x with
  |hs=>cases y with
   |none=>exact gG h
   |some y=>cases y with
    |br=>exact .inl (Option.some.inj h).symm
    |_=>exact gG h
  |sc=>exact .inr (Option.some.inj h).symm
  |_=>exact gG h
theorem QQ {x y:Option Ch} {k:Mk} (h:jz x y=some k∨aQ x y=some k):k=⟨2,"b",true,false⟩∨k=⟨1,"",false,false⟩:=h.elim SN I9
theorem Ny {x y:Option Ch} {o:Option Mk} {st:Str} {ns:Bool} (ho:∀ k,o=some k→jz x y=some k∨aQ x y=some k) (h:dN o st ns false=true):∃ k,o=some k∧k.len=ln ns∧k.fence=false:=by
 cases o with
 |none=>cases h
 |some k =>
  refine⟨k,rfl,?_⟩
  rcases QQ (ho k rfl) with rfl|rfl
  ·have:ns=true:=(eq_of_beq (Bool.and_eq_true_iff.mp h).2).symm
   subst this;exact⟨rfl,rfl⟩
  ·have:ns=false:=(eq_of_beq (Bool.and_eq_true_iff.mp h).2).symm
   subst this;exact⟨rfl,rfl⟩
theorem iK (X:Bs K Z9) (F:bc K) (V:ViewAt σ v c cs) (T:TableAt σ t) {d lim:Int} {st:Str} {ns:Bool} (h:σ a=some (cW v t f)) (hc:f.com=vi d) (hd:0 < d) (hst:f.sty=vs st) (hns:f.nes=.bool ns)
  (hl:(dC f d st ns (ao cs f.p) (ao cs (f.p+1))).p=f.p+2→f.p+1 < lim) :
  CallSem w Z9 os 7 (.ref 411) [.ref a,vi lim] σ (fun r σ'=>r=.none∧σ' a=some (cW v t (dC f d st ns (ao cs f.p) (ao cs (f.p+1))))∧Mod1 a σ σ') R:=by
 have gc:cz (fsW v t f) 6=some (vi d):=congrArg some hc
 have gs:cz (fsW v t f) 7=some (vs st):=congrArg some hst
 have gn:cz (fsW v t f) 8=some (.bool ns):=congrArg some hns
 refine iB X F (by decide) (cps fun Q hQ=>?_)
 replace hQ:∀ {g s},dC f d st ns (ao cs f.p) (ao cs (f.p+1))=g→s a=some (cW v t g)→Mod1 a σ s→Q .none s:=fun e1 e2 e3=>by subst e1;exact hQ _ _ ⟨rfl,e2,e3⟩
 unfold cI
 walk_at "m"
 rw[decide_eq_false (Int.not_lt.mpr (Int.le_of_lt hd))]
 refine aF (uV X F V T f.p) (by decide) ?_
 intro r1 s1 zz;obtain⟨hr1,x1⟩:=zz
 have h1:=x1 _ _ h
 walk_at "m"
 refine ak (Ov X F hr1 st ns false) (by decide) ?_
 walk_at "m"
 unfold dC at hl hQ
 cases ef:dN (jz (ao cs f.p) (ao cs (f.p+1))) st ns false<;>rw[ef] at hl hQ
 ·have V':=V.ext x1
  have T':=T.ext x1
  refine bD ?_
  walk_at "m"
  refine aF (gA X F V' T' f.p) (by decide) ?_
  intro r2 s2 zz;obtain⟨hr2,x2⟩:=zz
  have h2:=x2 _ _ h1
  have m2:=(Mod1.ext (a:=a) x1).trans (Mod1.ext x2)
  cases ns with
  |false =>
   walk_at "m"
   exact hQ rfl aa m2.put
  |true =>
   walk_at "m"
   refine ak (Ov X F hr2 st true false) (by decide) ?_
   cases eb:dN (aQ (ao cs f.p) (ao cs (f.p+1))) st true false<;>rw[eb] at hl hQ
   ·walk_at "m"
    exact hQ rfl aa m2.put
   ·refine cM (fun k ek hk hf=>?_) (Ny (fun k h=>.inr h) eb)
    rw[ek] at hr2
    revert hr2;refine aV fun m z4 hm=>?_;subst z4
    walk_at "m"
    refine ak (Eh X F h2 hm (lim:=lim) fun q=>hl (by rw[hk] at q;show f.p+ln true=_;rw[q])) (by decide) ?_
    walk_at "m"
    rw[hk]
    exact hQ rfl aa m2.put.put
 ·refine cM (fun k ek hk hf=>?_) (Ny (fun k h=>.inl h) ef)
  refine bF ?_
  walk_at "m"
  refine aF (uV X F (V.ext x1) (T.ext x1) f.p) (by decide) ?_
  intro r2 s2 zz;obtain⟨hr2,x2⟩:=zz
  have h2:=x2 _ _ h1
  have m2:=(Mod1.ext (a:=a) x1).trans (Mod1.ext x2)
  rw[ek] at hr2
  revert hr2;refine aV fun m z5 hm=>?_;subst z5
  walk_at "m"
  refine ak (Eh X F h2 hm (lim:=lim) fun q=>hl (by rw[hk] at q;cases decide (1 < d)<;>(show f.p+ln ns=_;rw[q]))) (by decide) ?_
  walk_at "m"
  rw[hk]
  by_cases hd1:1 < d
  ·rw[decide_eq_true hd1] at hQ
   refine ak (sU X F aa hc hd1) (by decide) ?_
   walk_at "m"
   exact hQ rfl aa m2.put.put
  ·obtain rfl:d=1:=by lia
   refine ak (rJ X F aa hc) (by decide) ?_
   walk_at "m"
   exact hQ rfl aa m2.put.put
end
set_option genCtorIdx false in
inductive Mode where
 |plain
 |plainQ
 |str (st:Int) (q:Bool)
 |com (st:Int)
 |blk (st:Int) (d:Nat)
noncomputable def cD:Mode→Value
 |.str _ _=>vi 34
 |_=>.none
noncomputable def bz:Mode→Int
 |.com _=>1
 |.blk _ d=>d+1
 |_=>0
noncomputable def mQ:Mode→Str
 |.blk _ _=>"b"
 |_=>""
noncomputable def mR:Mode→Bool
 |.blk _ _=>true
 |_=>false
noncomputable def gw:Mode→Value
 |.str st _=>vi st
 |.com st=>vi st
 |.blk st _=>vi st
 |_=>.none
noncomputable def mK:Mode→Bool
 |.plainQ=>true
 |.str _ q=>q
 |_=>false
structure WS where
 p:Int
 ops:List Int
 m:Mode
noncomputable def jq (s:WS) (o:Addr) (wh wo:Value):WF:=⟨s.p,o,wh,wo,cD s.m,vi (bz s.m),vs (mQ s.m),.bool (mR s.m),gw s.m,.bool (mK s.m)⟩
noncomputable def WalkAt (σ:Hp) (a v t o:Addr) (s:WS):Prop:=∃ wh wo,aB wh=true∧aB wo=true∧σ a=some (cW v t (jq s o wh wo))∧σ o=some (.list (s.ops.map vi))
noncomputable def iy (x:Ch) (p:Int) (ops:List Int):WS:=⟨p,bif fW x then ops++[p] else bif dX x then ops.dropLast else ops,bif aM x then .plainQ else bif decide (x=.dq) then .str p false else .plain⟩
noncomputable def uh (p:Int) (ops:List Int) (x:Ch):Option Mk→Option WS
 |some k=>some ⟨p+k.len,ops,bif k.nests then .blk p 0 else .com p⟩
 |none=>bif dX x&&ops.isEmpty then none else some { iy x p ops with p:=p+1 }
noncomputable def zcR (st:Int):Nat→Mode
 |0=>.plain
 |d+1=>.blk st d
noncomputable def jx (x y:Option Ch) (p:Int) (ops:List Int):Mode→Option WS
 |.plain=>match x with
  |none=>none
  |some z=>uh p ops z (aQ x y)
 |.plainQ=>some ⟨p+1,ops,.plain⟩
 |.str st q=>match x with
  |none=>none
  |some z=>some ⟨p+1,ops,bif q then .str st false else bif aM z then .str st true else bif decide (z=.dq) then .plain else .str st false⟩
 |.com st=>some (bif dN (jz x y) "" false false then ⟨p+1,ops,.plain⟩ else ⟨p+1,ops,.com st⟩)
 |.blk st d=>some (bif dN (jz x y) "b" true false then ⟨p+2,ops,zcR st d⟩ else bif dN (aQ x y) "b" true false then ⟨p+2,ops,.blk st (d+1)⟩ else ⟨p+1,ops,.blk st d⟩)
noncomputable def bu (cs:List Ch) (s:WS):Option WS:=jx (ao cs s.p) (ao cs (s.p+1)) s.p s.ops s.m
section
variable {K:Frag} {w:World} {Z9:Heap} {os:OsState} {R:Value→Hp→Prop} {σ:Hp} {v c t a o:Addr} {cs:List Ch} {f:WF} {s s':WS}
theorem bx {p:Int} {ops:List Int} {m:Mode} {x y:Option Ch} (hx:ao cs p=x) (hy:ao cs (p+1)=y):bu cs ⟨p,ops,m⟩=jx x y p ops m:=by subst hx hy;rfl
theorem zdf (z:Ch) (y:Option Ch):dN (jz (some z) y) "" false false=decide (z=.nl):=by
 cases z with
 |br=>cases y with
  |none=>rfl
  |some w=>cases w<;>rfl
 |_=>rfl
theorem zbT (z:Ch) (y:Option Ch) (h:z≠.br):dN (jz (some z) y) "b" true false=false:=by
 cases z with
 |br=>exact absurd rfl h
 |_=>rfl
theorem zbA (z:Ch) (y:Option Ch) (h:z≠.hs):dN (aQ (some z) y) "b" true false=false:=by
 cases z with
 |hs=>exact absurd rfl h
 |_=>rfl
section
variable {p st:Int} {ops:List Int} {y:Option Ch} {z:Ch} {d:Nat}
theorem zae (h:z≠.nl):jx (some z) y p ops (.com st)=some ⟨p+1,ops,.com st⟩:=by
 unfold jx;rw[zdf,decide_eq_false h];rfl
theorem O1 (h:z≠.hs∧z≠.br):jx (some z) y p ops (.blk st d)=some ⟨p+1,ops,.blk st d⟩:=by
 unfold jx;rw[zbT z y h.2,zbA z y h.1];rfl
theorem Ru (hb:aQ (some z) y=none) (h:z≠.bs∧fW z=false∧dX z=false∧z≠.dq):jx (some z) y p ops .plain=some ⟨p+1,ops,.plain⟩:=by
 unfold jx uh iy
 dsimp only
 rw[hb,h.2.1,h.2.2.1,show aM z=false from decide_eq_false h.1,decide_eq_false h.2.2.2];rfl
theorem zds (hb:aQ (some z) y=none) (h:dX z=true∧fW z=false∧aM z=false∧z≠.dq) (hn:ops≠[]):jx (some z) y p ops .plain=some ⟨p+1,ops.dropLast,.plain⟩:=by
 unfold jx uh iy
 dsimp only
 rw[hb,h.1,h.2.1,h.2.2.1,decide_eq_false h.2.2.2,show ops.isEmpty=false by cases ops<;>first|exact absurd rfl hn|rfl];rfl
end
theorem RM {st:Int} {ops:List Int} {wh wo:Value} {p:Int} (e:bu cs ⟨p,ops,.com st⟩=some s') :
  dC (jq ⟨p,ops,.com st⟩ o wh wo) 1 "" false (ao cs p) (ao cs (p+1))=jq s' o wh wo∧s'.ops=ops:=by
 rw[← Option.some.inj e]
 unfold dC
 dsimp only
 cases dN (jz (ao cs p) (ao cs (p+1))) "" false false<;>exact⟨rfl,rfl⟩
theorem MK {st:Int} {d:Nat} {ops:List Int} {wh wo:Value} {p:Int} (e:bu cs ⟨p,ops,.blk st d⟩=some s') :
  dC (jq ⟨p,ops,.blk st d⟩ o wh wo) (d+1) "b" true (ao cs p) (ao cs (p+1))=jq s' o wh wo∧s'.ops=ops:=by
 rw[← Option.some.inj e]
 unfold dC
 dsimp only
 cases dN (jz (ao cs p) (ao cs (p+1))) "b" true false
 ·cases dN (aQ (ao cs p) (ao cs (p+1))) "b" true false<;>exact⟨rfl,rfl⟩
 ·cases d with
  |zero=>exact⟨rfl,rfl⟩
  |succ d =>
   refine⟨?_,rfl⟩
   rw[decide_eq_true (show 1 < ((d+1:Nat):Int)+1 by lia),show ((d+1:Nat):Int)+1 - 1=(d:Int)+1 by lia]
   rfl
theorem rF (X:Bs K Z9) (F:bc K) (V:ViewAt σ v c cs) (T:TableAt σ t) {st:Int} {q:Bool} {ops:List Int} {p:Int} (h:WalkAt σ a v t o ⟨p,ops,.str st q⟩) (e:bu cs ⟨p,ops,.str st q⟩=some s') :
  CallSem w Z9 os 5 (.ref 418) [.ref a] σ (fun r σ'=>r=.none∧WalkAt σ' a v t o s'∧Mod2 a o σ σ') R:=by
 refine bR (fun wh wo h1 h2 h3 h4=>?_) h
 dsimp only [jq,cD,bz,mQ,mR,gw,mK] at h3
 have hne:o≠a:=bC h4 h3 (by intro q;cases q)
 have hv:=V.vw
 refine jc (fun _ _ _ z0=>jc (fun _ _ _ z1=>aV (fun _ ht _=>?_) z1) z0) T.at_
 refine jg X F (by decide) (cps fun Q hQ=>?_)
 replace hQ:∀ {m wh s},s'=⟨p+1,ops,m⟩→aB wh=true→s a=some (cW v t (jq ⟨p+1,ops,m⟩ o wh wo))→s o=some (.list (ops.map vi))→Mod2 a o σ s→Q .none s:=fun e1 e2 e3 e4 e5=>by
  subst e1;exact hQ _ _ ⟨rfl,⟨_,wo,e2,h2,e3,e4⟩,e5⟩
 unfold bu jx at e
 dsimp only at e
 cases hx:ao cs p<;>rw[hx] at e
 ·cases e
 rename_i x
 replace e:=Option.some.inj e
 unfold cQ
 walk_at "m"
 refine ak (jw X F V p) (by decide) ?_
 rw[hx]
 walk_at "m"
 refine aF (zdA X F T x) (by decide) ?_
 refine fun r s1=>cM fun sy z2 hs z3=>?_;subst z2;subst z3
 cases q with
 |true =>
  walk_at "m"
  exact hQ e.symm h1 aa (aq hne (aq hne h4)) Mod2.refl.put1.put1
 |false =>
  have ⟨m0,hs0⟩:=hs
  walk_at "m"
  refine ak (dM X F hs) (by decide) ?_
  walk_at "m"
  cases hE:aM x<;>rw[hE] at e
  ·refine bD ?_
   walk_at "m"
   refine bD ?_
   walk_at "m"
   rw[show decide (Q7 (some x)=34)=decide (x=.dq) from pH x (by kernel_rfl)]
   cases hD:decide (x=.dq)<;>rw[hD] at e
   ·refine bD ?_
    walk_at "m"
    exact hQ e.symm h1 aa (aq hne h4) Mod2.refl.put1
   ·refine bF ?_
    walk_at "m"
    refine aP (decide_eq_true (by rw[of_decide_eq_true hD];rfl)) ?_
    walk_at "m"
    refine ak (yF X F h3 rfl) (by decide) ?_
    walk_at "m"
    exact hQ e.symm rfl aa (aq hne (aq hne h4)) Mod2.refl.put1.put1
  ·refine bF ?_
   walk_at "m"
   exact hQ e.symm h1 aa (aq hne (aq hne h4)) Mod2.refl.put1.put1
end
section
variable {K:Frag} {w:World} {Z9:Heap} {os:OsState} {R:Value→Hp→Prop} {σ:Hp} {v c t a o:Addr} {cs:List Ch} {f:WF} {s s':WS}
theorem zdZ (x:Ch):(cH x=true→fW x=false∧dX x=false∧aM x=false∧decide (x=.dq)=false)∧(kind x="("→fW x=true∧dX x=false∧aM x=false∧decide (x=.dq)=false)∧(kind x=")"→fW x=false∧dX x=true∧aM x=false∧decide (x=.dq)=false) ∧
  (kind x="\""→x=.dq)∧(aM x=false→¬ kind x="("→¬ kind x=")"→¬ kind x="\""→fW x=false∧dX x=false∧decide (x=.dq)=false)∧¬ kind x="|" :=
 ⟨pH x (by kernel_rfl),pH x (by kernel_rfl),pH x (by kernel_rfl),pH x (by kernel_rfl),pH x (by kernel_rfl),pH x (by kernel_rfl)⟩
theorem Ab {x:Ch} {p:Int} {ops:List Int} {a b c d:Bool} (h1:fW x=a) (h2:dX x=b) (h3:aM x=c) (h4:decide (x=.dq)=d):iy x p ops=⟨p,bif a then ops++[p] else bif b then ops.dropLast else ops,bif c then .plainQ else bif d then .str p false else .plain⟩:=by
 unfold iy;rw[h1,h2,h3,h4]
theorem vV (X:Bs K Z9) (F:bc K) (V:ViewAt σ v c cs) {p:Int} {ops:List Int} {x:Ch} {sy:Addr} (hx:ao cs p=some x) (hs:SynAt σ sy x) (h:WalkAt σ a v t o ⟨p,ops,.plain⟩) (hl:ops.length < big) (hc:dX x=true→ops≠[]) :
  CallSem w Z9 os 5 (.ref 439) [.ref a,.ref sy] σ (fun r σ'=>r=.none∧WalkAt σ' a v t o (iy x p ops)∧Mod2 a o σ σ') R:=by
 refine bR (fun wh wo h1 h2 h3 h4=>?_) h
 dsimp only [jq,cD,bz,mQ,mR,gw,mK] at h3
 have hne:o≠a:=bC h4 h3 (by intro q;cases q)
 have hv:=V.vw
 have ⟨m0,hs0⟩:=hs
 refine lz (fun k1 k2 k3 k4 z0=>oA (fun k5 k6=>?_) z0) (zdZ x)
 refine jM X F (by decide) (cps fun Q hQ=>?_)
 replace hQ:∀ {s ops' m wh wo},iy x p ops=⟨p,ops',m⟩→aB wh=true→aB wo=true→s a=some (cW v t (jq ⟨p,ops',m⟩ o wh wo))→s o=some (.list (ops'.map vi))→Mod2 a o σ s→Q .none s:=fun e h1 h2 h3 h4 h5 =>
  hQ _ _ ⟨rfl,by rw[e];exact⟨_,_,h1,h2,h3,h4⟩,h5⟩
 unfold du
 walk_at "m"
 refine ak (dM X F hs) (by decide) ?_
 walk_at "m"
 refine HW (fun q=>?_) fun qbs=>?_
 ·walk_at "m"
  refine aF (qI X F h3 h2) (by decide) ?_
  refine fun r s1=>cM fun wo' hw z1 z2=>?_;subst z1;subst z2
  walk_at "m"
  exact hQ (by rw[of_decide_eq_true (show decide (x=.bs)=true from q)];rfl) h1 hw aa (aq hne (aq hne h4)) Mod2.refl.put1.put1
 refine aY (Pu.ite (zQ rfl hs X F (by decide)) (HW (fun q=>?_) fun qwp=>?_))
 ·refine ru (fun a1 a2 a3 a4=>?_) (k1 q)
  walk_at "m"
  refine aF (qI X F h3 h2) (by decide) ?_
  refine fun r s1=>cM fun wo' hw z3 z4=>?_;subst z3;subst z4
  walk_at "m"
  exact hQ (Ab a1 a2 a3 a4) h1 hw aa (aq hne h4) Mod2.refl.put1
 refine aY (Pu.ite (lA rfl hs _ _) (cO (fun q=>?_) fun qop=>?_))
 ·refine ru (fun a1 a2 a3 a4=>?_) (k2 q)
  walk_at "m"
  refine ak (J4 X F h3 h4 h2 h1 hl) (by decide) ?_
  walk_at "m"
  exact hQ (Ab a1 a2 a3 a4) rfl rfl (aq hne.symm aa) aa Mod2.refl.put1.put2
 refine aY (Pu.ite (lA rfl hs _ _) (cO (fun q=>?_) fun qcl=>?_))
 ·refine ru (fun a1 a2 a3 a4=>?_) (k3 q)
  rw[(List.dropLast_concat_getLast (hc a2)).symm] at h4
  walk_at "m"
  refine au (Vi X F h3 h4 h2 h1) (by decide) ?_
  refine fun s1=>iJ fun e1 e2 e3=>?_
  walk_at "m"
  exact hQ (wo:=.none) (Ab a1 a2 a3 a4) (by rfl) rfl e1 e2 e3
 refine aY (Pu.ite (lA rfl hs _ _) (cO (fun q=>?_) fun qdq=>?_))
 ·have hx':=k4 q
  subst hx'
  walk_at "m"
  refine ak (jw X F V p) (by decide) ?_
  rw[hx]
  walk_at "m"
  refine aF (vo X F h3 h2 h1 rfl) (by decide) ?_
  refine fun r s1=>cM fun wh' hw z5 z6=>?_;subst z5;subst z6
  walk_at "m"
  exact hQ (m:=.str p false) (wo:=.none) rfl hw rfl aa (aq hne h4) Mod2.refl.put1
 refine aY (Pu.ite (lA rfl hs _ _) (aH (decide_eq_false k6) ?_))
 refine iJ (fun a1 a2 a4=>?_) (k5 qbs qop qcl qdq)
 refine aY (Pu.ite (Iv rfl hs _ _) (yt (fun q=>?_) fun q=>?_))
 ·walk_at "m"
  exact hQ (Ab a1 a2 qbs a4) h1 h2 h3 h4 Mod2.refl
 ·walk_at "m"
  refine aF (iw X F h3 h2 h1) (by decide) ?_
  refine fun r s1=>cM fun wh' hw z7 z8=>?_;subst z7;subst z8
  walk_at "m"
  exact hQ (wo:=.none) (Ab a1 a2 qbs a4) hw rfl aa (aq hne h4) Mod2.refl.put1
theorem qH (X:Bs K Z9) (F:bc K) (V:ViewAt σ v c cs) (T:TableAt σ t) {lim:Int} (h:WalkAt σ a v t o s) (hm:s.m=.plain∨s.m=.plainQ) (hl:s.ops.length < big) (e:bu cs s=some s') (hlim:s'.p=s.p+2→s.p+1 < lim) :
  CallSem w Z9 os 7 (.ref 432) [.ref a,vi lim] σ (fun r σ'=>r=.none∧WalkAt σ' a v t o s'∧Mod2 a o σ σ') R:=by
 obtain⟨p,ops,m⟩:=s
 dsimp only at hm hl hlim
 refine bR (fun wh wo h1 h2 h3 h4=>?_) h
 have hne:o≠a:=bC h4 h3 (by intro q;cases q)
 refine mZ X F (by decide) (cps fun Q hQ=>?_)
 replace hQ:∀ {s s2},s2=s'→WalkAt s a v t o s2→Mod2 a o σ s→Q .none s:=fun e h1 h2=>by subst e;exact hQ _ _ ⟨rfl,h1,h2⟩
 unfold eO
 rcases hm with rfl|rfl
 ·dsimp only [jq,cD,bz,mQ,mR,gw,mK] at h3
  unfold bu jx at e
  dsimp only at e
  cases hx:ao cs p<;>rw[hx] at e
  ·cases e
  rename_i x
  dsimp only at e
  walk_at "m"
  refine aF (gA X F V T p) (by decide) ?_
  intro r s1 zz;obtain⟨hr,x1⟩:=zz
  have g3:=x1 _ _ h3
  have g4:=x1 _ _ h4
  rw[hx] at hr
  cases hb:aQ (some x) (ao cs (p+1))<;>rw[hb] at e hr
  ·obtain rfl:r=.none:=hr
   walk_at "m"
   refine bD ?_
   walk_at "m"
   refine cR (aX X F (V.ext x1) (T.ext x1) p) (by decide) ?_
   rintro r hr
   rw[hx] at hr
   revert hr;refine aV fun sy z9 hs=>?_;subst z9
   refine aJ (bU (aY (Pu.ite (.not (QB rfl hs X F (by decide))) (yt (fun q=>?_) fun q=>?_))))
   ·subst q
    walk_at "m"
    exact hQ (Option.some.inj e) ⟨wh,wo,h1,h2,aa,aq hne g4⟩ (Mod2.ext x1).put1
   ·have ⟨m0,hs0⟩:=hs
    unfold uh at e
    dsimp only at e
    cases hz:(dX x&&ops.isEmpty)<;>rw[hz] at e
    ·have hcl:dX x=true→ops≠[]:=fun q z=>by rw[q,z] at hz;cases hz
     walk_at "m"
     refine au (vV X F (V.ext x1) hx hs ⟨wh,wo,h1,h2,g3,g4⟩ hl hcl) (by decide) ?_
     intro s3 zz;obtain⟨⟨wh',wo',k1,k2,k3,k4⟩,m3⟩:=zz
     walk_at "m"
     exact hQ (Option.some.inj e) ⟨wh',wo',k1,k2,aa,aq hne k4⟩ ((Mod2.ext x1).trans m3).put1
    ·cases e
  ·rename_i k
   revert hr;refine aV fun mk z10 hmk=>?_;subst z10
   have e:=Option.some.inj e
   have hk:=QQ (.inr hb)
   have hf:k.fence=false:=by rcases hk with rfl|rfl<;>rfl
   walk_at "m"
   refine bF ?_
   walk_at "m"
   refine ak (Eh X F g3 hmk (lim:=lim) fun q=>hlim (by rw[← e,← q])) (by decide) ?_
   walk_at "m"
   rw[hf] at hmk
   refine aF (t8 X F aa (aq (bC hmk g3 (by intro q;cases q)) hmk) h2 h1) (by decide) ?_
   refine fun r s2=>cM fun wh' hw z11 z12=>?_;subst z11;subst z12
   walk_at "m"
   refine hQ e ⟨wh',.none,hw,rfl,?_,aq hne (aq hne g4)⟩ (Mod2.ext x1).put1.put1
   rcases hk with rfl|rfl<;>exact aa
 ·dsimp only [jq,cD,bz,mQ,mR,gw,mK] at h3
  walk_at "m"
  exact hQ (Option.some.inj e) ⟨wh,wo,h1,h2,aa,aq hne (aq hne h4)⟩ Mod2.refl.put1.put1
theorem yq (X:Bs K Z9) (F:bc K) (V:ViewAt σ v c cs) (T:TableAt σ t) {lim:Int} (h:WalkAt σ a v t o s) (hl:s.ops.length < big) (e:bu cs s=some s') (hlim:s'.p=s.p+2→s.p+1 < lim) :
  CallSem w Z9 os 8 (.ref 446) [.ref a,vi lim] σ (fun r σ'=>r=.none∧WalkAt σ' a v t o s'∧Mod2 a o σ σ') R:=by
 have hW:=h
 obtain⟨p,ops,m⟩:=s
 refine bR (fun wh wo h1 h2 h3 h4=>?_) h
 have hne:o≠a:=bC h4 h3 (by intro q;cases q)
 refine vq X F (by decide) (cps fun Q hQ=>?_)
 unfold lQ
 cases m with
 |plain =>
  dsimp only [jq,cD,bz,mQ,mR,gw,mK] at h3
  walk_at "m"
  refine dK ?_
  walk_at "m"
  refine dK ?_
  walk_at "m"
  refine dK ?_
  walk_at "m"
  refine au (qH X F V T hW (.inl rfl) hl e hlim) (by decide) ?_
  rintro s1 k
  walk_at "m"
  exact hQ _ _ ⟨rfl,k⟩
 |plainQ =>
  dsimp only [jq,cD,bz,mQ,mR,gw,mK] at h3
  walk_at "m"
  refine dK ?_
  walk_at "m"
  refine dK ?_
  walk_at "m"
  refine dK ?_
  walk_at "m"
  refine au (qH X F V T hW (.inr rfl) hl e hlim) (by decide) ?_
  rintro s1 k
  walk_at "m"
  exact hQ _ _ ⟨rfl,k⟩
 |str st q =>
  dsimp only [jq,cD,bz,mQ,mR,gw,mK] at h3
  walk_at "m"
  refine dK ?_
  walk_at "m"
  refine dK ?_
  walk_at "m"
  refine nZ ?_
  walk_at "m"
  refine au (rF X F V T hW e) (by decide) ?_
  rintro s1 k
  walk_at "m"
  exact hQ _ _ ⟨rfl,k⟩
 |com st =>
  obtain⟨e1,e2⟩:=RM (o:=o) (wh:=wh) (wo:=wo) e
  dsimp only [jq,cD,bz,mQ,mR,gw,mK] at h3
  walk_at "m"
  refine dK ?_
  walk_at "m"
  refine nZ ?_
  walk_at "m"
  refine au (iK X F V T (d:=1) (st:="") (ns:=false) (lim:=lim) (show σ a=some (cW v t (jq ⟨p,ops,.com st⟩ o wh wo)) from h3) rfl (by decide) rfl rfl (by show (dC _ 1 "" false (ao cs p) (ao cs (p+1))).p=_→_;rw[e1];exact hlim)) (by decide) ?_
  intro s1 zz;obtain⟨k1,k2⟩:=zz
  walk_at "m"
  have k1:s1 a=some (cW v t (dC (jq ⟨p,ops,.com st⟩ o wh wo) 1 "" false (ao cs p) (ao cs (p+1)))):=k1
  rw[e1] at k1
  exact hQ _ _ ⟨rfl,⟨wh,wo,h1,h2,k1,by rw[e2];exact k2 _ _ hne h4⟩,k2.two⟩
 |blk st d =>
  obtain⟨e1,e2⟩:=MK (o:=o) (wh:=wh) (wo:=wo) e
  dsimp only [jq,cD,bz,mQ,mR,gw,mK] at h3
  walk_at "m"
  refine dK ?_
  walk_at "m"
  rw[decide_eq_false (show ¬ ((d:Int)+1=0) by lia)]
  refine nZ ?_
  walk_at "m"
  refine au (iK X F V T (d:=d+1) (st:="b") (ns:=true) (lim:=lim) (show σ a=some (cW v t (jq ⟨p,ops,.blk st d⟩ o wh wo)) from h3) rfl (by lia) rfl rfl (by show (dC _ _ "b" true (ao cs p) (ao cs (p+1))).p=_→_;rw[e1];exact hlim)) (by decide) ?_
  intro s1 zz;obtain⟨k1,k2⟩:=zz
  walk_at "m"
  have k1:s1 a=some (cW v t (dC (jq ⟨p,ops,.blk st d⟩ o wh wo) (d+1) "b" true (ao cs p) (ao cs (p+1)))):=k1
  rw[e1] at k1
  exact hQ _ _ ⟨rfl,⟨wh,wo,h1,h2,k1,by rw[e2];exact k2 _ _ hne h4⟩,k2.two⟩
end
noncomputable def ComRun (cs:List Ch):Nat→WS→Int→Prop
 |0,s,r=>bz s.m=0∧r=s.p
 |n+1,s,r=>bz s.m≠0∧s.p < 1+cs.length∧∃ s',bu cs s=some s'∧(s'.p=s.p+2→s.p+1 < 1+cs.length)∧s.ops.length < big∧ComRun cs n s' r
theorem ComRun.stop {cs:List Ch} {s:WS} (h:bz s.m=0):ComRun cs 0 s s.p:=⟨h,rfl⟩
theorem ComRun.step {cs:List Ch} {n:Nat} {s s':WS} {r:Int} (h1:bz s.m≠0) (h2:s.p < 1+cs.length) (h3:bu cs s=some s') (h4:s'.p=s.p+2→s.p+1 < 1+cs.length) (h5:s.ops.length < big) (h:ComRun cs n s' r):ComRun cs (n+1) s r:=⟨h1,h2,_,h3,h4,h5,h⟩
noncomputable def upd (C:Int→Option Value) (p:Int) (x:Value):Int→Option Value:=fun q=>if q=p then some x else C q
noncomputable def SpanRun (cs:List Ch) (lim:Int):Nat→WS→(Int→Option Value)→(Int→Option Value)→(Int→Option Value)→(Int→Option Value)→Prop
 |0,s,C,D,C',D'=>lim≤s.p∧C'=C∧D'=D
 |n+1,s,C,D,C',D'=>s.p < lim∧∃ s',bu cs s=some s'∧(s'.p=s.p+2→s.p+1 < 1+cs.length)∧s.ops.length < big ∧
   SpanRun cs lim n s' (if bz s.m≠0∧bz s'.m=0 then upd C s'.p (gw s.m) else C) (if ¬ (bz s.m≠0∧bz s'.m=0)∧cD s.m≠.none∧cD s'.m=.none then upd D s'.p (gw s.m) else D) C' D'
theorem SpanRun.stop {cs:List Ch} {lim:Int} {s:WS} {C D} (h:lim≤s.p):SpanRun cs lim 0 s C D C D:=⟨h,rfl,rfl⟩
theorem SpanRun.step {cs:List Ch} {lim:Int} {n:Nat} {s s':WS} {C D C' D'} (h1:s.p < lim) (h2:bu cs s=some s') (h3:s'.p=s.p+2→s.p+1 < 1+cs.length) (h4:s.ops.length < big)
  (h:SpanRun cs lim n s' (if bz s.m≠0∧bz s'.m=0 then upd C s'.p (gw s.m) else C) (if ¬ (bz s.m≠0∧bz s'.m=0)∧cD s.m≠.none∧cD s'.m=.none then upd D s'.p (gw s.m) else D) C' D'):SpanRun cs lim (n+1) s C D C' D':=⟨h1,_,h2,h3,h4,h⟩
section
variable {K:Frag} {w:World} {Z9:Heap} {os:OsState} {R:Value→Hp→Prop} {σ:Hp} {v c t a o:Addr} {cs:List Ch} {s s':WS}
noncomputable abbrev psD:Cell:=.inst 68 [(0,.ref 29),(1,vi 0),(2,vi 0),(3,.none),(4,.none),(5,.none),(6,vi 0),(7,vs ""),(8,.bool false),(9,.none),(10,.bool false),(11,vs "")]
theorem Cr (X:Bs K Z9) (F:bc K) (h:σ a=some (.inst 68 [])):CallSem w Z9 os 3 (.ref 37) [.ref a] σ (fun r σ'=>r=.none∧σ'=σ.put a psD) R:=by
 refine jN X F (by decide) ?_
 unfold bG
 walk_at "m"
 refine⟨rfl,?_⟩
 simp only[Hp.put_put];rfl
theorem DK (X:Bs K Z9) (F:bc K) {n:Nat} {k:List Value→Hp→Prop} (hn:4≤n) (h:∀ a,σ a=none→k [.ref a] (σ.put a psD)):Fx w Z9 os n R 68 37 [] σ k :=
 pW (m:=3) hn (fun a ha=>Cr X F aa) fun a r σ' ha ⟨h1,h2⟩=>⟨h1,by rw[h2,Hp.put_put];exact h a ha⟩
theorem Ag (X:Bs K Z9) (F:bc K) {ps:Addr} {p:Int} (h:σ a=some (.inst 449 [])) (hp:σ ps=some psD) (h29:RW Z9) :
  CallSem w Z9 os 3 (.ref 327) [.ref a,.ref v,.ref t,vi p,.ref ps] σ (fun r σ'=>r=.none∧∃ o,σ o=none∧WalkAt σ' a v t o ⟨p,[],.plain⟩∧Mod2 a o σ σ') R:=by
 refine vm X F (by decide) ?_
 unfold mJ
 have hne:ps≠a:=bC hp h (by intro q;cases q)
 walk_at "m"
 obtain⟨n29,h29⟩:=h29
 refine f_list_b (us:=[]) h29 (by decide) ?_
 intro o ho
 have hao:a≠o:=cJ aa ho
 have hso:ps≠o:=cJ (aq hne (aq hne (aq hne hp))) ho
 have ho0:σ o=none:=by
  unfold Hp.put at ho
  rw[if_neg hao.symm,if_neg hao.symm,if_neg hao.symm] at ho;exact ho
 have e1:=aq (c:=.list []) hao (aa (σ:=((σ.put a (.inst 449 [(21,.ref v)])).put a (.inst 449 [(21,.ref v),(22,.ref t)]))) (a:=a) (c:=.inst 449 [(21,.ref v),(22,.ref t),(23,vi p)]))
 have m1:Mod2 a o σ ((((σ.put a (.inst 449 [(21,.ref v)])).put a (.inst 449 [(21,.ref v),(22,.ref t)])).put a (.inst 449 [(21,.ref v),(22,.ref t),(23,vi p)])).put o (.list [])):=Mod2.refl.put1.put1.put1.put2
 walk_at "m"
 refine⟨rfl,o,ho0,⟨.none,.none,rfl,rfl,aa,?_⟩,?_⟩
 ·simp only[Hp.put_put]
  exact aq hao.symm aa
 ·simp only[Hp.put_put]
  exact Mod2.refl.put1.put2.put1
theorem Ext.mod2 {a o:Addr} {Z2 Z4:Hp} (e:Ext σ Z2) (m:Mod2 a o Z2 Z4) (ha:σ a=none) (ho:σ o=none):Ext σ Z4:=fun b c q =>
 m b c (fun z=>z.elim (fun z=>by rw[z,ha] at q;cases q) fun z=>by rw[z,ho] at q;cases q) (e b c q)
theorem uU (X:Bs K Z9) (F:bc K) {n:Nat} {k:List Value→Hp→Prop} {ps:Addr} {p:Int} (hn:4≤n) (hp:σ ps=some psD) (h29:RW Z9)
  (h:∀ a o σ',σ a=none→σ o=none→Ext σ σ'→WalkAt σ' a v t o ⟨p,[],.plain⟩→k [.ref a] σ'):Fx w Z9 os n R 449 327 [.ref v,.ref t,vi p,.ref ps] σ k :=
 pW (m:=3) hn (fun a ha=>Ag X F aa (eQ ha hp) h29) fun a r σ' ha q9=>by
  refine xG (fun h1 o ho h2 h3=>?_) q9
  have hao:o≠a:=fun q=>by rw[q,aa] at ho;cases ho
  have ho':σ o=none:=by unfold Hp.put at ho;rwa [if_neg hao] at ho
  exact⟨h1,h a o σ' ha ho' (Ext.mod2 (Ext.put ha) h3 ha ho') h2⟩
theorem WalkAt.comm {σ':Hp} (h:WalkAt σ a v t o s) (e:Ext σ σ'):WalkAt σ' a v t o s:=by
 refine bR (fun wh wo h1 h2 h3 h4=>?_) h
 exact⟨wh,wo,h1,h2,e _ _ h3,e _ _ h4⟩
theorem WalkAt.cell (h:WalkAt σ a v t o s):∃ f:WF,σ a=some (cW v t f)∧f.p=s.p∧f.com=vi (bz s.m)∧f.str=cD s.m∧f.sta=gw s.m∧f.o=o:=by
 refine bR (fun wh wo h1 h2 h3 h4=>?_) h
 exact⟨_,h3,rfl,rfl,rfl,rfl,rfl⟩
theorem lK {σ':Hp} (x:Ext σ σ') (h:σ' a=none):σ a=none:=by
 cases q:σ a with
 |none=>rfl
 |some c=>rw[x _ _ q] at h;cases h
theorem ww (X:Bs K Z9) (F:bc K) (V:ViewAt σ v c cs) (T:TableAt σ t) (h29:RW Z9) {p r:Int} {n:Nat} (e:bu cs ⟨p,[],.plain⟩=some s') (hl:s'.p=p+2→p+1 < 1+cs.length) (hr:ComRun cs n s' r) :
  CallSem w Z9 os 9 (.ref 482) [.ref v,.ref t,vi p] σ (fun q σ'=>q=vi r∧Ext σ σ') R:=by
 refine rP X F (by decide) (cps fun Q hQ=>?_)
 unfold iU
 have h1:=V.vw
 walk_at "m"
 refine DK X F (by decide) fun ps hps=>?_
 have x1:Ext σ (σ.put ps psD):=Ext.put hps
 walk_at "m"
 refine uU X F (by decide) aa h29 fun a o σ2 ha ho x2 W=>?_
 have x:=x1.trans x2
 have ha0:=lK x1 ha
 have ho0:=lK x1 ho
 have h2:=x _ _ h1
 refine aV (fun f hf _=>?_) W.cell
 walk_at "m"
 refine ak (lB X F (V.ext x)) (by decide) ?_
 walk_at "m"
 refine au (yq X F (V.ext x) (T.ext x) (lim:=1+cs.length) W (by show 0 < big;decide) e hl) (by decide) ?_
 intro s3 zz;obtain⟨W3,m3⟩:=zz
 have x3:=x.mod2 m3 ha0 ho0
 walk_at "m"
 refine gh (fun m ρ σ'=>∃ s3,ρ=[some (.ref v),some (.ref t),some (vi p),some (.ref a)]∧Ext σ σ'∧WalkAt σ' a v t o s3∧ComRun cs m s3 r) n ⟨s',rfl,x3,W3,hr⟩ fun m ρ σ' hI=>?_
 revert hI;refine kZ fun s4 z0 x4 W4 hr4=>?_;subst z0
 refine kZ (fun f4 hf4 e1 e2 _=>?_) W4.cell
 have h4:=x4 _ _ h1
 walk_at "m"
 rw[e2]
 refine zf ?_
 cases m with
 |zero =>
  refine aH (by rw[decide_eq_true hr4.1];rfl) ?_
  walk_at "m"
  exact hQ _ _ ⟨by rw[e1,hr4.2],x4⟩
 |succ m =>
  refine iJ (fun q1 q2 z1=>kZ (fun s5 q3 q4 q5 q6=>?_) z1) hr4
  refine aP (by rw[decide_eq_false q1];rfl) ?_
  walk_at "m"
  refine ak (lB X F (V.ext x4)) (by decide) ?_
  walk_at "m"
  refine aH (decide_eq_false (by rw[e1];exact Int.not_le.mpr q2)) ?_
  walk_at "m"
  refine ak (lB X F (V.ext x4)) (by decide) ?_
  walk_at "m"
  refine au (yq X F (V.ext x4) (T.ext x4) (lim:=1+cs.length) W4 q5 q3 q4) (by decide) ?_
  intro s6 zz;obtain⟨W6,m6⟩:=zz
  walk_at "m"
  exact w_next (Nat.lt_succ_self _) ⟨_,rfl,x4.mod2 m6 ha0 ho0,W6,q6⟩
theorem str_none (m:Mode):isNone (cD m)=decide (cD m=.none):=by cases m<;>rfl
theorem zgk {α:Type} {s s':WS} {x y:α}:(if bz s.m≠0∧bz s'.m=0 then x else y)=bif !decide (bz s.m=0)&&decide (bz s'.m=0) then x else y:=by
 by_cases h:bz s.m=0<;>by_cases h':bz s'.m=0<;>simp[h,h']
theorem zgj {α:Type} {s s':WS} {x y:α}:(if ¬ (bz s.m≠0∧bz s'.m=0)∧cD s.m≠.none∧cD s'.m=.none then x else y)=bif !(!decide (bz s.m=0)&&decide (bz s'.m=0))&&(!isNone (cD s.m)&&isNone (cD s'.m)) then x else y:=by
 rw[str_none,str_none]
 by_cases h:bz s.m=0<;>by_cases h':bz s'.m=0<;>by_cases h2:cD s.m=.none<;>by_cases h3:cD s'.m=.none<;>simp[h,h',h2,h3]
theorem QM {d:Addr} {n:Nat} {f:Int→Option Value} (W:WalkAt σ a v t o s) (e:σ d=some (.dict n f)):¬ (d=a∨d=o):=by
 refine bR (fun _ _ _ _ h3 h4=>?_) W
 rintro(z|z)
 ·rw[z,h3] at e;cases e
 ·rw[z,h4] at e;cases e
theorem WalkAt.putd {d:Addr} {c:Cell} (W:WalkAt σ a v t o s) (h:¬ (d=a∨d=o)):WalkAt (σ.put d c) a v t o s:=by
 refine bR (fun wh wo k1 k2 k3 k4=>?_) W
 exact⟨wh,wo,k1,k2,aq (fun z=>h (.inl z.symm)) k3,aq (fun z=>h (.inr z.symm)) k4⟩
theorem vf (X:Bs K Z9) (F:bc K) (V:ViewAt σ v c cs) (T:TableAt σ t) (h29:RW Z9) {lim:Int} {n:Nat} {C D:Int→Option Value} (hr:SpanRun cs lim n ⟨1,[],.plain⟩ (fun _=>none) (fun _=>none) C D) (hn:n < big) :
  CallSem w Z9 os 9 (.ref 489) [.ref v,.ref t,vi lim] σ (fun q σ'=>Ext σ σ'∧∃ tp dc ds m1 m2,q=.ref tp∧σ' tp=some (.tup [.ref dc,.ref ds])∧σ' dc=some (.dict m1 C)∧σ' ds=some (.dict m2 D)) R:=by
 refine wy X F (by decide) (cps fun Q hQ=>?_)
 unfold oO
 have h1:=V.vw
 walk_at "m"
 refine ak (iC X F V) (by decide) ?_
 walk_at "m"
 refine DK X F (by decide) fun ps hps=>?_
 have x1:Ext σ (σ.put ps psD):=Ext.put hps
 walk_at "m"
 refine uU X F (by decide) aa h29 fun a o σ2 ha ho x2 W=>?_
 have x:=x1.trans x2
 have ha0:=lK x1 ha
 have ho0:=lK x1 ho
 walk_at "m"
 intro dc hdc
 have x3:=Ext.put (c:=.dict 0 fun _=>none) hdc
 have edc:(σ2.put dc (.dict 0 fun _=>none)) dc=some (.dict 0 fun _=>none):=aa
 have hdc0:=lK x hdc
 generalize (σ2.put dc (.dict 0 fun _=>none))=σ3 at x3 edc ⊢
 walk_at "m"
 intro ds hds
 have x4:=Ext.put (c:=.dict 0 fun _=>none) hds
 have hds0:=lK (x.trans x3) hds
 have hcs:dc≠ds:=cJ edc hds
 walk_at "m"
 refine Pz (fun m ρ σ'=>∃ s5 u1 u2 u3 C1 D1 m1 m2,ρ=[some (.ref v),some (.ref t),some (vi lim),some (.ref a),some (.ref dc),some (.ref ds),u1,u2,u3]∧Ext σ σ'∧WalkAt σ' a v t o s5∧σ' dc=some (.dict m1 C1)∧σ' ds=some (.dict m2 D1)∧SpanRun cs lim m s5 C1 D1 C D∧m1+m≤n∧m2+m≤n) n
  ⟨_,none,none,none,_,_,0,0,rfl,(x.trans x3).trans x4,(W.comm x3).comm x4,x4 _ _ edc,aa,hr,Nat.le_of_eq (Nat.zero_add n),Nat.le_of_eq (Nat.zero_add n)⟩ fun J hJ m ρ σ' hI=>?_
 revert hI;refine jc fun s5 u1 u2 z3=>jc (fun u3 C1 D1 z4=>bR (fun m1 m2 z2 x5 W5 z5=>lz (fun edc5 eds5 hr5 n1 n2=>?_) z5) z4) z3;subst z2
 have ⟨wh5,wo5,_,_,hf5,_⟩:=W5
 have h5:=x5 _ _ h1
 walk_at "m"
 cases m with
 |zero =>
  revert hr5;refine iJ fun q z6 z7=>?_;subst z6;subst z7
  refine aH (decide_eq_false (Int.not_lt.mpr q)) ?_
  walk_at "m"
  intro tp htp
  have xp:=Ext.put (c:=.tup [.ref dc,.ref ds]) htp
  walk_at "m"
  exact hQ _ _ ⟨x5.trans xp,tp,dc,ds,m1,m2,rfl,aa,xp _ _ edc5,xp _ _ eds5⟩
 |succ m =>
  refine xG (fun q1 s6 q2 q3 z8=>oA (fun q4 q5=>?_) z8) hr5
  refine aP (decide_eq_true q1) ?_
  walk_at "m"
  refine ak (lB X F (V.ext x5)) (by decide) ?_
  walk_at "m"
  refine au (yq X F (V.ext x5) (T.ext x5) (lim:=1+cs.length) W5 q4 q2 q3) (by decide) ?_
  intro s8 zz;obtain⟨W8,m8⟩:=zz
  have x8:=x5.mod2 m8 ha0 ho0
  have nc:=QM W5 edc5
  have ns:=QM W5 eds5
  have edc8:=m8 _ _ nc edc5
  have eds8:=m8 _ _ ns eds5
  have hm:=Nat.lt_succ_self m
  rw[zgk,zgj] at q5
  have ⟨wh8,wo8,_,_,hf8,_⟩:=W8
  have hw:∀ {ρ s9 C2 D2 k1 k2} (u1 u2 u3),ρ=[some (.ref v),some (.ref t),some (vi lim),some (.ref a),some (.ref dc),some (.ref ds),u1,u2,u3]→Ext σ s9→WalkAt s9 a v t o s6→s9 dc=some (.dict k1 C2)→s9 ds=some (.dict k2 D2)→SpanRun cs lim m s6 C2 D2 C D→k1≤m1+1→k2≤m2+1→J m ρ s9 :=
   fun u1 u2 u3 h1 h2 h3 h4 h5 h6 h7 h8=>hJ _ _ _ ⟨_,u1,u2,u3,_,_,_,_,h1,h2,h3,h4,h5,h6,by lia,by lia⟩
  clear hJ
  refine bU (aY (Pu.ite (.and (zcr rfl) (zar rfl hf8 rfl rfl)) ?_))
  cases hA:(!decide (bz s5.m=0)&&decide (bz s6.m=0))<;>rw[hA] at q5
  ·refine bD (aY (Pu.ite (.and (uW (x:=cD s5.m) rfl) (zc2 (x:=cD s6.m) rfl hf8 rfl rfl)) ?_))
   cases hB:(!isNone (cD s5.m)&&isNone (cD s6.m))<;>rw[hB] at q5
   ·refine bD ?_
    walk_at "m"
    exact w_next hm (hw _ _ _ rfl x8 W8 edc8 eds8 q5 (Nat.le_succ _) (Nat.le_succ _))
   ·refine bF ?_
    walk_at "m"
    refine g_iasg_d eds8 (by lia) ?_
    walk_at "m"
    exact w_next hm (hw _ _ _ rfl (fun b cl q=>aq (cJ q hds0) (x8 b cl q)) (W8.putd ns) (aq hcs edc8) aa q5 (Nat.le_succ _) (Nat.le_refl _))
  ·refine bF ?_
   walk_at "m"
   refine g_iasg_d edc8 (by lia) ?_
   walk_at "m"
   exact w_next hm (hw _ _ _ rfl (fun b cl q=>aq (cJ q hdc0) (x8 b cl q)) (W8.putd nc) aa (aq hcs.symm eds8) q5 (Nat.le_refl _) (Nat.le_succ _))
end
noncomputable def PRun (cs:List Ch) (lim:Int):Nat→WS→WS→Prop
 |0,s,r=>lim≤s.p∧r=s
 |n+1,s,r=>s.p < lim∧∃ s',bu cs s=some s'∧(s'.p=s.p+2→s.p+1 < lim)∧s.ops.length < big∧PRun cs lim n s' r
theorem PRun.stop {cs:List Ch} {lim:Int} {s:WS} (h:lim≤s.p):PRun cs lim 0 s s:=⟨h,rfl⟩
theorem PRun.step {cs:List Ch} {lim:Int} {n:Nat} {s s' s'':WS} (h1:s.p < lim) (h2:bu cs s=some s') (h3:s'.p=s.p+2→s.p+1 < lim) (h4:s.ops.length < big) (h:PRun cs lim n s' s''):PRun cs lim (n+1) s s'':=⟨h1,_,h2,h3,h4,h⟩
noncomputable def Wo (σ:Hp) (ps:Addr) (ops:List Int):Prop:=∃ tu rest,σ ps=some (.inst 68 ((0,.ref tu)::(1,vi 0)::rest))∧σ tu=some (.tup (ops.map vi))∧cz rest 24=none
section
variable {K:Frag} {w:World} {Z9:Heap} {os:OsState} {R:Value→Hp→Prop} {σ:Hp} {v c t a o:Addr} {cs:List Ch} {s s':WS}
theorem Kc (X:Bs K Z9) (F:bc K) {a1 a2 a3 a4 a5 a6 a7 a8 a9 a10 a11 a12:Value} (h:σ a=some (.inst 68 [])) (p1:aB a1=true) (p2:aB a2=true) (p3:aB a3=true) (p4:aB a4=true) (p5:aB a5=true) (p6:aB a6=true)
  (p7:aB a7=true) (p8:aB a8=true) (p9:aB a9=true) (p10:aB a10=true) (p11:aB a11=true) (p12:aB a12=true) :
  CallSem w Z9 os 3 (.ref 37) [.ref a,a1,a2,a3,a4,a5,a6,a7,a8,a9,a10,a11,a12] σ (fun r σ'=>r=.none∧σ'=σ.put a (.inst 68 [(0,a1),(1,a2),(2,a3),(3,a4),(4,a5),(5,a6),(6,a7),(7,a8),(8,a9),(9,a10),(10,a11),(11,a12)])) R:=by
 refine my X F (by decide) ?_
 unfold bG
 walk_at "m"
 refine⟨rfl,?_⟩
 simp only[Hp.put_put];rfl
theorem Gw (X:Bs K Z9) (F:bc K) {tp:Addr} {a1 a2 a3 a4 a5 a6 a7 a8 a9 a10 a11 a12:Value} (h:σ tp=some (.tup [a1,a2,a3,a4,a5,a6,a7,a8,a9,a10,a11,a12])) (p1:aB a1=true) (p2:aB a2=true) (p3:aB a3=true) (p4:aB a4=true) (p5:aB a5=true) (p6:aB a6=true)
  (p7:aB a7=true) (p8:aB a8=true) (p9:aB a9=true) (p10:aB a10=true) (p11:aB a11=true) (p12:aB a12=true) :
  CallSem w Z9 os 5 (.ref 79) [.ref tp] σ (fun r σ'=>∃ ps,r=.ref ps∧σ ps=none∧σ'=σ.put ps (.inst 68 [(0,a1),(1,a2),(2,a3),(3,a4),(4,a5),(5,a6),(6,a7),(7,a8),(8,a9),(9,a10),(10,a11),(11,a12)])) R:=by
 refine wL X F (by decide) ?_
 unfold pB
 refine aY (NQ ?_)
 walk_at "m"
 refine g_unp_t (ρ':=[some (.ref tp),some a1,some a2,some a3,some a4,some a5,some a6,some a7,some a8,some a9,some a10,some a11,some a12]) h (by with_unfolding_all rfl) ?_
 walk_at "m"
 refine pW (m:=3) (by decide) (fun a ha=>Kc X F aa p1 p2 p3 p4 p5 p6 p7 p8 p9 p10 p11 p12) fun a r σ' ha ⟨h1,h2⟩=>⟨h1,?_⟩
 walk_at "m"
 exact⟨a,rfl,ha,by rw[h2,Hp.put_put]⟩
theorem yD (X:Bs K Z9) (F:bc K) (W:WalkAt σ a v t o s) (hl:s.ops.length≤1000) :
  CallSem w Z9 os 6 (.ref 334) [.ref a] σ (fun r σ'=>∃ ps,r=.ref ps∧Wo σ' ps s.ops∧Ext σ σ') R:=by
 refine bR (fun wh wo h1 h2 h3 h4=>?_) W
 refine uc X F (by decide) (cps fun Q hQ=>?_)
 unfold kJ
 walk_at "m"
 intro t1 ht1
 have x1:=Ext.put (c:=.tup [cD s.m,vi (bz s.m),vs (mQ s.m),.bool (mR s.m),gw s.m,.bool (mK s.m),vs ""]) ht1
 have e1:(σ.put t1 (.tup [cD s.m,vi (bz s.m),vs (mQ s.m),.bool (mR s.m),gw s.m,.bool (mK s.m),vs ""])) t1=some (.tup [cD s.m,vi (bz s.m),vs (mQ s.m),.bool (mR s.m),gw s.m,.bool (mK s.m),vs ""]):=aa
 have g3:=x1 _ _ h3
 have g4:=x1 _ _ h4
 change ex w Z9 os 5 R _ _ (σ.put t1 (.tup [cD s.m,vi (bz s.m),vs (mQ s.m),.bool (mR s.m),gw s.m,.bool (mK s.m),vs ""])) _
 generalize σ.put t1 (.tup [cD s.m,vi (bz s.m),vs (mQ s.m),.bool (mR s.m),gw s.m,.bool (mK s.m),vs ""])=σ1 at x1 e1 g3 g4 ⊢
 walk_at "m"
 refine f_tuple g4 ?_
 intro tu htu
 have x2:=Ext.put (c:=.tup (s.ops.map vi)) htu
 have e2:(σ1.put tu (.tup (s.ops.map vi))) tu=some (.tup (s.ops.map vi)):=aa
 have k3:=x2 _ _ g3
 have f1:=x2 _ _ e1
 generalize σ1.put tu (.tup (s.ops.map vi))=σ2 at x2 e2 k3 f1 ⊢
 walk_at "m"
 intro t5 ht5
 have x3:=Ext.put (c:=.tup [.ref tu,vi 0,vi 0,wh,wo]) ht5
 have e3:(σ2.put t5 (.tup [.ref tu,vi 0,vi 0,wh,wo])) t5=some (.tup [.ref tu,vi 0,vi 0,wh,wo]):=aa
 have f2:=x3 _ _ f1
 have f3:=x3 _ _ e2
 change ev w Z9 os 5 R _ _ (σ2.put t5 (.tup [.ref tu,vi 0,vi 0,wh,wo])) _
 generalize σ2.put t5 (.tup [.ref tu,vi 0,vi 0,wh,wo])=σ3 at x3 e3 f2 f3 ⊢
 walk_at "m"
 refine jt e3 f2 (by show 12≤big;decide) ?_ (fun q=>by cases q) (fun q=>by cases q)
 intro t12 ht12
 have x4:=Ext.put (c:=.tup ([.ref tu,vi 0,vi 0,wh,wo]++[cD s.m,vi (bz s.m),vs (mQ s.m),.bool (mR s.m),gw s.m,.bool (mK s.m),vs ""])) ht12
 have f4:=x4 _ _ f3
 walk_at "m"
 refine aF (Gw X F aa rfl rfl rfl h1 h2 ?_ rfl rfl rfl ?_ rfl rfl) (by decide) ?_
 ·cases s.m<;>rfl
 ·cases s.m<;>rfl
 refine fun r s'=>cM fun ps z0 hps z1=>?_;subst z0;subst z1
 walk_at "m"
 have x5:=Ext.put (c:=.inst 68 [(0,.ref tu),(1,vi 0),(2,vi 0),(3,wh),(4,wo),(5,cD s.m),(6,vi (bz s.m)),(7,vs (mQ s.m)),(8,.bool (mR s.m)),(9,gw s.m),(10,.bool (mK s.m)),(11,vs "")]) hps
 exact hQ _ _ ⟨ps,rfl,⟨tu,_,aa,x5 _ _ f4,rfl⟩,((x1.trans x2).trans x3).trans (x4.trans x5)⟩
theorem Fi (X:Bs K Z9) (F:bc K) {ps:Addr} {ops:List Int} (h:Wo σ ps ops):CallSem w Z9 os 3 (.ref 44) [.ref ps] σ (fun r σ'=>r=vi ops.length∧σ'=σ) R:=by
 refine aC (fun tu rest h1 h2 h3=>?_) h
 refine lG X F (by decide) ?_
 unfold dI
 walk_at "m"
 exact⟨by rw[List.length_map,Int.sub_zero],rfl⟩
theorem t7 (X:Bs K Z9) (F:bc K) (V:ViewAt σ v c cs) (T:TableAt σ t) (h29:RW Z9) {p lim:Int} {n:Nat} (hr:PRun cs lim n ⟨p,[],.plain⟩ s') (hb:s'.ops.length≤1000) :
  CallSem w Z9 os 9 (.ref 468) [.ref v,.ref t,vi p,vi lim] σ (fun q σ'=>Ext σ σ'∧∃ tp ps,q=.ref tp∧σ' tp=some (.tup [vi s'.p,.ref ps])∧Wo σ' ps s'.ops) R:=by
 refine mH X F (by decide) (cps fun Q hQ=>?_)
 unfold fX
 have h1:=V.vw
 walk_at "m"
 refine bF ?_
 walk_at "m"
 refine DK X F (by decide) fun ps hps=>?_
 have x1:Ext σ (σ.put ps psD):=Ext.put hps
 walk_at "m"
 refine uU X F (by decide) aa h29 fun a o σ2 ha ho x2 W=>?_
 have x:=x1.trans x2
 have ha0:=lK x1 ha
 have ho0:=lK x1 ho
 walk_at "m"
 refine Pz (fun m ρ σ'=>∃ s5 u1 u2,ρ=[some (.ref v),some (.ref t),some (vi p),some (vi lim),some .none,some .none,some (.bool false),some (.bool false),some (.ref a),u1,u2]∧Ext σ σ'∧WalkAt σ' a v t o s5∧PRun cs lim m s5 s') n
  ⟨_,none,none,rfl,x,W,hr⟩ fun J hJ m ρ σ' hI=>?_
 revert hI;refine gD fun s5 u1 u2 z2 x5 W5 hr5=>?_;subst z2
 refine bR (fun wh5 wo5 k1 k2 hf5 ho5=>?_) (id W5)
 have h5:=x5 _ _ h1
 walk_at "m"
 cases m with
 |zero =>
  obtain⟨q,rfl⟩:=hr5
  refine aH (decide_eq_false (Int.not_lt.mpr q)) ?_
  walk_at "m"
  refine aF (yD X F W5 hb) (by decide) ?_
  refine fun r s6=>cM fun ps' z3 hp x6=>?_;subst z3
  walk_at "m"
  intro tp htp
  have xp:=Ext.put (c:=.tup [vi s'.p,.ref ps']) htp
  walk_at "m"
  refine aC (fun tu rest q1 q2 q3=>?_) hp
  exact hQ _ _ ⟨(x5.trans x6).trans xp,tp,ps',rfl,aa,tu,rest,xp _ _ q1,xp _ _ q2,q3⟩
 |succ m =>
  refine xG (fun q1 s6 q2 q3 z4=>oA (fun q4 q5=>?_) z4) hr5
  refine aP (decide_eq_true q1) ?_
  walk_at "m"
  refine ak (qC X F hf5 ho5) (by decide) ?_
  walk_at "m"
  refine au (yq X F (V.ext x5) (T.ext x5) (lim:=lim) W5 q4 q2 q3) (by decide) ?_
  intro s8 zz;obtain⟨W8,m8⟩:=zz
  walk_at "m"
  refine dK ?_
  walk_at "m"
  exact w_next (Nat.lt_succ_self _) (hJ _ _ _ ⟨s6,_,_,rfl,x5.mod2 m8 ha0 ho0,W8,q5⟩)
theorem vK (X:Bs K Z9) (F:bc K) (V:ViewAt σ v c cs) (T:TableAt σ t) (h29:RW Z9) {lim:Int} {n:Nat} (hr:PRun cs lim n ⟨1,[],.plain⟩ s') (hb:s'.ops.length≤1000) :
  CallSem w Z9 os 10 (.ref 475) [.ref v,.ref t,vi lim] σ (fun q σ'=>Ext σ σ'∧∃ ps,q=.ref ps∧Wo σ' ps s'.ops) R:=by
 refine wN X F (by decide) ?_
 unfold oJ
 have h1:=V.vw
 walk_at "m"
 refine ak (iC X F V) (by decide) ?_
 walk_at "m"
 refine aF (t7 X F V T h29 hr hb) (by decide) ?_
 refine fun r2 s2=>qz fun x2 tp ps z5 z6=>oA (fun e1 e2=>?_) z6;subst z5
 walk_at "m"
 refine i_tup e1 (v:=.ref ps) rfl ?_
 walk_at "m"
 exact⟨x2,ps,rfl,e2⟩
end
structure SC where
 p:Int
 d:Int
 l:Int
 g:Int
 ex:Bool
 done:Bool
noncomputable def fsS (v t:Addr) (x:SC):List (Nat × Value):=[(21,.ref v),(22,.ref t),(23,vi x.p),(24,vi x.d),(2,vi x.l),(25,vi x.g),(26,.bool x.ex),(27,.bool false),(28,.bool x.done)]
noncomputable abbrev cS (v t:Addr) (x:SC):Cell:=.inst 541 (fsS v t x)
noncomputable def SR1 (cs:List Ch) (p r:Int) (N:Int→Prop):Prop:=∃ y,ao cs p=some y∧dR (decide (y=.dq)) (r=p+1) (N (p+if aM y=true then 2 else 1))
noncomputable def StrRun (cs:List Ch):Nat→Int→Int→Prop
 |0,p,r=>SR1 cs p r fun _=>False
 |n+1,p,r=>SR1 cs p r fun p'=>StrRun cs n p' r
noncomputable def WR (cs:List Ch) (p r:Int) (N:Int→Prop):Prop :=
 dR (decide (p < 1+cs.length)) (∃ y,ao cs p=some y∧((∃ k,aQ (some y) (ao cs (p+1))=some k∧r=p)∨(aQ (some y) (ao cs (p+1))=none∧dR (aM y) (p+1 < 1+cs.length∧N (p+2)) (dR (cH y||eZ y) (N (p+1)) (r=p))))) (r=p)
noncomputable def WordRun (cs:List Ch):Nat→Int→Int→Prop
 |0,p,r=>WR cs p r fun _=>False
 |n+1,p,r=>WR cs p r fun p'=>WordRun cs n p' r
section
variable {cs:List Ch} {n:Nat} {p r:Int} {x:Ch}
theorem SR1.mono {N N':Int→Prop} (f:∀ p,N p→N' p):SR1 cs p r N→SR1 cs p r N':=fun⟨y,e,h⟩=>⟨y,e,lg h id (f _)⟩
theorem StrRun.inv:∀ {n:Nat},StrRun cs n p r→SR1 cs p r fun p'=>∃ m,m < n∧StrRun cs m p' r
 |0,h=>SR1.mono (fun _ h=>h.elim) h
 |n+1,h=>SR1.mono (fun _ h=>⟨n,Nat.lt_succ_self _,h⟩) h
theorem StrRun.stop (h:ao cs p=some .dq):StrRun cs 0 p (p+1):=⟨_,h,rfl⟩
theorem StrRun.step (h:ao cs p=some x) (h1:x≠.dq) (k:StrRun cs n (p+if aM x=true then 2 else 1) r):StrRun cs (n+1) p r:=⟨_,h,aH (decide_eq_false h1) k⟩
theorem WR.mono {N N':Int→Prop} (f:∀ p,N p→N' p) (h:WR cs p r N):WR cs p r N' :=
 lg h (Exists.imp fun _=>And.imp id fun h=>h.imp id (And.imp id fun h=>lg h (And.imp id (f _)) fun h=>lg h (f _) id)) id
theorem WordRun.inv:∀ {n:Nat},WordRun cs n p r→WR cs p r fun p'=>∃ m,m < n∧WordRun cs m p' r
 |0,h=>WR.mono (fun _ h=>h.elim) h
 |n+1,h=>WR.mono (fun _ h=>⟨n,Nat.lt_succ_self _,h⟩) h
theorem WordRun.ends (h:¬ p < 1+cs.length):WordRun cs 0 p p:=aH (decide_eq_false h) rfl
theorem WordRun.mark {k:Mk} (h:p < 1+cs.length) (e:aQ (ao cs p) (ao cs (p+1))=some k):WordRun cs 0 p p :=
 aP (decide_eq_true h) (by
  cases hy:ao cs p with
  |none=>rw[hy] at e;cases e
  |some y=>rw[hy] at e;exact⟨y,rfl,.inl ⟨k,e,rfl⟩⟩)
theorem WordRun.out (h:ao cs p=some x) (e:aQ (some x) (ao cs (p+1))=none) (h1:aM x=false) (h2:cH x=false) (h3:eZ x=false):WordRun cs 0 p p :=
 aP (decide_eq_true (cP h).2.1) ⟨_,h,.inr ⟨e,aH h1 (aH (by rw[h2,h3];rfl) rfl)⟩⟩
theorem WordRun.esc (h:ao cs p=some .bs) (e:p+1 < 1+cs.length) (k:WordRun cs n (p+2) r):WordRun cs (n+1) p r:=aP (decide_eq_true (cP h).2.1) ⟨_,h,.inr ⟨rfl,e,k⟩⟩
theorem WordRun.on (h:ao cs p=some x) (e:aQ (some x) (ao cs (p+1))=none) (h1:aM x=false) (h2:cH x=true∨eZ x=true) (k:WordRun cs n (p+1) r):WordRun cs (n+1) p r :=
 aP (decide_eq_true (cP h).2.1) ⟨_,h,.inr ⟨e,aH h1 (aP (by simpa using h2) k)⟩⟩
end
section
variable {K:Frag} {w:World} {Z9:Heap} {os:OsState} {R:Value→Hp→Prop} {σ:Hp} {v c t a o:Addr} {cs:List Ch} {x:SC}
theorem CK (X:Bs K Z9) (F:bc K) {p d:Int} {ex:Bool} (h:σ a=some (.inst 541 [])) :
  CallSem w Z9 os 3 (.ref 503) [.ref a,.ref v,.ref t,vi p,vi d,.bool ex] σ (fun r σ'=>r=.none∧σ'=σ.put a (cS v t ⟨p,d,if 0 < d then 0 else d,p,ex,false⟩)) R:=by
 refine vB X F (by decide) ?_
 unfold lV
 walk_at "m"
 refine cO (fun q=>?_) fun q=>?_
 ·walk_at "m"
  refine⟨rfl,?_⟩
  simp only[Hp.put_put]
  rw[if_pos q];rfl
 ·walk_at "m"
  refine⟨rfl,?_⟩
  simp only[Hp.put_put]
  rw[if_neg q];rfl
theorem zR (X:Bs K Z9) (F:bc K) {n:Nat} {k:List Value→Hp→Prop} {p d:Int} {ex:Bool} (hn:4≤n) (h:∀ a,σ a=none→k [.ref a] (σ.put a (cS v t ⟨p,d,if 0 < d then 0 else d,p,ex,false⟩))):Fx w Z9 os n R 541 503 [.ref v,.ref t,vi p,vi d,.bool ex] σ k :=
 pW (m:=3) hn (fun a ha=>CK X F aa) fun a r σ' ha ⟨h1,h2⟩=>⟨h1,by rw[h2,Hp.put_put];exact h a ha⟩
theorem pO (X:Bs K Z9) (F:bc K) (h:σ a=some (cS v t x)):CallSem w Z9 os 3 (.ref 510) [.ref a] σ (fun r σ'=>r=.bool (x.ex&&decide (x.d=0))∧σ'=σ) R:=by
 refine rC X F (by decide) ?_
 unfold iZ
 walk_at "m"
 cases e:x.ex
 ·refine bD ?_
  walk_at "m"
  exact⟨rfl,rfl⟩
 ·refine bF ?_
  walk_at "m"
  exact⟨rfl,rfl⟩
theorem Rr (X:Bs K Z9) (F:bc K) (h:σ a=some (cS v t x)):CallSem w Z9 os 3 (.ref 524) [.ref a] σ (fun r σ'=>r=.none∧σ'=σ.put a (cS v t { x with d:=x.d+1,done:=decide (x.d+1=0) })) R:=by
 refine rW X F (by decide) ?_
 unfold iR
 walk_at "m"
 refine⟨rfl,?_⟩
 rw[Hp.put_put];rfl
theorem Ci (X:Bs K Z9) (F:bc K) {e:Int} (h:σ a=some (cS v t x)) (hl:¬ x.d - 1 < x.l):CallSem w Z9 os 3 (.ref 531) [.ref a,vi e] σ (fun r σ'=>r=.none∧σ'=σ.put a (cS v t { x with d:=x.d - 1,done:=decide (x.d - 1=0) })) R:=by
 refine gf X F (by decide) ?_
 unfold dg
 walk_at "m"
 refine aH (decide_eq_false hl) ?_
 walk_at "m"
 refine⟨rfl,?_⟩
 rw[Hp.put_put];rfl
theorem tR (X:Bs K Z9) (F:bc K) {e:Int} (h:σ a=some (cS v t x)) (hl:x.d - 1 < x.l) (hR:∀ σ',Mod1 a σ σ'→R (vs "scan-error") σ'):CallSem w Z9 os 3 (.ref 531) [.ref a,vi e] σ (fun _ _=>False) R:=by
 refine gf X F (by decide) ?_
 unfold dg
 walk_at "m"
 refine aP (decide_eq_true hl) ?_
 walk_at "m"
 intro b hb
 walk_at "m"
 refine g_raise rfl (hR _ ?_)
 exact(Mod1.refl.put.put).trans (Mod1.ext (Ext.put hb))
theorem BL (X:Bs K Z9) (F:bc K) {y:Ch} {op cl:Str} (h:σ a=some (cS v t x)) (hop:kind y=op→False) (hcl:kind y=cl→False) :
  CallSem w Z9 os 4 (.ref 573) [.ref a,vs (kind y),vs op,vs cl] σ (fun r σ'=>r=.none∧σ'=σ) R:=by
 refine eU X F (by decide) ?_
 unfold dO
 walk_at "m"
 refine aH (decide_eq_false hop) ?_
 walk_at "m"
 refine aH (decide_eq_false hcl) ?_
 walk_at "m"
 have e:decide (kind y="$")=false:=pH y (by kernel_rfl)
 refine aH e ?_
 walk_at "m"
 exact⟨rfl,rfl⟩
theorem vp (X:Bs K Z9) (F:bc K) {op cl:Str} (h:σ a=some (cS v t x)) :
  CallSem w Z9 os 4 (.ref 573) [.ref a,vs op,vs op,vs cl] σ (fun r σ'=>r=.none∧σ'=σ.put a (cS v t { x with d:=x.d+1,done:=decide (x.d+1=0) })) R:=by
 refine eU X F (by decide) ?_
 unfold dO
 walk_at "m"
 refine aP (decide_eq_true rfl) ?_
 walk_at "m"
 refine ak (Rr X F h) (by decide) ?_
 walk_at "m"
 exact⟨rfl,rfl⟩
theorem uC (X:Bs K Z9) (F:bc K) {op cl:Str} (h:σ a=some (cS v t x)) (hne:cl≠op) (hl:¬ x.d - 1 < x.l) :
  CallSem w Z9 os 4 (.ref 573) [.ref a,vs cl,vs op,vs cl] σ (fun r σ'=>r=.none∧σ'=σ.put a (cS v t { x with d:=x.d - 1,done:=decide (x.d - 1=0) })) R:=by
 refine eU X F (by decide) ?_
 unfold dO
 walk_at "m"
 refine aH (decide_eq_false hne) ?_
 walk_at "m"
 refine aP (decide_eq_true rfl) ?_
 walk_at "m"
 refine ak (Ci X F h hl) (by decide) ?_
 walk_at "m"
 exact⟨rfl,rfl⟩
theorem tU (X:Bs K Z9) (F:bc K) {op cl:Str} (h:σ a=some (cS v t x)) (hne:cl≠op) (hl:x.d - 1 < x.l) (hR:∀ σ',Mod1 a σ σ'→R (vs "scan-error") σ') :
  CallSem w Z9 os 4 (.ref 573) [.ref a,vs cl,vs op,vs cl] σ (fun _ _=>False) R:=by
 refine eU X F (by decide) ?_
 unfold dO
 walk_at "m"
 refine aH (decide_eq_false hne) ?_
 walk_at "m"
 refine aP (decide_eq_true rfl) ?_
 walk_at "m"
 exact aF (tR X F h hl hR) (by decide) fun _ _ q=>q.elim
theorem zg (X:Bs K Z9) (F:bc K) (V:ViewAt σ v c cs) (T:TableAt σ t) {p r:Int} {n:Nat} (hp:ao cs p=some .dq) (hr:StrRun cs n (p+1) r) :
  CallSem w Z9 os 6 (.ref 552) [.ref v,.ref t,vi p] σ (fun q σ'=>q=vi r∧σ'=σ) R:=by
 refine tX X F (by decide) (cps fun Q hQ=>?_)
 unfold kj
 have h1:=V.vw
 walk_at "m"
 refine cR (aX X F V T p) (by decide) ?_
 rintro r1 hs
 rw[hp] at hs
 revert hs;refine aV fun sy z0 hs=>?_;subst z0
 have ⟨m0,hs0⟩:=hs
 walk_at "m"
 refine ak (jw X F V p) (by decide) ?_
 rw[hp]
 walk_at "m"
 refine gh (fun m ρ σ'=>σ'=σ∧∃ q u,ρ=[some (.ref v),some (.ref t),some (vi p),some (.ref sy),some (vi 34),some (vi q),u]∧StrRun cs m q r) n ⟨rfl,p+1,_,rfl,hr⟩ fun m ρ σ' hI=>?_
 revert hI;refine qz fun z1 q u z2 hr1=>?_;subst z1;subst z2
 refine aV (fun y hy hr1=>?_) hr1.inv
 walk_at "m"
 refine ak (lB X F V) (by decide) ?_
 walk_at "m"
 refine aP (decide_eq_true (cP hy).2.1) ?_
 walk_at "m"
 refine cR (aX X F V T q) (by decide) ?_
 rintro r1 hr2
 rw[hy] at hr2
 revert hr2;refine aV fun sz z3 hz=>?_;subst z3
 have ⟨m1,hz1⟩:=hz
 walk_at "m"
 rw[show decide (kind y=kind .dq)=decide (y=.dq) from pH y (by kernel_rfl)]
 cases hdq:decide (y=.dq) with
 |true =>
  refine bF ?_
  walk_at "m"
  refine aH (show decide (kind .dq=("|":Str))=false from by decide) ?_
  walk_at "m"
  refine ak (jw X F V q) (by decide) ?_
  rw[hy,of_decide_eq_true hdq]
  walk_at "m"
  refine bF ?_
  walk_at "m"
  exact hQ _ _ ⟨by rw[jR hr1 hdq],rfl⟩
 |false =>
  refine aV (fun m' hm e3=>?_) (jH hr1 hdq)
  refine bD ?_
  walk_at "m"
  refine ak (dM X F hz) (by decide) ?_
  walk_at "m"
  cases he:aM y<;>rw[he] at e3
  ·refine bD ?_
   walk_at "m"
   exact w_next hm ⟨rfl,q+1,_,rfl,e3⟩
  ·refine bF ?_
   walk_at "m"
   exact w_next hm ⟨rfl,q+2,_,rfl,e3⟩
theorem Ij (h:σ a=some (cS v t x)):∀ b,b=a→∃ cl,σ b=some cl∧vN cl:=by
 rintro b rfl
 exact⟨_,h,by decide,by decide⟩
theorem Fb (X:Bs K Z9) (F:bc K) (V:ViewAt σ v c cs) (T:TableAt σ t) (h:σ a=some (cS v t x)) {r:Int} {n:Nat} (hr:WordRun cs n x.p r) (h0:1≤x.p) :
  CallSem w Z9 os 7 (.ref 559) [.ref a] σ (fun q σ'=>q=.none∧σ' a=some (cS v t { x with p:=r })∧Mod1 a σ σ') R:=by
 refine wO X F (by decide) (cps fun Q hQ=>?_)
 replace hQ:∀ {p s},r=p→s a=some (cS v t { x with p:=p })→Mod1 a σ s→Q .none s:=fun e1 e2 e3=>by subst e1;exact hQ _ _ ⟨rfl,e2,e3⟩
 unfold ph
 have h1:=V.vw
 walk_at "m"
 refine gh (fun m ρ σ'=>∃ q u,ρ=[some (.ref a),some (.ref v),some (.ref t),u]∧σ' a=some (cS v t { x with p:=q })∧Mod1 a σ σ'∧WordRun cs m q r∧1≤q) n ⟨x.p,_,rfl,h,Mod1.refl,hr,h0⟩ fun m ρ σ' hI=>?_
 revert hI;refine bR fun q u z4 ha hm z5=>oA (fun hr1 hq=>?_) z5;subst z4
 replace hr1:=hr1.inv
 have V':ViewAt σ' v c cs:=V.mod hm (bC h1 h (by intro q;cases q)) (bC V.co h (by intro q;cases q))
 have T':TableAt σ' t:=T.mod hm (Ij h)
 have h2:=V'.vw
 walk_at "m"
 refine ak (lB X F V') (by decide) ?_
 walk_at "m"
 refine jj hr1 (fun hr1=>?_) fun hr1=>?_
 rotate_left
 ·walk_at "m"
  exact hQ hr1 ha hm
 revert hr1;refine aV fun y hy hr1=>?_
 walk_at "m"
 refine aF (gA X F V' T' q) (by decide) ?_
 intro r1 s4 zz;obtain⟨hr2,x4⟩:=zz
 have ha4:=x4 _ _ ha
 have h4:=x4 _ _ h2
 replace hm:=hm.trans (Mod1.ext x4)
 rw[hy] at hr2
 rcases hr1 with ⟨k,hb,hr1⟩|⟨hb,hr1⟩<;>rw[hb] at hr2
 ·revert hr2;refine aV fun mk z6 hmk=>?_;subst z6
  walk_at "m"
  refine bD ?_
  walk_at "m"
  exact hQ hr1 ha4 hm
 obtain rfl:r1=.none:=hr2
 walk_at "m"
 refine bF ?_
 walk_at "m"
 refine cR (aX X F (V'.ext x4) (T'.ext x4) q) (by decide) ?_
 rintro r1 hr5
 rw[hy] at hr5
 revert hr5;refine aV fun sy z7 hs=>?_;subst z7
 refine aJ (bU (aY (Pu.ite (yR rfl hs X F (by decide)) (jj hr1 (fun hr1=>?_) fun hr1=>?_))))
 ·refine JP (fun e2 m' hm' e3=>?_) hr1
  walk_at "m"
  have V5:ViewAt (s4.put a (cS v t { x with p:=q+1 })) v c cs:=(V'.ext x4).mod (P:=fun z=>z=a) Mod1.refl.put (bC h4 ha4 (by intro q;cases q)) (bC (V'.ext x4).co ha4 (by intro q;cases q))
  refine ak (lB X F V5) (by decide) ?_
  walk_at "m"
  refine aH (decide_eq_false (Int.not_le.mpr e2)) ?_
  walk_at "m"
  exact w_next hm' ⟨q+2,_,rfl,by rw[show q+2=q+1+1 from (Int.add_assoc q 1 1).symm];exact aa,hm.put.put,e3,Int.le_trans hq (Int.le_add_of_nonneg_right (by decide))⟩
 refine aY (Pu.ite (.and (.not (zQ rfl hs X F (by decide))) (Iv rfl hs _ _)) ?_)
 rw[show (!cH y&&!decide (kind y="'"))=!(cH y||eZ y) from pH y (by kernel_rfl)]
 cases hw:(cH y||eZ y) with
 |true =>
  refine aV (fun m' hm' hr1=>?_) (jR hr1 hw)
  refine bD ?_
  walk_at "m"
  exact w_next hm' ⟨q+1,_,rfl,aa,hm.put,hr1,Int.le_trans hq (Int.le_add_of_nonneg_right (by decide))⟩
 |false =>
  refine bF ?_
  walk_at "m"
  exact hQ (jH hr1 hw) ha4 hm
end
inductive Res where
 |val (p:Int)
 |out
 |err
section
variable {K:Frag} {w:World} {Z9:Heap} {os:OsState} {R:Value→Hp→Prop} {σ:Hp} {v c t a o:Addr} {cs:List Ch} {x:SC}
theorem PQ (y:Ch):fW y=false→kind y≠"(":=pH y (by kernel_rfl)
theorem QF (y:Ch):dX y=false→kind y≠")":=pH y (by kernel_rfl)
noncomputable def TK (op cl:Str) (l p d:Int) (y:Ch) (q:Option (Int × Int × Bool)):Prop :=
 (kind y=op∧q=some (p,d+1,decide (d+1=0)))∨(kind y=cl∧((¬ d - 1 < l∧q=some (p,d - 1,decide (d - 1=0)))∨(d - 1 < l∧q=none)))∨(kind y≠op∧kind y≠cl∧q=some (p,d,false))
noncomputable def FS (cs:List Ch) (ex:Bool) (l p d:Int) (y:Ch) (q:Option (Int × Int × Bool)):Prop :=
 dR (decide (y=.am)) (q=some (p+1,d,false))
  (dR (aM y||cH y) (dR (ex&&decide (d=0)) (∃ n r,WordRun cs n p r∧q=some (r,d,true)) (q=some (p+(if aM y=true then 2 else 1),d,false)))
  (dR (decide (y=.dq)) (∃ n r,ao cs p=some .dq∧StrRun cs n (p+1) r∧q=some (r,d,ex&&decide (d=0))) (TK "(" ")" l (p+1) d y q)))
theorem S5 (y:Ch):fW y=true→kind y="(":=pH y (by kernel_rfl)
theorem V3 (y:Ch):dX y=true→kind y=")":=pH y (by kernel_rfl)
theorem Nv (y:Ch):(aM y||cH y)=true∨fW y=true∨dX y=true→y≠.hs∧y≠.sc:=pH y (by kernel_rfl)
theorem RD {y:Ch} {o:Option Ch} (h:y≠.hs∧y≠.sc):aQ (some y) o=none:=by
 cases y with
 |hs=>exact(h.1 rfl).elim
 |sc=>exact(h.2 rfl).elim
 |_=>rfl
theorem Yx (y:Ch):(fW y=true∨dX y=true)→y≠.am∧(aM y||cH y)=false∧y≠.dq:=pH y (by kernel_rfl)
noncomputable def FStep (cs:List Ch) (ex:Bool) (l p d:Int) (q:Option (Int × Int × Bool)):Prop:=∃ y,ao cs p=some y ∧
  ((∃ r k s' n,aQ (some y) (ao cs (p+1))=some k∧bu cs ⟨p,[],.plain⟩=some s'∧(s'.p=p+2→p+1 < 1+cs.length)∧ComRun cs n s' r∧q=some (r,d,false))∨(aQ (some y) (ao cs (p+1))=none∧FS cs ex l p d y q))
section
variable {ex:Bool} {l p d r:Int} {x:Ch} {n:Nat}
theorem orW {y:Ch} (h:aM y=true∨cH y=true):(aM y||cH y)=true:=(Bool.or_eq_true _ _).mpr h
theorem FStep.com {k:Mk} {s':WS} (e1:ao cs p=some x) (e2:aQ (some x) (ao cs (p+1))=some k) (e3:bu cs ⟨p,[],.plain⟩=some s') (e4:s'.p=p+2→p+1 < 1+cs.length) (e5:ComRun cs n s' r):FStep cs ex l p d (some (r,d,false)) :=
 ⟨_,e1,.inl ⟨_,_,_,_,e2,e3,e4,e5,rfl⟩⟩
theorem FStep.am (e1:ao cs p=some .am):FStep cs ex l p d (some (p+1,d,false)):=⟨_,e1,.inr ⟨rfl,rfl⟩⟩
theorem FStep.word (e1:ao cs p=some x) (e2:x≠.am) (e3:aM x=true∨cH x=true) (e4:ex=true) (e5:d=0) (e6:WordRun cs n p r):FStep cs ex l p d (some (r,d,true)) :=
 ⟨_,e1,.inr ⟨RD (Nv _ (.inl (orW e3))),aH (decide_eq_false e2) (aP (orW e3) (aP (by rw[e4,decide_eq_true e5];rfl) ⟨_,_,e6,rfl⟩))⟩⟩
theorem FStep.part (e1:ao cs p=some x) (e2:x≠.am) (e3:aM x=true∨cH x=true) (e4:(ex&&decide (d=0))=false):FStep cs ex l p d (some (p+(if aM x=true then 2 else 1),d,false)) :=
 ⟨_,e1,.inr ⟨RD (Nv _ (.inl (orW e3))),aH (decide_eq_false e2) (aP (orW e3) (aH e4 rfl))⟩⟩
theorem FStep.str (e1:ao cs p=some .dq) (e2:StrRun cs n (p+1) r):FStep cs ex l p d (some (r,d,ex&&decide (d=0))):=⟨_,e1,.inr ⟨rfl,_,_,e1,e2,rfl⟩⟩
theorem OJ {q} (e2:fW x=true∨dX x=true) (h:TK "(" ")" l (p+1) d x q):aQ (some x) (ao cs (p+1))=none∧FS cs ex l p d x q :=
 have ⟨a,b,c⟩:=Yx x e2
 ⟨RD (Nv _ (.inr e2)),aH (decide_eq_false a) (aH b (aH (decide_eq_false c) h))⟩
theorem FStep.op (e1:ao cs p=some x) (e2:fW x=true):FStep cs ex l p d (some (p+1,d+1,decide (d+1=0))):=⟨_,e1,.inr (OJ (.inl e2) (.inl ⟨S5 x e2,rfl⟩))⟩
theorem FStep.cl (e1:ao cs p=some x) (e2:dX x=true) (e3:¬ d - 1 < l):FStep cs ex l p d (some (p+1,d - 1,decide (d - 1=0))):=⟨_,e1,.inr (OJ (.inr e2) (.inr (.inl ⟨V3 x e2,.inl ⟨e3,rfl⟩⟩)))⟩
theorem FStep.bad (e1:ao cs p=some x) (e2:dX x=true) (e3:d - 1 < l):FStep cs ex l p d none:=⟨_,e1,.inr (OJ (.inr e2) (.inr (.inl ⟨V3 x e2,.inr ⟨e3,rfl⟩⟩)))⟩
theorem FStep.oth (e1:ao cs p=some x) (e2:aQ (some x) (ao cs (p+1))=none) (e3:aM x=false) (e4:cH x=false) (e5:fW x=false) (e6:dX x=false) (e7:x≠.dq):FStep cs ex l p d (some (p+1,d,false)) :=
 ⟨_,e1,.inr ⟨e2,aH (decide_eq_false (by rintro rfl;cases e4)) (aH (by rw[e3,e4];rfl) (aH (decide_eq_false e7) (.inr (.inr ⟨PQ x e5,QF x e6,rfl⟩))))⟩⟩
end
section
variable {n:Nat} {y:Ch}
theorem MF (X:Bs K Z9) (F:bc K) {op cl:Str} {p d l go:Int} {ex:Bool} {q:Option (Int × Int × Bool)} {k:List Value→Hp→Prop} (hn:4≤n) (hne:cl≠op) (h:σ a=some (cS v t ⟨p,d,l,go,ex,false⟩)) (ht:TK op cl l p d y q)
  (hR:q=none→∀ σ',Mod1 a σ σ'→R (vs "scan-error") σ') (hk:∀ s p2 d2 b,q=some (p2,d2,b)→s a=some (cS v t ⟨p2,d2,l,go,ex,b⟩)→Mod1 a σ s→k [.none] s) :
  iD w Z9 os n R (.ref 573) [.ref a,vs (kind y),vs op,vs cl] σ k:=by
 rcases ht with ⟨kk,hq⟩|⟨kk,⟨e3,hq⟩|⟨e3,hq⟩⟩|⟨k1,k2,hq⟩
 ·rw[kk];exact ak (vp X F h) hn (hk _ _ _ _ hq aa Mod1.refl.put)
 ·rw[kk];exact ak (uC X F h hne e3) hn (hk _ _ _ _ hq aa Mod1.refl.put)
 ·rw[kk];exact aF (tU X F h hne e3 (hR hq)) hn fun _ _ q=>q.elim
 ·exact ak (BL X F h k1 k2) hn (hk _ _ _ _ hq h Mod1.refl)
end
theorem vW (X:Bs K Z9) (F:bc K) (V:ViewAt σ v c cs) (T:TableAt σ t) (h29:RW Z9) (h:σ a=some (cS v t x)) (hd:x.done=false) (h0:1≤x.p) {q:Option (Int × Int × Bool)} (hs:FStep cs x.ex x.l x.p x.d q) (hR:q=none→∀ σ',Mod1 a σ σ'→R (vs "scan-error") σ') :
  CallSem w Z9 os 10 (.ref 566) [.ref a] σ (fun r σ'=>r=.none∧∃ p d b,q=some (p,d,b)∧σ' a=some (cS v t { x with p:=p,d:=d,done:=b })∧Mod1 a σ σ') R:=by
 revert hs;refine aV fun y hy hs=>?_
 obtain⟨p,d,l,g,ex,done⟩:=x
 cases hd
 refine qw X F (by decide) (cps fun Q hQ=>?_)
 replace hQ:∀ {s p' d' b},q=some (p',d',b)→s a=some (cS v t ⟨p',d',l,g,ex,b⟩)→Mod1 a σ s→Q .none s:=fun e1 e2 e3=>hQ _ _ ⟨rfl,_,_,_,e1,e2,e3⟩
 unfold gV
 have h1:=V.vw
 walk_at "m"
 refine aF (gA X F V T p) (by decide) ?_
 intro r1 s1 zz;obtain⟨hr1,x1⟩:=zz
 rw[hy] at hr1
 have ha:=x1 _ _ h
 rcases hs with ⟨r,k,s',n,e2,e3,e4,e5,hq⟩|⟨hb,hs⟩
 ·rw[e2] at hr1
  revert hr1;refine aV fun mk z0 hmk=>?_;subst z0
  walk_at "m"
  refine bF ?_
  walk_at "m"
  refine au (ww X F (V.ext x1) (T.ext x1) h29 e3 e4 e5) (by decide) ?_
  rintro s2 x2
  have ha2:=x2 _ _ ha
  walk_at "m"
  refine bD ?_
  walk_at "m"
  refine bD ?_
  walk_at "m"
  exact hQ hq aa ((Mod1.ext x1).trans (Mod1.ext x2)).put.put
 rw[hb] at hr1
 obtain rfl:r1=.none:=hr1
 walk_at "m"
 refine bD ?_
 walk_at "m"
 refine cR (aX X F (V.ext x1) (T.ext x1) p) (by decide) ?_
 rintro r2 hr2
 rw[hy] at hr2
 revert hr2;refine aV fun sy z1 hsy=>?_;subst z1
 have ⟨m0,hsy0⟩:=hsy
 refine aJ (bU (aY (Pu.ite (QB rfl hsy X F (by decide)) (jj hs (fun hs=>?_) fun hs=>?_))))
 ·walk_at "m"
  exact hQ hs aa (Mod1.ext x1).put
 refine aY (Pu.ite (.or (yR rfl hsy X F (by decide)) (zQ rfl hsy X F (by decide))) (jj hs (fun hs=>?_) fun hs=>?_))
 ·walk_at "m"
  refine ak (pO X F ha) (by decide) ?_
  refine jj hs (fun hq=>?_) fun hq=>?_
  ·revert hq;refine fM fun n r e6 hq=>?_
   walk_at "m"
   refine au (Fb X F (V.ext x1) (T.ext x1) ha e6 h0) (by decide) ?_
   intro s3 zz;obtain⟨ha3,m3⟩:=zz
   walk_at "m"
   exact hQ hq aa ((Mod1.ext x1).trans m3).put
  ·walk_at "m"
   refine ak (dM X F hsy) (by decide) ?_
   cases he:aM y<;>rw[he] at hq
   ·walk_at "m"
    exact hQ hq aa (Mod1.ext x1).put
   ·walk_at "m"
    exact hQ hq aa (Mod1.ext x1).put
 refine aY (Pu.ite (Xy rfl hsy) (jj hs (fun hs=>?_) fun hs=>?_))
 ·refine aC (fun n r e1 e2 hq=>?_) hs
  walk_at "m"
  refine ak (zg X F (V.ext x1) (T.ext x1) e1 e2) (by decide) ?_
  walk_at "m"
  refine bD ?_
  walk_at "m"
  refine ak (pO X F (x:=⟨_,d,l,g,ex,false⟩) aa) (by decide) ?_
  walk_at "m"
  exact hQ hq aa (Mod1.ext x1).put.put
 walk_at "m"
 refine MF (p:=p+1) X F (by decide) (by decide) aa hs (fun z σ' m=>hR z σ' ((Mod1.ext x1).put.trans m)) fun s p2 d2 b hq hs m=>?_
 walk_at "m"
 exact hQ hq hs ((Mod1.ext x1).put.trans m)
noncomputable def FR (cs:List Ch) (ex:Bool) (l p d:Int) (r:Res) (N:Int→Int→Prop):Prop :=
 (¬ p < 1+cs.length∧d=0∧r=.out)∨∃ q,FStep cs ex l p d q∧(q=none→r=.err)∧∀ p' d' b,q=some (p',d',b)→dR b (r=.val p') (1≤p'∧N p' d')
noncomputable def FRun (cs:List Ch) (ex:Bool) (l:Int):Nat→Int→Int→Res→Prop
 |0,p,d,r=>FR cs ex l p d r fun _ _=>False
 |n+1,p,d,r=>FR cs ex l p d r fun p' d'=>FRun cs ex l n p' d' r
theorem FRun.out {ex:Bool} {l p:Int} (h:¬ p < 1+cs.length):FRun cs ex l 0 p 0 .out:=.inl ⟨h,rfl,rfl⟩
theorem FRun.done {ex:Bool} {l p d p' d':Int} (h:FStep cs ex l p d (some (p',d',true))):FRun cs ex l 0 p d (.val p'):=.inr ⟨_,h,(fun z=>by cases z),fun _ _ _ z=>by cases z;rfl⟩
theorem FRun.err {ex:Bool} {l p d:Int} (h:FStep cs ex l p d none):FRun cs ex l 0 p d .err:=.inr ⟨_,h,(fun _=>rfl),fun _ _ _ z=>by cases z⟩
theorem FRun.go {ex:Bool} {l p d p' d':Int} {n:Nat} {r:Res} (h:FStep cs ex l p d (some (p',d',false))) (h1:1≤p') (h2:FRun cs ex l n p' d' r):FRun cs ex l (n+1) p d r:=.inr ⟨_,h,(fun z=>by cases z),fun _ _ _ z=>by cases z;exact⟨h1,h2⟩⟩
theorem FStep.at {ex:Bool} {l p d:Int} {q} (h:FStep cs ex l p d q):p < 1+cs.length:=by refine aV (fun _ e _=>?_) h;exact(cP e).2.1
theorem Ext.mod1 {a:Addr} {Z2 Z4:Hp} (e:Ext σ Z2) (m:Mod1 a Z2 Z4) (ha:σ a=none):Ext σ Z4:=fun b c q=>m b c (fun z=>by rw[z,ha] at q;cases q) (e b c q)
noncomputable def lC:Res→Value
 |.val p=>vi p
 |_=>.none
theorem M3 {n i:Nat} {ρ:Loc} {k:Fl→Loc→Hp→Prop} (hl:lk ρ i=some (.ref a)) (h:σ a=some (cS v t x)) (hk:∀ g s,s a=some (cS v t { x with g:=g })→Mod1 a σ s→k .next ρ s) :
  ex w Z9 os n R (.ite (.cmp .Eq (.fld (.loc i) 24) (.fld (.loc i) 2)) (.seq (.fasg (.loc i) 25 (.fld (.loc i) 23)) .nil) .nil) ρ σ k:=by
 refine XS (uX (vG (fj hl (aJ (g_fld h rfl rfl (aJ (vG (fj hl (aJ (g_fld h rfl rfl (aJ (Hd (j9 (cO (fun _=>?_) fun _=>?_))))))))))))))
 ·exact aY (zbw (vG (fj hl (aJ (g_fld h rfl rfl (aJ (fj hl (aJ (g_fasg h rfl rfl rfl (bU (xm (hk x.p _ aa Mod1.refl.put))))))))))))
 ·exact xm (hk x.g _ h Mod1.refl)
theorem FR.mono {ex:Bool} {l p d:Int} {r:Res} {N N':Int→Int→Prop} (h:FR cs ex l p d r N) (f:∀ p d,N p d→N' p d):FR cs ex l p d r N' :=
 h.imp id (Exists.imp fun _=>And.imp id (And.imp id fun c p' d' e z=>jj (c p' d' e z) id (And.imp id (f p' d'))))
theorem FRun.inv {ex:Bool} {l p d:Int} {r:Res}:∀ {n:Nat},FRun cs ex l n p d r→FR cs ex l p d r fun p' d'=>∃ m,m < n∧FRun cs ex l m p' d' r
 |0,h=>FR.mono h fun _ _ h=>h.elim
 |n+1,h=>FR.mono h fun _ _ h=>⟨n,Nat.lt_succ_self _,h⟩
theorem wu (X:Bs K Z9) (F:bc K) (V:ViewAt σ v c cs) (T:TableAt σ t) (h29:RW Z9) {p d:Int} {ex:Bool} {n:Nat} {r:Res} (h0:1≤p) (hr:FRun cs ex (if 0 < d then 0 else d) n p d r) (hR:r=.err→∀ σ',Ext σ σ'→R (vs "scan-error") σ') :
  CallSem w Z9 os 11 (.ref 580) [.ref v,.ref t,vi p,vi d,.bool ex] σ (fun q σ'=>q=lC r∧r≠.err∧Ext σ σ') R:=by
 refine sO X F (by decide) (cps fun Q hQ=>?_)
 replace hQ:∀ {z s},r≠.err→Ext σ s→z=lC r→Q z s:=fun e1 e2 e3=>hQ _ _ ⟨e3,e1,e2⟩
 unfold jb
 have h1:=V.vw
 walk_at "m"
 refine zR X F (by decide) fun a ha=>?_
 have x1:=Ext.put (c:=cS v t ⟨p,d,if 0 < d then 0 else d,p,ex,false⟩) ha
 walk_at "m"
 generalize hl:(if 0 < d then 0 else d)=l at hr x1 ⊢
 refine gh (fun m ρ σ'=>∃ q e g,ρ=[some (.ref v),some (.ref t),some (vi p),some (vi d),some (.bool ex),some (.ref a)]∧Ext σ σ'∧σ' a=some (cS v t ⟨q,e,l,g,ex,false⟩)∧FRun cs ex l m q e r∧1≤q) n ⟨p,d,p,rfl,x1,aa,hr,h0⟩ fun m ρ σ' hI=>?_
 revert hI;refine bY fun q e g z2 x2 ha2 hr2 hq=>?_;subst z2
 have h2:=x2 _ _ h1
 walk_at "m"
 refine ak (lB X F (V.ext x2)) (by decide) ?_
 rcases hr2.inv with ⟨hlt,rfl,hr3⟩|⟨z,hs,hn,hgo⟩
 ·walk_at "m"
  refine aH (decide_eq_false hlt) ?_
  walk_at "m"
  refine dK ?_
  walk_at "m"
  exact hQ (by rw[hr3];intro q;cases q) x2 (by rw[hr3];rfl)
 walk_at "m"
 refine aP (decide_eq_true hs.at) (aY (M3 rfl ha2 fun g s ha3 m3=>?_))
 have x3:=x2.mod1 m3 ha
 walk_at "m"
 refine au (vW X F (V.ext x3) (T.ext x3) h29 ha3 rfl hq hs fun z σ4 m4=>hR (hn z) σ4 (x3.mod1 m4 ha)) (by decide) ?_
 refine fun s4=>fD fun p4 d4 b4 z ha4 m4=>?_
 have hgo:=hgo _ _ _ z
 have x4:=x3.mod1 m4 ha
 walk_at "m"
 cases b4
 ·refine JP (fun e2 m' hm e3=>?_) hgo
  refine bD ?_
  walk_at "m"
  exact w_next hm ⟨_,_,_,rfl,x4,ha4,e3,e2⟩
 ·refine bF ?_
  walk_at "m"
  exact hQ (by rw[show r=_ from hgo];intro q;cases q) x4 (by rw[show r=_ from hgo];rfl)
end
noncomputable def WB (cs:List Ch) (C:Int→Option Value) (p r:Int) (N:Int→Prop):Prop :=
 dR (decide (1 < p)) (dR (C p).isSome (r=p) (dR (isQ cs (p - 1)) (N (p - 2)) (∃ y,ao cs (p - 1)=some y∧dR (cH y||(aM y||eZ y)) (N (p - 1)) (r=p)))) (r=p)
noncomputable def WBack (cs:List Ch) (C:Int→Option Value):Nat→Int→Int→Prop
 |0,p,r=>WB cs C p r fun _=>False
 |n+1,p,r=>WB cs C p r fun p'=>WBack cs C n p' r
theorem WB.mono {cs:List Ch} {C:Int→Option Value} {p r:Int} {N N':Int→Prop} (f:∀ p,N p→N' p) (h:WB cs C p r N):WB cs C p r N' :=
 lg h (fun h=>lg h id fun h=>lg h (f _) fun⟨y,e,h⟩=>⟨y,e,lg h (f _) id⟩) id
theorem WBack.inv {cs:List Ch} {C:Int→Option Value} {p r:Int}:∀ {n:Nat},WBack cs C n p r→WB cs C p r fun p'=>∃ m,m < n∧WBack cs C m p' r
 |0,h=>WB.mono (fun _ h=>h.elim) h
 |n+1,h=>WB.mono (fun _ h=>⟨n,Nat.lt_succ_self _,h⟩) h
section
variable {cs:List Ch} {C:Int→Option Value} {n:Nat} {p r:Int} {x:Ch}
theorem WBack.start (h:¬ 1 < p):WBack cs C 0 p p:=aH (decide_eq_false h) rfl
theorem WBack.com (h:1 < p) (e:(C p).isSome=true):WBack cs C 0 p p:=aP (decide_eq_true h) (aP e rfl)
theorem WBack.out (h:1 < p) (e:C p=none) (u:isQ cs (p - 1)=false) (hy:ao cs (p - 1)=some x) (h1:cH x=false) (h2:aM x=false) (h3:eZ x=false):WBack cs C 0 p p :=
 aP (decide_eq_true h) (aH (jQ e) (aH u ⟨_,hy,aH (by rw[h1,h2,h3];rfl) rfl⟩))
theorem WBack.quo (h:1 < p) (e:C p=none) (u:isQ cs (p - 1)=true) (k:WBack cs C n (p - 2) r):WBack cs C (n+1) p r:=aP (decide_eq_true h) (aH (jQ e) (aP u k))
theorem WBack.on (h:1 < p) (e:C p=none) (u:isQ cs (p - 1)=false) (hy:ao cs (p - 1)=some x) (h1:cH x=true∨aM x=true∨eZ x=true) (k:WBack cs C n (p - 1) r):WBack cs C (n+1) p r :=
 aP (decide_eq_true h) (aH (jQ e) (aH u ⟨_,hy,aP (by simpa using h1) k⟩))
end
noncomputable def BS (cs:List Ch) (C D:Int→Option Value) (ex:Bool) (l p d:Int) (y:Ch) (q:Option (Int × Int × Bool)):Prop :=
 dR (isQ cs (p - 1)||(aM y||(cH y&&!decide (y=.am)))) (dR (ex&&decide (d=0)) (∃ n r,WBack cs C n p r∧q=some (r,d,true)) (q=some (p - (if isQ cs (p - 1)=true then 2 else 1),d,false)))
  (dR (decide (y=.am)) (q=some (p - 1,d,false)) (dR (decide (y=.dq)) (∃ s,D p=some (vi s)∧q=some (s,d,ex&&decide (d=0))) (TK ")" "(" l (p - 1) d y q)))
noncomputable def BStep (cs:List Ch) (C D:Int→Option Value) (ex:Bool) (l p d:Int) (q:Option (Int × Int × Bool)):Prop :=
 (∃ s,C p=some (vi s)∧q=some (s,d,false))∨(C p=none∧∃ y,ao cs (p - 1)=some y∧BS cs C D ex l p d y q)
section
variable {cs:List Ch} {C D:Int→Option Value} {n:Nat} {ex:Bool} {l p d r s:Int} {x:Ch}
theorem Yl {Q:Bool} (h:Q=true∨aM x=true∨(cH x=true∧x≠.am)):(Q||(aM x||(cH x&&!decide (x=.am))))=true:=by
 simpa using h
theorem BStep.com (e:C p=some (vi s)):BStep cs C D ex l p d (some (s,d,false)):=.inl ⟨_,e,rfl⟩
theorem BStep.word (e:C p=none) (hy:ao cs (p - 1)=some x) (h:isQ cs (p - 1)=true∨aM x=true∨(cH x=true∧x≠.am)) (e4:ex=true) (e5:d=0) (k:WBack cs C n p r):BStep cs C D ex l p d (some (r,d,true)) :=
 .inr ⟨e,_,hy,aP (Yl h) (aP (by rw[e4,decide_eq_true e5];rfl) ⟨_,_,k,rfl⟩)⟩
theorem BStep.part (e:C p=none) (hy:ao cs (p - 1)=some x) (h:isQ cs (p - 1)=true∨aM x=true∨(cH x=true∧x≠.am)) (e4:(ex&&decide (d=0))=false):BStep cs C D ex l p d (some (p - (if isQ cs (p - 1)=true then 2 else 1),d,false)) :=
 .inr ⟨e,_,hy,aP (Yl h) (aH e4 rfl)⟩
theorem Ht (e:C p=none) (hy:ao cs (p - 1)=some x) (u:isQ cs (p - 1)=false) (h:(aM x||(cH x&&!decide (x=.am)))=false) {q} (k:dR (decide (x=.am)) (q=some (p - 1,d,false)) (dR (decide (x=.dq)) (∃ s,D p=some (vi s)∧q=some (s,d,ex&&decide (d=0))) (TK ")" "(" l (p - 1) d x q))):BStep cs C D ex l p d q :=
 .inr ⟨e,_,hy,aH (by rw[u,h];rfl) k⟩
theorem BStep.am (e:C p=none) (hy:ao cs (p - 1)=some .am) (u:isQ cs (p - 1)=false):BStep cs C D ex l p d (some (p - 1,d,false)):=Ht e hy u rfl rfl
theorem BStep.str (e:C p=none) (hy:ao cs (p - 1)=some .dq) (u:isQ cs (p - 1)=false) (h:D p=some (vi s)):BStep cs C D ex l p d (some (s,d,ex&&decide (d=0))):=Ht e hy u rfl ⟨_,h,rfl⟩
theorem Nt (e:C p=none) (hy:ao cs (p - 1)=some x) (u:isQ cs (p - 1)=false) (e2:fW x=true∨dX x=true) {q} (h:TK ")" "(" l (p - 1) d x q):BStep cs C D ex l p d q :=
 have ⟨a,b,c⟩:=Yx x e2
 Ht e hy u (by rw[Bool.or_eq_false_iff] at b;rw[b.1,b.2];rfl) (aH (decide_eq_false a) (aH (decide_eq_false c) h))
theorem BStep.cl (e:C p=none) (hy:ao cs (p - 1)=some x) (u:isQ cs (p - 1)=false) (h:dX x=true):BStep cs C D ex l p d (some (p - 1,d+1,decide (d+1=0))):=Nt e hy u (.inr h) (.inl ⟨V3 x h,rfl⟩)
theorem BStep.op (e:C p=none) (hy:ao cs (p - 1)=some x) (u:isQ cs (p - 1)=false) (h:fW x=true) (e3:¬ d - 1 < l):BStep cs C D ex l p d (some (p - 1,d - 1,decide (d - 1=0))):=Nt e hy u (.inl h) (.inr (.inl ⟨S5 x h,.inl ⟨e3,rfl⟩⟩))
theorem BStep.bad (e:C p=none) (hy:ao cs (p - 1)=some x) (u:isQ cs (p - 1)=false) (h:fW x=true) (e3:d - 1 < l):BStep cs C D ex l p d none:=Nt e hy u (.inl h) (.inr (.inl ⟨S5 x h,.inr ⟨e3,rfl⟩⟩))
theorem BStep.oth (e:C p=none) (hy:ao cs (p - 1)=some x) (u:isQ cs (p - 1)=false) (e3:aM x=false) (e4:cH x=false) (e5:fW x=false) (e6:dX x=false) (e7:x≠.dq):BStep cs C D ex l p d (some (p - 1,d,false)) :=
 Ht e hy u (by rw[e3,e4];rfl) (aH (decide_eq_false (by rintro rfl;cases e4)) (aH (decide_eq_false e7) (.inr (.inr ⟨QF x e6,PQ x e5,rfl⟩))))
end
section
variable {K:Frag} {w:World} {Z9:Heap} {os:OsState} {R:Value→Hp→Prop} {σ:Hp} {v c t a o dc ds:Addr} {cs:List Ch} {x:SC} {C D:Int→Option Value} {m1 m2:Nat}
theorem yw (X:Bs K Z9) (F:bc K) (V:ViewAt σ v c cs) (T:TableAt σ t) (h:σ a=some (cS v t x)) (hdc:σ dc=some (.dict m1 C)) {r:Int} {n:Nat} (hr:WBack cs C n x.p r) (h0:x.p≤1+cs.length) :
  CallSem w Z9 os 7 (.ref 594) [.ref a,.ref dc] σ (fun q σ'=>q=.none∧σ' a=some (cS v t { x with p:=r })∧Mod1 a σ σ') R:=by
 refine t6 X F (by decide) (cps fun Q hQ=>?_)
 replace hQ:∀ {p s},r=p→s a=some (cS v t { x with p:=p })→Mod1 a σ s→Q .none s:=fun e1 e2 e3=>by subst e1;exact hQ _ _ ⟨rfl,e2,e3⟩
 unfold jP
 have h1:=V.vw
 walk_at "m"
 refine gh (fun m ρ σ'=>∃ q u,ρ=[some (.ref a),some (.ref dc),some (.ref v),some (.ref t),u]∧σ' a=some (cS v t { x with p:=q })∧Mod1 a σ σ'∧WBack cs C m q r∧q≤1+cs.length) n ⟨x.p,_,rfl,h,Mod1.refl,hr,h0⟩ fun m ρ σ' hI=>?_
 revert hI;refine bR fun q u z0 ha hm z1=>oA (fun hr1 hq=>?_) z1;subst z0
 replace hr1:=hr1.inv
 have V':ViewAt σ' v c cs:=V.mod hm (bC h1 h (by intro q;cases q)) (bC V.co h (by intro q;cases q))
 have T':TableAt σ' t:=T.mod hm (Ij h)
 have h2:=V'.vw
 have hd2:=hm _ _ (bC hdc h (by intro q;cases q)) hdc
 walk_at "m"
 refine ak (iC X F V') (by decide) ?_
 walk_at "m"
 by_cases hlt:1 < q
 ·refine aP (decide_eq_true hlt) ?_
  replace hr1:=jR hr1 (decide_eq_true hlt)
  walk_at "m"
  cases hC:(C q).isSome with
  |true =>
   refine bD ?_
   walk_at "m"
   exact hQ (jR hr1 hC) ha hm
  |false =>
   refine bF ?_
   walk_at "m"
   refine ak (fO X F V' T' (p:=q - 1) (by lia) (by lia)) (by decide) ?_
   refine jj (jH hr1 hC) (fun⟨m',hm',hr1⟩=>?_) fun⟨y,e4,hr1⟩=>?_
   ·walk_at "m"
    exact w_next hm' ⟨q - 2,_,rfl,aa,hm.put,hr1,by lia⟩
   ·walk_at "m"
    refine cR (aX X F V' T' (q - 1)) (by decide) ?_
    rintro r1 hr5
    rw[e4] at hr5
    revert hr5;refine aV fun sy z2 hs=>?_;subst z2
    refine aJ (bU (aY (Pu.ite (.and (.not (zQ rfl hs X F (by decide))) (.and (.not (yR rfl hs X F (by decide))) (Iv rfl hs _ _))) ?_)))
    rw[show (!cH y&&(!aM y&&!decide (kind y="'")))=!(cH y||(aM y||eZ y)) from pH y (by kernel_rfl)]
    cases hw:(cH y||(aM y||eZ y)) with
    |true =>
     refine aV (fun m' hm' hr1=>?_) (jR hr1 hw)
     refine bD ?_
     walk_at "m"
     exact w_next hm' ⟨q - 1,_,rfl,aa,hm.put,hr1,by lia⟩
    |false =>
     refine bF ?_
     walk_at "m"
     exact hQ (jH hr1 hw) ha hm
 ·refine aH (decide_eq_false hlt) ?_
  walk_at "m"
  exact hQ (jH hr1 (decide_eq_false hlt)) ha hm
end
noncomputable def BR (cs:List Ch) (C D:Int→Option Value) (ex:Bool) (l p d:Int) (r:Res) (N:Int→Int→Prop):Prop :=
 (¬ 1 < p∧d=0∧r=.out)∨(1 < p∧∃ q,BStep cs C D ex l p d q∧(q=none→r=.err)∧∀ p' d' b,q=some (p',d',b)→dR b (r=.val p') (p'≤1+cs.length∧N p' d'))
noncomputable def BRun (cs:List Ch) (C D:Int→Option Value) (ex:Bool) (l:Int):Nat→Int→Int→Res→Prop
 |0,p,d,r=>BR cs C D ex l p d r fun _ _=>False
 |n+1,p,d,r=>BR cs C D ex l p d r fun p' d'=>BRun cs C D ex l n p' d' r
section
variable {cs:List Ch} {C D:Int→Option Value} {ex:Bool} {l p d p' d':Int} {n:Nat} {r:Res}
theorem BRun.out (h:¬ 1 < p):BRun cs C D ex l 0 p 0 .out:=.inl ⟨h,rfl,rfl⟩
theorem BRun.done (h0:1 < p) (h:BStep cs C D ex l p d (some (p',d',true))):BRun cs C D ex l 0 p d (.val p'):=.inr ⟨h0,_,h,(fun z=>by cases z),fun _ _ _ z=>by cases z;rfl⟩
theorem BRun.err (h0:1 < p) (h:BStep cs C D ex l p d none):BRun cs C D ex l 0 p d .err:=.inr ⟨h0,_,h,(fun _=>rfl),fun _ _ _ z=>by cases z⟩
theorem BRun.go (h0:1 < p) (h:BStep cs C D ex l p d (some (p',d',false))) (h1:p'≤1+cs.length) (h2:BRun cs C D ex l n p' d' r):BRun cs C D ex l (n+1) p d r:=.inr ⟨h0,_,h,(fun z=>by cases z),fun _ _ _ z=>by cases z;exact⟨h1,h2⟩⟩
theorem BR.mono {N N':Int→Int→Prop} (h:BR cs C D ex l p d r N) (f:∀ p d,N p d→N' p d):BR cs C D ex l p d r N' :=
 h.imp id fun h=>by
  refine xG (fun z q a b c=>?_) h
  exact⟨z,q,a,b,fun p' d' e y=>jj (c p' d' e y) id (And.imp id (f p' d'))⟩
theorem BRun.inv:∀ {n:Nat},BRun cs C D ex l n p d r→BR cs C D ex l p d r fun p' d'=>∃ m,m < n∧BRun cs C D ex l m p' d' r
 |0,h=>BR.mono h fun _ _ h=>h.elim
 |n+1,h=>BR.mono h fun _ _ h=>⟨n,Nat.lt_succ_self _,h⟩
end
section
variable {K:Frag} {w:World} {Z9:Heap} {os:OsState} {R:Value→Hp→Prop} {σ:Hp} {v c t a o dc ds:Addr} {cs:List Ch} {x:SC} {C D:Int→Option Value} {m1 m2:Nat}
theorem tM (X:Bs K Z9) (F:bc K) (V:ViewAt σ v c cs) (T:TableAt σ t) (h:σ a=some (cS v t x)) (hdc:σ dc=some (.dict m1 C)) (hds:σ ds=some (.dict m2 D)) (hd:x.done=false) (h0:1 < x.p) (h3:x.p≤1+cs.length) {q:Option (Int × Int × Bool)} (hs:BStep cs C D x.ex x.l x.p x.d q) (hR:q=none→∀ σ',Mod1 a σ σ'→R (vs "scan-error") σ') :
  CallSem w Z9 os 8 (.ref 601) [.ref a,.ref dc,.ref ds] σ (fun r σ'=>r=.none∧∃ p d b,q=some (p,d,b)∧σ' a=some (cS v t { x with p:=p,d:=d,done:=b })∧Mod1 a σ σ') R:=by
 obtain⟨p,d,l,g,ex,done⟩:=x
 cases hd
 refine o6 X F (by decide) (cps fun Q hQ=>?_)
 replace hQ:∀ {s p' d' b},q=some (p',d',b)→s a=some (cS v t ⟨p',d',l,g,ex,b⟩)→Mod1 a σ s→Q .none s:=fun e1 e2 e3=>hQ _ _ ⟨rfl,_,_,_,e1,e2,e3⟩
 unfold fV
 have h1:=V.vw
 walk_at "m"
 rcases hs with ⟨s,hC,hq⟩|⟨hC,y,hy,hs⟩
 ·refine aP (by rw[hC];rfl) ?_
  walk_at "m"
  refine i_dict hdc hC ?_
  walk_at "m"
  exact hQ hq aa Mod1.refl.put
 refine aH (jQ hC) ?_
 walk_at "m"
 refine cR (aX X F V T (p - 1)) (by decide) ?_
 rintro r2 hr2
 rw[hy] at hr2
 revert hr2;refine aV fun sy z0 hsy=>?_;subst z0
 have ⟨m0,hsy0⟩:=hsy
 walk_at "m"
 refine ak (fO X F V T (p:=p - 1) (by dsimp only at h0;lia) (by dsimp only at h3;lia)) (by decide) ?_
 refine aJ (bU (aY (Pu.ite (.or (zcj rfl) (.or (yR rfl hsy X F (by decide)) (.and (zQ rfl hsy X F (by decide)) (.not (QB rfl hsy X F (by decide)))))) (jj hs (fun hs=>?_) fun hs=>?_))))
 ·walk_at "m"
  refine ak (pO X F h) (by decide) ?_
  refine jj hs (fun hs=>?_) fun hs=>?_
  ·refine fM (fun n r e6 hq=>?_) hs
   walk_at "m"
   refine au (yw X F V T h hdc e6 h3) (by decide) ?_
   intro s4 zz;obtain⟨ha4,m4⟩:=zz
   walk_at "m"
   exact hQ hq aa m4.put
  ·walk_at "m"
   cases hE:isQ cs (p - 1)<;>rw[hE] at hs
   ·refine bD ?_
    walk_at "m"
    exact hQ hs aa Mod1.refl.put
   ·refine bF ?_
    walk_at "m"
    exact hQ hs aa Mod1.refl.put
 refine aY (Pu.ite (QB rfl hsy X F (by decide)) (jj hs (fun hs=>?_) fun hs=>?_))
 ·walk_at "m"
  exact hQ hs aa Mod1.refl.put
 refine aY (Pu.ite (Xy rfl hsy) (jj hs (fun hs=>?_) fun hs=>?_))
 ·refine aV (fun s e4 hq=>?_) hs
  walk_at "m"
  rw[e4]
  walk_at "m"
  refine bD ?_
  walk_at "m"
  refine bD ?_
  walk_at "m"
  refine ak (pO X F (x:=⟨_,d,l,g,ex,false⟩) aa) (by decide) ?_
  walk_at "m"
  exact hQ hq aa Mod1.refl.put.put
 walk_at "m"
 refine MF (p:=p - 1) X F (by decide) (by decide) aa hs (fun z σ' m=>hR z σ' (Mod1.refl.put.trans m)) fun s p2 d2 b hq hs m=>?_
 walk_at "m"
 exact hQ hq hs (Mod1.refl.put.trans m)
end
noncomputable def fZ (cs:List Ch) (ex:Bool) (d p:Int) (r:Res):Prop:=1≤p∧∃ n,FRun cs ex (if 0 < d then 0 else d) n p d r
noncomputable def ig (cs:List Ch) (ex:Bool) (d p:Int) (r:Res):Prop:=p≤1+cs.length∧∃ n2 C D n,n2 < big∧SpanRun cs p n2 ⟨1,[],.plain⟩ (fun _=>none) (fun _=>none) C D∧BRun cs C D ex (if 0 < d then 0 else d) n p d r
noncomputable def PB (cs:List Ch) (C:Int→Option Value) (p r:Int) (N:Int→Prop):Prop :=
 dR (decide (1 < p)) (dR (C p).isSome (r=p) (dR (isQ cs (p - 1)) (r=p) (∃ y,ao cs (p - 1)=some y∧dR (eZ y||decide (y=.am)) (N (p - 1)) (r=p)))) (r=p)
noncomputable def PBack (cs:List Ch) (C:Int→Option Value):Nat→Int→Int→Prop
 |0,p,r=>PB cs C p r fun _=>False
 |n+1,p,r=>PB cs C p r fun p'=>PBack cs C n p' r
section
variable {cs:List Ch} {C:Int→Option Value} {n:Nat} {p r:Int} {x:Ch}
theorem PB.mono {N N':Int→Prop} (f:∀ p,N p→N' p) (h:PB cs C p r N):PB cs C p r N' :=
 lg h (fun h=>lg h id fun h=>lg h id (Exists.imp fun _=>And.imp id fun h=>lg h (f _) id)) id
theorem PBack.inv:∀ {n:Nat},PBack cs C n p r→PB cs C p r fun p'=>∃ m,m < n∧PBack cs C m p' r
 |0,h=>PB.mono (fun _ h=>h.elim) h
 |n+1,h=>PB.mono (fun _ h=>⟨n,Nat.lt_succ_self _,h⟩) h
theorem PBack.start (h:¬ 1 < p):PBack cs C 0 p p:=aH (decide_eq_false h) rfl
theorem PBack.com (h:1 < p) (e:(C p).isSome=true):PBack cs C 0 p p:=aP (decide_eq_true h) (aP e rfl)
theorem PBack.quo (h:1 < p) (e:C p=none) (u:isQ cs (p - 1)=true):PBack cs C 0 p p:=aP (decide_eq_true h) (aH (jQ e) (aP u rfl))
theorem PBack.out (h:1 < p) (e:C p=none) (u:isQ cs (p - 1)=false) (hy:ao cs (p - 1)=some x) (h1:eZ x=false) (h2:x≠.am):PBack cs C 0 p p :=
 aP (decide_eq_true h) (aH (jQ e) (aH u ⟨_,hy,aH (by rw[h1,decide_eq_false h2];rfl) rfl⟩))
theorem PBack.on (h:1 < p) (e:C p=none) (u:isQ cs (p - 1)=false) (hy:ao cs (p - 1)=some x) (h1:eZ x=true∨x=.am) (k:PBack cs C n (p - 1) r):PBack cs C (n+1) p r :=
 aP (decide_eq_true h) (aH (jQ e) (aH u ⟨_,hy,aP (by simpa using h1) k⟩))
end
noncomputable def zq (cs:List Ch) (p r:Int):Prop:=p≤1+cs.length∧∃ n2 C D n,n2 < big∧SpanRun cs p n2 ⟨1,[],.plain⟩ (fun _=>none) (fun _=>none) C D∧PBack cs C n p r
section
variable {K:Frag} {w:World} {Z9:Heap} {os:OsState} {R:Value→Hp→Prop} {σ:Hp} {v c t a o dc ds:Addr} {cs:List Ch} {C D:Int→Option Value} {m1 m2:Nat}
structure G (Z9:Heap) (σ:Hp) (v c t:Addr) (cs:List Ch):Prop where
 V:ViewAt σ v c cs
 T:TableAt σ t
 e:RW Z9
theorem G.ext {σ':Hp} (g:G Z9 σ v c t cs) (x:Ext σ σ'):G Z9 σ' v c t cs:=⟨g.V.ext x,g.T.ext x,g.e⟩
theorem vd (X:Bs K Z9) (F:bc K) (g:G Z9 σ v c t cs) {p d:Int} {ex:Bool} {r:Res} (hr:ig cs ex d p r) (hR:r=.err→∀ σ',Ext σ σ'→R (vs "scan-error") σ') :
  CallSem w Z9 os 10 (.ref 608) [.ref v,.ref t,vi p,vi d,.bool ex] σ (fun q σ'=>q=lC r∧r≠.err∧Ext σ σ') R:=by
 revert hr;refine w6 fun hp n2 z0=>fD (fun C D n hn2 hsp hr=>?_) z0
 refine pQ X F (by decide) (cps fun Q hQ=>?_)
 replace hQ:∀ {z s},r≠.err→Ext σ s→z=lC r→Q z s:=fun e1 e2 e3=>hQ _ _ ⟨e3,e1,e2⟩
 unfold ik
 refine aY (NQ ?_)
 walk_at "m"
 refine aF (vf X F g.V g.T g.e hsp hn2) (by decide) ?_
 refine fun r0 σ0=>w6 fun x0 tp z2=>jc (fun dc ds m1 z3=>kZ (fun m2 z1 etp edc eds=>?_) z3) z2;subst z1
 walk_at "m"
 refine g_unp_t etp (by with_unfolding_all rfl) ?_
 have h1:=x0 _ _ g.V.vw
 walk_at "m"
 refine zR X F (by decide) fun a ha=>?_
 have x01:=x0.trans (Ext.put (c:=cS v t ⟨p,d,if 0 < d then 0 else d,p,ex,false⟩) ha)
 have ha0:σ a=none:=by cases q:σ a with|none=>rfl|some c=>rw[x0 _ _ q] at ha;cases ha
 have nadc:=cJ edc ha
 have nads:=cJ eds ha
 walk_at "m"
 generalize hl:(if 0 < d then 0 else d)=l at hr x01 ⊢
 refine gh (fun m ρ σ'=>∃ q e g,ρ=[some (.ref v),some (.ref t),some (vi p),some (vi d),some (.bool ex),some (.ref dc),some (.ref ds),some (.ref a)]∧Mod1 a σ0 σ'∧σ' a=some (cS v t ⟨q,e,l,g,ex,false⟩)∧BRun cs C D ex l m q e r∧q≤1+cs.length) n
  ⟨p,d,p,rfl,Mod1.refl.put,aa,hr,hp⟩ fun m ρ σ' hI=>?_
 revert hI;refine bY fun q e gd z4 m3 ha2 hr2 hq=>?_;subst z4
 have x2:=x0.mod1 m3 ha0
 have h2:=x2 _ _ g.V.vw
 walk_at "m"
 refine ak (iC X F (g.V.ext x2)) (by decide) ?_
 rcases hr2.inv with ⟨hlt,rfl,hr3⟩|⟨hlt,z,hs,hn,hgo⟩
 ·walk_at "m"
  refine aH (decide_eq_false hlt) ?_
  walk_at "m"
  refine dK ?_
  walk_at "m"
  exact hQ (by rw[hr3];intro q;cases q) x2 (by rw[hr3];rfl)
 walk_at "m"
 refine aP (decide_eq_true hlt) (aY (M3 rfl ha2 fun g' s ha3 m4=>?_))
 replace m4:=m3.trans m4
 have x3:=x0.mod1 m4 ha0
 walk_at "m"
 refine au (tM X F (g.V.ext x3) (g.T.ext x3) ha3 (m4 _ _ nadc edc) (m4 _ _ nads eds) rfl hlt hq hs fun z σ4 m5=>hR (hn z) σ4 (x3.mod1 m5 ha0)) (by decide) ?_
 refine fun s4=>fD fun p4 d4 b4 z ha4 m5=>?_
 replace hgo:=hgo _ _ _ z
 replace m5:=m4.trans m5
 walk_at "m"
 cases b4
 ·refine JP (fun e2 m' hm e3=>?_) hgo
  refine bD ?_
  walk_at "m"
  exact w_next hm ⟨_,_,_,rfl,m5,ha4,e3,e2⟩
 ·refine bF ?_
  walk_at "m"
  exact hQ (by rw[show r=_ from hgo];intro q;cases q) (x0.mod1 m5 ha0) (by rw[show r=_ from hgo];rfl)
theorem tB (X:Bs K Z9) (F:bc K) (g:G Z9 σ v c t cs) {p d:Int} {ex:Bool} {r:Res} (hr:fZ cs ex d p r) (hR:r=.err→∀ σ',Ext σ σ'→R (vs "scan-error") σ') :
  CallSem w Z9 os 12 (.ref 615) [.ref v,.ref t,vi p,vi 1,vi d,.bool ex] σ (fun q σ'=>q=lC r∧r≠.err∧Ext σ σ') R:=by
 revert hr;refine w6 fun h0 n hr=>?_
 refine pL X F (by decide) ?_
 unfold nM
 refine aY (gh (fun m ρ σ'=>(m=1∧σ'=σ∧ρ=[some (.ref v),some (.ref t),some (vi p),some (vi 1),some (vi d),some (.bool ex)])∨(m=0∧r≠.err∧Ext σ σ'∧ρ=[some (.ref v),some (.ref t),some (lC r),some (vi 0),some (vi 0),some (.bool ex)])) 1 (.inl ⟨rfl,rfl,rfl⟩) fun m ρ σ' hI=>?_)
 rcases hI with ⟨rfl,rfl,rfl⟩|⟨rfl,hne,x,rfl⟩
 ·walk_at "m"
  refine bF ?_
  walk_at "m"
  refine bF ?_
  walk_at "m"
  refine au (wu X F g.V g.T g.e h0 hr hR) (by decide) ?_
  intro s1 zz;obtain⟨hne,x⟩:=zz
  walk_at "m"
  exact w_next (Nat.lt_succ_self 0) (.inr ⟨rfl,hne,x,rfl⟩)
 ·walk_at "m"
  have fin:lE w Z9 os 11 R (.seq (.whl (.band (.cmp .IsNot (.loc 2) (.cst .none)) (.cmp .Lt (.loc 3) (.cst (.int 0 0)))) (.seq (.asg 2 (.call (.gv 53 (.ref 608)) (.cons (.loc 0) (.cons (.loc 1) (.cons (.loc 2) (.cons (.loc 4) (.cons (.loc 5) .nil))))))) (.seq (.asg 4 (.cst (.int 0 0))) (.seq (.asg 3 (.bin .Add (.loc 3) (.cst (.int 1 0)))) .nil)))) (.seq (.ret (.loc 2)) .nil)) (j0 fun q σ'=>q=lC r∧r≠.err∧Ext σ σ') .next [some (.ref v),some (.ref t),some (lC r),some (vi 0),some (vi 0),some (.bool ex)] σ':=by
   walk_at "m"
   refine gh (fun m ρ σ''=>σ''=σ'∧ρ=[some (.ref v),some (.ref t),some (lC r),some (vi 0),some (vi 0),some (.bool ex)]) 0 ⟨rfl,rfl⟩ fun m ρ σ'' hI=>?_
   obtain⟨rfl,rfl⟩:=hI
   walk_at "m"
   cases isNone (lC r)
   ·refine nZ ?_
    walk_at "m"
    refine bD ?_
    walk_at "m"
    exact⟨rfl,hne,x⟩
   ·refine dK ?_
    walk_at "m"
    exact⟨rfl,hne,x⟩
  cases isNone (lC r)
  ·refine nZ ?_
   walk_at "m step"
   walk_at "m step"
   walk_at "m step"
   walk_at "m step"
   walk_at "m step"
   walk_at "m step"
   walk_at "m step"
   walk_at "m step"
   refine bD ?_
   exact fin
  ·refine dK ?_
   walk_at "m step"
   walk_at "m step"
   exact fin
theorem sY (X:Bs K Z9) (F:bc K) (g:G Z9 σ v c t cs) {p d:Int} {ex:Bool} {r:Res} (hr:ig cs ex d p r) (hR:r=.err→∀ σ',Ext σ σ'→R (vs "scan-error") σ') :
  CallSem w Z9 os 12 (.ref 615) [.ref v,.ref t,vi p,vi (-1),vi d,.bool ex] σ (fun q σ'=>q=lC r∧r≠.err∧Ext σ σ') R:=by
 refine pL X F (by decide) ?_
 unfold nM
 refine aY (gh (fun m ρ σ'=>σ'=σ∧ρ=[some (.ref v),some (.ref t),some (vi p),some (vi (-1)),some (vi d),some (.bool ex)]) 0 ⟨rfl,rfl⟩ fun m ρ σ' hI=>?_)
 obtain⟨rfl,rfl⟩:=hI
 walk_at "m"
 refine bF ?_
 walk_at "m"
 refine bD ?_
 walk_at "m"
 refine gh (fun m ρ σ''=>(m=1∧σ''=σ'∧ρ=[some (.ref v),some (.ref t),some (vi p),some (vi (-1)),some (vi d),some (.bool ex)])∨(m=0∧r≠.err∧Ext σ' σ''∧ρ=[some (.ref v),some (.ref t),some (lC r),some (vi 0),some (vi 0),some (.bool ex)])) 1 (.inl ⟨rfl,rfl,rfl⟩) fun m ρ σ'' hI=>?_
 rcases hI with ⟨rfl,rfl,rfl⟩|⟨rfl,hne,x,rfl⟩
 ·walk_at "m"
  refine bF ?_
  walk_at "m"
  refine bF ?_
  walk_at "m"
  refine au (vd X F g hr hR) (by decide) ?_
  intro s1 zz;obtain⟨hne,x⟩:=zz
  walk_at "m"
  exact w_next (Nat.lt_succ_self 0) (.inr ⟨rfl,hne,x,rfl⟩)
 ·walk_at "m"
  cases isNone (lC r)
  ·refine nZ ?_
   walk_at "m"
   refine bD ?_
   walk_at "m"
   exact⟨rfl,hne,x⟩
  ·refine dK ?_
   walk_at "m"
   exact⟨rfl,hne,x⟩
theorem iz (X:Bs K Z9) (F:bc K) (g:G Z9 σ v c t cs) {p d:Int} {r:Res} (hr:fZ cs false d p r) (hR:r=.err→∀ σ',Ext σ σ'→R (vs "scan-error") σ') :
  CallSem w Z9 os 13 (.ref 622) [.ref v,.ref t,vi p,vi 1,vi d] σ (fun q σ'=>q=lC r∧r≠.err∧Ext σ σ') R:=by
 refine lq X F (by decide) ?_
 unfold gC
 walk_at "m"
 refine aF (tB X F g hr hR) (by decide) ?_
 intro r1 s1 z
 walk_at "m"
 exact z
theorem lJ (X:Bs K Z9) (F:bc K) (g:G Z9 σ v c t cs) {p d:Int} {r:Res} (hr:ig cs false d p r) (hR:r=.err→∀ σ',Ext σ σ'→R (vs "scan-error") σ') :
  CallSem w Z9 os 13 (.ref 622) [.ref v,.ref t,vi p,vi (-1),vi d] σ (fun q σ'=>q=lC r∧r≠.err∧Ext σ σ') R:=by
 refine lq X F (by decide) ?_
 unfold gC
 walk_at "m"
 refine aF (sY X F g hr hR) (by decide) ?_
 intro r1 s1 z
 walk_at "m"
 exact z
theorem vI (X:Bs K Z9) (F:bc K) (g:G Z9 σ v c t cs) {p:Int} {r:Res} (hr:fZ cs true 0 p r) (hR:r=.err→∀ σ',Ext σ σ'→R (vs "scan-error") σ') :
  CallSem w Z9 os 13 (.ref 629) [.ref v,.ref t,vi p,vi 1] σ (fun q σ'=>q=lC r∧r≠.err∧Ext σ σ') R:=by
 refine lr X F (by decide) ?_
 unfold gj
 walk_at "m"
 refine aF (tB X F g hr hR) (by decide) ?_
 intro r1 s1 z
 walk_at "m"
 exact z
theorem uJ (X:Bs K Z9) (F:bc K) (g:G Z9 σ v c t cs) {p:Int} {r:Res} (hr:ig cs true 0 p r) (hR:r=.err→∀ σ',Ext σ σ'→R (vs "scan-error") σ') :
  CallSem w Z9 os 13 (.ref 629) [.ref v,.ref t,vi p,vi (-1)] σ (fun q σ'=>q=lC r∧r≠.err∧Ext σ σ') R:=by
 refine lr X F (by decide) ?_
 unfold gj
 walk_at "m"
 refine aF (sY X F g hr hR) (by decide) ?_
 intro r1 s1 z
 walk_at "m"
 exact z
end
noncomputable def ends (cs:List Ch):Res→Int
 |.val p=>p
 |_=>1+cs.length
section
variable {K:Frag} {w:World} {Z9:Heap} {os:OsState} {R:Value→Hp→Prop} {σ:Hp} {v c t a o dc ds:Addr} {cs:List Ch} {C D:Int→Option Value} {m1 m2:Nat}
theorem qN (X:Bs K Z9) (F:bc K) (g:G Z9 σ v c t cs) {p r:Int} (hr:zq cs p r):CallSem w Z9 os 10 (.ref 636) [.ref v,.ref t,vi p] σ (fun q σ'=>q=vi r∧Ext σ σ') R:=by
 revert hr;refine w6 fun hp n2 z0=>fD (fun C D n hn2 hsp hr=>?_) z0
 refine mW X F (by decide) (cps fun Q hQ=>?_)
 unfold eG
 walk_at "m"
 refine aF (vf X F g.V g.T g.e hsp hn2) (by decide) ?_
 refine fun r0 σ0=>w6 fun x0 tp z2=>jc (fun dc ds m1 z3=>kZ (fun m2 z1 etp edc eds=>?_) z3) z2;subst z1
 replace hQ:∀ {q},r=q→Q (vi q) σ0:=fun e=>hQ _ _ ⟨by rw[e],x0⟩
 walk_at "m"
 refine i_tup etp (v:=.ref dc) rfl ?_
 have g0:=g.ext x0
 have h1:=g0.V.vw
 walk_at "m"
 refine gh (fun m ρ σ'=>σ'=σ0∧∃ q u,ρ=[some (.ref v),some (.ref t),some (vi q),some (.ref dc),u]∧PBack cs C m q r∧q≤1+cs.length) n ⟨rfl,p,_,rfl,hr,hp⟩ fun m ρ σ' hI=>?_
 revert hI;refine qz fun z4 q u z5 z6=>oA (fun hr1 hq=>?_) z6;subst z4;subst z5
 replace hr1:=hr1.inv
 walk_at "m"
 refine ak (iC X F g0.V) (by decide) ?_
 walk_at "m"
 cases hlt:decide (1 < q) with
 |false =>
  refine bD ?_
  walk_at "m"
  exact hQ (jH hr1 hlt)
 |true =>
  replace hr1:=jR hr1 hlt
  have hlt:=of_decide_eq_true hlt
  refine bF ?_
  walk_at "m"
  cases hC:(C q).isSome with
  |true =>
   refine bD ?_
   walk_at "m"
   exact hQ (jR hr1 hC)
  |false =>
   replace hr1:=jH hr1 hC
   refine bF ?_
   walk_at "m"
   refine ak (fO X F g0.V g0.T (p:=q - 1) (by lia) (by lia)) (by decide) ?_
   walk_at "m"
   cases hq3:isQ cs (q - 1) with
   |true =>
    refine dK ?_
    walk_at "m"
    exact hQ (jR hr1 hq3)
   |false =>
    refine aV (fun y e4 hr1=>?_) (jH hr1 hq3)
    refine nZ ?_
    walk_at "m"
    refine cR (aX X F g0.V g0.T _) (by decide) ?_
    rintro r1 hr5
    rw[e4] at hr5
    revert hr5;refine aV fun sy z7 hs=>?_;subst z7
    refine aJ (bU (aY (Pu.ite (.and (Iv rfl hs _ _) (.not (QB rfl hs X F (by decide)))) ?_)))
    rw[show (!decide (kind y="'")&&!decide (y=.am))=!(eZ y||decide (y=.am)) from pH y (by kernel_rfl)]
    cases hw:(eZ y||decide (y=.am)) with
    |true =>
     refine aV (fun m' hm' hr1=>?_) (jR hr1 hw)
     refine bD ?_
     walk_at "m"
     exact w_next hm' ⟨rfl,q - 1,_,rfl,hr1,by lia⟩
    |false =>
     refine bF ?_
     walk_at "m"
     refine zdT ?_
     walk_at "m"
     exact hQ (jH hr1 hw)
theorem zL (X:Bs K Z9) (F:bc K) (V:ViewAt σ v c cs):CallSem w Z9 os 4 (.ref 643) [.ref v,vi 1] σ (fun q σ'=>q=vi (1+cs.length)∧σ'=σ) R:=by
 refine xM X F (by decide) ?_
 unfold zj
 have h1:=V.vw
 walk_at "m"
 refine bF ?_
 walk_at "m"
 refine ak (lB X F V) (by decide) ?_
 walk_at "m"
 exact⟨rfl,rfl⟩
theorem N5 (X:Bs K Z9) (F:bc K) (V:ViewAt σ v c cs):CallSem w Z9 os 4 (.ref 643) [.ref v,vi (-1)] σ (fun q σ'=>q=vi 1∧σ'=σ) R:=by
 refine xM X F (by decide) ?_
 unfold zj
 have h1:=V.vw
 walk_at "m"
 refine bD ?_
 walk_at "m"
 refine ak (iC X F V) (by decide) ?_
 walk_at "m"
 exact⟨rfl,rfl⟩
theorem rH (X:Bs K Z9) (F:bc K) (g:G Z9 σ v c t cs) {p:Int} {r:Res} (hr:fZ cs true 0 p r) (hR:r=.err→∀ σ',Ext σ σ'→R (vs "scan-error") σ') :
  CallSem w Z9 os 14 (.ref 650) [.ref v,.ref t,vi p,vi 1] σ (fun q σ'=>q=vi (ends cs r)∧r≠.err∧Ext σ σ') R:=by
 refine iG X F (by decide) ?_
 unfold dZ
 walk_at "m"
 refine au (vI X F g hr hR) (by decide) ?_
 intro s1 zz;obtain⟨hne,x⟩:=zz
 walk_at "m"
 cases r with
 |err=>exact absurd rfl hne
 |out =>
  refine bF ?_
  walk_at "m"
  refine ak (zL X F (g.V.ext x)) (by decide) ?_
  walk_at "m"
  exact⟨rfl,hne,x⟩
 |val p =>
  refine bD ?_
  walk_at "m"
  refine bD ?_
  walk_at "m"
  exact⟨rfl,hne,x⟩
theorem rO (X:Bs K Z9) (F:bc K) (g:G Z9 σ v c t cs) {p:Int} {r:Res} {q:Int} (hr:ig cs true 0 p r) (hq:∀ p',r=.val p'→zq cs p' q) (hq2:r=.out→q=1) (hR:r=.err→∀ σ',Ext σ σ'→R (vs "scan-error") σ') :
  CallSem w Z9 os 14 (.ref 650) [.ref v,.ref t,vi p,vi (-1)] σ (fun z σ'=>z=vi q∧r≠.err∧Ext σ σ') R:=by
 refine iG X F (by decide) ?_
 unfold dZ
 walk_at "m"
 refine au (uJ X F g hr hR) (by decide) ?_
 intro s1 zz;obtain⟨hne,x⟩:=zz
 walk_at "m"
 cases r with
 |err=>exact absurd rfl hne
 |out =>
  refine bF ?_
  walk_at "m"
  refine ak (N5 X F (g.V.ext x)) (by decide) ?_
  walk_at "m"
  exact⟨by rw[hq2 rfl],hne,x⟩
 |val p' =>
  refine bD ?_
  walk_at "m"
  refine bF ?_
  walk_at "m"
  refine au (qN X F (g.ext x) (hq p' rfl)) (by decide) ?_
  rintro s2 x2
  walk_at "m"
  exact⟨rfl,hne,x.trans x2⟩
theorem uM (X:Bs K Z9) (F:bc K) (g:G Z9 σ v c t cs) {p:Int} {r:Res} (hr:fZ cs false 0 p r) (hR:r=.err→∀ σ',Ext σ σ'→R (vs "scan-error") σ') :
  CallSem w Z9 os 14 (.ref 657) [.ref v,.ref t,vi p,vi 1] σ (fun q σ'=>q=vi (ends cs r)∧r≠.err∧Ext σ σ') R:=by
 refine qF X F (by decide) ?_
 unfold gQ
 walk_at "m"
 refine au (iz X F g hr hR) (by decide) ?_
 intro s1 zz;obtain⟨hne,x⟩:=zz
 walk_at "m"
 cases r with
 |err=>exact absurd rfl hne
 |out =>
  refine bF ?_
  walk_at "m"
  refine ak (zL X F (g.V.ext x)) (by decide) ?_
  walk_at "m"
  exact⟨rfl,hne,x⟩
 |val p =>
  refine bD ?_
  walk_at "m"
  exact⟨rfl,hne,x⟩
theorem qe (X:Bs K Z9) (F:bc K) (g:G Z9 σ v c t cs) {p d r:Int} (hr:fZ cs false d p (.val r)):CallSem w Z9 os 14 (.ref 664) [.ref v,.ref t,vi p,vi 1,vi d] σ (fun q σ'=>q=vi r∧Ext σ σ') R:=by
 refine nY X F (by decide) ?_
 unfold jY
 walk_at "m"
 refine bF ?_
 walk_at "m"
 refine g_forR (top:=(((1:Int).natAbs:Nat):Int)) (fun m ρ σ'=>(m=0∧σ'=σ∧ρ=[some (.ref v),some (.ref t),some (vi p),some (vi 1),some (vi d),some (vi 1),none])∨(m=1∧Ext σ σ'∧∃ u,ρ=[some (.ref v),some (.ref t),some (vi r),some (vi 1),some (vi d),some (vi 1),u])) (by decide) (.inl ⟨rfl,rfl,rfl⟩) ?_ ?_
 ·rintro ρ σ' (⟨q,_⟩|⟨_,x,u,rfl⟩)
  ·exact absurd q (by decide)
  ·walk_at "m"
   exact⟨rfl,x⟩
 ·rintro m ρ σ' hm (⟨rfl,rfl,rfl⟩|⟨rfl,_⟩)
  ·walk_at "m"
   refine au (iz X F g hr (fun q=>by cases q)) (by decide) ?_
   intro s1 zz;obtain⟨hne,x⟩:=zz
   walk_at "m"
   exact lR (.inr ⟨rfl,x,_,rfl⟩)
  ·exact absurd hm (by decide)
theorem qb (X:Bs K Z9) (F:bc K) (g:G Z9 σ v c t cs) {p d r:Int} (hr:ig cs false d p (.val r)):CallSem w Z9 os 14 (.ref 664) [.ref v,.ref t,vi p,vi (-1),vi d] σ (fun q σ'=>q=vi r∧Ext σ σ') R:=by
 refine nY X F (by decide) ?_
 unfold jY
 walk_at "m"
 refine bD ?_
 walk_at "m"
 refine g_forR (top:=(((-1:Int).natAbs:Nat):Int)) (fun m ρ σ'=>(m=0∧σ'=σ∧ρ=[some (.ref v),some (.ref t),some (vi p),some (vi (-1)),some (vi d),some (vi (-1)),none])∨(m=1∧Ext σ σ'∧∃ u,ρ=[some (.ref v),some (.ref t),some (vi r),some (vi (-1)),some (vi d),some (vi (-1)),u])) (by decide) (.inl ⟨rfl,rfl,rfl⟩) ?_ ?_
 ·rintro ρ σ' (⟨q,_⟩|⟨_,x,u,rfl⟩)
  ·exact absurd q (by decide)
  ·walk_at "m"
   exact⟨rfl,x⟩
 ·rintro m ρ σ' hm (⟨rfl,rfl,rfl⟩|⟨rfl,_⟩)
  ·walk_at "m"
   refine au (lJ X F g hr (fun q=>by cases q)) (by decide) ?_
   intro s1 zz;obtain⟨hne,x⟩:=zz
   walk_at "m"
   exact lR (.inr ⟨rfl,x,_,rfl⟩)
  ·exact absurd hm (by decide)
theorem Be (X:Bs K Z9) (F:bc K) (g:G Z9 σ v c t cs) {p r:Int} (hr:fZ cs false 1 p (.val r)):CallSem w Z9 os 15 (.ref 671) [.ref v,.ref t,vi p,vi 1] σ (fun q σ'=>q=vi r∧Ext σ σ') R:=by
 refine ql X F (by decide) ?_
 unfold nC
 walk_at "m"
 refine aF (qe X F g hr) (by decide) ?_
 intro r1 s1 z
 walk_at "m"
 exact z
theorem zX (X:Bs K Z9) (F:bc K) (g:G Z9 σ v c t cs) {p r:Int} (hr:ig cs false 1 p (.val r)):CallSem w Z9 os 15 (.ref 671) [.ref v,.ref t,vi p,vi (-1)] σ (fun q σ'=>q=vi r∧Ext σ σ') R:=by
 refine ql X F (by decide) ?_
 unfold nC
 walk_at "m"
 refine aF (qb X F g hr) (by decide) ?_
 intro r1 s1 z
 walk_at "m"
 exact z
theorem wQ (X:Bs K Z9) (F:bc K) (g:G Z9 σ v c t cs) {p r:Int} (hr:fZ cs false (-1) p (.val r)):CallSem w Z9 os 15 (.ref 678) [.ref v,.ref t,vi p,vi 1] σ (fun q σ'=>q=vi r∧Ext σ σ') R:=by
 refine mY X F (by decide) ?_
 unfold iM
 walk_at "m"
 refine aF (qe X F g hr) (by decide) ?_
 intro r1 s1 z
 walk_at "m"
 exact z
theorem wW (X:Bs K Z9) (F:bc K) (g:G Z9 σ v c t cs) {p r:Int} (hr:ig cs false (-1) p (.val r)):CallSem w Z9 os 15 (.ref 678) [.ref v,.ref t,vi p,vi (-1)] σ (fun q σ'=>q=vi r∧Ext σ σ') R:=by
 refine mY X F (by decide) ?_
 unfold iM
 walk_at "m"
 refine aF (qb X F g hr) (by decide) ?_
 intro r1 s1 z
 walk_at "m"
 exact z
theorem wB (X:Bs K Z9) (F:bc K) (g:G Z9 σ v c t cs) {p r:Int} {y:Ch} (hy:ao cs p=some y) (ho:fW y=true) (hQ:isQ cs p=false) (hr:fZ cs false 0 p (.val r)) :
  CallSem w Z9 os 14 (.ref 685) [.ref v,.ref t,vi p] σ (fun q σ'=>q=vi (r - 1)∧Ext σ σ') R:=by
 refine oE X F (by decide) ?_
 unfold kh
 walk_at "m"
 refine cR (aX X F g.V g.T p) (by decide) ?_
 rintro r1 hs
 rw[hy] at hs
 revert hs;refine aV fun sy z8 hs=>?_;subst z8
 obtain⟨m3,hs1⟩:=id hs
 refine iJ (fun b1 b2 _=>?_) (cP hy)
 walk_at "m"
 refine bD ?_
 walk_at "m"
 refine ak (fO X F g.V g.T b1 (by lia)) (by decide) ?_
 rw[hQ]
 walk_at "m"
 refine aP (decide_eq_true (S5 y ho)) ?_
 walk_at "m"
 refine au (iz X F g hr (fun q=>by cases q)) (by decide) ?_
 intro s1 zz;obtain⟨hne,x⟩:=zz
 walk_at "m"
 exact⟨rfl,x⟩
theorem wG (X:Bs K Z9) (F:bc K) (g:G Z9 σ v c t cs) {p r:Int} {y:Ch} (hy:ao cs p=some y) (ho:dX y=true) (hQ:isQ cs p=false) (hr:ig cs false 0 (p+1) (.val r)) :
  CallSem w Z9 os 14 (.ref 685) [.ref v,.ref t,vi p] σ (fun q σ'=>q=vi r∧Ext σ σ') R:=by
 refine oE X F (by decide) ?_
 unfold kh
 walk_at "m"
 refine cR (aX X F g.V g.T p) (by decide) ?_
 rintro r1 hs
 rw[hy] at hs
 revert hs;refine aV fun sy z9 hs=>?_;subst z9
 obtain⟨m3,hs1⟩:=id hs
 refine iJ (fun b1 b2 _=>?_) (cP hy)
 walk_at "m"
 refine bD ?_
 walk_at "m"
 refine ak (fO X F g.V g.T b1 (by lia)) (by decide) ?_
 rw[hQ]
 walk_at "m"
 have k1:kind y=(")":Str):=V3 y ho
 refine aH (decide_eq_false (by rw[k1];decide)) ?_
 walk_at "m"
 refine aP (decide_eq_true k1) ?_
 walk_at "m"
 refine au (lJ X F g hr (fun q=>by cases q)) (by decide) ?_
 intro s1 zz;obtain⟨hne,x⟩:=zz
 walk_at "m"
 exact⟨rfl,x⟩
noncomputable def tells (cs:List Ch) (x:Int):Res→Value
 |.err=>vs "scan-error"
 |_=>vi x
theorem Mq (X:Bs K Z9) (F:bc K) (g:G Z9 σ v c t cs) {p:Int} {r:Res} (hr:fZ cs true 0 p r):CallSem w Z9 os 15 (.ref 785) [.ref 650,.ref v,.ref t,vi p,vi 1] σ (fun q σ'=>q=tells cs (ends cs r) r∧Ext σ σ') R:=by
 refine iW X F (by decide) ?_
 unfold ir
 walk_at "m"
 refine aF (rH X F g hr fun q σ' x=>?_) (by decide) ?_
 ·subst q
  walk_at "m"
  exact⟨rfl,x⟩
 ·refine fun r1 s1=>iJ fun z10 hne x=>?_;subst z10
  walk_at "m"
  refine⟨?_,x⟩
  cases r<;>first|rfl|exact absurd rfl hne
theorem Ry (X:Bs K Z9) (F:bc K) (g:G Z9 σ v c t cs) {p:Int} {r:Res} {q:Int} (hr:ig cs true 0 p r) (hq:∀ p',r=.val p'→zq cs p' q) (hq2:r=.out→q=1):CallSem w Z9 os 15 (.ref 785) [.ref 650,.ref v,.ref t,vi p,vi (-1)] σ (fun z σ'=>z=tells cs q r∧Ext σ σ') R:=by
 refine iW X F (by decide) ?_
 unfold ir
 walk_at "m"
 refine aF (rO X F g hr hq hq2 fun z σ' x=>?_) (by decide) ?_
 ·subst z
  walk_at "m"
  exact⟨rfl,x⟩
 ·refine fun r1 s1=>iJ fun z11 hne x=>?_;subst z11
  walk_at "m"
  refine⟨?_,x⟩
  cases r<;>first|rfl|exact absurd rfl hne
theorem LK (X:Bs K Z9) (F:bc K) (g:G Z9 σ v c t cs) {p:Int} {r:Res} (hr:fZ cs false 0 p r):CallSem w Z9 os 15 (.ref 785) [.ref 657,.ref v,.ref t,vi p,vi 1] σ (fun q σ'=>q=tells cs (ends cs r) r∧Ext σ σ') R:=by
 refine iW X F (by decide) ?_
 unfold ir
 walk_at "m"
 refine aF (uM X F g hr fun q σ' x=>?_) (by decide) ?_
 ·subst q
  walk_at "m"
  exact⟨rfl,x⟩
 ·refine fun r1 s1=>iJ fun z12 hne x=>?_;subst z12
  walk_at "m"
  refine⟨?_,x⟩
  cases r<;>first|rfl|exact absurd rfl hne
end
noncomputable def Dk (σ:Hp) (dk dl:Addr):Prop:=dk≠dl∧∃ (xs:List Int) (m k:Int),σ dk=some (.list [.ref dl,vi m,vi k])∧σ dl=some (.list (xs.map vi))
noncomputable abbrev zcz (dk dl:Addr) (σ σ':Hp):Prop:=Mod (fun x=>x=dk∨x=dl) σ σ'
theorem Mod.refl' {P:Addr→Prop} {σ:Hp}:Mod P σ σ:=fun _ _ _ e=>e
theorem Mod.trans' {P:Addr→Prop} {σ Z2 Z4:Hp} (m:Mod P σ Z2) (m':Mod P Z2 Z4):Mod P σ Z4:=fun d l h e=>m' d l h (m d l h e)
theorem Mod.ext' {P:Addr→Prop} {σ σ':Hp} (e:Ext σ σ'):Mod P σ σ':=fun b c _ q=>e b c q
theorem Mod.put' {P:Addr→Prop} {σ σ':Hp} {a:Addr} {c:Cell} (m:Mod P σ σ') (h:P a):Mod P σ (σ'.put a c):=fun b d hb e=>aq (fun q=>hb (q▸h)) (m b d hb e)
theorem Mod.wide {P Q:Addr→Prop} {σ σ':Hp} (m:Mod P σ σ') (h:∀ a,P a→Q a):Mod Q σ σ':=fun b c hb e=>m b c (fun q=>hb (h b q)) e
theorem Dk.ext {σ σ':Hp} {dk dl:Addr} (d:Dk σ dk dl) (x:Ext σ σ'):Dk σ' dk dl:=by
 refine jJ (fun h xs m k h1 h2=>?_) d
 exact⟨h,xs,m,k,x _ _ h1,x _ _ h2⟩
theorem Dk.mod {σ σ':Hp} {P:Addr→Prop} {dk dl:Addr} (d:Dk σ dk dl) (x:Mod P σ σ') (n1:¬ P dk) (n2:¬ P dl):Dk σ' dk dl:=by
 refine jJ (fun h xs m k h1 h2=>?_) d
 exact⟨h,xs,m,k,x _ _ n1 h1,x _ _ n2 h2⟩
theorem lX (xs:List Int):(xs.map vi).all flat=true:=by
 induction xs with
 |nil=>rfl
 |cons x r ih=>rw[List.map_cons,List.all_cons,ih];rfl
theorem zdo:(2:Nat) ^ 62=4611686018427387904:=by decide
section
variable {K:Frag} {w:World} {Z9:Heap} {os:OsState} {R:Value→Hp→Prop} {σ:Hp} {dk dl cd:Addr} {cs:List Ch}
theorem zbg (X:Bs K Z9) (F:bc K) (D:Dk σ dk dl) {many:Int} (hm:0 < many) (hm2:many < 2 ^ 29) :
  CallSem w Z9 os 3 (.ref 740) [.ref dk,vi many] σ (fun r σ'=>(∃ x:Int,r=vi x∧0≤x∧x < many)∧Dk σ' dk dl∧zcz dk dl σ σ') R:=by
 refine jJ (fun hne xs m k h1 h2=>?_) D
 refine wJ X F (by decide) (cps fun Q hQ=>?_)
 unfold pA
 have rng:∀ y:Int,0≤Int.fmod y many∧Int.fmod y many < many:=fun y=>by
  rw[Int.fmod_eq_emod_of_nonneg _ (by lia)]
  exact⟨Int.emod_nonneg _ (by lia),Int.emod_lt_of_pos _ hm⟩
 walk_at "m"
 refine i_list h1 (v:=.ref dl) rfl ?_
 walk_at "m"
 intro b hb
 have x1:=Ext.put (c:=.list []) hb
 have e1:=x1 _ _ h1
 have e2:=x1 _ _ h2
 have eb:(σ.put b (.list [])) b=some (.list []):=aa
 generalize σ.put b (.list [])=σ1 at x1 e1 e2 eb ⊢
 walk_at "m"
 refine jG e2 eb (.inl ⟨lX xs,rfl⟩) ?_
 walk_at "m"
 cases xs with
 |nil =>
  refine dK ?_
  walk_at "m"
  refine i_list e1 (v:=vi k) rfl ?_
  walk_at "m"
  refine g_iasg_l e1 ⟨by decide,by show 2 < 3;decide⟩ ?_
  have f1:(σ1.put dk (.list [.ref dl,vi m,vi (k+1)])) dk=some (.list [.ref dl,vi m,vi (k+1)]):=aa
  have f2:(σ1.put dk (.list [.ref dl,vi m,vi (k+1)])) dl=some (.list (([]:List Int).map vi)):=aq hne.symm e2
  have md:zcz dk dl σ (σ1.put dk (.list [.ref dl,vi m,vi (k+1)])):=(Mod.ext' x1).put' (.inl rfl)
  change lE w Z9 os 2 R _ _ .next _ (σ1.put dk (.list [.ref dl,vi m,vi (k+1)]))
  generalize σ1.put dk (.list [.ref dl,vi m,vi (k+1)])=σ2 at f1 f2 md ⊢
  walk_at "m"
  refine i_list f1 (v:=vi m) rfl ?_
  walk_at "m"
  refine cY (by decide) ?_
  walk_at "m"
  refine i_list f1 (v:=vi (k+1)) rfl ?_
  walk_at "m"
  refine gO (.inl (by decide)) ?_
  walk_at "m"
  refine cY (by decide) ?_
  walk_at "m"
  have bd:∀ (y q:Int),0 < q→q < 4294966298→(Int.fmod y q).natAbs < 2 ^ 62:=fun y q h1 h2=>by
   rw[Int.fmod_eq_emod_of_nonneg _ (by lia),zdo]
   have:=Int.emod_nonneg y (b:=q) (by lia)
   have:=Int.emod_lt_of_pos y h1
   lia
  refine gO (.inl (bd _ _ (by decide) (by decide))) ?_
  walk_at "m"
  refine i_list f1 (v:=vi (k+1)) rfl ?_
  walk_at "m"
  refine gO (.inl (by decide)) ?_
  walk_at "m"
  refine cY (by decide) ?_
  walk_at "m"
  refine gO (.inl (bd _ _ (by decide) (by decide))) ?_
  walk_at "m"
  refine cY (by decide) ?_
  walk_at "m"
  refine jo (by decide) ?_
  walk_at "m"
  refine cY (by lia) ?_
  walk_at "m"
  exact hQ _ _ ⟨⟨_,rfl,rng _⟩,⟨hne,[],m,k+1,f1,f2⟩,md⟩
 |cons x0 rest =>
  refine nZ ?_
  walk_at "m"
  refine i_list e1 (v:=.ref dl) rfl ?_
  walk_at "m"
  refine i_list e2 (v:=vi x0) rfl ?_
  walk_at "m"
  refine jo ⟨hm,hm2⟩ ?_
  walk_at "m"
  refine i_list e1 (v:=.ref dl) rfl ?_
  walk_at "m"
  refine g_iasg_l e2 ⟨by decide,by show 0 < _;simp⟩ ?_
  have f1:(σ1.put dl (.list ((Int.fdiv x0 many::rest).map vi))) dk=some (.list [.ref dl,vi m,vi k]):=aq hne e1
  have f2:(σ1.put dl (.list ((Int.fdiv x0 many::rest).map vi))) dl=some (.list ((Int.fdiv x0 many::rest).map vi)):=aa
  have md:zcz dk dl σ (σ1.put dl (.list ((Int.fdiv x0 many::rest).map vi))):=(Mod.ext' x1).put' (.inr rfl)
  change lE w Z9 os 2 R _ _ .next _ (σ1.put dl (.list ((Int.fdiv x0 many::rest).map vi)))
  generalize σ1.put dl (.list ((Int.fdiv x0 many::rest).map vi))=σ2 at f1 f2 md ⊢
  walk_at "m"
  refine i_list f1 (v:=.ref dl) rfl ?_
  walk_at "m"
  refine i_list f2 (v:=vi (Int.fdiv x0 many)) rfl ?_
  walk_at "m"
  refine cO (fun q=>?_) fun q=>?_
  ·walk_at "m"
   refine i_list f1 (v:=.ref dl) rfl ?_
   walk_at "m"
   refine q8 rfl f2 ?_
   walk_at "m"
   refine m_pop0 (v:=vi (Int.fdiv x0 many)) (ys:=rest.map vi) f2 ?_
   walk_at "m"
   refine cY (by lia) ?_
   walk_at "m"
   exact hQ _ _ ⟨⟨_,rfl,rng _⟩,⟨hne,rest,m,k,aq hne f1,aa⟩,md.put' (.inr rfl)⟩
  ·walk_at "m"
   refine cY (by lia) ?_
   walk_at "m"
   exact hQ _ _ ⟨⟨_,rfl,rng _⟩,⟨hne,_,m,k,f1,f2⟩,md⟩
noncomputable def strOf (l:List Ch):Str:=⟨(l.map code).toArray⟩
theorem BW (σ:Hp):∀ l:List Ch,dm σ (.blt .ord (.cons (.loc 0) .nil)) .nil (l.map fun x=>vs ⟨#[code x]⟩)=some (l.map fun x=>vi (code x))
 |[]=>rfl
 |x::l=>by
  rw[List.map_cons,List.map_cons]
  have:=BW σ l
  show Option.bind _ (fun b=>cond b (Option.bind _ fun y=>Option.map (y::·) (dm σ _ _ _)) _)=_
  rw[this];rfl
theorem sX (l:List Ch):chars (strOf l)=l.map fun x=>vs ⟨#[code x]⟩:=by
 unfold chars strOf
 rw[List.map_map];rfl
noncomputable abbrev zc (σ:Hp) (cd:Addr) (cs:List Ch):Prop:=σ cd=some (.list (cs.map fun x=>vi (code x)))
theorem zeN (X:Bs K Z9) (F:bc K) (C:zc σ cd cs) {s:Str} (l:List Ch) (hs:s=strOf l) (hl:l.length≤100) (hc:cs.length≤1000) :
  CallSem w Z9 os 3 (.ref 750) [.ref cd,vs s] σ (fun r σ'=>r=.none∧zc σ' cd (cs++l)∧Mod1 cd σ σ') R:=by
 subst hs
 refine yp X F (by decide) ?_
 unfold rM
 walk_at "m"
 refine q8 rfl C ?_
 walk_at "m"
 refine g_comp_s (by show (l.map code).toArray.size≤1000;simp;lia) (by rw[sX];exact BW σ l) ?_
 intro b hb
 have x1:=Ext.put (c:=.list (l.map fun x=>vi (code x))) hb
 have e1:=x1 _ _ C
 have eb:(σ.put b (.list (l.map fun x=>vi (code x)))) b=some (.list (l.map fun x=>vi (code x))):=aa
 have hne:cd≠b:=cJ C hb
 generalize σ.put b (.list (l.map fun x=>vi (code x)))=σ1 at x1 e1 eb ⊢
 walk_at "m"
 refine m_extend hne e1 eb (by rw[List.length_map,List.length_map];show _≤2 ^ 20;lia) ?_
 walk_at "m"
 refine⟨rfl,?_,(Mod1.ext x1).put⟩
 rw[← List.map_append];exact aa
end
noncomputable def bT (i:Nat):List Ch:=([[],[.lp],[.rp,.a],[.dq],[.hs,.br]]:List (List Ch)).getD i []
noncomputable def cL (i:Nat):List Ch:=([[],[.lp],[.a,.rp],[.dq],[.sc],[.hs,.br,.lp,.br,.hs]]:List (List Ch)).getD i []
inductive Sep where
 |no
 |line (i:Nat)
 |blk (i:Nat) (t:Bool)
 |sp
 |nl
 |sps
noncomputable def aj:Sep→List Ch
 |.no=>[]
 |.line i=>[.sc]++bT i++[.nl]
 |.blk i t=>[.sp,.hs,.br]++cL i++[.br,.hs]++(if t then [.sp] else [])
 |.sp=>[.sp]
 |.nl=>[.nl]
 |.sps=>[.sp,.sp]
noncomputable def aG (i:Nat):List Ch:=([[.a],[.b],[.mi],[.bs,.lp]]:List (List Ch)).getD i [.a]
noncomputable def bM (i:Nat):List Ch:=([[.a],[.lp],[.rp],[.sc],[.bs,.dq],[.bs,.bs],[.hs,.br]]:List (List Ch)).getD i [.a]
noncomputable def aO (i:Nat):List Ch:=([[],[],[],[.qt],[.bq],[.cm],[.cm,.am],[.hs,.qt]]:List (List Ch)).getD i []
inductive su where
 |word (ps:List Nat)
 |str (ss:List Nat)
noncomputable def aR:su→List Ch
 |.word ps=>ps.flatMap aG
 |.str ss=>[.dq]++ss.flatMap bM++[.dq]
mutual
inductive It where
 |atom (px:Nat) (a:su)
 |lst (px:Nat) (rd:Bool) (its:Lv) (last:Sep)
inductive Lv where
 |nil
 |cons (s:Sep) (i:It) (l:Lv)
end
theorem fH (a b:List Ch):strOf a++strOf b=strOf (a++b):=by
 unfold strOf
 show (⟨_++_⟩:Str)=_
 simp
theorem fG (l:List Ch):(strOf l).length=l.length:=by
 show ((l.map code).toArray).size=_
 simp
theorem xY (i:Nat):(bT i).length≤2:=by
 unfold bT
 match i with
 |0=>decide
 |1=>decide
 |2=>decide
 |3=>decide
 |4=>decide
 |n+5=>exact Nat.zero_le _
theorem zu (i:Nat):(cL i).length≤5:=by
 unfold cL
 match i with
 |0=>decide
 |1=>decide
 |2=>decide
 |3=>decide
 |4=>decide
 |5=>decide
 |n+6=>exact Nat.zero_le _
theorem jD (s:Sep):(aj s).length≤11:=by
 cases s with
 |line i=>have:=xY i;simp[aj];lia
 |blk i t=>have:=zu i;cases t<;>simp[aj]<;>lia
 |_=>decide
noncomputable abbrev Mod3 (dk dl cd:Addr) (σ σ':Hp):Prop:=Mod (fun x=>x=dk∨x=dl∨x=cd) σ σ'
structure GenAt (σ:Hp) (dk dl cd:Addr) (cs:List Ch):Prop where
 D:Dk σ dk dl
 C:zc σ cd cs
 n1:dk≠cd
 n2:dl≠cd
section
variable {K:Frag} {w:World} {Z9:Heap} {os:OsState} {R:Value→Hp→Prop} {σ:Hp} {dk dl cd:Addr} {cs:List Ch}
theorem GenAt.ext {σ':Hp} (g:GenAt σ dk dl cd cs) (x:Ext σ σ'):GenAt σ' dk dl cd cs:=⟨g.D.ext x,x _ _ g.C,g.n1,g.n2⟩
theorem dF (X:Bs K Z9) (F:bc K) (g:GenAt σ dk dl cd cs) {n:Nat} {k:List Value→Hp→Prop} {many:Int} (hm:0 < many) (hm2:many < 2 ^ 29) (hn:3≤n) (h:∀ (x:Int) σ',0≤x→x < many→GenAt σ' dk dl cd cs→Mod3 dk dl cd σ σ'→k [vi x] σ') :
  iD w Z9 os n R (.ref 740) [.ref dk,vi many] σ k :=
 aF (zbg X F g.D hm hm2) hn fun r σ' q9=>by
  revert q9;refine iJ fun z2 h4 h5=>?_;obtain⟨x,h1,h2,h3⟩:=z2
  subst h1
  exact h x σ' h2 h3 ⟨h4,h5 _ _ (fun q=>q.elim (fun q=>g.n1 q.symm) fun q=>g.n2 q.symm) g.C,g.n1,g.n2⟩ (h5.wide fun a q=>q.elim .inl fun q=>.inr (.inl q))
theorem oG (X:Bs K Z9) (F:bc K) (g:GenAt σ dk dl cd cs) {n:Nat} {k:List Value→Hp→Prop} {s:Str} (l:List Ch) (hs:s=strOf l) (hl:l.length≤100) (hc:cs.length≤1000) (hn:3≤n) (h:∀ σ',GenAt σ' dk dl cd (cs++l)→Mod3 dk dl cd σ σ'→k [.none] σ') :
  iD w Z9 os n R (.ref 750) [.ref cd,vs s] σ k :=
 aF (zeN X F g.C l hs hl hc) hn fun r σ' q9=>by
  refine iJ (fun h1 h2 h3=>?_) q9
  subst h1
  exact h σ' ⟨g.D.mod h3 g.n1 g.n2,h2,g.n1,g.n2⟩ (h3.wide fun a q=>.inr (.inr q))
theorem pC (g:GenAt σ dk dl cd cs) {L:List Value} {k:Addr→Hp→Prop} (h:∀ b σ',Ext σ σ'→σ' b=some (.list L)→GenAt σ' dk dl cd cs→¬ (b=dk∨b=dl∨b=cd)→k b σ'):bf σ (.list L) k:=fun b hb=>by
 refine h b _ (Ext.put hb) aa (g.ext (Ext.put hb)) ?_
 obtain⟨⟨_,xs,m,k,e1,e2⟩,e3,_,_⟩:=g
 rintro(q|q|q)<;>rw[q] at hb
 ·rw[e1] at hb;cases hb
 ·rw[e2] at hb;cases hb
 ·rw[e3] at hb;cases hb
theorem zdU {x:Int} (h0:0≤x) (h1:x < 5):∃ i,itemAt [vs "",vs "(",vs ")a",vs "\"",vs "#|"] x=some (vs (strOf (bT i))):=by
 have:x=0∨x=1∨x=2∨x=3∨x=4:=by lia
 rcases this with rfl|rfl|rfl|rfl|rfl
 ·exact⟨0,rfl⟩
 ·exact⟨1,rfl⟩
 ·exact⟨2,rfl⟩
 ·exact⟨3,rfl⟩
 ·exact⟨4,rfl⟩
theorem zfn {x:Int} (h0:0≤x) (h1:x < 6):∃ i,itemAt [vs "",vs "(",vs "a)",vs "\"",vs ";",vs "#|(|#"] x=some (vs (strOf (cL i))):=by
 have:x=0∨x=1∨x=2∨x=3∨x=4∨x=5:=by lia
 rcases this with rfl|rfl|rfl|rfl|rfl|rfl
 ·exact⟨0,rfl⟩
 ·exact⟨1,rfl⟩
 ·exact⟨2,rfl⟩
 ·exact⟨3,rfl⟩
 ·exact⟨4,rfl⟩
 ·exact⟨5,rfl⟩
theorem zf8 {x:Int} (h0:0≤x) (h1:x < 3):∃ s:Sep,s≠.no∧itemAt [vs " ",vs "\n",vs "  "] x=some (vs (strOf (aj s))):=by
 have:x=0∨x=1∨x=2:=by lia
 rcases this with rfl|rfl|rfl
 ·exact⟨.sp,(by intro q;cases q),rfl⟩
 ·exact⟨.nl,(by intro q;cases q),rfl⟩
 ·exact⟨.sps,(by intro q;cases q),rfl⟩
theorem wY (X:Bs K Z9) (F:bc K) (g:GenAt σ dk dl cd cs) {nd:Bool} (hc:cs.length≤900) :
  CallSem w Z9 os 5 (.ref 757) [.ref dk,.ref cd,.bool nd] σ (fun r σ'=>r=.none∧∃ s:Sep,(nd=true→s≠.no)∧GenAt σ' dk dl cd (cs++aj s)∧Mod3 dk dl cd σ σ') R:=by
 refine sH X F (by decide) ?_
 unfold je
 walk_at "m"
 refine dF X F g (by decide) (by decide) (by decide) fun x σ1 h0 h1 g1 m1=>?_
 walk_at "m"
 have blank:∀ x:Int,x≠1→x≠2→ex w Z9 os 4 R (.seq (.ite (.cmp .Eq (.loc 3) (.cst (.int 1 0))) (.seq (.exp (.call (.gv 69 (.ref 750)) (.cons (.loc 1) (.cons (.bin .Add (.bin .Add (.cst (.str ";" 0)) (.idx (.lst (.cons (.cst (.str "" 0)) (.cons (.cst (.str "(" 0)) (.cons (.cst (.str ")a" 0)) (.cons (.cst (.str "\"" 0)) (.cons (.cst (.str "#|" 0)) .nil)))))) (.call (.gv 67 (.ref 740)) (.cons (.loc 0) (.cons (.cst (.int 5 0)) .nil))))) (.cst (.str "\n" 0))) .nil)))) .nil) (.seq (.ite (.cmp .Eq (.loc 3) (.cst (.int 2 0))) (.seq (.asg 4 (.idx (.lst (.cons (.cst (.str "" 0)) (.cons (.cst (.str "(" 0)) (.cons (.cst (.str "a)" 0)) (.cons (.cst (.str "\"" 0)) (.cons (.cst (.str ";" 0)) (.cons (.cst (.str "#|(|#" 0)) .nil))))))) (.call (.gv 67 (.ref 740)) (.cons (.loc 0) (.cons (.cst (.int 6 0)) .nil))))) (.seq (.exp (.call (.gv 69 (.ref 750)) (.cons (.loc 1) (.cons (.bin .Add (.bin .Add (.bin .Add (.cst (.str " #|" 0)) (.loc 4)) (.cst (.str "|#" 0))) (.bin .Mult (.cst (.str " " 0)) (.call (.gv 67 (.ref 740)) (.cons (.loc 0) (.cons (.cst (.int 2 0)) .nil))))) .nil)))) .nil)) (.seq (.exp (.call (.gv 69 (.ref 750)) (.cons (.loc 1) (.cons (.idx (.lst (.cons (.cst (.str " " 0)) (.cons (.cst (.str "\n" 0)) (.cons (.cst (.str "  " 0)) .nil)))) (.call (.gv 67 (.ref 740)) (.cons (.loc 0) (.cons (.cst (.int 3 0)) .nil)))) .nil)))) .nil)) .nil)) .nil)
   [some (.ref dk),some (.ref cd),some (.bool nd),some (vi x),none] σ1 (j0 fun r σ'=>r=.none∧∃ s:Sep,(nd=true→s≠.no)∧GenAt σ' dk dl cd (cs++aj s)∧Mod3 dk dl cd σ σ'):=by
  intro x q1 q2
  walk_at "m"
  rw[decide_eq_false q1]
  walk_at "m"
  rw[decide_eq_false q2]
  walk_at "m"
  refine pC g1 fun b σ2 xb eb gb nb=>?_
  walk_at "m"
  refine dF X F gb (by decide) (by decide) (by decide) fun y σ3 k0 k1 g3 m3=>?_
  refine aV (fun s hs hi=>?_) (zf8 k0 k1)
  walk_at "m"
  refine i_list (m3 _ _ nb eb) hi ?_
  walk_at "m"
  refine oG X F g3 (aj s) rfl (by have:=jD s;lia) (by lia) (by decide) fun σ4 g4 m4=>?_
  walk_at "m"
  exact⟨rfl,s,fun _=>hs,g4,((m1.trans' (Mod.ext' xb)).trans' m3).trans' m4⟩
 have hx:x=0∨x=1∨x=2∨(x≠0∧x≠1∧x≠2):=by lia
 rcases hx with rfl|rfl|rfl|⟨q0,q1,q2⟩
 ·refine bF ?_
  walk_at "m"
  cases nd with
  |false =>
   refine nZ ?_
   walk_at "m"
   exact⟨rfl,.no,(by intro q;cases q),by simpa [aj] using g1,m1⟩
  |true =>
   refine dK ?_
   walk_at "m step"
   walk_at "m step"
   exact blank 0 (by decide) (by decide)
 ·refine bD ?_
  walk_at "m"
  refine bF ?_
  walk_at "m"
  refine pC g1 fun b σ2 xb eb gb nb=>?_
  walk_at "m"
  refine dF X F gb (by decide) (by decide) (by decide) fun y σ3 k0 k1 g3 m3=>?_
  obtain⟨i,hi⟩:=zdU k0 k1
  walk_at "m"
  refine i_list (m3 _ _ nb eb) hi ?_
  walk_at "m"
  have li:=xY i
  refine cC (by rw[fG];show 1+_≤1000;lia) ?_
  walk_at "m"
  refine cC (by
   show (strOf [.sc]++strOf (bT i)).length+1≤1000
   rw[fH,fG];simp;lia) ?_
  walk_at "m"
  refine oG X F g3 (aj (.line i)) (by
   show strOf [.sc]++strOf (bT i)++strOf [.nl]=_
   rw[fH,fH];rfl) (by have:=jD (.line i);lia) (by lia) (by decide) fun σ4 g4 m4=>?_
  walk_at "m"
  exact⟨rfl,.line i,fun _=>(by intro q;cases q),g4,((m1.trans' (Mod.ext' xb)).trans' m3).trans' m4⟩
 ·refine bD ?_
  walk_at "m"
  refine bD ?_
  walk_at "m"
  refine bF ?_
  walk_at "m"
  refine pC g1 fun b σ2 xb eb gb nb=>?_
  walk_at "m"
  refine dF X F gb (by decide) (by decide) (by decide) fun y σ3 k0 k1 g3 m3=>?_
  obtain⟨i,hi⟩:=zfn k0 k1
  walk_at "m"
  refine i_list (m3 _ _ nb eb) hi ?_
  walk_at "m"
  have li:=zu i
  refine cC (by rw[fG];show 3+_≤1000;lia) ?_
  walk_at "m"
  refine cC (by
   show (strOf [.sp,.hs,.br]++strOf (cL i)).length+2≤1000
   rw[fH,fG];simp;lia) ?_
  walk_at "m"
  refine dF X F g3 (by decide) (by decide) (by decide) fun z σ4 z0 z1 g4 m4=>?_
  walk_at "m"
  refine qg ⟨z0,by lia,by decide⟩ ?_
  walk_at "m"
  have hz:∃ t:Bool,kE " " z.toNat=strOf (if t then [.sp] else []):=by
   have:z=0∨z=1:=by lia
   rcases this with rfl|rfl
   ·exact⟨false,rfl⟩
   ·exact⟨true,rfl⟩
  obtain⟨t,ht⟩:=hz
  rw[ht]
  have e:(" #|":Str)++strOf (cL i)++("|#":Str)=strOf ([.sp,.hs,.br]++cL i++[.br,.hs]):=by
   show strOf [.sp,.hs,.br]++strOf (cL i)++strOf [.br,.hs]=_
   rw[fH,fH]
  rw[e]
  refine cC (by rw[fG,fG];cases t<;>simp<;>lia) ?_
  walk_at "m"
  refine oG X F g4 (aj (.blk i t)) (by rw[fH];rfl) (by have:=jD (.blk i t);lia) (by lia) (by decide) fun σ5 g5 m5=>?_
  walk_at "m"
  exact⟨rfl,.blk i t,fun _=>(by intro q;cases q),g5,(((m1.trans' (Mod.ext' xb)).trans' m3).trans' m4).trans' m5⟩
 ·rw[decide_eq_false q0]
  walk_at "m step"
  walk_at "m step"
  walk_at "m step"
  walk_at "m step"
  walk_at "m step"
  exact blank x q1 q2
theorem ze5 {x:Int} (h0:0≤x) (h1:x < 4):∃ i,itemAt [vs "a",vs "b",vs "-",vs "\\("] x=some (vs (strOf (aG i))):=by
 have:x=0∨x=1∨x=2∨x=3:=by lia
 rcases this with rfl|rfl|rfl|rfl
 ·exact⟨0,rfl⟩
 ·exact⟨1,rfl⟩
 ·exact⟨2,rfl⟩
 ·exact⟨3,rfl⟩
theorem zg3 {x:Int} (h0:0≤x) (h1:x < 7):∃ i,itemAt [vs "a",vs "(",vs ")",vs ";",vs "\\\"",vs "\\\\",vs "#|"] x=some (vs (strOf (bM i))):=by
 have:x=0∨x=1∨x=2∨x=3∨x=4∨x=5∨x=6:=by lia
 rcases this with rfl|rfl|rfl|rfl|rfl|rfl|rfl
 ·exact⟨0,rfl⟩
 ·exact⟨1,rfl⟩
 ·exact⟨2,rfl⟩
 ·exact⟨3,rfl⟩
 ·exact⟨4,rfl⟩
 ·exact⟨5,rfl⟩
 ·exact⟨6,rfl⟩
theorem rZ (i:Nat):(aG i).length≤2:=by
 unfold aG
 match i with
 |0=>decide
 |1=>decide
 |2=>decide
 |3=>decide
 |n+4=>exact Nat.le_succ 1
theorem qO (i:Nat):(bM i).length≤2:=by
 unfold bM
 match i with
 |0=>decide
 |1=>decide
 |2=>decide
 |3=>decide
 |4=>decide
 |5=>decide
 |6=>decide
 |n+7=>exact Nat.le_succ 1
theorem jA {f:Nat→List Ch} (h:∀ i,(f i).length≤2):∀ ps:List Nat,(ps.flatMap f).length≤2 * ps.length
 |[]=>Nat.le_refl _
 |p::ps=>by
  have:=jA h ps
  have:=h p
  rw[List.flatMap_cons,List.length_append,List.length_cons];lia
noncomputable def Xv:su→Value
 |.word _=>vs "word"
 |.str _=>vs "string"
noncomputable def yP:su→Prop
 |.word ps=>ps≠[]∧ps.length≤3
 |.str ss=>ss.length≤3
theorem GC {a:su} (h:yP a):(aR a).length≤8:=by
 cases a with
 |word ps=>have:=jA rZ ps;have:=h.2;show (ps.flatMap aG).length≤8;lia
 |str ss=>have:=jA qO ss;have:ss.length≤3:=h;simp only[aR,List.length_append,List.length_cons,List.length_nil];lia
theorem zcI (X:Bs K Z9) (F:bc K) (g:GenAt σ dk dl cd cs) (hc:cs.length≤900) :
  CallSem w Z9 os 5 (.ref 764) [.ref dk,.ref cd] σ (fun r σ'=>∃ a:su,yP a∧r=Xv a∧GenAt σ' dk dl cd (cs++aR a)∧Mod3 dk dl cd σ σ') R:=by
 refine wC X F (by decide) ?_
 unfold pg
 walk_at "m"
 refine dF X F g (by decide) (by decide) (by decide) fun x σ1 h0 h1 g1 m1=>?_
 walk_at "m"
 refine cO (fun qx=>?_) fun qx=>?_
 ·walk_at "m"
  refine dF X F g1 (by decide) (by decide) (by decide) fun y σ2 k0 k1 g2 m2=>?_
  walk_at "m"
  refine g_forR (fun m ρ σ'=>∃ u ps,ρ=[some (.ref dk),some (.ref cd),u]∧ps.length=m∧GenAt σ' dk dl cd (cs++ps.flatMap aG)∧Mod3 dk dl cd σ σ') ⟨by lia,by lia⟩ ⟨none,[],rfl,rfl,by simpa using g2,m1.trans' m2⟩ ?_ ?_
  ·refine fun ρ σ'=>bR fun u ps z3 hl g3 m3=>?_;subst z3
   walk_at "m"
   exact⟨.word ps,⟨(by rintro rfl;simp at hl;lia),by lia⟩,rfl,g3,m3⟩
  ·refine fun m ρ σ' hm=>bR fun u ps z4 hl g3 m3=>?_;subst z4
   walk_at "m"
   refine pC g3 fun b σ4 xb eb gb nb=>?_
   walk_at "m"
   refine dF X F gb (by decide) (by decide) (by decide) fun z σ5 z0 z1 g5 m5=>?_
   obtain⟨i,hi⟩:=ze5 z0 z1
   walk_at "m"
   refine i_list (m5 _ _ nb eb) hi ?_
   walk_at "m"
   have:=jA rZ ps
   refine oG X F g5 (aG i) rfl (by have:=rZ i;lia) (by rw[List.length_append];lia) (by decide) fun σ6 g6 m6=>?_
   walk_at "m"
   refine lR ⟨_,ps++[i],rfl,by simp[hl],?_,((m3.trans' (Mod.ext' xb)).trans' m5).trans' m6⟩
   rw[List.flatMap_append,List.flatMap_singleton,← List.append_assoc];exact g6
 ·walk_at "m"
  refine oG X F g1 [.dq] rfl (by decide) (by lia) (by decide) fun σ2 g2 m2=>?_
  walk_at "m"
  refine dF X F g2 (by decide) (by decide) (by decide) fun y σ3 k0 k1 g3 m3=>?_
  walk_at "m"
  refine g_forR (fun m ρ σ'=>∃ u ss,ρ=[some (.ref dk),some (.ref cd),u]∧ss.length=m∧GenAt σ' dk dl cd (cs++[.dq]++ss.flatMap bM)∧Mod3 dk dl cd σ σ') ⟨by lia,by lia⟩ ⟨none,[],rfl,rfl,by simpa using g3,(m1.trans' m2).trans' m3⟩ ?_ ?_
  ·refine fun ρ σ'=>bR fun u ss z5 hl g4 m4=>?_;subst z5
   walk_at "m"
   have:=jA qO ss
   refine oG X F g4 [.dq] rfl (by decide) (by simp only[List.length_append,List.length_cons,List.length_nil];lia) (by decide) fun σ5 g5 m5=>?_
   walk_at "m"
   refine⟨.str ss,by show ss.length≤3;lia,rfl,?_,m4.trans' m5⟩
   simpa [aR,List.append_assoc] using g5
  ·refine fun m ρ σ' hm=>bR fun u ss z6 hl g4 m4=>?_;subst z6
   walk_at "m"
   refine pC g4 fun b σ5 xb eb gb nb=>?_
   walk_at "m"
   refine dF X F gb (by decide) (by decide) (by decide) fun z σ6 z0 z1 g6 m6=>?_
   obtain⟨i,hi⟩:=zg3 z0 z1
   walk_at "m"
   refine i_list (m6 _ _ nb eb) hi ?_
   walk_at "m"
   have:=jA qO ss
   refine oG X F g6 (bM i) rfl (by have:=qO i;lia) (by simp only[List.length_append,List.length_cons,List.length_nil];lia) (by decide) fun σ7 g7 m7=>?_
   walk_at "m"
   refine lR ⟨_,ss++[i],rfl,by simp[hl],?_,((m4.trans' (Mod.ext' xb)).trans' m6).trans' m7⟩
   rw[List.flatMap_append,List.flatMap_singleton,← List.append_assoc];exact g7
end
noncomputable def wk (rd:Bool):Ch:=if rd then .lp else .lb
noncomputable def pI (rd:Bool):Ch:=if rd then .rp else .rb
mutual
noncomputable def aD:It→List Ch
 |.atom px a=>aO px++aR a
 |.lst px rd its last=>aO px++([wk rd]++(aA its++(aj last++[pI rd])))
noncomputable def aA:Lv→List Ch
 |.nil=>[]
 |.cons s i l=>aj s++(aD i++aA l)
end
noncomputable def Ce:It→Nat
 |.atom px _=>px
 |.lst px _ _ _=>px
noncomputable def pl (i:It):Int:=((aO (Ce i)).length:Int)
inductive Bk where
 |none
 |word
 |other
 deriving DecidableEq
noncomputable def kindOf:It→Bk
 |.atom _ (.word _)=>.word
 |_=>.other
noncomputable def tD:It→Bool
 |.lst ..=>true
 |_=>false
noncomputable def qG (b:Bk) (i:It):Prop:=b=.word∨(b≠.none∧(aO (Ce i)≠[]∨tD i=false))
mutual
noncomputable def vR:It→Prop
 |.atom _ a=>yP a
 |.lst _ _ its _=>tQ .none its
noncomputable def tQ:Bk→Lv→Prop
 |_,.nil=>True
 |b,.cons s i l=>(qG b i→s≠.no)∧vR i∧tQ (kindOf i) l
end
mutual
noncomputable def ItAt (σb σ:Hp):It→Int→List Int→Addr→Prop
 |.atom px a,p,ar,q=>∃ ra,σ q=some (.tup [vi p,vi (p+(aO px).length),vi (p+(aD (.atom px a)).length),.none,.ref ra])∧σ ra=some (.tup (ar.map vi))
 |.lst px rd its last,p,ar,q=>∃ ra li rs,σ q=some (.tup [vi p,vi (p+(aO px).length),vi (p+(aD (.lst px rd its last)).length),.ref li,.ref ra])∧σ ra=some (.tup (ar.map vi))∧σb li=none∧σ li=some (.list rs) ∧
   LvAt σb σ its (p+(aO px).length+1) (ar++[p+(aO px).length]) rs
noncomputable def LvAt (σb σ:Hp):Lv→Int→List Int→List Value→Prop
 |.nil,_,_,rs=>rs=[]
 |.cons s i l,p,ar,rs=>∃ q rs',rs=.ref q::rs'∧ItAt σb σ i (p+(aj s).length) ar q∧LvAt σb σ l (p+(aj s).length+(aD i).length) ar rs'
end
structure Fr0 (σb:Hp) (P:Addr→Prop) (σ σ':Hp):Prop where
 m:Mod P σ σ'
 old:∀ x,P x→∃ l,σb x=some (.list l)
 now:∀ x,P x→∃ l,σ x=some (.list l)
theorem Fr0.tup {σb σ σ':Hp} {P:Addr→Prop} (f:Fr0 σb P σ σ') {a:Addr} {xs:List Value} (h:σ a=some (.tup xs)):σ' a=some (.tup xs) :=
 f.m a _ (fun q=>by obtain⟨l,e⟩:=f.now a q;rw[h] at e;cases e) h
theorem Fr0.new {σb σ σ':Hp} {P:Addr→Prop} (f:Fr0 σb P σ σ') {a:Addr} {xs:List Value} (hn:σb a=none) (h:σ a=some (.list xs)):σ' a=some (.list xs) :=
 f.m a _ (fun q=>by obtain⟨l,e⟩:=f.old a q;rw[hn] at e;cases e) h
mutual
theorem ItAt.keep {σb σ σ':Hp} {P:Addr→Prop} (f:Fr0 σb P σ σ'):∀ {i:It} {p:Int} {ar:List Int} {q:Addr},ItAt σb σ i p ar q→ItAt σb σ' i p ar q
 |.atom px a,p,ar,q,h=>by
  refine aV (fun ra h1 h2=>?_) h
  exact⟨ra,f.tup h1,f.tup h2⟩
 |.lst px rd its last,p,ar,q,h=>by
  refine bY (fun ra li rs h1 h2 h3 h4 h5=>?_) h
  exact⟨ra,li,rs,f.tup h1,f.tup h2,h3,f.new h3 h4,LvAt.keep f h5⟩
theorem LvAt.keep {σb σ σ':Hp} {P:Addr→Prop} (f:Fr0 σb P σ σ'):∀ {l:Lv} {p:Int} {ar:List Int} {rs:List Value},LvAt σb σ l p ar rs→LvAt σb σ' l p ar rs
 |.nil,p,ar,rs,h=>h
 |.cons s i l,p,ar,rs,h=>by
  refine aC (fun q rs' h1 h2 h3=>?_) h
  exact⟨q,rs',h1,ItAt.keep f h2,LvAt.keep f h3⟩
end
mutual
theorem ItAt.base {σb σc σ:Hp} (g:∀ x,σb x=none→σc x=none):∀ {i:It} {p:Int} {ar:List Int} {q:Addr},ItAt σb σ i p ar q→ItAt σc σ i p ar q
 |.atom px a,p,ar,q,h=>h
 |.lst px rd its last,p,ar,q,h=>by
  refine bY (fun ra li rs h1 h2 h3 h4 h5=>?_) h
  exact⟨ra,li,rs,h1,h2,g _ h3,h4,LvAt.base g h5⟩
theorem LvAt.base {σb σc σ:Hp} (g:∀ x,σb x=none→σc x=none):∀ {l:Lv} {p:Int} {ar:List Int} {rs:List Value},LvAt σb σ l p ar rs→LvAt σc σ l p ar rs
 |.nil,p,ar,rs,h=>h
 |.cons s i l,p,ar,rs,h=>by
  refine aC (fun q rs' h1 h2 h3=>?_) h
  exact⟨q,rs',h1,ItAt.base g h2,LvAt.base g h3⟩
end
noncomputable def Lv.snoc:Lv→Sep→It→Lv
 |.nil,s,i=>.cons s i .nil
 |.cons s' i' l,s,i=>.cons s' i' (l.snoc s i)
theorem qT:∀ (l:Lv) (s:Sep) (i:It),aA (l.snoc s i)=aA l++(aj s++aD i)
 |.nil,s,i=>by simp[Lv.snoc,aA]
 |.cons s' i' l,s,i=>by simp[Lv.snoc,aA,qT l s i,List.append_assoc]
theorem LvAt.snoc {σb σ:Hp}:∀ {l:Lv} {p:Int} {ar:List Int} {rs:List Value} {s:Sep} {i:It} {q:Addr},LvAt σb σ l p ar rs→ItAt σb σ i (p+(aA l).length+(aj s).length) ar q→LvAt σb σ (l.snoc s i) p ar (rs++[.ref q])
 |.nil,p,ar,rs,s,i,q,h,hi=>by
  have h:rs=[]:=h
  subst h
  refine⟨q,[],rfl,?_,rfl⟩
  have:p+(aj s).length=p+((aA .nil).length:Int)+(aj s).length:=by simp[aA]
  rw[this];exact hi
 |.cons s' i' l,p,ar,rs,s,i,q,h,hi=>by
  refine aC (fun q' rs' h1 h2 h3=>?_) h
  subst h1
  refine⟨q',rs'++[.ref q],rfl,h2,LvAt.snoc h3 ?_⟩
  have:p+(aj s').length+(aD i').length+(aA l).length+(aj s).length=p+((aA (.cons s' i' l)).length:Int)+(aj s).length:=by
   simp only[aA,List.length_append];lia
  rw[this];exact hi
noncomputable def Iw:Bk→Lv→Bk
 |b,.nil=>b
 |_,.cons _ i l=>Iw (kindOf i) l
theorem xf:∀ {l:Lv} {b:Bk} {s:Sep} {i:It},tQ b l→(qG (Iw b l) i→s≠.no)→vR i→tQ b (l.snoc s i)
 |.nil,b,s,i,_,h1,h2=>⟨h1,h2,trivial⟩
 |.cons s' i' l,b,s,i,h,h1,h2=>⟨h.1,h.2.1,xf h.2.2 h1 h2⟩
theorem uN:∀ {l:Lv} {b:Bk} {s:Sep} {i:It},Iw b (l.snoc s i)=kindOf i
 |.nil,_,_,_=>rfl
 |.cons _ i' l,_,s,i=>uN (l:=l) (b:=kindOf i')
noncomputable def R6:It→Nat
 |.atom _ _=>0
 |.lst _ _ its _=>1+depthLv its
where depthLv:Lv→Nat
 |.nil=>0
 |.cons _ i l=>max (R6 i) (depthLv l)
noncomputable def BkV (v:Value):Bk→Prop
 |.none=>v=vs ""
 |.word=>v=vs "word"
 |.other=>v=vs "string"∨v=vs "list"
theorem S9 (i:Nat):(aO i).length≤2:=by
 unfold aO
 match i with
 |0=>decide
 |1=>decide
 |2=>decide
 |3=>decide
 |4=>decide
 |5=>decide
 |6=>decide
 |7=>decide
 |n+8=>exact Nat.zero_le _
noncomputable def Grow (σ σ':Hp):Prop:=∀ x,σ' x=none→σ x=none
theorem Grow.refl {σ:Hp}:Grow σ σ:=fun _ e=>e
theorem Grow.trans {a b c:Hp} (x:Grow a b) (y:Grow b c):Grow a c:=fun z e=>x z (y z e)
theorem Grow.ext {σ σ':Hp} (x:Ext σ σ'):Grow σ σ':=fun z e=>by
 cases q:σ z with
 |none=>rfl
 |some c=>rw[x z c q] at e;cases e
theorem Grow.mod {σ σ':Hp} {P:Addr→Prop} (m:Mod P σ σ') (h:∀ x,P x→∃ c,σ' x=some c):Grow σ σ':=fun z e=>by
 cases q:σ z with
 |none=>rfl
 |some c =>
  by_cases hp:P z
  ·obtain⟨d,hd⟩:=h z hp;rw[hd] at e;cases e
  ·rw[m z c hp q] at e;cases e
structure QA (σ:Hp) (dk dl cd lf:Addr) (cs:List Ch) (left:Nat):Prop where
 g:GenAt σ dk dl cd cs
 l:σ lf=some (.list [vi left])
 n1:lf≠dk
 n2:lf≠dl
 n3:lf≠cd
noncomputable abbrev P4 (dk dl cd lf:Addr):Addr→Prop:=fun x=>x=dk∨x=dl∨x=cd∨x=lf
noncomputable abbrev P5 (dk dl cd lf it:Addr):Addr→Prop:=fun x=>x=dk∨x=dl∨x=cd∨x=lf∨x=it
section
variable {σ σ':Hp} {dk dl cd lf it:Addr} {cs cs':List Ch} {left:Nat}
theorem QA.ext (q:QA σ dk dl cd lf cs left) (x:Ext σ σ'):QA σ' dk dl cd lf cs left:=⟨q.g.ext x,x _ _ q.l,q.n1,q.n2,q.n3⟩
theorem QA.mod3 (q:QA σ dk dl cd lf cs left) (g:GenAt σ' dk dl cd cs') (m:Mod3 dk dl cd σ σ'):QA σ' dk dl cd lf cs' left :=
 ⟨g,m _ _ (by rintro(z|z|z);exact q.n1 z;exact q.n2 z;exact q.n3 z) q.l,q.n1,q.n2,q.n3⟩
theorem QA.lists (q:QA σ dk dl cd lf cs left):∀ x,P4 dk dl cd lf x→∃ l,σ x=some (.list l):=by
 obtain⟨⟨⟨_,xs,m,k,e1,e2⟩,e3,_,_⟩,e4,_⟩:=q
 rintro x (rfl|rfl|rfl|rfl)
 ·exact⟨_,e1⟩
 ·exact⟨_,e2⟩
 ·exact⟨_,e3⟩
 ·exact⟨_,e4⟩
theorem QA.lists5 (q:QA σ dk dl cd lf cs left) {rs:List Value} (hi:σ it=some (.list rs)):∀ x,P5 dk dl cd lf it x→∃ l,σ x=some (.list l):=by
 rintro x (h|h|h|h|rfl)
 ·exact q.lists x (.inl h)
 ·exact q.lists x (.inr (.inl h))
 ·exact q.lists x (.inr (.inr (.inl h)))
 ·exact q.lists x (.inr (.inr (.inr h)))
 ·exact⟨_,hi⟩
theorem Mod3.p5 (m:Mod3 dk dl cd σ σ'):Mod (P5 dk dl cd lf it) σ σ':=m.wide fun a q=>by
 rcases q with q|q|q
 ·exact .inl q
 ·exact .inr (.inl q)
 ·exact .inr (.inr (.inl q))
theorem Mod3.p4 (m:Mod3 dk dl cd σ σ'):Mod (P4 dk dl cd lf) σ σ':=m.wide fun a q=>by
 rcases q with q|q|q
 ·exact .inl q
 ·exact .inr (.inl q)
 ·exact .inr (.inr (.inl q))
end
inductive zd5 (σ:Hp) (dk dl cd lf it:Addr) (cs:List Ch) (left:Nat) (ar:List Int) (rs:List Value) (bk:Bk):Value→Hp→Prop
 |mk (s:Sep) (i:It) (q:Addr) (left':Nat) (r:Value) (τ:Hp) (b1:BkV r (kindOf i)) (b2:vR i) (b3:qG bk i→s≠.no) (b4:QA τ dk dl cd lf (cs++(aj s++aD i)) left') (b5:left'≤left) (b6:(cs++(aj s++aD i)).length+26 * left'≤cs.length+26 * (left+1))
  (b7:τ it=some (.list (rs++[.ref q]))) (b8:ItAt σ τ i (1+cs.length+(aj s).length) ar q) (b9:Mod (P5 dk dl cd lf it) σ τ):zd5 σ dk dl cd lf it cs left ar rs bk r τ
inductive LvQ (σ:Hp) (dk dl cd lf:Addr) (cs:List Ch) (left:Nat) (ar:List Int):Value→Hp→Prop
 |mk (its:Lv) (last:Sep) (li:Addr) (rs:List Value) (left':Nat) (τ:Hp) (b1:tQ .none its) (b2:QA τ dk dl cd lf (cs++(aA its++aj last)) left') (b3:left'≤left) (b4:(cs++(aA its++aj last)).length+26 * left'≤cs.length+26 * left+11)
  (b5:σ li=none) (b6:τ li=some (.list rs)) (b7:LvAt σ τ its (1+cs.length) ar rs) (b8:Mod (P4 dk dl cd lf) σ τ):LvQ σ dk dl cd lf cs left ar (.ref li) τ
noncomputable def zaf (w:World) (Z9:Heap) (os:OsState) (d:Nat):Prop:=∀ {R:Value→Hp→Prop} {σ:Hp} {dk dl cd lf it ra:Addr} {cs:List Ch} {left:Nat} {ar:List Int} {rs:List Value} {bv:Value} {bk:Bk},
 QA σ dk dl cd lf cs left→σ ra=some (.tup (ar.map vi))→σ it=some (.list rs)→(it≠dk∧it≠dl∧it≠cd∧it≠lf)→BkV bv bk→cs.length+26 * (left+1)≤600→ar.length+d≤50→rs.length+left≤100 →
 CallSem w Z9 os (2 * d+6) (.ref 771) [.ref dk,.ref cd,.ref ra,vi d,.ref lf,.ref it,bv] σ (zd5 σ dk dl cd lf it cs left ar rs bk) R
noncomputable def zbD (w:World) (Z9:Heap) (os:OsState) (d:Nat):Prop:=∀ {R:Value→Hp→Prop} {σ:Hp} {dk dl cd lf ra:Addr} {cs:List Ch} {left:Nat} {ar:List Int},
 QA σ dk dl cd lf cs left→σ ra=some (.tup (ar.map vi))→cs.length+26 * left≤600→ar.length+d≤50→left≤100 →
 CallSem w Z9 os (2 * d+7) (.ref 778) [.ref dk,.ref cd,.ref ra,vi d,.ref lf] σ (LvQ σ dk dl cd lf cs left ar) R
theorem p35 {dk dl cd lf it x:Addr} (h:x=dk∨x=dl∨x=cd):P5 dk dl cd lf it x:=h.elim .inl fun h=>h.elim (fun h=>.inr (.inl h)) fun h=>.inr (.inr (.inl h))
theorem p45 {dk dl cd lf it x:Addr} (h:P4 dk dl cd lf x):P5 dk dl cd lf it x:=h.elim .inl fun h=>h.elim (fun h=>.inr (.inl h)) fun h=>h.elim (fun h=>.inr (.inr (.inl h))) fun h=>.inr (.inr (.inr (.inl h)))
structure ItS (σ:Hp) (dk dl cd lf it ra:Addr) (ar:List Int) (rs:List Value) (cs:List Ch) (left:Nat) (τ:Hp):Prop where
 q:QA τ dk dl cd lf cs left
 e:τ it=some (.list rs)
 mo:Mod (P5 dk dl cd lf it) σ τ
 r:τ ra=some (.tup (ar.map vi))
section
variable {σ τ τ':Hp} {dk dl cd lf it ra:Addr} {ar:List Int} {rs:List Value} {cs cs':List Ch} {left:Nat}
theorem ItS.tupP {P:Addr→Prop} (s:ItS σ dk dl cd lf it ra ar rs cs left τ) (h:∀ x,P x→P5 dk dl cd lf it x) (m:Mod P τ τ') {a:Addr} {xs:List Value} (e:τ a=some (.tup xs)):τ' a=some (.tup xs) :=
 m _ _ (fun z=>by obtain⟨l,hl⟩:=s.q.lists5 s.e a (h a z);rw[e] at hl;cases hl) e
theorem ItS.mod3 (s:ItS σ dk dl cd lf it ra ar rs cs left τ) (ni:¬ (it=dk∨it=dl∨it=cd)) (g:GenAt τ' dk dl cd cs') (m:Mod3 dk dl cd τ τ'):ItS σ dk dl cd lf it ra ar rs cs' left τ' :=
 ⟨s.q.mod3 g m,m _ _ ni s.e,s.mo.trans' (Mod3.p5 m),s.tupP (fun _=>p35) m s.r⟩
theorem ItS.ext (s:ItS σ dk dl cd lf it ra ar rs cs left τ) (x:Ext τ τ'):ItS σ dk dl cd lf it ra ar rs cs left τ':=⟨s.q.ext x,x _ _ s.e,s.mo.trans' (Mod.ext' x),x _ _ s.r⟩
theorem ItS.fr {P:Addr→Prop} (s:ItS σ dk dl cd lf it ra ar rs cs left τ) (old:∀ x,P5 dk dl cd lf it x→∃ l,σ x=some (.list l)) (h:∀ x,P x→P5 dk dl cd lf it x) (m:Mod P τ τ'):Fr0 σ P τ τ':=⟨m,fun x q=>old x (h x q),fun x q=>s.q.lists5 s.e x (h x q)⟩
theorem ItS.grow (s:ItS σ dk dl cd lf it ra ar rs cs left τ):Grow σ τ:=Grow.mod s.mo fun x hx=>let ⟨_,h⟩:=s.q.lists5 s.e x hx;⟨_,h⟩
end
inductive LvI (σ:Hp) (dk dl cd lf li ra:Addr) (ar:List Int) (cs:List Ch) (d left m:Nat):Loc→Hp→Prop
 |mk (its:Lv) (rs:List Value) (bv:Value) (τ:Hp) (k1:tQ .none its) (k2:BkV bv (Iw .none its)) (k4:m≤left) (k5:(cs++aA its).length+26 * m≤cs.length+26 * left) (s:ItS σ dk dl cd lf li ra ar rs (cs++aA its) m τ) (lv:LvAt σ τ its (1+cs.length) ar rs) (k10:rs.length+m≤left) :
  LvI σ dk dl cd lf li ra ar cs d left m [some (.ref dk),some (.ref cd),some (.ref ra),some (vi d),some (.ref lf),some (.ref li),some bv] τ
section
variable {K:Frag} {w:World} {Z9:Heap} {os:OsState} {R:Value→Hp→Prop} {σ:Hp} {dk dl cd:Addr} {cs:List Ch}
theorem YB (v:Value) (b:Bk) (h:BkV v b) {k:Bool→Prop} {σ:Hp} (hk:k (decide (b≠.none))):fQ σ k .NotEq v (.str "" 0):=by
 cases b with
 |none=>cases h;exact qd hk
 |word=>cases h;exact qd hk
 |other=>rcases h with rfl|rfl<;>exact qd hk
theorem WL (v:Value) (b:Bk) (h:BkV v b) {k:Bool→Prop} {σ:Hp} (hk:k (decide (b=.word))):fQ σ k .Eq v (.str "word" 0):=by
 cases b with
 |none=>cases h;exact ut hk
 |word=>cases h;exact ut hk
 |other=>rcases h with rfl|rfl<;>exact ut hk
theorem zW (X:Bs K Z9) (F:bc K) {d:Nat} (IH:zaf w Z9 os d):zbD w Z9 os d:=by
 intro R σ dk dl cd lf ra cs left ar q0 hra hlen har hleft
 refine wj X F (by lia) (cps fun Q hQ=>?_)
 unfold lM
 walk_at "m"
 intro li hli
 have x0:=Ext.put (c:=.list []) hli
 have nli:∀ x,P4 dk dl cd lf x→li≠x:=fun x hx=>by
  obtain⟨l,hl⟩:=q0.lists x hx
  exact(cJ hl hli).symm
 have s1:ItS (σ.put li (.list [])) dk dl cd lf li ra ar [] cs left (σ.put li (.list [])):=⟨q0.ext x0,aa,Mod.refl',x0 _ _ hra⟩
 generalize σ.put li (.list [])=σ1 at x0 s1 ⊢
 walk_at "m"
 refine gh (fun m ρ τ=>LvI σ1 dk dl cd lf li ra ar cs d left m ρ τ) left ⟨.nil,[],vs "",_,trivial,rfl,Nat.le_refl _,by simp[aA],by simpa [aA] using s1,rfl,by simp⟩ fun m ρ τ hI=>?_
 have nli3:¬ (li=dk∨li=dl∨li=cd):=by
  rintro(z|z|z)
  ·exact nli _ (.inl rfl) z
  ·exact nli _ (.inr (.inl rfl)) z
  ·exact nli _ (.inr (.inr (.inl rfl))) z
 have old:∀ x,P5 dk dl cd lf li x→∃ l,σ1 x=some (.list l):=s1.q.lists5 s1.e
 obtain⟨its,rs,bv,τ,k1,k2,k4,k5,s2,lv,k10⟩:=hI
 have fin:∀ τ last,ItS σ1 dk dl cd lf li ra ar rs (cs++(aA its++aj last)) m τ→LvAt σ1 τ its (1+cs.length) ar rs→Q (.ref li) τ:=fun τ last s lv =>
  hQ _ _ ⟨its,last,li,rs,m,τ,k1,s.q,k4,by have:=jD last;simp only[List.length_append] at k5 ⊢;lia,hli,s.e,lv.base (Grow.ext x0),fun b c hb e=>s.mo b c (fun z=>by
   rcases z with z|z|z|z|z
   ·exact hb (.inl z)
   ·exact hb (.inr (.inl z))
   ·exact hb (.inr (.inr (.inl z)))
   ·exact hb (.inr (.inr (.inr z)))
   ·rw[z,hli] at e;cases e) (x0 b c e)⟩
 have rest:∀ τ,ItS σ1 dk dl cd lf li ra ar rs (cs++aA its) m τ→LvAt σ1 τ its (1+cs.length) ar rs →
   lE w Z9 os (2 * d+6) R (.seq (.ite (.bor (.cmp .NotEq (.loc 6) (.cst (.str "" 0))) (.cmp .Eq (.call (.gv 67 (.ref 740)) (.cons (.loc 0) (.cons (.cst (.int 2 0)) .nil))) (.cst (.int 0 0)))) (.seq (.exp (.call (.gv 70 (.ref 757)) (.cons (.loc 0) (.cons (.loc 1) (.cons (.cst (.bool false)) .nil))))) .nil) .nil) (.seq (.ret (.loc 5)) .nil))
    (j0 Q) .next [some (.ref dk),some (.ref cd),some (.ref ra),some (vi d),some (.ref lf),some (.ref li),some bv] τ:=by
  intro τ s2 lv
  have btw:∀ τ,ItS σ1 dk dl cd lf li ra ar rs (cs++aA its) m τ→LvAt σ1 τ its (1+cs.length) ar rs →
    ex w Z9 os (2 * d+6) R (.seq (.exp (.call (.gv 70 (.ref 757)) (.cons (.loc 0) (.cons (.loc 1) (.cons (.cst (.bool false)) .nil))))) .nil) [some (.ref dk),some (.ref cd),some (.ref ra),some (vi d),some (.ref lf),some (.ref li),some bv] τ
     (lE w Z9 os (2 * d+6) R (.seq (.ret (.loc 5)) .nil) (j0 Q)):=by
   intro τ s3 lv
   walk_at "m"
   refine au (wY X F s3.q.g (nd:=false) (by lia)) (by lia) ?_
   refine fun τ'=>cM fun last _ g4 m4=>?_
   walk_at "m"
   exact fin τ' last (by rw[← List.append_assoc];exact s3.mod3 nli3 g4 m4) (lv.keep (s3.fr old (fun _=>p35) m4))
  walk_at "m"
  refine YB bv _ k2 ?_
  walk_at "m"
  refine cO (fun z=>?_) fun z=>?_
  ·walk_at "m step"
   walk_at "m step"
   exact btw τ s2 lv
  ·walk_at "m"
   refine dF X F s2.q.g (by decide) (by decide) (by lia) fun x τ' h0 h1 g3 m3=>?_
   have s3:=s2.mod3 nli3 g3 m3
   have lv:=lv.keep (s2.fr old (fun _=>p35) m3)
   walk_at "m"
   refine cO (fun z=>?_) fun z=>?_
   ·exact btw τ' s3 lv
   ·walk_at "m"
    exact fin τ' .no (by simpa [aj] using s3) lv
 have e4:=s2.q.l
 walk_at "m"
 refine i_list e4 (v:=vi m) rfl ?_
 walk_at "m"
 refine cO (fun z=>?_) fun z=>?_
 ·walk_at "m"
  intro tp htp
  have xt:=Ext.put (c:=.tup []) htp
  have et:(τ.put tp (.tup [])) tp=some (.tup []):=aa
  have s5:=s2.ext xt
  have lv5:LvAt σ1 (τ.put tp (.tup [])) its (1+cs.length) ar rs:=lv.keep (s2.fr (P:=fun _=>False) old (fun _ h=>h.elim) (Mod.ext' xt))
  generalize τ.put tp (.tup [])=σ5 at et s5 lv5 ⊢
  walk_at "m"
  refine um s5.r et ⟨lX ar,rfl⟩ ?_
  have item:∀ τ,ItS σ1 dk dl cd lf li ra ar rs (cs++aA its) m τ→LvAt σ1 τ its (1+cs.length) ar rs→∀ k:Fl→Loc→Hp→Prop,(∀ ρ τ',(∃ m',m' < m∧LvI σ1 dk dl cd lf li ra ar cs d left m' ρ τ')→k .next ρ τ') →
    ex w Z9 os (2 * d+6) R (.seq (.iasg (.loc 4) (.cst (.int 0 0)) (.bin .Sub (.idx (.loc 4) (.cst (.int 0 0))) (.cst (.int 1 0)))) (.seq (.asg 6 (.call (.gv 72 (.ref 771)) (.cons (.loc 0) (.cons (.loc 1) (.cons (.loc 2) (.cons (.loc 3) (.cons (.loc 4) (.cons (.loc 5) (.cons (.loc 6) .nil))))))))) .nil))
     [some (.ref dk),some (.ref cd),some (.ref ra),some (vi d),some (.ref lf),some (.ref li),some bv] τ k:=by
   intro τ s6 lv6 k hk
   have el:=s6.q.l
   walk_at "m"
   refine i_list el (v:=vi m) rfl ?_
   walk_at "m"
   refine g_iasg_l el ⟨by decide,by show 0 < 1;decide⟩ ?_
   have em:((m:Int) - 1)=((m - 1:Nat):Int):=by lia
   have m7:Mod (fun x=>x=lf) τ (τ.put lf (.list [vi ((m - 1:Nat):Int)])):=Mod.refl'.put' rfl
   have h7:∀ x,x=lf→P5 dk dl cd lf li x:=fun x hx=>.inr (.inr (.inr (.inl hx)))
   have s7:ItS σ1 dk dl cd lf li ra ar rs (cs++aA its) (m - 1) (τ.put lf (.list [vi ((m - 1:Nat):Int)])) :=
    ⟨⟨⟨s6.q.g.D.mod m7 s6.q.n1.symm s6.q.n2.symm,aq s6.q.n3.symm s6.q.g.C,s6.q.g.n1,s6.q.g.n2⟩,aa,s6.q.n1,s6.q.n2,s6.q.n3⟩,m7 _ _ (nli _ (.inr (.inr (.inr rfl)))) s6.e,s6.mo.trans' (m7.wide h7),s6.tupP h7 m7 s6.r⟩
   have lv7:=lv6.keep (s6.fr old h7 m7)
   rw[em]
   change lE w Z9 os (2 * d+6) R _ _ .next _ (τ.put lf (.list [vi ((m - 1:Nat):Int)]))
   generalize τ.put lf (.list [vi ((m - 1:Nat):Int)])=σ7 at s7 lv7 ⊢
   walk_at "m"
   refine aF (IH s7.q s7.r s7.e ⟨nli _ (.inl rfl),nli _ (.inr (.inl rfl)),nli _ (.inr (.inr (.inl rfl))),nli _ (.inr (.inr (.inr rfl)))⟩ k2 (by simp only[List.length_append] at k5 ⊢;lia) har (by lia)) (by lia) fun r σ8 b=>?_
   walk_at "m"
   obtain⟨s,i,qa,left',r,σ8,b1,b2,b3,b4,b5,b6,b7,b8,b9⟩:=b
   refine hk _ _ ⟨left',by lia,its.snoc s i,rs++[.ref qa],r,σ8,xf k1 b3 b2,by rw[uN];exact b1,by lia,?_,⟨by rw[qT,← List.append_assoc];exact b4,b7,s7.mo.trans' b9,s7.tupP (fun _ h=>h) b9 s7.r⟩,?_,?_⟩
   ·rw[qT,← List.append_assoc];simp only[List.length_append] at b6 k5 ⊢;lia
   ·refine LvAt.snoc (lv7.keep (s7.fr old (fun _ h=>h) b9)) (ItAt.base s7.grow ?_)
    have:(1:Int)+cs.length+(aA its).length+(aj s).length=1+((cs++aA its).length:Int)+(aj s).length:=by rw[List.length_append];lia
    rw[this];exact b8
   ·rw[List.length_append,List.length_singleton];lia
  walk_at "m"
  refine cO (fun y=>?_) fun y=>?_
  ·walk_at "m step"
   walk_at "m step"
   exact item σ5 s5 lv5 _ fun _ _ h=>h
  ·walk_at "m"
   refine dF X F s5.q.g (by decide) (by decide) (by lia) fun x σ6 h0 h1 g6 m6=>?_
   have s6:=s5.mod3 nli3 g6 m6
   have lv6:=lv5.keep (s5.fr old (fun _=>p35) m6)
   walk_at "m"
   refine cO (fun y=>?_) fun y=>?_
   ·exact item σ6 s6 lv6 _ fun _ _ h=>h
   ·exact rest σ6 s6 lv6
 ·walk_at "m"
  exact rest τ s2 lv
end
section
variable {K:Frag} {w:World} {Z9:Heap} {os:OsState} {R:Value→Hp→Prop} {σ:Hp} {dk dl cd:Addr} {cs:List Ch}
theorem zfH {x:Int} (h0:0≤x) (h1:x < 8):∃ i,itemAt [vs "",vs "",vs "",vs "'",vs "`",vs ",",vs ",@",vs "#'"] x=some (vs (strOf (aO i))):=by
 have:x=0∨x=1∨x=2∨x=3∨x=4∨x=5∨x=6∨x=7:=by lia
 rcases this with rfl|rfl|rfl|rfl|rfl|rfl|rfl|rfl
 ·exact⟨0,rfl⟩
 ·exact⟨1,rfl⟩
 ·exact⟨2,rfl⟩
 ·exact⟨3,rfl⟩
 ·exact⟨4,rfl⟩
 ·exact⟨5,rfl⟩
 ·exact⟨6,rfl⟩
 ·exact⟨7,rfl⟩
theorem zex {x:Int} (h0:0≤x) (h1:x < 2):∃ rd,itemAt [vs "()",vs "[]"] x=some (vs (strOf [wk rd,pI rd])):=by
 have:x=0∨x=1:=by lia
 rcases this with rfl|rfl
 ·exact⟨true,rfl⟩
 ·exact⟨false,rfl⟩
theorem J3 (l:List Ch):(strOf l="")↔l=[]:=by
 cases l with
 |nil=>exact⟨fun _=>rfl,fun _=>rfl⟩
 |cons x r=>exact⟨fun h=>by have:=congrArg Str.length h;rw[fG] at this;simp at this;exact absurd this (by show ¬ (_=0);lia),fun h=>by cases h⟩
theorem Ky (a:su) (px:Nat):BkV (Xv a) (kindOf (.atom px a)):=by
 cases a with
 |word ps=>rfl
 |str ss=>exact .inl rfl
noncomputable abbrev Ia:S:=(.seq (.asg 9 (.bin .Add (.cst (.int 1 0)) (.blt .len (.cons (.loc 1) .nil)))) (.seq (.exp (.call (.gv 69 (.ref 750)) (.cons (.loc 1) (.cons (.loc 7) .nil)))) (.seq (.unpT [10,11,12] (.cons (.bin .Add (.cst (.int 1 0)) (.blt .len (.cons (.loc 1) .nil))) (.cons (.cst .none) (.cons (.cst (.str "list" 0)) .nil)))) (.seq (.ite (.loc 8) (.seq (.unp [13,14] (.idx (.lst (.cons (.cst (.str "()" 0)) (.cons (.cst (.str "[]" 0)) .nil))) (.call (.gv 67 (.ref 740)) (.cons (.loc 0) (.cons (.cst (.int 2 0)) .nil))))) (.seq (.exp (.call (.gv 69 (.ref 750)) (.cons (.loc 1) (.cons (.loc 13) .nil)))) (.seq (.asg 11 (.call (.gv 73 (.ref 778)) (.cons (.loc 0) (.cons (.loc 1) (.cons (.bin .Add (.loc 2) (.tup (.cons (.loc 10) .nil))) (.cons (.bin .Sub (.loc 3) (.cst (.int 1 0))) (.cons (.loc 4) .nil))))))) (.seq (.exp (.call (.gv 69 (.ref 750)) (.cons (.loc 1) (.cons (.loc 14) .nil)))) .nil)))) (.seq (.asg 12 (.call (.gv 71 (.ref 764)) (.cons (.loc 0) (.cons (.loc 1) .nil)))) .nil)) (.seq (.exp (.bm (.loc 5) .append (.cons (.tup (.cons (.loc 9) (.cons (.loc 10) (.cons (.bin .Add (.cst (.int 1 0)) (.blt .len (.cons (.loc 1) .nil))) (.cons (.loc 11) (.cons (.loc 2) .nil)))))) .nil))) (.seq (.ret (.loc 12)) .nil))))))
theorem HS (X:Bs K Z9) (F:bc K) {d:Nat} (IH:∀ e,d=e+1→zbD w Z9 os e):zaf w Z9 os d:=by
 intro R σ dk dl cd lf it ra cs left ar rs bv bk q0 hra hit hne hbv hlen har hrs
 refine wR X F (n:=2 * d+5) (by lia) (cps fun Q hQ=>?_)
 unfold pG
 walk_at "m"
 have s0:ItS σ dk dl cd lf it ra ar rs cs left σ:=⟨q0,hit,Mod.refl',hra⟩
 have nit:¬ (it=dk∨it=dl∨it=cd):=by rintro(z|z|z);exact hne.1 z;exact hne.2.1 z;exact hne.2.2.1 z
 have old:=q0.lists5 hit
 refine pC q0.g fun b σ1 xb eb gb nb=>?_
 walk_at "m"
 refine dF X F gb (by decide) (by decide) (by lia) fun x σ2 h0 h1 g2 m2=>?_
 obtain⟨px,hpx⟩:=zfH h0 h1
 walk_at "m"
 refine i_list (m2 _ _ nb eb) hpx ?_
 have s2:=(s0.ext xb).mod3 nit g2 m2
 have last:∀ (i:It) (s:Sep) (c c':List Ch) (e0:Value) (left':Nat) (r:Value) (τ:Hp),ItS σ dk dl cd lf it ra ar rs c' left' τ→c=cs++(aj s++aO px)→c'=cs++(aj s++aD i)→BkV r (kindOf i)→vR i→(qG bk i→s≠.no)→left'≤left →
   c'.length+26 * left'≤cs.length+26 * (left+1)→(∀ q τ',Ext τ τ'→τ' q=some (.tup [vi (1+((cs++aj s).length:Int)),vi (1+(c.length:Int)),vi (1+(c'.length:Int)),e0,.ref ra])→ItAt σ τ' i (1+cs.length+(aj s).length) ar q) →
   ∀ k:Addr→Hp→Prop,(∀ q τ',ItS σ dk dl cd lf it ra ar rs c' left' τ'→(zd5 σ dk dl cd lf it cs left ar rs bk r (τ'.put it (.list (rs++[.ref q]))))→k q τ')→bf τ (.tup [vi (1+((cs++aj s).length:Int)),vi (1+(c.length:Int)),vi (1+(c'.length:Int)),e0,.ref ra]) k:=by
  intro i s c c' e0 left' r τ st hc hc' b1 b2 b3 b5 b6 hI k hk q hq
  have xq:=Ext.put (c:=.tup [vi (1+((cs++aj s).length:Int)),vi (1+(c.length:Int)),vi (1+(c'.length:Int)),e0,.ref ra]) hq
  have sq:=st.ext xq
  have ei:=hI q _ xq aa
  generalize τ.put q _=τ' at sq ei ⊢
  have mo:Mod (fun x=>x=it) τ' (τ'.put it (.list (rs++[.ref q]))):=Mod.refl'.put' rfl
  have hw:∀ x,x=it→P5 dk dl cd lf it x:=fun x hx=>.inr (.inr (.inr (.inr hx)))
  subst hc'
  refine hk q τ' sq ⟨s,i,q,left',r,_,b1,b2,b3,⟨⟨sq.q.g.D.mod mo (fun z=>hne.1 z.symm) (fun z=>hne.2.1 z.symm),aq (fun z=>hne.2.2.1 z.symm) sq.q.g.C,sq.q.g.n1,sq.q.g.n2⟩,aq (fun z=>hne.2.2.2 z.symm) sq.q.l,sq.q.n1,sq.q.n2,sq.q.n3⟩,b5,b6,aa,ei.keep (sq.fr old hw mo),sq.mo.trans' (mo.wide hw)⟩
 have rest:∀ (li:Bool) (τ:Hp),(li=true→0 < d∧0 < left)→ItS σ dk dl cd lf it ra ar rs cs left τ →
   lE w Z9 os (2 * d+5) R (.seq (.exp (.call (.gv 70 (.ref 757)) (.cons (.loc 0) (.cons (.loc 1) (.cons (.bor (.cmp .Eq (.loc 6) (.cst (.str "word" 0))) (.band (.cmp .NotEq (.loc 6) (.cst (.str "" 0))) (.bor (.cmp .NotEq (.loc 7) (.cst (.str "" 0))) (.not (.loc 8))))) .nil))))) Ia) (j0 Q) .next
    [some (.ref dk),some (.ref cd),some (.ref ra),some (vi d),some (.ref lf),some (.ref it),some bv,some (vs (strOf (aO px))),some (.bool li),none,none,none,none,none,none] τ:=by
  intro li τ hli s3
  have btw:∀ nd:Bool,(∀ i,Ce i=px→tD i=li→qG bk i→nd=true)→iD w Z9 os (2 * d+5) R (.ref 757) [.ref dk,.ref cd,.bool nd] τ (fun _ τ=>lE w Z9 os (2 * d+5) R Ia (j0 Q) .next
    [some (.ref dk),some (.ref cd),some (.ref ra),some (vi d),some (.ref lf),some (.ref it),some bv,some (vs (strOf (aO px))),some (.bool li),none,none,none,none,none,none] τ):=by
   intro nd hnd
   refine au (wY X F s3.q.g (nd:=nd) (by lia)) (by lia) ?_
   refine fun σ4=>cM fun s hs g4 m4=>?_
   have s4:=s3.mod3 nit g4 m4
   have c4:=g4.C
   have ls:=jD s
   have lp:=S9 px
   have l4:(cs++aj s).length=cs.length+(aj s).length:=List.length_append
   walk_at "m"
   refine oG X F g4 (aO px) rfl (by lia) (by lia) (by lia) fun σ5 g5 m5=>?_
   have s5:=s4.mod3 nit g5 m5
   have hc:cs++aj s++aO px=cs++(aj s++aO px):=List.append_assoc ..
   have l5:(cs++aj s++aO px).length=(cs++aj s).length+(aO px).length:=List.length_append
   generalize cs++aj s++aO px=c at s5 hc l5
   have c5:=s5.q.g.C
   walk_at "m"
   rw[List.length_map,List.length_map]
   cases li with
   |false =>
    refine bD ?_
    walk_at "m"
    refine aF (zcI X F s5.q.g (by lia)) (by lia) ?_
    refine fun r σ6=>kZ fun a ha z0 g6 m6=>?_;subst z0
    have s6:=s5.mod3 nit g6 m6
    have la:=GC ha
    have hc':c++aR a=cs++(aj s++aD (.atom px a)):=by rw[hc];simp[aD,List.append_assoc]
    have l6:(c++aR a).length=c.length+(aR a).length:=List.length_append
    generalize c++aR a=c6 at s6 hc' l6
    have it6:=s6.e
    have g6c:=s6.q.g.C
    walk_at "m"
    refine q8 rfl it6 ?_
    walk_at "m"
    rw[List.length_map]
    refine last (.atom px a) s c _ .none left _ σ6 s6 hc hc' (Ky a px) ha (fun z=>hs (hnd (.atom px a) rfl rfl z)) (Nat.le_refl _) (by lia) (fun q τ' x e=>⟨ra,?_,x _ _ s6.r⟩) _ fun q τ' sq iq=>?_
    ·refine e.trans ?_
     have e1:(1:Int)+((cs++aj s).length:Int)=1+cs.length+(aj s).length:=by lia
     have e2:(1:Int)+(c.length:Int)=1+cs.length+(aj s).length+(aO px).length:=by lia
     have e3:(1:Int)+(c6.length:Int)=1+cs.length+(aj s).length+(aD (.atom px a)).length:=by rw[hc'];simp only[List.length_append];lia
     rw[e1,e2,e3]
    ·have itq:=sq.e
     walk_at "m"
     refine m_append itq (by show _ < 2 ^ 20;lia) ?_
     walk_at "m"
     exact hQ _ _ iq
   |true =>
    obtain⟨hd,hl⟩:=hli rfl
    obtain⟨e,rfl⟩:∃ e,d=e+1:=⟨d - 1,by lia⟩
    refine bF ?_
    walk_at "m"
    refine pC s5.q.g fun b2 σ6 xb2 eb2 gb2 nb2=>?_
    walk_at "m"
    refine dF X F gb2 (by decide) (by decide) (by lia) fun y σ7 k0 k1 g7 m7=>?_
    obtain⟨rd,hrd⟩:=zex k0 k1
    have s7:=(s5.ext xb2).mod3 nit g7 m7
    walk_at "m"
    refine i_list (m7 _ _ nb2 eb2) hrd ?_
    walk_at "m"
    refine g_unp_s (by cases rd<;>decide +kernel) (by rw[sX];with_unfolding_all rfl) ?_
    walk_at "m"
    refine oG X F s7.q.g [wk rd] rfl (by show 1≤100;decide) (by lia) (by lia) fun σ8 g8 m8=>?_
    have s8:=s7.mod3 nit g8 m8
    have l8:(c++[wk rd]).length=c.length+1:=List.length_append
    generalize hc8:c++[wk rd]=c8 at s8 l8
    walk_at "m"
    intro t1 ht1
    have x9:=Ext.put (c:=.tup [vi (1+(c.length:Int))]) ht1
    have et9:(σ8.put t1 (.tup [vi (1+(c.length:Int))])) t1=some (.tup [vi (1+(c.length:Int))]):=aa
    have s9:=s8.ext x9
    generalize σ8.put t1 (.tup [vi (1+(c.length:Int))])=σ9 at et9 s9 ⊢
    walk_at "m"
    have inner:∀ (a2:Addr) (σa:Hp),ItS σ dk dl cd lf it ra ar rs c8 left σa→σa a2=some (.tup ((ar++[1+(c.length:Int)]).map vi)) →
      ev w Z9 os (2 * (e+1)+5) R [some (.ref dk),some (.ref cd),some (.ref ra),some (vi ((e+1:Nat):Int)),some (.ref lf),some (.ref it),some bv,some (vs (strOf (aO px))),some (.bool true),some (vi (1+((cs++aj s).length:Int))),some (vi (1+(c.length:Int))),some .none,some (.str "list" 0),some (vs ⟨#[code (wk rd)]⟩),some (vs ⟨#[code (pI rd)]⟩)]
       (.cons (.bin .Sub (.loc 3) (.cst (.int 1 0))) (.cons (.loc 4) .nil)) σa (fun ys σ_1=>iD w Z9 os (2 * (e+1)+5) R (.ref 778) (.ref dk::.ref cd::.ref a2::ys) σ_1 fun xs σ_2=>one xs fun x=>lE w Z9 os (2 * (e+1)+5) R (.seq (.exp (.call (.gv 69 (.ref 750)) (.cons (.loc 1) (.cons (.loc 14) .nil)))) .nil)
        (lE w Z9 os (2 * (e+1)+5) R (.seq (.exp (.bm (.loc 5) .append (.cons (.tup (.cons (.loc 9) (.cons (.loc 10) (.cons (.bin .Add (.cst (.int 1 0)) (.blt .len (.cons (.loc 1) .nil))) (.cons (.loc 11) (.cons (.loc 2) .nil)))))) .nil))) (.seq (.ret (.loc 12)) .nil)) (j0 Q)) .next
        (dW [some (.ref dk),some (.ref cd),some (.ref ra),some (vi ((e+1:Nat):Int)),some (.ref lf),some (.ref it),some bv,some (vs (strOf (aO px))),some (.bool true),some (vi (1+((cs++aj s).length:Int))),some (vi (1+(c.length:Int))),some .none,some (.str "list" 0),some (vs ⟨#[code (wk rd)]⟩),some (vs ⟨#[code (pI rd)]⟩)] 11 x) σ_2):=by
     intro a2 σa sa ea
     walk_at "m"
     have ee:(((e+1:Nat):Int) - 1)=(e:Int):=by lia
     rw[ee]
     refine aF (IH e rfl sa.q ea (by lia) (by rw[List.length_append,List.length_singleton];lia) (by lia)) (by lia) fun r σb b=>?_
     have nit4:¬ P4 dk dl cd lf it:=by rintro(z|z|z|z);exact hne.1 z;exact hne.2.1 z;exact hne.2.2.1 z;exact hne.2.2.2 z
     have ga:Grow σ σa:=sa.grow
     obtain⟨its,lst,li,rs2,left',σb,b1,b2,b3,b4,b5,b6,b7,b8⟩:=b
     have sb:ItS σ dk dl cd lf it ra ar rs (c8++(aA its++aj lst)) left' σb:=⟨b2,b8 _ _ nit4 sa.e,sa.mo.trans' (b8.wide fun _=>p45),sa.tupP (fun _=>p45) b8 sa.r⟩
     generalize hc9:c8++(aA its++aj lst)=c9 at b4 sb
     walk_at "m"
     refine oG X F sb.q.g [pI rd] rfl (by show 1≤100;decide) (by lia) (by lia) fun σc gc mc=>?_
     have sc:=sb.mod3 nit gc mc
     have oldA:∀ x,P5 dk dl cd lf it x→∃ l,σa x=some (.list l):=sa.q.lists5 sa.e
     have fc:Fr0 σa (fun x=>x=dk∨x=dl∨x=cd) σb σc:=⟨mc,fun x hx=>oldA x (p35 hx),fun x hx=>sb.q.lists5 sb.e x (p35 hx)⟩
     have lic:=fc.new b5 b6
     have lvc:=b7.keep fc
     have hc':c9++[pI rd]=cs++(aj s++aD (.lst px rd its lst)):=by rw[← hc9,← hc8,hc];simp[aD,List.append_assoc]
     have l10:(c9++[pI rd]).length=c9.length+1:=List.length_append
     generalize c9++[pI rd]=c10 at sc hc' l10
     have itc:=sc.e
     have cc:=sc.q.g.C
     walk_at "m"
     refine q8 rfl itc ?_
     walk_at "m"
     rw[List.length_map]
     refine last (.lst px rd its lst) s c _ (.ref li) left' _ σc sc hc hc' (.inr rfl) b1 (fun z=>hs (hnd (.lst px rd its lst) rfl rfl z)) b3 (by lia) (fun q τ' x e=>⟨ra,li,rs2,?_,x _ _ sc.r,ga _ b5,x _ _ lic,?_⟩) _ fun q τ' sq iq=>?_
     ·refine e.trans ?_
      have e1:(1:Int)+((cs++aj s).length:Int)=1+cs.length+(aj s).length:=by lia
      have e2:(1:Int)+(c.length:Int)=1+cs.length+(aj s).length+(aO px).length:=by lia
      have e3:(1:Int)+(c10.length:Int)=1+cs.length+(aj s).length+(aD (.lst px rd its lst)).length:=by rw[hc'];simp only[List.length_append];lia
      rw[e1,e2,e3]
     ·have e3:(1:Int)+cs.length+(aj s).length+(aO px).length+1=1+(c8.length:Int):=by lia
      have pe:(1:Int)+(c.length:Int)=1+cs.length+(aj s).length+(aO px).length:=by lia
      rw[e3,← pe]
      exact LvAt.base ga (LvAt.keep (P:=fun _=>False) ⟨Mod.ext' x,fun _ h=>h.elim,fun _ h=>h.elim⟩ lvc)
     ·have itq:=sq.e
      walk_at "m"
      refine m_append itq (by show _ < 2 ^ 20;lia) ?_
      walk_at "m"
      exact hQ _ _ iq
    refine jt s9.r et9 (by rw[List.length_map,List.length_singleton];show _≤2 ^ 20;lia) ?_ (fun z=>?_) (fun z=>by cases z)
    ·intro a2 ha2
     have x2:=Ext.put (c:=.tup (ar.map vi++[vi (1+(c.length:Int))])) ha2
     walk_at "m step"
     exact inner a2 _ (s9.ext x2) (by rw[List.map_append];exact aa)
    ·have:ar=[]:=by simpa using z
     walk_at "m step"
     exact inner t1 σ9 s9 (by rw[this];exact et9)
  walk_at "m"
  refine WL bv bk hbv ?_
  walk_at "m"
  refine cO (fun z=>?_) fun z=>?_
  ·walk_at "m"
   exact btw true fun i _ _ _=>rfl
  ·walk_at "m"
   refine YB bv bk hbv ?_
   walk_at "m"
   refine cO (fun z2=>?_) fun z2=>?_
   ·walk_at "m"
    refine yt (fun z3=>?_) fun z3=>?_
    ·walk_at "m"
     exact btw (!li) fun i h1 h2 h3=>by
      rcases h3 with q|⟨_,q|q⟩
      ·exact absurd q z
      ·rw[h1] at q;exact absurd ((J3 _).mp z3) q
      ·rw[← h2,q];rfl
    ·walk_at "m"
     exact btw true fun i _ _ _=>rfl
   ·walk_at "m"
    exact btw false fun i _ _ h3=>by
     rcases h3 with q|⟨q,_⟩
     ·exact absurd q z
     ·exact absurd q z2
 walk_at "m"
 refine cO (fun z=>?_) fun z=>?_
 ·walk_at "m"
  refine i_list s2.q.l (v:=vi left) rfl ?_
  walk_at "m"
  refine cO (fun z2=>?_) fun z2=>?_
  ·walk_at "m"
   refine dF X F s2.q.g (by decide) (by decide) (by lia) fun y σ3 k0 k1 g3 m3=>?_
   walk_at "m step"
   walk_at "m step"
   walk_at "m step"
   walk_at "m step"
   refine j9 (j9 (aJ ?_))
   exact rest (decide (y=0)) σ3 (fun _=>⟨by lia,by lia⟩) (s2.mod3 nit g3 m3)
  ·walk_at "m step"
   walk_at "m step"
   walk_at "m step"
   exact rest false σ2 (by intro q;cases q) s2
 ·walk_at "m step"
  exact rest false σ2 (by intro q;cases q) s2
theorem items (X:Bs K Z9) (F:bc K):∀ d,zaf w Z9 os d
 |0=>HS X F fun e h=>by cases h
 |d+1=>HS X F fun e h=>by
  cases h
  exact zW X F (items X F d)
theorem levels (X:Bs K Z9) (F:bc K) (d:Nat):zbD w Z9 os d:=zW X F (items X F d)
end
section
variable {K:Frag} {w:World} {Z9:Heap} {os:OsState} {R:Value→Hp→Prop} {σ:Hp} {cs:List Ch}
theorem yl:∀ xs:List Int,Fo (xs.map vi)=some xs.sum
 |[]=>rfl
 |x::r=>by
  rw[List.map_cons,List.sum_cons]
  show (Fo (r.map vi)).map (x+·)=_
  rw[yl r];rfl
theorem tH (σ:Hp) (a b:Nat) (hb:((a ^ b:Nat):Int)≠0):∀ xs:List Int,dm σ (.bin .Mod (.blt .abs (.cons (.loc 0) .nil)) (.pow a b)) .nil (xs.map vi)=some (xs.map fun x=>vi (Int.fmod x.natAbs ((a ^ b:Nat):Int)))
 |[]=>rfl
 |x::r=>by
  rw[List.map_cons,List.map_cons]
  have ih:=tH σ a b hb r
  unfold dm
  rw[ih]
  show Option.bind (if ((a ^ b:Nat):Int)=0 then none else some (vi (Int.fmod x.natAbs ((a ^ b:Nat):Int)))) (fun y=>(some (r.map fun x:Int=>vi (Int.fmod x.natAbs ((a ^ b:Nat):Int)))).map (y::·))=_
  rw[if_neg hb];rfl
theorem zY (σ:Hp):∀ xs:List Int,dm σ (.blt .abs (.cons (.loc 0) .nil)) .nil (xs.map vi)=some (xs.map fun x=>vi (x.natAbs:Int))
 |[]=>rfl
 |x::r=>by
  rw[List.map_cons,List.map_cons]
  have ih:=zY σ r
  unfold dm
  rw[ih];rfl
theorem Ip (σ:Hp) (a b:Nat):∀ xs:List Int,∃ ys:List Int,dm σ (.loc 0) (.cmp .GtE (.loc 0) (.pow a b)) (xs.map vi)=some (ys.map vi)
 |[]=>⟨[],rfl⟩
 |x::r=>by
  obtain⟨ys,ih⟩:=Ip σ a b r
  rw[List.map_cons]
  unfold dm
  rw[ih]
  have e:ji σ (.cmp .GtE (.loc 0) (.pow a b)) (vi x)=some (decide (((a ^ b:Nat):Int)≤x)):=rfl
  rw[e]
  cases decide (((a ^ b:Nat):Int)≤x) with
  |true=>exact⟨x::ys,rfl⟩
  |false=>exact⟨ys,rfl⟩
theorem zd1 (X:Bs K Z9) (F:bc K) {sc:Addr} {us:List Value} {xs:List Int} (e:Z9.IsList sc (List.toArray us)) (hz:us.length≤big) (hus:us.map er=xs.map vi) :
  CallSem w Z9 os 3 (.ref 733) [.ref sc] σ (fun r σ'=>∃ dk dl,r=.ref dk∧Dk σ' dk dl∧Ext σ σ') R:=by
 refine wz X F (by decide) ?_
 unfold o8
 walk_at "m"
 refine u_base e hz (by decide) (by decide) ?_
 rw[hus]
 intro b hb
 have x1:=Ext.put (c:=.list ((xs.map vi).take (24:Int).toNat)) hb
 have eb:(σ.put b (.list ((xs.map vi).take (24:Int).toNat))) b=some (.list ((xs.take 24).map vi)):=by rw[List.map_take];exact aa
 change one [.ref b] (fun x=>tG (σ.put b (.list ((xs.map vi).take (24:Int).toNat))) _ _ _ x)
 generalize (σ.put b (.list ((xs.map vi).take (24:Int).toNat)))=σ1 at x1 eb ⊢
 walk_at "m"
 refine g_comp_l eb (tH σ1 10 90 (by decide) _) ?_
 generalize xs.take 24=ys
 intro b2 hb2
 have e3:(ys.map fun x:Int=>vi (Int.fmod x.natAbs ((10 ^ 90:Nat):Int)))=(ys.map fun x:Int=>Int.fmod x.natAbs ((10 ^ 90:Nat):Int)).map vi:=by rw[List.map_map];rfl
 rw[e3]
 generalize (ys.map fun x:Int=>Int.fmod x.natAbs ((10 ^ 90:Nat):Int))=zs
 have x2:=x1.trans (Ext.put (c:=.list (zs.map vi)) hb2)
 have e2:(σ1.put b2 (.list (zs.map vi))) b2=some (.list (zs.map vi)):=aa
 generalize (σ1.put b2 (.list (zs.map vi)))=σ2 at x2 e2 ⊢
 walk_at "m"
 obtain⟨ws,hw⟩:=Ip σ2 10 18 zs
 refine g_comp_l e2 hw ?_
 intro dl hdl
 have x3:=x2.trans (Ext.put (c:=.list (ws.map vi)) hdl)
 have e3:(σ2.put dl (.list (ws.map vi))) dl=some (.list (ws.map vi)):=aa
 have e4:(σ2.put dl (.list (ws.map vi))) b2=some (.list (zs.map vi)):=eQ hdl e2
 generalize (σ2.put dl (.list (ws.map vi)))=σ3 at x3 e3 e4 ⊢
 walk_at "m"
 refine f_sum e4 (yl zs) ?_
 walk_at "m"
 intro dk hdk
 have hne:dk≠dl:=fun q=>by rw[q,e3] at hdk;cases hdk
 walk_at "m"
 refine⟨dk,dl,rfl,⟨hne,ws,_,0,aa,eQ hdk e3⟩,x3.trans (Ext.put hdk)⟩
theorem zaJ (X:Bs K Z9) (F:bc K) {sc:Addr} {us:List Value} {xs:List Int} (e:Z9.IsList sc (List.toArray us)) (hz:us.length≤big) (hus:us.map er=xs.map vi) :
  CallSem w Z9 os 3 (.ref 745) [.ref sc,vi 3,vi 9] σ (fun r σ'=>(∃ m:Nat,r=vi m∧3≤m∧m≤9)∧Ext σ σ') R:=by
 refine wD X F (by decide) ?_
 unfold oX
 walk_at "m"
 refine u_base e hz (by decide) (by decide) ?_
 rw[hus]
 intro b hb
 have x1:=Ext.put (c:=.list ((xs.map vi).take (24:Int).toNat)) hb
 have eb:(σ.put b (.list ((xs.map vi).take (24:Int).toNat))) b=some (.list ((xs.take 24).map vi)):=by rw[List.map_take];exact aa
 change one [.ref b] (fun x=>tG (σ.put b (.list ((xs.map vi).take (24:Int).toNat))) _ _ _ x)
 generalize (σ.put b (.list ((xs.map vi).take (24:Int).toNat)))=σ1 at x1 eb ⊢
 walk_at "m"
 refine g_comp_l eb (zY σ1 _) ?_
 generalize xs.take 24=ys
 intro b2 hb2
 have e3:(ys.map fun x=>vi (x.natAbs:Int))=(ys.map fun x=>(x.natAbs:Int)).map vi:=by rw[List.map_map];rfl
 rw[e3]
 generalize (ys.map fun x=>(x.natAbs:Int))=zs
 have x2:=x1.trans (Ext.put (c:=.list (zs.map vi)) hb2)
 have e2:(σ1.put b2 (.list (zs.map vi))) b2=some (.list (zs.map vi)):=aa
 generalize (σ1.put b2 (.list (zs.map vi)))=σ2 at x2 e2 ⊢
 walk_at "m"
 refine f_sum e2 (yl zs) ?_
 walk_at "m"
 refine gh (fun m ρ σ'=>σ'=σ2∧∃ (i:Nat) (s:Int),3≤i∧i≤9∧m=9 - i∧ρ=[some (.ref sc),some (vi 3),some (vi 9),some (vi i),some (vi s)]) 6 ⟨rfl,3,zs.sum,by decide,by decide,rfl,rfl⟩ ?_
 refine fun m ρ σ'=>qz fun z0 i s h3 z3=>iJ (fun h9 z1 z2=>?_) z3;subst z0;subst z1;subst z2
 walk_at "m"
 refine cO (fun hi=>?_) fun hi=>?_
 ·walk_at "m"
  refine cO (fun hs=>?_) fun hs=>?_
  ·walk_at "m"
   refine jo (by decide) ?_
   walk_at "m"
   exact w_next (m':=9 - (i+1)) (by lia) ⟨rfl,i+1,_,by lia,by lia,rfl,rfl⟩
  ·walk_at "m"
   exact⟨⟨i,rfl,h3,h9⟩,x2⟩
 ·walk_at "m"
  exact⟨⟨i,rfl,h3,h9⟩,x2⟩
theorem zfJ (X:Bs K Z9) (F:bc K) {c v:Addr} (e:σ c=some (.list (cs.map fun x=>vi (code x)))) (ev_:σ v=some (.inst 724 [])) :
  CallSem w Z9 os 3 (.ref 700) [.ref v,.ref c] σ (fun r σ'=>r=.none∧(∃ c2,ViewAt σ' v c2 cs∧σ c2=none)∧Mod1 v σ σ') R:=by
 refine nW X F (by decide) ?_
 unfold gK
 walk_at "m"
 refine f_list_l e ?_
 intro c2 hc2
 have x1:=Ext.put (c:=.list (cs.map fun x=>vi (code x))) hc2
 have e1:=x1 _ _ ev_
 have e2:(σ.put c2 (.list (cs.map fun x=>vi (code x)))) c2=some (.list (cs.map fun x=>vi (code x))):=aa
 have hne:c2≠v:=fun q=>by rw[q,ev_] at hc2;cases hc2
 generalize (σ.put c2 (.list (cs.map fun x=>vi (code x))))=σ1 at x1 e1 e2 ⊢
 walk_at "m"
 exact⟨rfl,⟨c2,⟨aa,aq hne (aq hne e2)⟩,hc2⟩,((Mod1.ext x1).put).put⟩
end
noncomputable abbrev FLAGSs:Str:=Str.ofString "1234bcnp"
noncomputable def oN (more2:List (Str × Const)):Scope:={ kind:=.function,names:=[(".0",.local),("flag",.local),("text",.free)],isGenerator:=false,isCoroutine:=false,more:=more2 }
noncomputable def yU (p3 p4 p5 p6 p7 p8 p9:Pos) (more2:List (Str × Const)):Expr:=.ListComp (.Name "flag" p3) [⟨.Name "flag" p4,.Name "FLAGS" p5,[.Compare (.Name "flag" p6) [.In] [.Name "text" p7] p8],0⟩] (oN more2) p9
inductive Qx (K:Frag):Prop
 |mk (o:Obj) (fd:FuncData) (more:List (Str × Const)) (k:Nat) (p1 p2 p3 p4 p5 p6 p7 p8 p9 p10 p11:Pos) (more2:List (Str × Const)) (f1:K.lookup 153=some o) (f2:o.data=.func fd)
  (hc:∃ c oc vs t,fd.code=.ref c∧K.lookup c=some oc∧oc.data=.fields vs∧vs[1]?=some (.str fd.qualname t)) (hp:(p2.endLine == p10.line)=true)
  (f3:fd.body=.stmts [.Return (some (.Call (.Attribute (.Constant (.str "") k p1) "join" p2) [yU p3 p4 p5 p6 p7 p8 p9 more2] [] p10)) p11])
  (f4:fd.scope={ kind:=.function,names:=[("text",.cell),("FLAGS",.globalImplicit)],isGenerator:=false,isCoroutine:=false,more:=more }) (f5:fd.globals=mainGlobals) (f6:fd.builtins=builtinsNs) (f7:fd.closure=[])
  (bind:∀ v:Value,bindArgs fd ⟨[v],[]⟩=pure [((Str.ofString "text"),v)]):Qx K
theorem rU {p:Value→Bool}:∀ {us rs:List Value},Paired (fun u r=>er r=er u) (us.filter fun u=>p (er u)) rs→rs.map er=(us.map er).filter p
 |[],rs,h=>by cases h;rfl
 |u::us,rs,h=>by
  rw[List.map_cons]
  by_cases q:p (er u)=true
  ·rw[List.filter_cons_of_pos (p:=fun u=>p (er u)) q] at h
   rw[List.filter_cons_of_pos q]
   cases h with
   |cons a b=>rw[List.map_cons,a,rU b]
  ·rw[List.filter_cons_of_neg (p:=fun u=>p (er u)) q] at h
   rw[List.filter_cons_of_neg q,rU h]
section
variable {K:Frag} {w:World} {Z9:Heap} {os:OsState} {R:Value→Hp→Prop} {σ:Hp}
noncomputable def inT (t:Str) (v:Value):Bool:=match v with
 |.str u _=>dG u t
 |_=>false
theorem Hz:∀ {xs:List Value} {t:Str},ym xs=some t→(∀ v∈xs,∃ c,v=vs ⟨#[c]⟩)→xs.length=t.length
 |[],t,h,_=>by cases h;rfl
 |x::r,t,h,k=>by
  obtain⟨c,rfl⟩:=k x List.mem_cons_self
  refine aV (fun u hu z0=>?_) (Option.map_eq_some_iff.mp (show (ym r).map _=_ from h));subst z0
  rw[List.length_cons,Hz hu fun v hv=>k v (List.mem_cons_of_mem _ hv)]
  show _=((⟨#[c]⟩:Str)++u).length
  rw[Hs]
  show u.length+1=1+u.length
  lia
set_option maxHeartbeats 4000000 in
theorem Ds (X:Bs K Z9) {A:Around} {F:Fm} {E':Value→Shared→Prop} {s:Shared} {env:Env} {c0:Addr} {t out:Str} {t0:Tok} {p3 p4 p5 p6 p7 p8 p9:Pos} {more2:List (Str × Const)} (hh:A.handled=none) (gs:GS w Z9 os F σ s)
  (kt:env.kindOf (Str.ofString "text")=some .cell) (kg:env.kindOf (Str.ofString "FLAGS")=some .globalImplicit) (kfun:env.scope.kind=.function) (kgl:env.globals=mainGlobals)
  (hclos:closureFor (oN more2) env=pure [((Str.ofString "text"),c0)]) (hcell:s.heap.IsCell c0 (some (.str t t0))) (hout:((chars FLAGSs).filter (inT t)).length=out.length) (hl:out.length≤100) :
  wpAny (model PP w) A (eval (yU p3 p4 p5 p6 p7 p8 p9 more2) env) (fun r s2=>∃ σ' a,GS w Z9 os F σ' s2∧r=.ref a∧σ' a=some (.list ((chars FLAGSs).filter (inT t)))∧Ext σ σ') E' s:=by
 refine aV (fun v' k1 k2=>?_) (X.kf.glob ((Str.ofString "FLAGS"),vs FLAGSs) (List.mem_of_getElem? (i:=21) rfl))
 obtain⟨mg,hg⟩:=X.g
 obtain⟨u',rfl⟩:=oH k2
 refine wpAny_ListComp_free (p:=fun u=>inT t (er u)) (F:=fun u r=>er r=er u) hclos (by intro y hy;simp only[oN,List.mem_cons,List.not_mem_nil,or_false] at hy;rcases hy with rfl|rfl|rfl<;>(intro q;cases q)) rfl
  (by intro y hy;simp only[oN,List.mem_cons,List.not_mem_nil,or_false] at hy;rcases hy with rfl|rfl|rfl<;>(intro q;first|rfl|cases q)) rfl ?_
 refine wpAny_Name (ks_loadName_global kfun kg ?_) rfl
 unfold loadGlobal
 rw[kgl]
 refine wpAny_bind (wpAny_nsGet (hg.keeps gs.sr.base) ?_)
 rw[mg_of X.kin hg k1]
 refine wpAny_pure ?_
 refine wpAny_pyIter_str fun o' St W hst=>?_
 have keep:∀ h':Heap,(∀ b o2,b∉[s.heap.objs.size]→(s.heap.push o').get? b=some o2→h'.get? b=some o2)→s.heap.StaysIn h':=fun h' hk b o2 e=>hk b o2 (by rw[List.mem_singleton];exact Nat.ne_of_lt (Heap.lt_size e)) (Heap.get?_push_of_some _ e)
 refine⟨s.heap.objs.size,[s.heap.objs.size],[s.heap.objs.size],FLAGSs.cps.size,SignAt FLAGSs,St,rfl,W _ hh,by rw[sizeLine_eq];decide,hst,?_,?_,?_⟩
 ·intro b hb
  show b < (s.heap.push o').objs.size
  rw[Heap.size_push,List.mem_singleton.mp hb]
  exact Nat.lt_succ_self _
 ·refine⟨fun C i v Z1 ZW E' hC hP hn hm hk htk=>?_,fun C i v Z1 ZW E' hC hP hp hn hm hk htk=>?_⟩
  ·revert hP;refine fM fun c0 u0 hc0 z1=>?_;subst z1
   rw[Cy]
   refine wpAny_bind (wpAny_isTrue_Compare1 ?_ rfl)
   refine wpAny_Name (wpAny_loadName_local rfl rfl hn hm ?_) rfl
   refine wpAny_Name (wpAny_loadName_cell rfl ?_ rfl (v:=.str t t0) ?_ ?_) rfl
   ·unfold Env.kindOf compEnvC relabel oN
    simp only[List.map_cons,List.map_nil,kfun,kt]
    rfl
   ·exact hcell.keeps (keep Z1.heap hk)
   ·refine P.in_str (wpAny_truthy_bool (wpAny_pure ⟨?_,j7⟩))
    rfl
  ·exact wpAny_Name (wpAny_loadName_local rfl rfl hn hm ⟨rfl,j7⟩) rfl
 ·intro D h' tk ys vs2 hD hlD hpD hlen hP hF hk
  obtain⟨kk,hp2⟩:=hpD
  have hD1:s.heap.get? D=none:=by
   cases e:s.heap.get? D with
   |none=>rfl
   |some o3=>rw[Heap.get?_push_of_some _ e] at hD;cases hD
  have eqs:ys.toList.map er=(chars FLAGSs).filter (inT t):=by
   rw[← xx hlen hP]
   exact rU hF
  refine aV (fun Z4 Z6 ZJ=>?_) (uv (k:=fun a σ'=>σ'=σ.put a (.list (ys.toList.map er))∧σ a=none) (xs:=ys.toList) (t:=tk) gs (keep h' hk) hD1 (by simpa using hp2) (fun a ha=>⟨rfl,ha⟩) (by
   have:=congrArg List.length eqs;rw[List.length_map] at this
   show _≤2 ^ 20
   lia))
  obtain⟨rfl,hn⟩:=ZJ
  refine⟨_,D,Z6,rfl,?_,Ext.put hn⟩
  rw[← eqs];exact aa
theorem M8 (X:Bs K Z9) (C:Qx K) {t out:Str} (ho:ym ((chars FLAGSs).filter (inT t))=some out) (hl:out.length≤100) :
  CallSem w Z9 os 3 (.ref 153) [vs t] σ (fun r σ'=>r=vs out∧Ext σ σ') R:=by
 intro A l F s vals room fr sr g o hv
 obtain⟨ob,fd,more,k,p1,p2,p3,p4,p5,p6,p7,p8,p9,p10,p11,more2,f1,f2,hc,hp,f3,f4,f5,f6,f7,bind⟩:=C
 refine aV (fun v0 z2 hv0=>?_) (List.map_eq_singleton_iff.mp hv);subst z2
 obtain⟨t0,rfl⟩:=oH hv0
 have hin:K.In s.heap:=X.kin.keeps sr.base
 have hd:A.depth < recursionLimit:=by have:=room.depth;have:recursionLimit=1000:=rfl;lia
 have lkc:(cellsFrom (s.heap.objs.size+1) [((Str.ofString "text"),NameKind.cell),((Str.ofString "FLAGS"),.globalImplicit)] []).lookup (Str.ofString "text")=some (s.heap.objs.size+1):=rfl
 refine codeAny_call_cells hd (hin _ _ f1) f2 (by obtain⟨mc,hmc⟩:=X.nolimit;exact⟨mc,hmc.1.keeps sr.base,hmc.2⟩) (by refine jc (fun c oc vs' z3=>kZ (fun tt c1 c2 c3 c4=>?_) z3) hc;exact⟨c,oc,vs',tt,c1,hin _ _ c2,c3,c4⟩) f3 (bind _) f7
  (by
   intro x hx
   rw[f4]
   have hx:=List.mem_singleton.mp hx
   subst hx
   exact .inr ⟨by rfl,by rw[lkc];rfl⟩) (fun Z7 I=>?_) (by rw[f4]) (by rw[f4]) (by rw[f4])
 have kf:(callEnvC fd s.heap.objs.size 153).scope=_:=f4
 have kt:(callEnvC fd s.heap.objs.size 153).kindOf (Str.ofString "text")=some .cell:=by unfold Env.kindOf;rw[kf];rfl
 have kg:(callEnvC fd s.heap.objs.size 153).kindOf (Str.ofString "FLAGS")=some .globalImplicit:=by unfold Env.kindOf;rw[kf];rfl
 have kfun:(callEnvC fd s.heap.objs.size 153).scope.kind=.function:=by rw[kf]
 have kc:(callEnvC fd s.heap.objs.size 153).cells.lookup (Str.ofString "text")=some (s.heap.objs.size+1):=by show (cellsFrom _ fd.scope.names []).lookup _=_;rw[f4];exact lkc
 have kgl:(callEnvC fd s.heap.objs.size 153).globals=mainGlobals:=f5
 refine fM (fun h1 tk1 z4 keep1=>?_) I.done;subst z4
 have hcell:h1.IsCell (s.heap.objs.size+1) (some (.str t t0)):=by
  have e:=I.cell _ _ kc
  have e2:bindC (callEnvC fd s.heap.objs.size 153).kindOf [((Str.ofString "text"),Value.str t t0)] (fun _=>none) (Str.ofString "text")=some (.str t t0):=by
   show (if (callEnvC fd s.heap.objs.size 153).kindOf (Str.ofString "text")=some .local then _ else _:Str→Option Value) (Str.ofString "text")=_
   rw[kt,if_neg (by decide)]
   exact if_pos rfl
  rw[e2] at e;exact e
 generalize hE:callEnvC fd s.heap.objs.size 153=env at *
 have gs:GS w Z9 os F σ { s with heap:=h1,toks:=tk1 }:=⟨sr.keeps keep1,g,o⟩
 have hclos:closureFor (oN more2) env=pure [((Str.ofString "text"),s.heap.objs.size+1)]:=by
  have e1:cellOf env (Str.ofString "text")=pure (s.heap.objs.size+1):=by unfold cellOf;rw[kc]
  simp only[closureFor,oN,List.forIn_cons,List.forIn_nil]
  rw[show (NameKind.local == NameKind.free)=false from rfl,show (NameKind.free == NameKind.free)=true from rfl,e1]
  rfl
 refine wpAny_execs_cons (wpAny_Return_some ?_)
 refine MethodCall_ ?_ (Dq (by rfl) (by show 1 < 30;decide) hp (by rfl))
 refine wpAny_mkText ?_
 refine getMethod_builtin (typeIs_str _ _ _) PySem.F.plainAttrs_str PySem.F.slot_str_join PySem.F.type_str_join (fun b e=>by cases e) ?_
 refine callWith_builtin (by rfl) ?_
 have hs:starEach [yU p3 p4 p5 p6 p7 p8 p9 more2] env=[(false,eval (yU p3 p4 p5 p6 p7 p8 p9 more2) env)]:=rfl
 rw[hs]
 have gs:GS w Z9 os F σ { s with heap:=h1,toks:=tk1+1 }:=⟨sr.keeps keep1,g,o⟩
 have hout:=Hz ho fun v hv=>by
  refine aV (fun c _ z5=>?_) (List.mem_map.mp (List.mem_filter.mp hv).1);subst z5
  exact⟨c,rfl⟩
 refine evalArgs_plain (rest:=[]) (Calls.spliced_cons (wpAny_mono (Q:=fun r s2=>∃ σ' a,GS w Z9 os F σ' s2∧r=.ref a∧σ' a=some (.list ((chars FLAGSs).filter (inT t)))∧Ext σ σ') (?_) (fun r1 s2 h=>Calls.spliced_nil ?_) fun _ _ e=>e))
 ·exact Ds X room.handled gs kt kg kfun kgl hclos hcell hout hl
 ·revert h;refine bR fun σ' a g2 z6 ha hx=>?_;subst z6
  refine wpAny_mono (HD (u:=tk1) (Q:=fun r σ2=>r=[Internal.vs out]∧σ2=σ') g2 ha ho ⟨by lia,hl⟩ ⟨rfl,rfl⟩) (fun r s3 h=>?_) fun _ _ h=>h
  ·obtain⟨σ3,g3,h3,rfl⟩:=h
   exact Rs.ret (v:=r) g3.gens g3.os g3.sr (And.intro (List.cons.inj h3).1 hx)
end
section
variable {K:Frag} {w:World} {Z9:Heap} {os:OsState} {R:Value→Hp→Prop} {σ:Hp}
noncomputable def SyAt (σ:Hp) (s:Addr) (k f:Str):Prop:=∃ m,σ s=some (.inst 144 [(14,vs k),(15,m),(16,vs f)])
theorem SyAt.mod {P:Addr→Prop} {σ σ':Hp} {s:Addr} {k f:Str} (h:SyAt σ s k f) (m:Mod P σ σ') (n:¬ P s):SyAt σ' s k f:=let ⟨x,e⟩:=h;⟨x,m _ _ n e⟩
structure Rd (d k f:Str):Prop where
 len:0 < d.length∧d.length≤10
 k0:∃ c,d.cps[0]?=some c∧k=⟨#[c]⟩
 nd:decide (k="-")=false
 m:(d.length < 2)∨(∃ c,d.cps[1]?=some c)
 kd:dG k " w_.()'\"\\/$<>@!|"=true
 al:∃ bs,(∀ σ,dm σ (.bor (.cmp .In (.loc 0) (.gv 21 (.str "1234bcnp" 0))) (.cmp .Eq (.loc 0) (.cst (.str " " 0)))) .nil (chars (StrLaws.sliceText d (some 2) none))=some bs)∧allB bs=some true
 fl:ym ((chars FLAGSs).filter (inT (StrLaws.sliceText d (some 2) none)))=some f
 fln:f.length≤100
 sl:(StrLaws.sliceText d (some 2) none).length≤1000
theorem zdS (X:Bs K Z9) (F:bc K) {a:Addr} {k m f:Value} (ha:σ a=some (.inst 144 [])) (hm:aB m=true) (hk:aB k=true) (hf:aB f=true) :
  CallSem w Z9 os 3 (.ref 113) [.ref a,k,m,f] σ (fun r σ'=>r=.none∧σ' a=some (.inst 144 [(14,k),(15,m),(16,f)])∧Mod1 a σ σ') R:=by
 refine rK X F (by decide) ?_
 unfold iT
 walk_at "m"
 exact⟨rfl,aa,((Mod1.refl.put).put).put⟩
theorem zcp (X:Bs K Z9) (F:bc K) (C:Qx K) {d k f:Str} (r:Rd d k f) :
  CallSem w Z9 os 5 (.ref 158) [vs d] σ (fun r σ'=>∃ s,r=.ref s∧SyAt σ' s k f∧Ext σ σ'∧σ s=none) R:=by
 obtain⟨len,⟨c,k0,rfl⟩,nd,m,kd,⟨bs,al,alt⟩,fl,fln,sl⟩:=r
 refine qZ X F (by decide) ?_
 unfold iV
 walk_at "m"
 have ne:decide (d=Str.ofString "")=false:=decide_eq_false fun e=>by rw[e] at len;exact absurd len.1 (by decide)
 rw[ne]
 walk_at "m"
 refine i_str ⟨by decide,by lia⟩ k0 ?_
 walk_at "m"
 rw[nd]
 walk_at "m"
 refine i_str ⟨by decide,by lia⟩ k0 ?_
 walk_at "m"
 refine f_len_s (by lia) ?_
 walk_at "m"
 have rest:∀ mv:Value,aB mv=true→lE w Z9 os 4 R (.seq (.asg 3 (.from_ (.loc 0) (.cst (.int 2 0)))) (.seq (.ite (.bor (.cmp .NotIn (.loc 1) (.gv 20 (.str " w_.()'\"\\/$<>@!|" 0))) (.not (.blt .all (.cons (.comp (.bor (.cmp .In (.loc 0) (.gv 21 (.str "1234bcnp" 0))) (.cmp .Eq (.loc 0) (.cst (.str " " 0)))) (.loc 3) .nil) .nil)))) (.seq (.raise_ (.cons (.cst (.str "error" 0)) (.cons (.lst (.cons (.cst (.str "Invalid syntax description letter" 0)) .nil)) .nil))) .nil) .nil) (.seq (.ret (.new 22 144 113 (.cons (.loc 1) (.cons (.loc 2) (.cons (.call (.gv 23 (.ref 153)) (.cons (.loc 3) .nil)) .nil))))) .nil)))
   (j0 fun r σ'=>∃ s,r=.ref s∧SyAt σ' s ⟨#[c]⟩ f∧Ext σ σ'∧σ s=none) .next [some (vs d),some (vs ⟨#[c]⟩),some mv,none] σ:=by
  intro mv hmv
  walk_at "m"
  refine u_from_s ⟨by decide,by decide,by lia⟩ ?_
  walk_at "m"
  rw[kd]
  walk_at "m"
  refine g_comp_s sl (al σ) ?_
  intro b hb
  have x1:=Ext.put (c:=.list bs) hb
  have e1:(σ.put b (.list bs)) b=some (.list bs):=aa
  generalize σ.put b (.list bs)=σ1 at x1 e1 ⊢
  walk_at "m"
  refine f_all e1 alt ?_
  walk_at "m"
  refine au (M8 X C fl fln) (by lia) ?_
  rintro σ2 x2
  walk_at "m"
  refine pW (m:=3) (Q:=fun a r σ'=>r=.none∧σ' a=some (.inst 144 [(14,vs ⟨#[c]⟩),(15,mv),(16,vs f)])∧Mod1 a (σ2.put a (.inst 144 [])) σ') (by lia) (fun a ha=>zdS X F aa hmv rfl rfl) ?_
  refine fun a r σ3 ha=>iJ fun z0 e3 m3=>?_;subst z0
  have x3:Ext σ σ3:=(x1.trans x2).trans (Ext.mod1 (Ext.put ha) m3 ha)
  refine⟨rfl,?_⟩
  walk_at "m"
  refine⟨a,rfl,⟨mv,e3⟩,x3,?_⟩
  cases q:σ a with
  |none=>rfl
  |some c0=>rw[x2 _ _ (x1 _ _ q)] at ha;cases ha
 refine cO (fun hm=>?_) fun hm=>?_
 ·refine j9 ?_
  refine bF ?_
  refine lu ?_
  refine aJ ?_
  exact rest _ rfl
 ·obtain⟨c1,hc1⟩:=m.resolve_left (by lia)
  walk_at "m"
  refine i_str ⟨by decide,by lia⟩ hc1 ?_
  walk_at "m"
  refine cO (fun hm=>?_) fun hm=>?_
  ·refine lu ?_
   refine aJ ?_
   exact rest _ rfl
  ·walk_at "m"
   refine i_str ⟨by decide,by lia⟩ hc1 ?_
   refine aJ ?_
   refine xW ?_
   refine f_ord ?_
   refine aJ ?_
   exact rest _ rfl
end
section
variable {K:Frag} {w:World} {Z9:Heap} {os:OsState} {R:Value→Hp→Prop} {σ:Hp}
noncomputable def tabOf:List (Str × Str × Str)→Int→Option (Str × Str)
 |[],_=>none
 |(s,x)::r,q=>if s.cps.toList.any (fun c=>decide (q=(c:Int))) then some x else tabOf r q
noncomputable def TabP (σ:Hp) (f:Int→Option Value) (L:List (Str × Str × Str)):Prop:=∀ q,match tabOf L q with
 |none=>f q=none
 |some x=>∃ s,f q=some (.ref s)∧SyAt σ s x.1 x.2
structure Tab (σ:Hp) (t:Addr) (p:Value) (d:Addr) (L:List (Str × Str × Str)) (N:Nat):Prop where
 t:σ t=some (.inst 225 [(17,p),(18,.ref d)])
 d:∃ n f,σ d=some (.dict n f)∧n≤N∧TabP σ f L
theorem TabP.mod {σ σ':Hp} {P:Addr→Prop} {f:Int→Option Value} {L} (h:TabP σ f L) (m:Mod P σ σ') (n:∀ a,P a→∀ C fs,σ a≠some (.inst C fs)):TabP σ' f L:=fun q=>by
 have:=h q
 split at this
 ·exact this
 ·obtain⟨s,h1,m1,h2⟩:=this
  exact⟨s,h1,m1,m _ _ (fun z=>n s z _ _ h2) h2⟩
theorem Tab.mod {σ σ':Hp} {P:Addr→Prop} {t d:Addr} {p L N} (h:Tab σ t p d L N) (m:Mod P σ σ') (n:∀ a,P a→∀ C fs,σ a≠some (.inst C fs)) (hd:¬ P d):Tab σ' t p d L N:=by
 obtain⟨h1,k,f,h2,h3,h4⟩:=h
 exact⟨m _ _ (fun z=>n t z _ _ h1) h1,k,f,m _ _ hd h2,h3,h4.mod m n⟩
theorem Tab.ext {σ σ':Hp} {t d:Addr} {p L N} (h:Tab σ t p d L N) (m:Ext σ σ'):Tab σ' t p d L N:=h.mod (P:=fun _=>False) (fun a c _ e=>m a c e) (fun _ h=>h.elim) (fun h=>h)
noncomputable def zgn (σ:Hp) (t:Addr) (p:Value) (d:Addr) (L:List (Str × Str × Str)) (N:Nat) (s:Str) (m:Nat) (sy:Addr) (k fl:Str) (σ':Hp):Prop :=
 σ' t=some (.inst 225 [(17,p),(18,.ref d)])∧(∃ n f,σ' d=some (.dict n f)∧n≤N+m ∧
  ∀ q,if (s.cps.toList.take m).any (fun c=>decide (q=(c:Int))) then f q=some (.ref sy) else match tabOf L q with
   |none=>f q=none
   |some x=>∃ s,f q=some (.ref s)∧SyAt σ' s x.1 x.2)∧SyAt σ' sy k fl∧Mod1 d σ σ'
theorem M7 (X:Bs K Z9) (F:bc K) (C:Qx K) {t d:Addr} {p:Value} {L N} {s δ k fl:Str} (T:Tab σ t p d L N) (hN:N+s.length < 2 ^ 20) (r:Rd δ k fl) (hs:s.cps.all (· < 128)=true) :
  CallSem w Z9 os 6 (.ref 187) [.ref t,vs s,vs δ] σ (fun r σ'=>r=.none∧Tab σ' t p d ((s,k,fl)::L) (N+s.length)∧Mod1 d σ σ') R:=by
 refine gq X F (by decide) ?_
 unfold cj
 walk_at "m"
 refine aF (zcp X F C r) (by lia) ?_
 refine fun r σ1=>kZ fun sy z0 hsy x1 hn=>?_;subst z0
 have T1:=T.ext x1
 have nd:∀ a,a=d→∀ C fs,σ1 a≠some (.inst C fs):=fun a e C fs q=>by
  refine fM (fun n f h _=>?_) T1.d
  rw[e,h] at q;cases q
 walk_at "m"
 have hlen:(chars s).length=s.length:=by unfold chars;simp[Str.length]
 refine g_forL_s (fun m ρ σ'=>(∃ u,ρ=[some (.ref t),some (vs s),some (vs δ),some (.ref sy),u])∧zgn σ t p d L N s m sy k fl σ') hs ?_ ?_ ?_
 ·refine⟨⟨_,rfl⟩,T1.t,?_,hsy,Mod1.ext x1⟩
  refine aC (fun n f h1 h2 h3=>?_) T1.d
  exact⟨n,f,h1,by lia,fun q=>by simpa using h3 q⟩
 ·refine fun ρ σ'=>lz fun z1 I1 z2 I5 I6=>?_;obtain⟨u,rfl⟩:=z1;obtain⟨n,f,I2,I3,I4⟩:=z2
  walk_at "m"
  rw[hlen] at I3
  refine⟨rfl,⟨I1,n,f,I2,I3,fun q=>?_⟩,I6⟩
  have:=I4 q
  rw[List.take_of_length_le (by rw[hlen];simp[Str.length])] at this
  unfold tabOf
  split at this
  ·rename_i hq
   rw[if_pos hq]
   exact⟨sy,this,I5⟩
  ·rename_i hq
   rw[if_neg hq]
   exact this
 ·refine fun m v ρ σ' hv=>lz fun z3 I1 z4 I5 I6=>?_;obtain⟨u,rfl⟩:=z3;obtain⟨n,f,I2,I3,I4⟩:=z4
  obtain⟨c,hc,rfl⟩:∃ c,s.cps.toList[m]?=some c∧v=vs ⟨#[c]⟩:=by
   unfold chars at hv
   rw[List.getElem?_map] at hv
   refine aV (fun c h1 h2=>?_) (Option.map_eq_some_iff.mp hv)
   exact⟨c,h1,h2.symm⟩
  have hm:m < s.length:=by
   have:=(List.getElem?_eq_some_iff.mp hc).1
   simpa [Str.length] using this
  walk_at "m"
  refine f_ord ?_
  walk_at "m"
  refine g_iasg_d I2 (by show n < 2 ^ 20;lia) ?_
  have md:Mod1 d σ' (σ'.put d (.dict (n+1) fun q=>if q=(c:Int) then some (.ref sy) else f q)):=Mod1.refl.put
  have nd':∀ a,a=d→∀ C fs,σ' a≠some (.inst C fs):=fun a e C fs q=>by rw[e,I2] at q;cases q
  have nt:t≠d:=bC I1 I2 (by intro q;cases q)
  obtain⟨m0,hsy'⟩:=I5
  have ns:sy≠d:=bC hsy' I2 (by intro q;cases q)
  walk_at "m"
  refine lR ⟨⟨_,rfl⟩,aq nt I1,⟨n+1,_,aa,by lia,fun q=>?_⟩,⟨m0,aq ns hsy'⟩,I6.trans md⟩
  rw[List.take_add_one,List.any_append,hc]
  have h4:=I4 q
  by_cases hq:q=(c:Int)
  ·subst hq
   rw[if_pos (by simp),if_pos rfl]
  ·have:(List.any (some c).toList fun c=>decide (q=(c:Int)))=false:=by simp[hq]
   rw[this,Bool.or_false]
   rw[if_neg hq]
   split at h4
   ·rename_i h5
    rw[if_pos h5];exact h4
   ·rename_i h5
    rw[if_neg h5]
    split at h4
    ·exact h4
    ·obtain⟨s2,h6,m6,h7⟩:=h4
     exact⟨s2,h6,m6,aq (bC h7 I2 (by intro q;cases q)) h7⟩
end
section
variable {K:Frag} {w:World} {Z9:Heap} {os:OsState} {R:Value→Hp→Prop} {σ:Hp}
theorem WX {d:Str} (c:Nat) (h:d.cps=#[c]) (nd:decide ((⟨#[c]⟩:Str)="-")=false) (kd:dG ⟨#[c]⟩ " w_.()'\"\\/$<>@!|"=true) (e:StrLaws.sliceText d (some 2) none=Str.empty):Rd d ⟨#[c]⟩ "" :=
 ⟨by unfold Str.length;rw[h];show 0 < 1∧1≤10;decide,⟨c,by rw[h];rfl,rfl⟩,nd,.inl (by unfold Str.length;rw[h];show 1 < 2;decide),kd,⟨[],fun σ=>by rw[e];rfl,rfl⟩,by rw[e];decide +kernel,by decide,by rw[e];decide⟩
theorem zgo:Rd "w" "w" "":=WX 119 rfl (by decide +kernel) (by decide +kernel) (by decide +kernel)
theorem zfC:Rd " " " " "":=WX 32 rfl (by decide +kernel) (by decide +kernel) (by decide +kernel)
theorem XC:Rd "_" "_" "":=WX 95 rfl (by decide +kernel) (by decide +kernel) (by decide +kernel)
theorem zcf:Rd "." "." "":=WX 46 rfl (by decide +kernel) (by decide +kernel) (by decide +kernel)
theorem zf5:Rd "\"" "\"" "":=WX 34 rfl (by decide +kernel) (by decide +kernel) (by decide +kernel)
theorem zen:Rd "\\" "\\" "":=WX 92 rfl (by decide +kernel) (by decide +kernel) (by decide +kernel)
theorem zfk:Rd ">" ">" "":=WX 62 rfl (by decide +kernel) (by decide +kernel) (by decide +kernel)
theorem zeA:Rd "<" "<" "":=WX 60 rfl (by decide +kernel) (by decide +kernel) (by decide +kernel)
theorem zg0:Rd "'" "'" "":=WX 39 rfl (by decide +kernel) (by decide +kernel) (by decide +kernel)
theorem rd2 {d:Str} (c c2:Nat) (h:d.cps=#[c,c2]) (nd:decide ((⟨#[c]⟩:Str)="-")=false) (kd:dG ⟨#[c]⟩ " w_.()'\"\\/$<>@!|"=true) (e:StrLaws.sliceText d (some 2) none=Str.empty):Rd d ⟨#[c]⟩ "" :=
 ⟨by unfold Str.length;rw[h];show 0 < 2∧2≤10;decide,⟨c,by rw[h];rfl,rfl⟩,nd,.inr ⟨c2,by rw[h];rfl⟩,kd,⟨[],fun σ=>by rw[e];rfl,rfl⟩,by rw[e];decide +kernel,by decide,by rw[e];decide⟩
theorem zdJ:Rd "()" "(" "":=rd2 40 41 rfl (by decide +kernel) (by decide +kernel) (by decide +kernel)
theorem zfq:Rd ")(" ")" "":=rd2 41 40 rfl (by decide +kernel) (by decide +kernel) (by decide +kernel)
theorem zdn:Rd "(]" "(" "":=rd2 40 93 rfl (by decide +kernel) (by decide +kernel) (by decide +kernel)
theorem zf7:Rd ")[" ")" "":=rd2 41 91 rfl (by decide +kernel) (by decide +kernel) (by decide +kernel)
theorem zdP:Rd "(}" "(" "":=rd2 40 125 rfl (by decide +kernel) (by decide +kernel) (by decide +kernel)
theorem zfu:Rd "){" ")" "":=rd2 41 123 rfl (by decide +kernel) (by decide +kernel) (by decide +kernel)
theorem zfA:Rd "_ p" "_" "p" :=
 ⟨by decide,⟨95,rfl,rfl⟩,by decide +kernel,.inr ⟨32,rfl⟩,by decide +kernel,⟨[.bool true],fun σ=>by rw[show StrLaws.sliceText "_ p" (some 2) none="p" by decide +kernel];with_unfolding_all rfl,rfl⟩,by decide +kernel,by decide,by decide +kernel⟩
theorem ze2:Rd "' 14" "'" "14" :=
 ⟨by decide,⟨39,rfl,rfl⟩,by decide +kernel,.inr ⟨32,rfl⟩,by decide +kernel,⟨[.bool true,.bool true],fun σ=>by rw[show StrLaws.sliceText "' 14" (some 2) none="14" by decide +kernel];with_unfolding_all rfl,rfl⟩,by decide +kernel,by decide,by decide +kernel⟩
theorem zeg:Rd "_ 23bn" "_" "23bn" :=
 ⟨by decide,⟨95,rfl,rfl⟩,by decide +kernel,.inr ⟨32,rfl⟩,by decide +kernel,⟨[.bool true,.bool true,.bool true,.bool true],fun σ=>by rw[show StrLaws.sliceText "_ 23bn" (some 2) none="23bn" by decide +kernel];with_unfolding_all rfl,rfl⟩,by decide +kernel,by decide,by decide +kernel⟩
theorem Vr (X:Bs K Z9) (F:bc K) {a:Addr} (ha:σ a=some (.inst 225 [])) :
  CallSem w Z9 os 3 (.ref 173) [.ref a] σ (fun r σ'=>r=.none∧∃ d,σ d=none∧Tab σ' a .none d [] 0∧Mod1 a σ σ') R:=by
 refine jm X F (by decide) ?_
 unfold bB
 walk_at "m"
 intro d hd
 have md:Mod1 a (σ.put a (.inst 225 [(17,.none)])) ((σ.put a (.inst 225 [(17,.none)])).put d (.dict 0 fun _=>none)):=Mod1.ext (Ext.put hd)
 have hne:d≠a:=fun q=>by rw[q,aa] at hd;cases hd
 have hd0:σ d=none:=by
  cases q:σ d with
  |none=>rfl
  |some c=>rw[aq hne q] at hd;cases hd
 walk_at "m"
 exact⟨rfl,d,hd0,⟨aa,0,_,aq hne aa,Nat.le_refl _,fun q=>rfl⟩,((Mod1.refl.put).trans md).put⟩
theorem Pa (X:Bs K Z9) (F:bc K) {a p:Addr} (ha:σ a=some (.inst 225 [])) :
  CallSem w Z9 os 3 (.ref 173) [.ref a,.ref p] σ (fun r σ'=>r=.none∧∃ d,σ d=none∧Tab σ' a (.ref p) d [] 0∧Mod1 a σ σ') R:=by
 refine lD X F (by decide) ?_
 unfold bB
 walk_at "m"
 intro d hd
 have md:Mod1 a (σ.put a (.inst 225 [(17,.ref p)])) ((σ.put a (.inst 225 [(17,.ref p)])).put d (.dict 0 fun _=>none)):=Mod1.ext (Ext.put hd)
 have hne:d≠a:=fun q=>by rw[q,aa] at hd;cases hd
 have hd0:σ d=none:=by
  cases q:σ d with
  |none=>rfl
  |some c=>rw[aq hne q] at hd;cases hd
 walk_at "m"
 exact⟨rfl,d,hd0,⟨aa,0,_,aq hne aa,Nat.le_refl _,fun q=>rfl⟩,((Mod1.refl.put).trans md).put⟩
theorem ou (X:Bs K Z9) (F:bc K) (C:Qx K) {t d:Addr} {p:Value} {L N} {s δ k fl:Str} (r:Rd δ k fl) (T:Tab σ t p d L N) (hN:N≤5000) (hs:s.cps.all (· < 128)=true) (hl:s.length≤100) :
  CallSem w Z9 os 6 (.ref 187) [.ref t,vs s,vs δ] σ (fun r σ'=>r=.none∧Tab σ' t p d ((s,k,fl)::L) (N+100)∧Mod1 d σ σ') R:=by
 refine(M7 X F C T (by lia) r hs).mono (Nat.le_refl _) ?_
 refine fun r σ'=>iJ fun z0 z1 m=>?_;subst z0;obtain⟨h1,n,f,h2,h3,h4⟩:=z1
 exact⟨rfl,⟨h1,n,f,h2,by lia,h4⟩,m⟩
noncomputable def RV (m:Nat):List (Str × Str × Str):=(([("(",")"),("[","]"),("{","}")]:List (Str × Str)).take m).foldl (fun L x=>(x.2,")","")::(x.1,"(","")::L)
 [(".,;:?!#@~^'`",".",""),("_-+*/&|<>=","_",""),(" \t\n\r\x0c"," ",""),("abcdefghijklmnopqrstuvwxyzABCDEFGHIJKLMNOPQRSTUVWXYZ0123456789$%","w","")]
noncomputable def VV:List (Str × Str × Str):=("\\","\\","")::("\"","\"","")::RV 3
theorem JK (X:Bs K Z9) (F:bc K):CallSem w Z9 os 3 (.ref 236) [] σ (fun r σ'=>r=vs "abcdefghijklmnopqrstuvwxyzABCDEFGHIJKLMNOPQRSTUVWXYZ0123456789"∧σ'=σ) R:=by
 refine yz X F (by decide) ?_
 unfold rn
 walk_at "m"
 exact⟨rfl,rfl⟩
inductive zeM (σ:Hp):Value→Hp→Prop
 |mk (t d:Addr) (τ:Hp) (T:Tab τ t .none d VV 2000) (x:Ext σ τ):zeM σ (.ref t) τ
structure TX (σ:Hp) (t d:Addr) (L:List (Str × Str × Str)) (N:Nat) (τ:Hp):Prop where
 T:Tab τ t .none d L N
 x:Ext σ τ
theorem xK (X:Bs K Z9) (F:bc K) (C:Qx K) {n:Nat} {kk:List Value→Hp→Prop} {τ:Hp} {t d:Addr} {L N} {s δ k fl:Str} (r:Rd δ k fl) (T:TX σ t d L N τ) (hd:σ d=none) (hN:N≤5000) (hs:s.cps.all (· < 128)=true) (hl:s.length≤100) (hn:6≤n)
  (h:∀ τ',TX σ t d ((s,k,fl)::L) (N+100) τ'→kk [.none] τ'):iD w Z9 os n R (.ref 187) [.ref t,vs s,vs δ] τ kk :=
 au (ou X F C r T.T hN hs hl) hn fun τ' q=>h τ' ⟨q.1,Ext.mod1 T.x q.2 hd⟩
inductive StI (σ:Hp) (t d:Addr) (m:Nat):Loc→Hp→Prop
 |mk (u v:Option Value) (τ:Hp) (hm:m≤3) (T:Tab τ t .none d (RV m) (400+200 * m)) (I:Mod1 d σ τ):StI σ t d m [some (.ref t),u,v] τ
theorem El (X:Bs K Z9) (F:bc K) (C:Qx K):CallSem w Z9 os 7 (.ref 243) [] σ (zeM σ) R:=by
 refine nR X F (by decide) (cps fun Q hQ=>?_)
 unfold fC
 walk_at "m"
 refine pW (m:=3) (Q:=fun a r σ'=>r=.none∧∃ d,(σ.put a (.inst 225 [])) d=none∧Tab σ' a .none d [] 0∧Mod1 a (σ.put a (.inst 225 [])) σ') (by lia) (fun a ha=>Vr X F aa) ?_
 refine fun t v σ1 ht=>xG fun z2 d hd T m1=>?_;subst z2
 have hd0:σ d=none:=by
  cases q:σ d with
  |none=>rfl
  |some c=>rw[eQ ht q] at hd;cases hd
 have T:TX σ t d [] 0 σ1:=⟨T,Ext.mod1 (Ext.put ht) m1 ht⟩
 refine⟨rfl,?_⟩
 have h1:=T.T.t
 walk_at "m"
 refine ak (JK X F) (by lia) ?_
 walk_at "m"
 refine cC (by decide +kernel) ?_
 walk_at "m"
 refine xK X F C zgo T hd0 (by lia) (by decide +kernel) (by decide +kernel) (by lia) fun σ2 T2=>?_
 have h2:=T2.T.t
 walk_at "m"
 refine xK X F C zfC T2 hd0 (by lia) (by decide +kernel) (by decide +kernel) (by lia) fun σ3 T3=>?_
 have h3:=T3.T.t
 walk_at "m"
 refine xK X F C XC T3 hd0 (by lia) (by decide +kernel) (by decide +kernel) (by lia) fun σ4 T4=>?_
 have h4:=T4.T.t
 walk_at "m"
 refine xK X F C zcf T4 hd0 (by lia) (by decide +kernel) (by decide +kernel) (by lia) fun σ5 T5=>?_
 have h5:=T5.T.t
 walk_at "m"
 have tups:∀ {o c:Str} {σ6:Hp} {a:Addr},σ6 a=none→Ext σ6 (σ6.put a (.tup [vs o,vs c]))∧(σ6.put a (.tup [vs o,vs c])) a=some (.tup [vs o,vs c]):=fun h=>⟨Ext.put h,aa⟩
 intro a1 ha1
 obtain⟨y1,e1⟩:=tups (o:="(") (c:=")") ha1
 generalize σ5.put a1 (.tup [vs "(",vs ")"])=σ6 at y1 e1 ⊢
 walk_at "m"
 intro a2 ha2
 obtain⟨y2,e2⟩:=tups (o:="[") (c:="]") ha2
 generalize σ6.put a2 (.tup [vs "[",vs "]"])=σ7 at y2 e2 ⊢
 walk_at "m"
 intro a3 ha3
 obtain⟨y3,e3⟩:=tups (o:="{") (c:="}") ha3
 generalize σ7.put a3 (.tup [vs "{",vs "}"])=σ8 at y3 e3 ⊢
 walk_at "m"
 intro a4 ha4
 have y4:=Ext.put (c:=.tup [.ref a1,.ref a2,.ref a3]) ha4
 have e4:(σ8.put a4 (.tup [.ref a1,.ref a2,.ref a3])) a4=some (.tup [.ref a1,.ref a2,.ref a3]):=aa
 generalize σ8.put a4 (.tup [.ref a1,.ref a2,.ref a3])=σ9 at y4 e4 ⊢
 have x9:Ext σ σ9:=T5.x.trans (y1.trans (y2.trans (y3.trans y4)))
 have T9:=T5.T.ext (y1.trans (y2.trans (y3.trans y4)))
 have e1:=y4 _ _ (y3 _ _ (y2 _ _ e1))
 have e2:=y4 _ _ (y3 _ _ e2)
 have e3:=y4 _ _ e3
 have dd:∃ n f,σ9 d=some (.dict n f):=by refine fM (fun n f h _=>?_) T9.d;exact⟨n,f,h⟩
 have nt:∀ {a:Addr} {xs:List Value},σ9 a=some (.tup xs)→a≠d:=fun {a xs} h q=>by
  refine W7 (fun n f h2=>?_) dd
  rw[q,h2] at h;cases h
 walk_at "m"
 refine g_forU (fun m ρ σ1=>StI σ9 t d m ρ σ1) e4 ⟨_,_,_,by decide,T9,Mod1.refl⟩ ?_ ?_ ?_
 ·intro m ρ σ' zz;obtain⟨_,_,_,_,_,I⟩:=zz
  exact I _ _ (nt e4) e4
 ·intro ρ σ' zz;obtain⟨u,v,σ',_,T',I⟩:=zz
  have T':TX σ t d (RV 3) 1000 σ':=⟨T',Ext.mod1 x9 I hd0⟩
  have h':=T'.T.t
  walk_at "m"
  refine xK X F C zf5 T' hd0 (by decide) (by decide +kernel) (by decide +kernel) (by lia) fun σ10 T10=>?_
  have h10:=T10.T.t
  walk_at "m"
  refine xK X F C zen T10 hd0 (by decide) (by decide +kernel) (by decide +kernel) (by lia) fun σ11 T11=>?_
  have h11:=T11.T.t
  walk_at "m"
  refine hQ _ _ ⟨t,d,_,?_,T11.x⟩
  obtain⟨q1,n,f,q2,q3,q4⟩:=T11.T
  exact⟨q1,n,f,q2,Nat.le_trans q3 (by decide),q4⟩
 ·have go:∀ (m:Nat) (o c:Str) (oc co:Str) (a:Addr) (ρ:Loc) (σ1:Hp),σ9 a=some (.tup [vs o,vs c])→("(":Str)++c=oc→(")":Str)++o=co→Rd oc "(" ""→Rd co ")" ""→o.length=1→c.length=1→o.cps.all (· < 128)=true→c.cps.all (· < 128)=true →
    m < 3→RV (m+1)=(c,(")":Str),("":Str))::(o,("(":Str),("":Str))::RV m →
    StI σ9 t d m ρ σ1→∀ kk:Fl→Loc→Hp→Prop,
    ∃ t' us ρ',(Value.ref a)=.ref t'∧σ1 t'=some (.tup us)∧cA ρ [1,2] us=some ρ'∧ex w Z9 os 6 R (.seq (.exp (.meth (.loc 0) 33 (.cons (.loc 1) (.cons (.bin .Add (.cst (.str "(" 0)) (.loc 2)) .nil)))) (.seq (.exp (.meth (.loc 0) 33 (.cons (.loc 2) (.cons (.bin .Add (.cst (.str ")" 0)) (.loc 1)) .nil)))) .nil)) ρ' σ1 (sW (StI σ9 t d (m+1)) kk):=by
   rintro m o c oc co a ρ σ' ha rfl rfl r1 r2 l1 l2 k1 k2 hm hp ⟨u,v,σ',_,T',I⟩ kk
   have h':=T'.t
   refine⟨a,_,[some (.ref t),some (vs o),some (vs c)],rfl,I _ _ (nt ha) ha,rfl,?_⟩
   walk_at "m"
   refine cC (by rw[l2];decide +kernel) ?_
   walk_at "m"
   refine au (ou X F C r1 T' (by lia) k1 (by lia)) (by lia) ?_
   intro σ10 zz;obtain⟨T10,m10⟩:=zz
   have h10:=T10.t
   walk_at "m"
   refine cC (by rw[l1];decide +kernel) ?_
   walk_at "m"
   refine au (ou X F C r2 T10 (by lia) k2 (by lia)) (by lia) ?_
   intro σ11 zz;obtain⟨T11,m11⟩:=zz
   walk_at "m"
   obtain⟨q1,n,f,q2,q3,q4⟩:=T11
   exact lR ⟨_,_,_,hm,⟨q1,n,f,q2,by lia,by rw[hp];exact q4⟩,(I.trans m10).trans m11⟩
  intro m v ρ σ' hv I
  cases m with
  |zero=>cases hv;exact go 0 "(" ")" _ _ a1 ρ σ' e1 (by decide +kernel) (by decide +kernel) zdJ zfq (by decide +kernel) (by decide +kernel) (by decide +kernel) (by decide +kernel) (by decide) rfl I _
  |succ m=>cases m with
   |zero=>cases hv;exact go 1 "[" "]" _ _ a2 ρ σ' e2 (by decide +kernel) (by decide +kernel) zdn zf7 (by decide +kernel) (by decide +kernel) (by decide +kernel) (by decide +kernel) (by decide) rfl I _
   |succ m=>cases m with
    |zero=>cases hv;exact go 2 "{" "}" _ _ a3 ρ σ' e3 (by decide +kernel) (by decide +kernel) zdP zfu (by decide +kernel) (by decide +kernel) (by decide +kernel) (by decide +kernel) (by decide) rfl I _
    |succ m=>cases hv
end
section
variable {K:Frag} {w:World} {Z9:Heap} {os:OsState} {R:Value→Hp→Prop} {σ:Hp}
noncomputable def zaQ:List (Str × Str × Str):=[("|","_","23bn"),("#","'","14"),("@","_","p"),("`',","'",""),(";","<",""),("\n",">",""),("!$%&*+-./:<=>?@^_{}~|","_","")]
theorem both (c:Ch):tabOf zaQ (code c)=some (kind c,flags c)∨(tabOf zaQ (code c)=none∧tabOf VV (code c)=some (kind c,flags c)):=by
 cases c<;>first|exact .inl (by decide +kernel)|exact .inr ⟨by decide +kernel,by decide +kernel⟩
theorem zcv (X:Bs K Z9) (F:bc K) (C:Qx K):CallSem w Z9 os 8 (.ref 250) [] σ (fun r σ'=>∃ t,r=.ref t∧TableAt σ' t∧Ext σ σ') R:=by
 refine ue X F (by decide) (cps fun Q hQ=>?_)
 unfold jK
 walk_at "m"
 refine aF (El X F C) (by lia) ?_
 intro r σ1 zz;obtain⟨tp,dp,σ1,P,x1⟩:=zz
 walk_at "m"
 refine pW (m:=3) (Q:=fun a r σ'=>r=.none∧∃ d,(σ1.put a (.inst 225 [])) d=none∧Tab σ' a (.ref tp) d [] 0∧Mod1 a (σ1.put a (.inst 225 [])) σ') (by lia) (fun a ha=>Pa X F aa) ?_
 refine fun t v σ2 ht=>xG fun z0 d hd T m1=>?_;subst z0
 have y2:Ext σ1 σ2:=Ext.mod1 (Ext.put ht) m1 ht
 have hd1:σ1 d=none:=by
  cases q:σ1 d with
  |none=>rfl
  |some c=>rw[eQ ht q] at hd;cases hd
 have P2:=P.ext y2
 have ndp:dp≠d:=by
  refine fM (fun n f h _=>?_) P.d
  exact cJ h hd1
 have keep:∀ {σ3 σ4:Hp} {L N},Tab σ3 t (.ref tp) d L N→Tab σ3 tp .none dp VV 2000→Mod1 d σ3 σ4→Tab σ4 tp .none dp VV 2000:=fun T' P' m=>P'.mod m (fun a e C fs q=>by
  refine fM (fun n f h _=>?_) T'.d
  have e:a=d:=e
  rw[e,h] at q;cases q) ndp
 refine⟨rfl,?_⟩
 have h2:=T.t
 walk_at "m"
 refine au (ou X F C XC T (by lia) (by decide +kernel) (by decide +kernel)) (by lia) ?_
 intro σ3 zz;obtain⟨T3,m3⟩:=zz
 have P3:=keep T P2 m3
 have y3:=Ext.mod1 y2 m3 hd1
 have h3:=T3.t
 walk_at "m"
 refine au (ou X F C zfk T3 (by lia) (by decide +kernel) (by decide +kernel)) (by lia) ?_
 intro σ4 zz;obtain⟨T4,m4⟩:=zz
 have P4:=keep T3 P3 m4
 have y4:=Ext.mod1 y3 m4 hd1
 have h4:=T4.t
 walk_at "m"
 refine au (ou X F C zeA T4 (by lia) (by decide +kernel) (by decide +kernel)) (by lia) ?_
 intro σ5 zz;obtain⟨T5,m5⟩:=zz
 have P5:=keep T4 P4 m5
 have y5:=Ext.mod1 y4 m5 hd1
 have h5:=T5.t
 walk_at "m"
 refine au (ou X F C zg0 T5 (by lia) (by decide +kernel) (by decide +kernel)) (by lia) ?_
 intro σ6 zz;obtain⟨T6,m6⟩:=zz
 have P6:=keep T5 P5 m6
 have y6:=Ext.mod1 y5 m6 hd1
 have h6:=T6.t
 walk_at "m"
 refine au (ou X F C zfA T6 (by lia) (by decide +kernel) (by decide +kernel)) (by lia) ?_
 intro σ7 zz;obtain⟨T7,m7⟩:=zz
 have P7:=keep T6 P6 m7
 have y7:=Ext.mod1 y6 m7 hd1
 have h7:=T7.t
 walk_at "m"
 refine au (ou X F C ze2 T7 (by lia) (by decide +kernel) (by decide +kernel)) (by lia) ?_
 intro σ8 zz;obtain⟨T8,m8⟩:=zz
 have P8:=keep T7 P7 m8
 have y8:=Ext.mod1 y7 m8 hd1
 have h8:=T8.t
 walk_at "m"
 refine au (ou X F C zeg T8 (by lia) (by decide +kernel) (by decide +kernel)) (by lia) ?_
 intro σ9 zz;obtain⟨T9,m9⟩:=zz
 have P9:=keep T8 P8 m9
 have y9:=Ext.mod1 y8 m9 hd1
 walk_at "m"
 obtain⟨t1,n1,f1,t2,t3,t4⟩:=T9
 obtain⟨p1,n2,f2,p2,p3,p4⟩:=P9
 refine hQ _ _ ⟨t,rfl,⟨tp,d,dp,n1,n2,f1,f2,t1,t2,p1,p2,fun c=>?_⟩,x1.trans y9⟩
 have t4:TabP σ9 f1 zaQ:=t4
 rcases both c with b|⟨b,b2⟩
 ·have:=t4 (code c)
  rw[b] at this
  exact .inl this
 ·have q:=t4 (code c)
  have q2:=p4 (code c)
  rw[b] at q
  rw[b2] at q2
  exact .inr ⟨q,q2⟩
end
structure Mi (cs:List Ch) (f s e spot:Int):Prop where
 uf:fZ cs false 1 spot (.val e)
 ub:ig cs false 1 spot (.val s)
 df:fZ cs false (-1) f (.val (s+1))
 db:ig cs false (-1) e (.val (e - 1))
 mo:∃ y,ao cs s=some y∧fW y=true
 mq:isQ cs s=false
 mf:fZ cs false 0 s (.val e)
 ec:∃ y,ao cs (e - 1)=some y∧dX y=true
 eq:isQ cs (e - 1)=false
 mb:ig cs false 0 (e - 1+1) (.val s)
structure Lk (cs:List Ch) (ar:List Int) (behind ahead:Int) (df db dl:Value):Prop where
 f:∃ r,fZ cs true 0 behind r∧tells cs (ends cs r) r=df
 b:∃ r q,ig cs true 0 ahead r∧(∀ p',r=.val p'→zq cs p' q)∧(r=.out→q=1)∧tells cs q r=db
 l:∃ r,fZ cs false 0 behind r∧tells cs (ends cs r) r=dl
 s:∃ n s',PRun cs ahead n ⟨1,[],.plain⟩ s'∧s'.ops=ar
noncomputable def wH (cs:List Ch) (ar:List Int):Value:=if ar=[] then vi (1+cs.length) else vs "scan-error"
noncomputable def Fv (ar:List Int):Value:=if ar=[] then vi 1 else vs "scan-error"
noncomputable def vX (cs:List Ch) (ar:List Int):Lv→Int→Value
 |.nil,_=>wH cs ar
 |.cons s i l,p=>if tD i=true then vi (p+(aj s).length+(aD i).length) else vX cs ar l (p+(aj s).length+(aD i).length)
noncomputable def spotOf:Lv→Int→Int
 |.nil,p=>p
 |.cons s _ _,p=>p+(aj s).length
mutual
noncomputable def uo (cs:List Ch):It→Int→List Int→Prop
 |.atom _ _,_,_=>True
 |.lst px rd its last,p,ar=>Mi cs p (p+(aO px).length) (p+(aD (.lst px rd its last)).length) (spotOf its (p+(aO px).length+1)) ∧
   gk cs its (p+(aO px).length+1) (ar++[p+(aO px).length]) (Fv (ar++[p+(aO px).length])) (p+(aD (.lst px rd its last)).length - 1)
noncomputable def gk (cs:List Ch):Lv→Int→List Int→Value→Int→Prop
 |.nil,p,ar,prev,e=>Lk cs ar p e (wH cs ar) prev (wH cs ar)
 |.cons s i l,p,ar,prev,e=>Lk cs ar p (p+(aj s).length) (vi (p+(aj s).length+(aD i).length)) prev (vX cs ar (.cons s i l) p) ∧
   uo cs i (p+(aj s).length) ar∧gk cs l (p+(aj s).length+(aD i).length) ar (vi (p+(aj s).length)) e
end
noncomputable def zf0:Lv→Nat
 |.nil=>0
 |.cons _ _ l=>zf0 l+1
section
variable {K:Frag} {w:World} {Z9:Heap} {os:OsState} {R:Value→Hp→Prop} {σ:Hp} {v c t:Addr} {cs:List Ch}
theorem ItAt.ext {σb σ':Hp} (x:Ext σ σ') {i p ar q} (h:ItAt σb σ i p ar q):ItAt σb σ' i p ar q:=h.keep (P:=fun _=>False) ⟨Mod.ext' x,fun _ h=>h.elim,fun _ h=>h.elim⟩
theorem LvAt.ext {σb σ':Hp} (x:Ext σ σ') {l p ar rs} (h:LvAt σb σ l p ar rs):LvAt σb σ' l p ar rs:=h.keep (P:=fun _=>False) ⟨Mod.ext' x,fun _ h=>h.elim,fun _ h=>h.elim⟩
theorem yj {σb:Hp} {i:It} {p:Int} {ar:List Int} {q:Addr} (h:ItAt σb σ i p ar q):∃ x ra,σ q=some (.tup [vi p,vi (p+(aO (Ce i)).length),vi (p+(aD i).length),x,.ref ra])∧(isNone x=!tD i):=by
 cases i with
 |atom px a =>
  refine aV (fun ra h1 _=>?_) h
  exact⟨_,ra,h1,rfl⟩
 |lst px rd its last =>
  refine iH (fun ra li rs h1 _=>?_) h
  exact⟨_,ra,h1,rfl⟩
theorem wM (X:Bs K Z9) (F:bc K) (g:G Z9 σ v c t cs) {σb:Hp} {px:Nat} {rd:Bool} {its:Lv} {last:Sep} {p:Int} {ar:List Int} {q:Addr}
  (h:ItAt σb σ (.lst px rd its last) p ar q) (k:Mi cs p (p+(aO px).length) (p+(aD (.lst px rd its last)).length) (spotOf its (p+(aO px).length+1))) :
  CallSem w Z9 os 16 (.ref 792) [.ref v,.ref t,.ref q] σ (fun r σ'=>r=.bool true∧Ext σ σ') R:=by
 refine bY (fun ra li rs e1 e2 _ e3 e4=>?_) h
 generalize (p+(aO px).length:Int)=s at *
 generalize (p+(aD (.lst px rd its last)).length:Int)=e at *
 refine mG X F (by decide) ?_
 unfold eY
 refine aY (NQ ?_)
 walk_at "m"
 refine g_unp_t e1 (by with_unfolding_all rfl) ?_
 have rest:∀ σ1,Ext σ σ1→lE w Z9 os 15 R (.seq (.ite (.bor (.cmp .NotEq (.call (.gv 62 (.ref 671)) (.cons (.loc 0) (.cons (.loc 1) (.cons (.loc 8) (.cons (.cst (.int 1 0)) .nil))))) (.loc 5)) (.cmp .NotEq (.call (.gv 62 (.ref 671)) (.cons (.loc 0) (.cons (.loc 1) (.cons (.loc 8) (.cons (.neg (.cst (.int 1 0))) .nil))))) (.loc 4))) (.seq (.ret (.cst (.bool false))) .nil) .nil) (.seq (.ite (.bor (.cmp .NotEq (.call (.gv 63 (.ref 678)) (.cons (.loc 0) (.cons (.loc 1) (.cons (.loc 3) (.cons (.cst (.int 1 0)) .nil))))) (.bin .Add (.loc 4) (.cst (.int 1 0)))) (.cmp .NotEq (.call (.gv 63 (.ref 678)) (.cons (.loc 0) (.cons (.loc 1) (.cons (.loc 5) (.cons (.neg (.cst (.int 1 0))) .nil))))) (.bin .Sub (.loc 5) (.cst (.int 1 0))))) (.seq (.ret (.cst (.bool false))) .nil) .nil) (.seq (.ret (.band (.cmp .Eq (.call (.gv 64 (.ref 685)) (.cons (.loc 0) (.cons (.loc 1) (.cons (.loc 4) .nil)))) (.bin .Sub (.loc 5) (.cst (.int 1 0)))) (.cmp .Eq (.call (.gv 64 (.ref 685)) (.cons (.loc 0) (.cons (.loc 1) (.cons (.bin .Sub (.loc 5) (.cst (.int 1 0))) .nil)))) (.loc 4)))) .nil)))
   (j0 fun r σ'=>r=.bool true∧Ext σ σ') .next [some (.ref v),some (.ref t),some (.ref q),some (vi p),some (vi s),some (vi e),some (.ref li),some (.ref ra),some (vi (spotOf its (s+1)))] σ1:=by
  intro σ1 x1
  have g1:=g.ext x1
  walk_at "m"
  refine au (Be X F g1 k.uf) (by decide) ?_
  rintro σ2 x2
  have g2:=g1.ext x2
  walk_at "m"
  rw[decide_eq_true (rfl:e=e)]
  walk_at "m"
  refine au (zX X F g2 k.ub) (by decide) ?_
  rintro σ3 x3
  have g3:=g2.ext x3
  walk_at "m"
  rw[decide_eq_true (rfl:s=s)]
  walk_at "m"
  refine au (wQ X F g3 k.df) (by decide) ?_
  rintro σ4 x4
  have g4:=g3.ext x4
  walk_at "m"
  rw[decide_eq_true (rfl:s+1=s+1)]
  walk_at "m"
  refine au (wW X F g4 k.db) (by decide) ?_
  rintro σ5 x5
  have g5:=g4.ext x5
  walk_at "m"
  rw[decide_eq_true (rfl:e - 1=e - 1)]
  walk_at "m"
  refine aV (fun y hy hop=>?_) k.mo
  refine au (wB X F g5 hy hop k.mq k.mf) (by decide) ?_
  rintro σ6 x6
  have g6:=g5.ext x6
  walk_at "m"
  rw[decide_eq_true (rfl:e - 1=e - 1)]
  walk_at "m"
  refine aV (fun y2 hy2 hcl=>?_) k.ec
  refine au (wG X F g6 hy2 hcl k.eq k.mb) (by decide) ?_
  rintro σ7 x7
  walk_at "m"
  rw[decide_eq_true (rfl:s=s)]
  exact⟨rfl,x1.trans (x2.trans (x3.trans (x4.trans (x5.trans (x6.trans x7)))))⟩
 walk_at "m"
 intro b hb
 have x1:=Ext.put (c:=.list []) hb
 have eb:(σ.put b (.list [])) b=some (.list []):=aa
 have f3:=x1 _ _ e3
 have f4:=e4.ext x1
 generalize σ.put b (.list [])=σ1 at x1 eb f3 f4 ⊢
 walk_at "m"
 cases its with
 |nil =>
  have f4:rs=[]:=f4
  subst f4
  refine jG f3 eb (.inl ⟨rfl,rfl⟩) ?_
  rw[decide_eq_true rfl]
  walk_at "m step"
  walk_at "m step"
  walk_at "m step"
  walk_at "m step"
  walk_at "m step"
  walk_at "m step"
  walk_at "m step"
  walk_at "m step"
  walk_at "m step"
  exact rest _ x1
 |cons s0 i l =>
  revert f4;refine aC fun q2 rs' z0 h1 h2=>?_;subst z0
  refine fM (fun x ra2 h3 _=>?_) (yj h1)
  refine jG f3 eb (.inr (by simp)) ?_
  rw[decide_eq_false (by simp)]
  walk_at "m"
  refine i_list f3 (v:=.ref q2) rfl ?_
  walk_at "m"
  refine i_tup h3 (v:=vi (s+1+(aj s0).length)) rfl ?_
  walk_at "m step"
  exact rest _ x1
end
section
variable {K:Frag} {w:World} {Z9:Heap} {os:OsState} {R:Value→Hp→Prop} {σ σb:Hp} {v c t:Addr} {cs:List Ch}
theorem zE:∀ {l:Lv} {p:Int} {ar:List Int} {rs:List Value} {prev:Value} {e:Int} (m:Nat),LvAt σb σ l p ar rs→gk cs l p ar prev e→m≤rs.length →
  ∃ l' p' prev',LvAt σb σ l' p' ar (rs.drop m)∧gk cs l' p' ar prev' e∧(m=0→p'=p∧prev'=prev)∧(∀ j,m=j+1→∃ q f s x ra,rs[j]?=some (.ref q)∧σ q=some (.tup [vi f,vi s,vi p',x,.ref ra])∧prev'=vi f)
 |l,p,ar,rs,prev,e,0,h1,h2,_=>⟨l,p,prev,h1,h2,fun _=>⟨rfl,rfl⟩,fun j hj=>by cases hj⟩
 |.nil,p,ar,rs,prev,e,m+1,h1,h2,h3=>by
  have h1:rs=[]:=h1
  subst h1;cases h3
 |.cons s i l,p,ar,rs,prev,e,m+1,h1,h2,h3=>by
  revert h1;refine aC fun q rs' z0 h4 h5=>?_;subst z0
  refine iJ (fun h6 h7 h8=>?_) h2
  refine gD (fun l' p' prev' k1 k2 k3 k4=>?_) (zE m h5 h8 (by simpa using h3))
  refine⟨l',p',prev',k1,k2,fun z=>(by cases z),fun j hj=>?_⟩
  cases hj
  cases m with
  |zero =>
   obtain⟨rfl,rfl⟩:=k3 rfl
   refine fM (fun x ra e1 _=>?_) (yj h4)
   exact⟨q,_,_,x,ra,rfl,e1,rfl⟩
  |succ m=>exact k4 m rfl
theorem zp:∀ {l:Lv} {b:Bk} {p:Int} {ar:List Int} {rs:List Value} {prev:Value} {e:Int} {m:Nat} {x:Value},tQ b l→LvAt σb σ l p ar rs→gk cs l p ar prev e→rs[m]?=some x →
  ∃ q i p',x=.ref q∧vR i∧ItAt σb σ i p' ar q∧uo cs i p' ar∧(aD i).length≤(aA l).length
 |.nil,b,p,ar,rs,prev,e,m,x,h0,h1,h2,h3=>by
  have h1:rs=[]:=h1
  subst h1;cases h3
 |.cons s i l,b,p,ar,rs,prev,e,m,x,h0,h1,h2,h3=>by
  revert h1;refine aC fun q rs' z1 h4 h5=>?_;subst z1
  refine iJ (fun h6 h7 h8=>?_) h2
  refine iJ (fun _ o1 o2=>?_) h0
  cases m with
  |zero =>
   cases h3
   exact⟨q,i,_,rfl,o1,h4,h7,by simp only[aA,List.length_append];lia⟩
  |succ m =>
   refine bY (fun q' i' p' k1 o3 k2 k3 k4=>?_) (zp (m:=m) o2 h5 h8 h3)
   exact⟨q',i',p',k1,o3,k2,k3,by simp only[aA,List.length_append];lia⟩
noncomputable def sJ:Lv→Int→List Int
 |.nil,_=>[]
 |.cons s i l,p=>if tD i=true then (p+(aj s).length+(aD i).length)::sJ l (p+(aj s).length+(aD i).length) else sJ l (p+(aj s).length+(aD i).length)
theorem w5 (ar:List Int):∀ (l:Lv) (p:Int),((sJ l p).map vi++[wH cs ar]).head?=some (vX cs ar l p)
 |.nil,p=>rfl
 |.cons s i l,p=>by
  unfold sJ vX
  split
  ·rfl
  ·exact w5 ar l _
theorem xd:∀ {l:Lv} {p:Int} {ar:List Int} {rs:List Value},LvAt σb σ l p ar rs→dm σ (.idx (.loc 0) (.cst (.int 2 0))) (.cmp .IsNot (.idx (.loc 0) (.cst (.int 3 0))) (.cst .none)) rs=some ((sJ l p).map vi)
 |.nil,p,ar,rs,h=>by
  have h:rs=[]:=h
  subst h;rfl
 |.cons s i l,p,ar,rs,h=>by
  revert h;refine aC fun q rs' z2 h4 h5=>?_;subst z2
  have ih:=xd h5
  refine fM (fun x ra e1 e2=>?_) (yj h4)
  have e3:ji σ (.cmp .IsNot (.idx (.loc 0) (.cst (.int 3 0))) (.cst .none)) (.ref q)=some (!isNone x):=by
   have:pv σ (.ref q) (.idx (.loc 0) (.cst (.int 3 0)))=some x:=by
    show Option.bind (σ q) _=_
    rw[e1];rfl
   show Option.bind (Option.bind (pv σ (.ref q) (.idx (.loc 0) (.cst (.int 3 0)))) _) _=_
   rw[this];rfl
  have e4:pv σ (.ref q) (.idx (.loc 0) (.cst (.int 2 0)))=some (vi (p+(aj s).length+(aD i).length)):=by
   show Option.bind (σ q) _=_
   rw[e1];rfl
  unfold dm sJ
  rw[e3,e2,Bool.not_not]
  cases tD i with
  |true=>show Option.bind _ _=_;rw[e4,ih];rfl
  |false=>exact ih
theorem zH:∀ (l:Lv) (p:Int) {ar:List Int} {rs:List Value},LvAt σb σ l p ar rs→(sJ l p).length≤rs.length
 |.nil,p,ar,rs,h=>Nat.zero_le _
 |.cons s i l,p,ar,rs,h=>by
  revert h;refine aC fun q rs' z3 h4 h5=>?_;subst z3
  have:=zH l _ h5
  unfold sJ
  split<;>simp only[List.length_cons]<;>lia
theorem zG {a:su} (h:yP a):1≤(aR a).length:=by
 cases a with
 |word ps =>
  obtain⟨h1,_⟩:=h
  cases ps with
  |nil=>exact absurd rfl h1
  |cons x r =>
   show 1≤((x::r).flatMap aG).length
   rw[List.flatMap_cons,List.length_append]
   have:1≤(aG x).length:=by
    unfold aG
    match x with
    |0=>decide
    |1=>decide
    |2=>decide
    |3=>decide
    |n+4=>exact Nat.le_refl 1
   lia
 |str ss=>show 1≤([Ch.dq]++ss.flatMap bM++[Ch.dq]).length;simp
theorem zcQ:∀ {i:It},vR i→1≤(aD i).length
 |.atom px a,h=>by
  have:=zG (a:=a) h
  simp only[aD,List.length_append];lia
 |.lst px rd its last,h=>by simp only[aD,List.length_append,List.length_singleton];lia
theorem Nm:∀ {l:Lv} {b:Bk} {p:Int} {ar:List Int} {rs:List Value},tQ b l→LvAt σb σ l p ar rs→rs.length≤(aA l).length
 |.nil,b,p,ar,rs,_,h=>by
  have h:rs=[]:=h
  subst h;exact Nat.zero_le _
 |.cons s i l,b,p,ar,rs,h0,h=>by
  revert h;refine aC fun q rs' z4 h4 h5=>?_;subst z4
  have:=Nm h0.2.2 h5
  have:=zcQ h0.2.1
  simp only[aA,List.length_append,List.length_cons];lia
end
section
variable {K:Frag} {w:World} {Z9:Heap} {os:OsState} {R:Value→Hp→Prop} {σ σb:Hp} {v c t:Addr} {cs:List Ch}
noncomputable def Flat1 (x:Value):Prop:=(∃ i,x=vi i)∨∃ s,x=vs s
theorem flat_tells {x:Int} {r:Res}:Flat1 (tells cs x r):=by
 cases r with
 |err=>exact .inr ⟨_,rfl⟩
 |_=>exact .inl ⟨_,rfl⟩
theorem Flat1.flat {x:Value} (h:Flat1 x):flat x=true:=by rcases h with ⟨i,rfl⟩|⟨s,rfl⟩<;>rfl
theorem Ly {x:Value} (h:Flat1 x) {kb:Bool→Prop} (hk:kb false):fQ σ kb .NotEq x x:=by
 rcases h with ⟨i,rfl⟩|⟨s,rfl⟩
 ·refine zf ?_
  rw[decide_eq_true rfl];exact hk
 ·refine qd ?_
  rw[decide_eq_true rfl];exact hk
noncomputable def S7 (w:World) (Z9:Heap) (os:OsState) (k:Nat):Prop:=∀ {R:Value→Hp→Prop} {σ σb:Hp} {v c t li ra:Addr} {cs:List Ch} {its:Lv} {bk:Bk} {p e:Int} {ar:List Int} {rs:List Value},
 G Z9 σ v c t cs→tQ bk its→LvAt σb σ its p ar rs→σ li=some (.list rs)→σ ra=some (.tup (ar.map vi))→gk cs its p ar (Fv ar) e→(aA its).length≤2 * k→ar.length+k≤500→(aA its).length≤500 →
 CallSem w Z9 os (k+18) (.ref 797) [.ref v,.ref t,.ref li,vi p,vi e,.ref ra] σ (fun r σ'=>r=.bool true∧Ext σ σ') R
noncomputable abbrev X7:S:=(.seq (.ite (.cmp .IsNot (.idx (.loc 12) (.cst (.int 3 0))) (.cst .none)) (.seq (.ite (.not (.call (.gv 75 (.ref 792)) (.cons (.loc 0) (.cons (.loc 1) (.cons (.loc 12) .nil))))) (.seq (.ret (.cst (.bool false))) .nil) .nil) (.seq (.ite (.not (.call (.gv 76 (.ref 797)) (.cons (.loc 0) (.cons (.loc 1) (.cons (.idx (.loc 12) (.cst (.int 3 0))) (.cons (.bin .Add (.idx (.loc 12) (.cst (.int 1 0))) (.cst (.int 1 0))) (.cons (.bin .Sub (.idx (.loc 12) (.cst (.int 2 0))) (.cst (.int 1 0))) (.cons (.bin .Add (.loc 5) (.tup (.cons (.idx (.loc 12) (.cst (.int 1 0))) .nil))) .nil)))))))) (.seq (.ret (.cst (.bool false))) .nil) .nil) .nil)) .nil) .nil)
noncomputable abbrev zbQ:S:=(.seq (.ret (.cst (.bool false))) .nil)
noncomputable abbrev zdj:S:=(.ite (.cmp .NotEq (.fld (.call (.gv 39 (.ref 475)) (.cons (.loc 0) (.cons (.loc 1) (.cons (.loc 9) .nil)))) 0) (.loc 5)) zbQ .nil)
noncomputable abbrev zfV:S:=(.ite (.cmp .NotEq (.call (.gv 74 (.ref 785)) (.cons (.gv 60 (.ref 657)) (.cons (.loc 0) (.cons (.loc 1) (.cons (.loc 8) (.cons (.cst (.int 1 0)) .nil)))))) (.idx (.loc 11) (.cst (.int 0 0)))) zbQ .nil)
noncomputable abbrev zeX:S:=(.asg 11 (.bin .Add (.comp (.idx (.loc 0) (.cst (.int 2 0))) (.from_ (.loc 2) (.loc 7)) (.cmp .IsNot (.idx (.loc 0) (.cst (.int 3 0))) (.cst .none))) (.upto (.loc 6) (.cst (.int 1 0)))))
noncomputable abbrev X4:S:=(.ite (.cmp .NotEq (.lst (.cons (.call (.gv 74 (.ref 785)) (.cons (.gv 59 (.ref 650)) (.cons (.loc 0) (.cons (.loc 1) (.cons (.loc 8) (.cons (.cst (.int 1 0)) .nil)))))) (.cons (.call (.gv 74 (.ref 785)) (.cons (.gv 59 (.ref 650)) (.cons (.loc 0) (.cons (.loc 1) (.cons (.loc 9) (.cons (.neg (.cst (.int 1 0))) .nil)))))) .nil))) (.loc 10)) zbQ .nil)
noncomputable abbrev zdN:E:=(.ite (.cmp .Lt (.loc 7) (.blt .len (.cons (.loc 2) .nil))) (.idx (.idx (.loc 2) (.loc 7)) (.cst (.int 2 0))) (.idx (.loc 6) (.cst (.int 0 0))))
noncomputable abbrev zdX:E:=(.ite (.cmp .Gt (.loc 7) (.cst (.int 0 0))) (.idx (.idx (.loc 2) (.bin .Sub (.loc 7) (.cst (.int 1 0)))) (.cst (.int 0 0))) (.idx (.loc 6) (.cst (.int 1 0))))
noncomputable abbrev ze3:S:=(.asg 10 (.lst (.cons zdN (.cons zdX .nil))))
noncomputable abbrev S_9:S:=(.asg 9 (.ite (.cmp .Lt (.loc 7) (.blt .len (.cons (.loc 2) .nil))) (.idx (.idx (.loc 2) (.loc 7)) (.cst (.int 0 0))) (.loc 4)))
noncomputable abbrev S_8:S:=(.asg 8 (.ite (.cmp .Eq (.loc 7) (.cst (.int 0 0))) (.loc 3) (.idx (.idx (.loc 2) (.bin .Sub (.loc 7) (.cst (.int 1 0)))) (.cst (.int 2 0)))))
noncomputable abbrev zeC:S:=(.seq (.forL 12 (.loc 2) X7) (.seq (.ret (.cst (.bool true))) .nil))
noncomputable def wI (v t li:Addr) (p e:Int) (ra rb:Addr) (u7 u8 u9 u10 u11 u12:Option Value):Loc:=[some (.ref v),some (.ref t),some (.ref li),some (vi p),some (vi e),some (.ref ra),some (.ref rb),u7,u8,u9,u10,u11,u12]
section
variable {n:Nat} {li ra rb lb:Addr} {p e:Int} {u7 u8 u9 u10 u11 u12:Option Value} {κ:Fl→Loc→Hp→Prop} {ar:List Int} {be ah:Int} {df db dl:Value} {rs:List Value} {m:Nat}
theorem zg2 (X:Bs K Z9) (F:bc K) (g:G Z9 σ v c t cs) (hn:10≤n) (A:Lk cs ar be ah df db dl) (hb:ar.length≤1000) (hra:σ ra=some (.tup (ar.map vi))) (hk:∀ s,Ext σ s→κ .next (wI v t li p e ra rb u7 u8 (some (vi ah)) u10 u11 u12) s) :
  ex w Z9 os n R zdj (wI v t li p e ra rb u7 u8 (some (vi ah)) u10 u11 u12) σ κ:=by
 refine fM (fun n0 s' hr ho=>?_) A.s
 walk_at "m"
 refine aF (vK X F g.V g.T g.e hr (by rw[ho];exact hb)) hn ?_
 refine fun r σ4=>JP fun x4 ps z0 z1=>aC (fun tu rs2 e1 e2 _=>?_) z1;subst z0
 rw[ho] at e2
 walk_at "m"
 refine pP e2 (x4 _ _ hra) ⟨lX ar,lX ar⟩ ?_
 rw[decide_eq_true rfl]
 walk_at "m"
 exact hk _ x4
theorem zet (X:Bs K Z9) (F:bc K) (g:G Z9 σ v c t cs) (hn:15≤n) (A:Lk cs ar be ah df db dl) {L:List Value} (elb:σ lb=some (.list L)) (hL:itemAt L 0=some dl) (hk:∀ s,Ext σ s→κ .next (wI v t li p e ra rb u7 (some (vi be)) u9 u10 (some (.ref lb)) u12) s) :
  ex w Z9 os n R zfV (wI v t li p e ra rb u7 (some (vi be)) u9 u10 (some (.ref lb)) u12) σ κ:=by
 refine aV (fun r hr htl=>?_) A.l
 walk_at "m"
 refine au (LK X F g hr) hn fun σ4 x4=>?_
 have fl:Flat1 dl:=by rw[← htl];exact flat_tells
 have elb4:=x4 _ _ elb
 rw[htl]
 walk_at "m"
 refine i_list elb4 (v:=dl) hL ?_
 walk_at "m"
 refine Ly fl ?_
 walk_at "m"
 exact hk _ x4
theorem zaU (X:Bs K Z9) (F:bc K) (g:G Z9 σ v c t cs) (hn:15≤n) (A:Lk cs ar be ah df db dl) (elb:σ lb=some (.list [df,db])) (hk:∀ s,Ext σ s→κ .next (wI v t li p e ra rb u7 (some (vi be)) (some (vi ah)) (some (.ref lb)) u11 u12) s) :
  ex w Z9 os n R X4 (wI v t li p e ra rb u7 (some (vi be)) (some (vi ah)) (some (.ref lb)) u11 u12) σ κ:=by
 refine aV (fun r hr htl=>?_) A.f
 refine bR (fun r2 q2 hr2 hq hq2 htl2=>?_) A.b
 walk_at "m"
 refine au (Mq X F g hr) hn fun σ4 x4=>?_
 walk_at "m"
 refine au (Ry X F (g.ext x4) hr2 hq hq2) hn fun σ5 x5=>?_
 have f1:flat df=true:=by rw[← htl];exact flat_tells.flat
 have f2:flat db=true:=by rw[← htl2];exact flat_tells.flat
 rw[htl,htl2]
 walk_at "m"
 intro b hb
 have x6:=Ext.put (c:=.list [df,db]) hb
 walk_at "m"
 have fl:([df,db]:List Value).all flat=true:=by simp[f1,f2]
 refine jG aa (x6 _ _ (x5 _ _ (x4 _ _ elb))) (.inl ⟨fl,fl⟩) ?_
 rw[decide_eq_true rfl]
 walk_at "m"
 exact hk _ (x4.trans (x5.trans x6))
theorem zfd {l:Lv} {p':Int} {L:List Value} (hli:σ li=some (.list rs)) (erb:σ rb=some (.list (df::L))) (hm:m≤500) (hz:rs.length≤500) (h:LvAt σb σ l p' ar (rs.drop m))
  (hk:∀ lb s,Ext σ s→s lb=some (.list ((sJ l p').map vi++[df]))→κ .next (wI v t li p e ra rb (some (vi m)) u8 u9 u10 (some (.ref lb)) u12) s) :
  ex w Z9 os n R zeX (wI v t li p e ra rb (some (vi m)) u8 u9 u10 u11 u12) σ κ:=by
 walk_at "m"
 refine u_from_l hli (by lia) (by lia) ?_
 intro b hb
 have x4:=Ext.put (c:=.list (rs.drop (m:Int).toNat)) hb
 have e4:(σ.put b (.list (rs.drop (m:Int).toNat))) b=some (.list (rs.drop m)):=aa
 have k1':=h.ext x4
 have erb4:=x4 _ _ erb
 generalize (σ.put b (.list (rs.drop (m:Int).toNat)))=σ4 at x4 e4 k1' erb4 ⊢
 walk_at "m"
 refine g_comp_l e4 (xd k1') ?_
 intro b2 hb2
 have x5:=Ext.put (c:=.list ((sJ l p').map vi)) hb2
 have e5:(σ4.put b2 (.list ((sJ l p').map vi))) b2=some (.list ((sJ l p').map vi)):=aa
 have erb5:=x5 _ _ erb4
 generalize (σ4.put b2 (.list ((sJ l p').map vi)))=σ5 at x5 e5 erb5 ⊢
 walk_at "m"
 refine u_list erb5 (by decide) (by decide) ?_
 intro b3 hb3
 have x6:=Ext.put (c:=.list [df]) hb3
 walk_at "m"
 have hz:=zH l p' h
 refine qD (x6 _ _ e5) aa (by show _≤2 ^ 20;rw[List.length_map];rw[List.length_drop] at hz;show _+1≤_;lia) ?_
 intro b4 hb4
 walk_at "m"
 exact hk _ _ (x4.trans (x5.trans (x6.trans (Ext.put hb4)))) aa
inductive LrA (σ:Hp) (rs:List Value) (m:Nat) (e ah:Int) (df d0:Value):Prop
 |at {q r2:Addr} {s e2:Int} {x:Value} (h1:rs[m]?=some (.ref q)) (h2:σ q=some (.tup [vi ah,vi s,vi e2,x,.ref r2])) (h3:df=vi e2)
 |out (h1:m=rs.length) (h2:ah=e) (h3:df=d0)
inductive LrB (σ:Hp) (rs:List Value) (p p':Int) (db d1:Value):Nat→Prop
 |out (h2:p'=p) (h3:db=d1):LrB σ rs p p' db d1 0
 |at {j:Nat} {q r2:Addr} {s f:Int} {x:Value} (h1:rs[j]?=some (.ref q)) (h2:σ q=some (.tup [vi f,vi s,vi p',x,.ref r2])) (h3:db=vi f):LrB σ rs p p' db d1 (j+1)
theorem Ik {j:Nat} {x:Value} (h:rs[j]?=some x):itemAt rs (j:Int)=some x:=by unfold itemAt;rw[if_pos (Int.natCast_nonneg j)];exact h
theorem XM {j:Nat} {x:Value} (h:rs[j]?=some x):j < rs.length:=(List.getElem?_eq_some_iff.mp h).1
theorem zeu {k:List Value→Hp→Prop} (hli:σ li=some (.list rs)) (erb:σ rb=some (.list [dl,db])) (h:LrA σ rs m e ah df dl) (hk:k [df] σ):ev w Z9 os n R (wI v t li p e ra rb (some (vi m)) u8 u9 u10 u11 u12) zdN σ k:=by
 walk_at "m"
 cases h with
 |«at» h1 h2 h3 =>
  refine aP (decide_eq_true (Int.ofNat_lt.mpr (XM h1))) ?_
  walk_at "m"
  refine i_list hli (Ik h1) ?_
  walk_at "m"
  exact i_tup h2 rfl (by rw[h3] at hk;exact hk)
 |out h1 h2 h3 =>
  refine aH (decide_eq_false (by rw[h1];exact Int.lt_irrefl _)) ?_
  walk_at "m"
  exact i_list erb rfl (by rw[h3] at hk;exact hk)
theorem zdE (j:Nat):((j+1:Nat):Int) - 1=j:=by lia
theorem zg1 {k:List Value→Hp→Prop} {p':Int} (hli:σ li=some (.list rs)) (erb:σ rb=some (.list [df,dl])) (h:LrB σ rs p p' db dl m) (hk:k [db] σ):ev w Z9 os n R (wI v t li p e ra rb (some (vi m)) u8 u9 u10 u11 u12) zdX σ k:=by
 walk_at "m"
 cases h with
 |out h2 h3 =>
  refine aH rfl ?_
  walk_at "m"
  exact i_list erb rfl (by rw[h3] at hk;exact hk)
 |«at» h1 h2 h3 =>
  refine aP (decide_eq_true (Int.natCast_pos.mpr (Nat.succ_pos _))) ?_
  walk_at "m"
  rw[zdE]
  refine i_list hli (Ik h1) ?_
  walk_at "m"
  exact i_tup h2 rfl (by rw[h3] at hk;exact hk)
theorem zfX {p':Int} (hli:σ li=some (.list rs)) (erb:σ rb=some (.list [dl,df])) {d1 d2:Value} (h:LrA σ rs m e ah d1 dl) (h':LrB σ rs p p' d2 df m)
  (hk:∀ lb s,Ext σ s→s lb=some (.list [d1,d2])→κ .next (wI v t li p e ra rb (some (vi m)) u8 u9 (some (.ref lb)) u11 u12) s) :
  ex w Z9 os n R ze3 (wI v t li p e ra rb (some (vi m)) u8 u9 u10 u11 u12) σ κ :=
 Xz (zfS (jL (zeu hli erb h (aJ (jL (zg1 hli erb h' (aJ (xW fun b hb=>aJ (hk b _ (Ext.put hb) aa)))))))))
theorem zgs {d1 d0:Value} (hli:σ li=some (.list rs)) (h:LrA σ rs m e ah d1 d0) (hk:κ .next (wI v t li p e ra rb (some (vi m)) u8 (some (vi ah)) u10 u11 u12) σ) :
  ex w Z9 os n R S_9 (wI v t li p e ra rb (some (vi m)) u8 u9 u10 u11 u12) σ κ:=by
 walk_at "m"
 cases h with
 |«at» h1 h2 h3 =>
  refine aP (decide_eq_true (Int.ofNat_lt.mpr (XM h1))) ?_
  walk_at "m"
  refine i_list hli (Ik h1) ?_
  walk_at "m"
  refine i_tup h2 rfl ?_
  walk_at "m"
  exact hk
 |out h1 h2 h3 =>
  refine aH (decide_eq_false (by rw[h1];exact Int.lt_irrefl _)) ?_
  walk_at "m"
  rw[h2] at hk;exact hk
theorem zgJ {d1 d0:Value} {p':Int} (hli:σ li=some (.list rs)) (h:LrB σ rs p p' d1 d0 m) (hk:κ .next (wI v t li p e ra rb (some (vi m)) (some (vi p')) u9 u10 u11 u12) σ) :
  ex w Z9 os n R S_8 (wI v t li p e ra rb (some (vi m)) u8 u9 u10 u11 u12) σ κ:=by
 walk_at "m"
 cases h with
 |out h2 h3 =>
  refine aP rfl ?_
  walk_at "m"
  rw[h2] at hk;exact hk
 |«at» h1 h2 h3 =>
  refine aH (decide_eq_false (Int.natCast_ne_zero.mpr (Nat.succ_ne_zero _))) ?_
  walk_at "m"
  rw[zdE]
  refine i_list hli (Ik h1) ?_
  walk_at "m"
  refine i_tup h2 rfl ?_
  walk_at "m"
  exact hk
theorem V6 (X:Bs K Z9) (F:bc K) {k:Nat} (IH:∀ j,j+1=k→S7 w Z9 os j) (g:G Z9 σ v c t cs) {i:It} {q:Addr} {p':Int} (oi:vR i) (i1:ItAt σb σ i p' ar q) (i2:uo cs i p' ar) (i3:(aD i).length≤2 * k) (i4:(aD i).length≤500) (har:ar.length+k≤500) (hra:σ ra=some (.tup (ar.map vi)))
  (hk:∀ s,Ext σ s→κ .next (wI v t li p e ra rb u7 u8 u9 u10 u11 (some (.ref q))) s):ex w Z9 os (k+17) R X7 (wI v t li p e ra rb u7 u8 u9 u10 u11 (some (.ref q))) σ κ:=by
 cases i with
 |atom px a =>
  refine aV (fun ra' e1 _=>?_) i1
  walk_at "m"
  refine i_tup e1 (v:=.none) rfl ?_
  walk_at "m"
  refine bD ?_
  walk_at "m"
  exact hk _ Ext.refl
 |lst px rd its' last =>
  have i1':=i1
  refine bY (fun ra' li' rs' e1 e2 e3 e4 e5=>?_) i1
  obtain⟨j1,j2⟩:=i2
  have hlen:(aA its').length+2≤(aD (.lst px rd its' last)).length:=by
   simp only[aD,List.length_append,List.length_singleton];lia
  obtain⟨j,rfl⟩:∃ j,k=j+1:=⟨k - 1,by lia⟩
  walk_at "m"
  refine i_tup e1 (v:=.ref li') rfl ?_
  walk_at "m"
  refine bF ?_
  walk_at "m"
  refine au (m:=16) (wM X F g i1' j1) (by lia) fun σ4 x4=>?_
  have f1:=x4 _ _ e1
  walk_at "m"
  refine i_tup f1 (v:=.ref li') rfl ?_
  walk_at "m"
  refine i_tup f1 (v:=vi (p'+(aO px).length)) rfl ?_
  walk_at "m"
  refine i_tup f1 (v:=vi (p'+(aD (.lst px rd its' last)).length)) rfl ?_
  walk_at "m"
  refine i_tup f1 (v:=vi (p'+(aO px).length)) rfl ?_
  walk_at "m"
  intro t1 ht1
  have x5:=x4.trans (Ext.put (c:=.tup [vi (p'+(aO px).length)]) ht1)
  have et:(σ4.put t1 (.tup [vi (p'+(aO px).length)])) t1=some (.tup [vi (p'+(aO px).length)]):=aa
  generalize (σ4.put t1 (.tup [vi (p'+(aO px).length)]))=σ5 at x5 et ⊢
  walk_at "m"
  have inner:∀ {a2:Addr} {σ6:Hp} {kk:List Value→Hp→Prop},Ext σ σ6→σ6 a2=some (.tup ((ar++[p'+(aO px).length]).map vi))→(∀ s,Ext σ6 s→kk [.bool true] s) →
    iD w Z9 os (j+1+17) R (.ref 797) [.ref v,.ref t,.ref li',vi (p'+(aO px).length+1),vi (p'+(aD (.lst px rd its' last)).length - 1),.ref a2] σ6 kk :=
   fun x6 ea hkk=>au (m:=j+18) (IH j rfl (g.ext x6) (show tQ .none its' from oi) (e5.ext x6) (x6 _ _ e4) ea j2 (by lia) (by rw[List.length_append,List.length_singleton];lia) (by lia)) (by lia) hkk
  refine jt (x5 _ _ hra) et (by rw[List.length_map,List.length_singleton];show _≤2 ^ 20;lia) (fun a2 ha2=>?_) (fun z=>?_) (fun z=>by cases z)
  ·have x6:=x5.trans (Ext.put (c:=.tup (ar.map vi++[vi (p'+(aO px).length)])) ha2)
   walk_at "m"
   refine inner x6 (by rw[List.map_append];exact aa) fun s x7=>?_
   walk_at "m"
   exact hk _ (x6.trans x7)
  ·have:ar=[]:=by simpa using z
   walk_at "m"
   refine inner x5 (by rw[this];exact et) fun s x7=>?_
   walk_at "m"
   exact hk _ (x5.trans x7)
theorem place {its:Lv} {prev:Value} (h:LvAt σb σ its p ar rs) (hf:gk cs its p ar prev e) (hm:m≤rs.length) :
  ∃ l p' ah df db,LvAt σb σ l p' ar (rs.drop m)∧Lk cs ar p' ah df db (vX cs ar l p')∧LrA σ rs m e ah df (wH cs ar)∧LrB σ rs p p' db prev m:=by
 refine gD (fun l p' db k1 k2 k3 k4=>?_) (zE m h hf hm)
 have hB:LrB σ rs p p' db prev m:=by
  cases m with
  |zero=>exact .out (k3 rfl).1 (k3 rfl).2
  |succ j =>
   refine jc (fun q f s z2=>aC (fun x r2 h1 h2 h3=>?_) z2) (k4 j rfl)
   exact .at h1 h2 h3
 cases l with
 |nil =>
  have e1:rs.drop m=[]:=k1
  exact⟨_,_,e,_,_,k1,k2,.out (Nat.le_antisymm hm (List.drop_eq_nil_iff.mp e1)) rfl rfl,hB⟩
 |cons s0 i l =>
  have k1':=k1
  refine aC (fun q rs' e1 k5 k6=>?_) k1
  refine fM (fun x r2 e2 _=>?_) (yj k5)
  have:rs[m]?=some (.ref q):=by
   rw[← List.head?_drop,e1];rfl
  exact⟨_,_,_,_,_,k1',k2.1,.at this e2 rfl,hB⟩
end
theorem tC (X:Bs K Z9) (F:bc K) (k:Nat) (IH:∀ j,j+1=k→S7 w Z9 os j):S7 w Z9 os k:=by
 intro R σ σb v c t li ra cs its bk p e ar rs g hok h hli hra hf hk har hln
 have hrs:rs.length≤500:=Nat.le_trans (Nm hok h) hln
 refine lH X F (by lia) (cps fun Q hQ=>?_)
 replace hQ:∀ s,Ext σ s→Q (.bool true) s:=fun s x=>hQ _ _ ⟨rfl,x⟩
 unfold eE
 have rest:∀ σ1 rb,Ext σ σ1→σ1 rb=some (.list [wH cs ar,Fv ar])→ex w Z9 os (k+17) R (.seq (.forR 7 (.bin .Add (.blt .len (.cons (.loc 2) .nil)) (.cst (.int 1 0))) (.seq S_8 (.seq S_9 (.seq ze3 (.seq X4 (.seq zeX (.seq zfV (.seq zdj .nil)))))))) zeC) (wI v t li p e ra rb none none none none none none) σ1 (j0 Q):=by
  intro σ1 rb x1 erb
  have hli1:=x1 _ _ hli
  walk_at "m"
  refine g_forR (top:=(rs.length:Int)+1) (fun m ρ σ'=>(∃ u7 u8 u9 u10 u11,ρ=wI v t li p e ra rb u7 u8 u9 u10 u11 none)∧Ext σ1 σ') (by lia) ⟨⟨_,_,_,_,_,rfl⟩,Ext.refl⟩ ?_ ?_
  ·intro ρ σ2 zz;obtain⟨⟨u7,u8,u9,u10,u11,rfl⟩,x2⟩:=zz
   have x02:=x1.trans x2
   have hli2:=x02 _ _ hli
   walk_at "m"
   refine g_forL_l (fun m ρ σ'=>(∃ u12,ρ=wI v t li p e ra rb u7 u8 u9 u10 u11 u12)∧Ext σ2 σ') hli2 ⟨⟨_,rfl⟩,Ext.refl⟩ (fun m ρ σ3 h=>h.2 _ _ hli2) ?_ ?_
   ·intro ρ σ3 zz;obtain⟨⟨u12,rfl⟩,x3⟩:=zz
    walk_at "m"
    exact hQ _ (x02.trans x3)
   ·intro m y ρ σ3 hy zz;obtain⟨⟨u12,rfl⟩,x3⟩:=zz
    have x03:=x02.trans x3
    refine bY (fun q i p' z3 oi i1 i2 i3=>?_) (zp hok (h.ext x03) hf hy);subst z3
    exact V6 X F IH (g.ext x03) oi i1 i2 (Nat.le_trans i3 hk) (Nat.le_trans i3 hln) har (x03 _ _ hra) fun s x4=>lR ⟨⟨_,rfl⟩,x3.trans x4⟩
  ·intro m ρ σ2 hm zz;obtain⟨⟨u7,u8,u9,u10,u11,rfl⟩,x2⟩:=zz
   have x02:=x1.trans x2
   have g2:=g.ext x02
   have hli2:=x02 _ _ hli
   have erb2:=x2 _ _ erb
   have hm:m≤rs.length:=by lia
   refine jc (fun l p' ah z4=>bR (fun df db k1 A ha hb=>?_) z4) (place (h.ext x02) hf hm)
   refine aY (zgJ hli2 hb (bU (aY (zgs hli2 ha (bU (aY (zfX hli2 erb2 ha hb fun lb s x3 elb=>?_)))))))
   refine bU (aY (zaU X F (g2.ext x3) (by lia) A elb fun s x4=>?_))
   replace x4:=x3.trans x4
   refine bU (aY (zfd (x4 _ _ hli2) (x4 _ _ erb2) (Nat.le_trans hm hrs) hrs (k1.ext x4) fun lc s x5 elc=>?_))
   replace x5:=x4.trans x5
   have this:=w5 (cs:=cs) ar l p'
   rw[List.head?_eq_getElem?] at this
   refine bU (aY (zet X F (g2.ext x5) (by lia) A elc this fun s x6=>?_))
   replace x6:=x5.trans x6
   exact bU (aY (zg2 X F (g2.ext x6) (by lia) A (by lia) ((x02.trans x6) _ _ hra) fun s x7=>bU (xm (lR ⟨⟨_,_,_,_,_,rfl⟩,x2.trans (x6.trans x7)⟩))))
 walk_at "m"
 intro tp htp
 have xt:=Ext.put (c:=.tup []) htp
 walk_at "m"
 refine pP (xt _ _ hra) aa ⟨lX ar,rfl⟩ ?_
 have g1:=g.ext xt
 generalize σ.put tp (.tup [])=σ1 at xt g1 ⊢
 have hmap:ar.map vi=[]↔ar=[]:=by simp
 refine yt (fun z=>?_) fun z=>?_
 ·have har0:ar=[]:=hmap.mp z
  have h1:=g1.V.vw
  walk_at "m"
  refine ak (lB X F g1.V) (by lia) ?_
  walk_at "m"
  refine ak (iC X F g1.V) (by lia) ?_
  walk_at "m"
  intro rb hrb
  refine aJ (bU (rest _ rb (xt.trans (Ext.put hrb)) ?_))
  unfold wH Fv;rw[if_pos har0,if_pos har0];exact aa
 ·have har0:ar≠[]:=fun q=>z (hmap.mpr q)
  walk_at "m"
  intro rb hrb
  refine aJ (bU (rest _ rb (xt.trans (Ext.put hrb)) ?_))
  unfold wH Fv;rw[if_neg har0,if_neg har0];exact aa
theorem pN (X:Bs K Z9) (F:bc K):∀ k,S7 w Z9 os k
 |0=>tC X F 0 fun j hj=>by cases hj
 |k+1=>tC X F (k+1) fun j hj=>by cases hj;exact pN X F k
end
noncomputable def CN:Prop:=∀ (its:Lv) (last:Sep),tQ .none its→(aA its++aj last).length≤300 →
 gk (aA its++aj last) its 1 [] (Fv []) (1+((aA its++aj last).length:Int))∧∃ n s',PRun (aA its++aj last) (1+((aA its++aj last).length:Int)) n ⟨1,[],.plain⟩ s'∧s'.ops=[]
section
variable {K:Frag} {w:World} {Z9:Heap} {os:OsState} {R:Value→Hp→Prop} {σ:Hp}
theorem zdx (X:Bs K Z9) (F:bc K) (C:Qx K) (P:CN) {sc:Addr} {us:List Value} {xs:List Int} (e:Z9.IsList sc (List.toArray us)) (hz:us.length≤big) (hus:us.map er=xs.map vi) (h29:RW Z9) :
  CallSem w Z9 os 165 (.ref 804) [.ref sc] σ (fun r σ'=>r=.bool true) R:=by
 refine Mx X F (by decide) ?_
 unfold Q6
 walk_at "m"
 refine aF (zd1 X F e hz hus) (by decide) ?_
 refine fun r σ1=>aC fun dk dl z0 D x1=>?_;subst z0
 walk_at "m"
 intro cd hcd
 have x2:=x1.trans (Ext.put (c:=.list []) hcd)
 have D2:=D.ext (Ext.put (c:=.list []) hcd)
 have e2:(σ1.put cd (.list [])) cd=some (.list []):=aa
 have n1:dk≠cd:=by refine jJ (fun _ ys m k q1 q2=>?_) D;exact cJ q1 hcd
 have n2:dl≠cd:=by refine jJ (fun _ ys m k q1 q2=>?_) D;exact cJ q2 hcd
 generalize σ1.put cd (.list [])=σ2 at x2 D2 e2 ⊢
 walk_at "m"
 intro ra hra
 have x3:=x2.trans (Ext.put (c:=.tup []) hra)
 have D3:=D2.ext (Ext.put (c:=.tup []) hra)
 have e3:(σ2.put ra (.tup [])) ra=some (.tup []):=aa
 have f3:(σ2.put ra (.tup [])) cd=some (.list []):=eQ hra e2
 generalize σ2.put ra (.tup [])=σ3 at x3 D3 e3 f3 ⊢
 walk_at "m"
 refine aF (zaJ X F e hz hus) (by decide) ?_
 intro r σ4 zz;obtain⟨⟨m,rfl,h3,h9⟩,x34⟩:=zz
 have D4:=D3.ext x34
 have e4:=x34 _ _ e3
 have f4:=x34 _ _ f3
 walk_at "m"
 intro lf hlf
 have x45:=Ext.put (c:=.list [vi m]) hlf
 have e5:=x45 _ _ e4
 have f5:=x45 _ _ f4
 have g5:(σ4.put lf (.list [vi m])) lf=some (.list [vi m]):=aa
 have D5:=D4.ext x45
 have m1:lf≠dk:=by refine jJ (fun _ ys m k q1 q2=>?_) D4;exact(cJ q1 hlf).symm
 have m2:lf≠dl:=by refine jJ (fun _ ys m k q1 q2=>?_) D4;exact(cJ q2 hlf).symm
 have m3:lf≠cd:=(cJ f4 hlf).symm
 have x05:Ext σ (σ4.put lf (.list [vi m])):=x3.trans (x34.trans x45)
 generalize σ4.put lf (.list [vi m])=σ5 at x45 e5 f5 g5 D5 x05 ⊢
 have q5:QA σ5 dk dl cd lf [] m:=⟨⟨D5,f5,n1,n2⟩,g5,m1,m2,m3⟩
 walk_at "m"
 refine aF (m:=13) (levels X F 3 q5 (ar:=[]) e5 (by simp;lia) (by decide) (by lia)) (by decide) ?_
 intro r σ6 zz;obtain⟨its,last,li,rs,left',σ6,okl,q6,_,hlen,hli,e6,lv6,m6⟩:=zz
 rw[List.nil_append] at q6 hlen
 have c6:=q6.g.C
 refine qz (fun facts nn s' hrun hops=>?_) (P its last okl (by rw[List.length_nil] at hlen;lia))
 generalize hcs:aA its++aj last=cs at *
 have hlen2:cs.length≤250:=by rw[List.length_nil] at hlen;lia
 walk_at "m"
 refine pW (m:=3) (Q:=fun a r σ'=>r=.none∧(∃ c2,ViewAt σ' a c2 cs∧(σ6.put a (.inst 724 [])) c2=none)∧Mod1 a (σ6.put a (.inst 724 [])) σ') (by decide) (fun a ha=>zfJ X F (eQ ha c6) aa) ?_
 refine fun v r σ7 hv=>iJ fun z1 z2 m7=>?_;subst z1;obtain⟨c2,V,hc2⟩:=z2
 have x67:Ext σ6 σ7:=Ext.mod1 (Ext.put hv) m7 hv
 refine⟨rfl,?_⟩
 walk_at "m"
 refine aF (zcv X F C) (by decide) ?_
 refine fun r σ8=>cM fun t z3 T x78=>?_;subst z3
 have x68:=x67.trans x78
 have g8:G Z9 σ8 v c2 t cs:=⟨V.ext x78,T,h29⟩
 have lv8:=lv6.ext x68
 have e8:=x68 _ _ e6
 have c8:=x68 _ _ c6
 have vw:=g8.V.vw
 walk_at "m"
 refine ak (iC X F g8.V) (by decide) ?_
 walk_at "m"
 refine ak (lB X F g8.V) (by decide) ?_
 walk_at "m"
 intro ra2 hra2
 have x9:=Ext.put (c:=.tup []) hra2
 have e9:(σ8.put ra2 (.tup [])) ra2=some (.tup []):=aa
 generalize σ8.put ra2 (.tup [])=σ9 at x9 e9 ⊢
 walk_at "m"
 have lv9:=lv8.ext x9
 have g9:=g8.ext x9
 have hl:(aA its).length≤250:=by
  have:=congrArg List.length hcs
  rw[List.length_append] at this;lia
 refine au (m:=143) (pN X F 125 g9 okl lv9 (x9 _ _ e8) (ar:=[]) e9 facts (by lia) (by decide) (by lia)) (by decide) ?_
 rintro σ10 x10
 have g10:=g9.ext x10
 have vw10:=g10.V.vw
 have co10:=g10.V.co
 have c10:=x10 _ _ (x9 _ _ c8)
 walk_at "m"
 have fl:(cs.map fun x=>vi (code x)).all flat=true:=by
  rw[List.all_eq_true];intro y hy
  refine aV (fun c _ z4=>?_) (List.mem_map.mp hy);subst z4
  rfl
 refine pK co10 c10 (.inl ⟨fl,fl⟩) ?_
 rw[decide_eq_true rfl]
 walk_at "m"
 refine ak (lB X F g10.V) (by decide) ?_
 walk_at "m"
 refine aF (vK X F g10.V g10.T g10.e hrun (by rw[hops];decide)) (by decide) ?_
 refine fun r σ11=>JP fun x11 ps z5 pa=>?_;subst z5
 have pa':=pa
 refine aC (fun tu rest e1 e2 e3=>?_) pa
 walk_at "m"
 refine vL e1 (f:=44) (by decide) e3 ?_
 walk_at "m"
 refine ak (Fi X F pa') (by decide) ?_
 rw[hops]
 walk_at "m"
 rfl
end
noncomputable def Here (cs:List Ch) (p:Int) (l:List Ch):Prop:=1≤p∧∀ (k:Nat) (c:Ch),l[k]?=some c→ao cs (p+(k:Int))=some c
section
variable {cs:List Ch}
theorem Here.left {p:Int} {a b:List Ch} (h:Here cs p (a++b)):Here cs p a:=⟨h.1,fun k c e=>h.2 k c (by
 have:=(List.getElem?_eq_some_iff.mp e).1
 rw[List.getElem?_append_left this];exact e)⟩
theorem Here.right {p:Int} {a b:List Ch} (h:Here cs p (a++b)):Here cs (p+a.length) b:=⟨by have:=h.1;lia,fun k c e=>by
 have:=h.2 (a.length+k) c (by rw[List.getElem?_append_right (by lia)];simpa using e)
 rw[← this];congr 1;lia⟩
theorem Here.head {p:Int} {x:Ch} {b:List Ch} (h:Here cs p (x::b)):ao cs p=some x:=by
 have:=h.2 0 x rfl
 simpa using this
theorem Here.tail {p:Int} {x:Ch} {b:List Ch} (h:Here cs p (x::b)):Here cs (p+1) b:=Here.right (a:=[x]) h
theorem Here.last {p:Int} {x:Ch} {a:List Ch} (h:Here cs p (a++[x])):ao cs (p+a.length)=some x:=h.right.head
theorem aU {p:Int} {x:Ch} (h:ao cs p=some x):1≤p∧p < 1+cs.length:=by
 unfold ao at h
 split at h
 ·rename_i q
  have:=(List.getElem?_eq_some_iff.mp h).1
  exact⟨q,by lia⟩
 ·cases h
theorem Here.end {p:Int} {l:List Ch} (h:Here cs p l) (hp:p≤1+cs.length):p+l.length≤1+cs.length:=by
 rcases List.eq_nil_or_concat l with rfl|⟨a,x,rfl⟩
 ·simpa using hp
 ·rw[List.concat_eq_append] at *
  have:=aU h.last
  rw[List.length_append,List.length_singleton]
  lia
theorem RC (a b:List Ch):Here (a++b) (1+(a.length:Int)) b:=⟨by lia,fun k c e=>by
 unfold ao
 rw[if_pos (by lia)]
 have:(1+(a.length:Int)+(k:Int) - 1).toNat=a.length+k:=by lia
 rw[this,List.getElem?_append_right (by lia)]
 simpa using e⟩
theorem Ob (a:List Ch):Here a 1 a:=by simpa using RC [] a
theorem xg {p:Int} {x:Ch} (h:ao cs p=some x):qR cs (p+1)=if x=.bs then qR cs p+1 else 0:=by
 obtain⟨h1,h2⟩:=aU h
 unfold ao at h
 rw[if_pos h1] at h
 unfold qR
 have e:(p+1 - 1).toNat=(p - 1).toNat+1:=by lia
 rw[e,List.take_add_one,h]
 simp only[Option.toList_some,List.reverse_append,List.reverse_cons,List.reverse_nil,List.nil_append,List.singleton_append,List.takeWhile_cons]
 by_cases q:x=.bs
 ·simp[q]
 ·simp[q]
theorem Hr:isQ cs 1=false:=by
 unfold isQ qR
 simp
theorem bw {p:Int} {x:Ch} (h:ao cs p=some x) (hx:x≠.bs):isQ cs (p+1)=false:=by
 unfold isQ
 rw[xg h,if_neg hx];rfl
theorem vg {p:Int} (h:ao cs p=some .bs):isQ cs (p+1)=!isQ cs p:=by
 unfold isQ
 rw[xg h,if_pos rfl]
 by_cases q:qR cs p % 2=1
 ·rw[decide_eq_true q,decide_eq_false (by lia)];rfl
 ·rw[decide_eq_false q,decide_eq_true (by lia)];rfl
inductive Sp (cs:List Ch) (e:Int):Nat→WS→(Int→Option Value)→(Int→Option Value)→WS→(Int→Option Value)→(Int→Option Value)→Prop
 |refl {s:WS} {C D}:Sp cs e 0 s C D s C D
 |step {n:Nat} {s s' s'':WS} {C D C' D'}:bu cs s=some s'→s.p < s'.p→s'.p≤e→s.ops.length < big →
   Sp cs e n s' (if bz s.m≠0∧bz s'.m=0 then upd C s'.p (gw s.m) else C) (if ¬ (bz s.m≠0∧bz s'.m=0)∧cD s.m≠.none∧cD s'.m=.none then upd D s'.p (gw s.m) else D) s'' C' D'→Sp cs e (n+1) s C D s'' C' D'
theorem Sp.mono {e e':Int} (h:e≤e') {n s C D s' C' D'} (x:Sp cs e n s C D s' C' D'):Sp cs e' n s C D s' C' D':=by
 induction x with
 |refl=>exact .refl
 |step a b c d _ ih=>exact .step a b (by lia) d ih
theorem Sp.trans {e:Int} {n m s C D s' C' D' s'' C'' D''} (x:Sp cs e n s C D s' C' D') (y:Sp cs e m s' C' D' s'' C'' D''):Sp cs e (n+m) s C D s'' C'' D'':=by
 induction x with
 |refl=>simpa using y
 |step a b c d _ ih=>rw[Nat.add_right_comm];exact .step a b c d (ih y)
theorem Sp.span {e:Int} (he:e≤1+cs.length) {n s C D s' C' D'} (x:Sp cs e n s C D s' C' D') (h:e≤s'.p):SpanRun cs e n s C D C' D':=by
 induction x with
 |refl=>exact .stop h
 |step a b c d _ ih=>exact .step (by lia) a (fun _=>by lia) d (ih h)
theorem Sp.prun {e:Int} {n s C D s' C' D'} (x:Sp cs e n s C D s' C' D') (h:e≤s'.p):PRun cs e n s s':=by
 induction x with
 |refl=>exact .stop h
 |step a b c d _ ih=>exact .step (by lia) a (fun _=>by lia) d (ih h)
theorem Sp.small {e:Int} {n s C D s' C' D'} (x:Sp cs e n s C D s' C' D'):s.p+n≤s'.p:=by
 induction x with
 |refl=>simp
 |step a b c d _ ih=>lia
end
inductive Tk where
 |line (i:Nat)
 |blk (i:Nat)
 |sp
 |nl
 |px (i:Nat)
 |word (ps:List Nat)
 |str (ss:List Nat)
 |op (rd:Bool)
 |cl (rd:Bool)
noncomputable def aW:Tk→List Ch
 |.line i=>.sc::(bT i++[.nl])
 |.blk i=>.hs::.br::(cL i++[.br,.hs])
 |.sp=>[.sp]
 |.nl=>[.nl]
 |.px i=>aO i
 |.word ps=>ps.flatMap aG
 |.str ss=>.dq::(ss.flatMap bM++[.dq])
 |.op rd=>[wk rd]
 |.cl rd=>[pI rd]
noncomputable def n8:Tk→Bool
 |.line _=>true
 |.blk _=>true
 |_=>false
noncomputable def isStr:Tk→Bool
 |.str _=>true
 |_=>false
noncomputable def mz (p:Int) (ops:List Int):Tk→List Int
 |.op _=>ops++[p]
 |.cl _=>ops.dropLast
 |_=>ops
noncomputable def tl (t:Tk):Int:=((aW t).length:Int)
noncomputable def CX (C:Int→Option Value) (p:Int) (t:Tk):Int→Option Value:=if n8 t=true then upd C (p+tl t) (vi p) else C
noncomputable def Ew (D:Int→Option Value) (p:Int) (t:Tk):Int→Option Value:=if isStr t=true then upd D (p+tl t) (vi p) else D
section
variable {cs:List Ch} {e p:Int} {ops:List Int} {C D:Int→Option Value} {x:Ch}
theorem Sp.q {s s':WS} (a:bu cs s=some s') (b:s.p < s'.p) (c:s'.p≤e) (d:s.ops.length < big) (h1:bz s.m=0∨bz s'.m≠0) (h2:cD s.m=.none∨cD s'.m≠.none):Sp cs e 1 s C D s' C D:=by
 refine .step a b c d ?_
 have n1:¬ (bz s.m≠0∧bz s'.m=0):=fun q=>h1.elim (fun z=>q.1 z) fun z=>z q.2
 have n2:¬ (¬ (bz s.m≠0∧bz s'.m=0)∧cD s.m≠.none∧cD s'.m=.none):=fun q=>h2.elim (fun z=>q.2.1 z) fun z=>z q.2.2
 rw[if_neg n1,if_neg n2]
 exact .refl
theorem v4 (st:Int):∀ {l:List Ch} {q:Int},Here cs q l→(∀ x∈l,x≠.nl)→q+l.length≤e→ops.length < big→∃ n,Sp cs e n ⟨q,ops,.com st⟩ C D ⟨q+l.length,ops,.com st⟩ C D
 |[],q,h,hn,he,ho=>⟨0,by simpa using .refl⟩
 |x::l,q,h,hn,he,ho=>by
  simp only[List.length_cons] at he ⊢
  obtain⟨n,hs⟩:=v4 st h.tail (fun y hy=>hn y (List.mem_cons_of_mem _ hy)) (by lia) ho
  have hx:=h.head
  have st1:bu cs ⟨q,ops,.com st⟩=some ⟨q+1,ops,.com st⟩:=by
   rw[bx hx rfl,zae (hn x List.mem_cons_self)]
  refine⟨1+n,(Sp.q st1 (by show q < q+1;lia) (by show q+1≤e;lia) ho (.inr (by show (1:Int)≠0;decide)) (.inl rfl)).trans ?_⟩
  have:q+1+(l.length:Int)=q+((l.length+1:Nat):Int):=by lia
  rw[← this];exact hs
theorem zP (st:Int) (d:Nat):∀ {l:List Ch} {q:Int},Here cs q l→(∀ x∈l,x≠.hs∧x≠.br)→q+l.length≤e→ops.length < big→∃ n,Sp cs e n ⟨q,ops,.blk st d⟩ C D ⟨q+l.length,ops,.blk st d⟩ C D
 |[],q,h,hn,he,ho=>⟨0,by simpa using .refl⟩
 |x::l,q,h,hn,he,ho=>by
  simp only[List.length_cons] at he ⊢
  obtain⟨n,hs⟩:=zP st d h.tail (fun y hy=>hn y (List.mem_cons_of_mem _ hy)) (by lia) ho
  have hx:=h.head
  have st1:bu cs ⟨q,ops,.blk st d⟩=some ⟨q+1,ops,.blk st d⟩:=by
   rw[bx hx rfl,O1 (hn x List.mem_cons_self)]
  refine⟨1+n,(Sp.q st1 (by show q < q+1;lia) (by show q+1≤e;lia) ho (.inr (by show (d:Int)+1≠0;lia)) (.inl rfl)).trans ?_⟩
  have:q+1+(l.length:Int)=q+((l.length+1:Nat):Int):=by lia
  rw[← this];exact hs
theorem dJ (h:ao cs p=some x) (hb:aQ (some x) (ao cs (p+1))=none) (h1:x≠.bs∧fW x=false∧dX x=false∧x≠.dq) (he:p+1≤e) (ho:ops.length < big):Sp cs e 1 ⟨p,ops,.plain⟩ C D ⟨p+1,ops,.plain⟩ C D:=by
 refine Sp.q ?_ (by show p < p+1;lia) he ho (.inl rfl) (.inl rfl)
 rw[bx h rfl,Ru hb h1]
end
section
variable {cs:List Ch} {e p:Int} {ops:List Int} {C D:Int→Option Value} {x:Ch}
theorem Cv (i:Nat):∀ x∈bT i,x≠.nl:=by
 unfold bT
 match i with
 |0=>decide
 |1=>decide
 |2=>decide
 |3=>decide
 |4=>decide
 |n+5=>intro x hx;cases hx
theorem UJ {i:Nat} (h:Here cs p (aW (.line i))) (he:p+tl (.line i)≤e) (ho:ops.length < big):∃ n,Sp cs e n ⟨p,ops,.plain⟩ C D ⟨p+tl (.line i),ops,.plain⟩ (CX C p (.line i)) (Ew D p (.line i)):=by
 have hl:tl (.line i)=1+(bT i).length+1:=by unfold tl aW;simp;lia
 rw[hl] at he
 obtain⟨n,hs⟩:=v4 (e:=e) (ops:=ops) (C:=C) (D:=D) p h.tail.left (Cv i) (by lia) ho
 have h1:bu cs ⟨p,ops,.plain⟩=some ⟨p+1,ops,.com p⟩:=(bx h.head rfl).trans rfl
 have h2:bu cs ⟨p+1+(bT i).length,ops,.com p⟩=some ⟨p+1+(bT i).length+1,ops,.plain⟩:=(bx h.tail.last rfl).trans rfl
 have s2:Sp cs e 1 ⟨p+1+(bT i).length,ops,.com p⟩ C D ⟨p+1+(bT i).length+1,ops,.plain⟩ (upd C (p+1+(bT i).length+1) (vi p)) D:=by
  refine .step h2 (by show p+1+((bT i).length:Int) < p+1+(bT i).length+1;lia) (by show p+1+((bT i).length:Int)+1≤e;lia) ho ?_
  rw[if_pos ⟨by show (1:Int)≠0;decide,rfl⟩,if_neg (fun q=>q.2.1 rfl)]
  exact .refl
 refine⟨1+n+1,?_⟩
 have hc:CX C p (.line i)=upd C (p+1+(bT i).length+1) (vi p):=by
  unfold CX
  rw[if_pos (show n8 _=true from rfl),hl]
  congr 1;lia
 rw[hc,show Ew D p (.line i)=D from rfl,hl,show p+(1+((bT i).length:Int)+1)=p+1+(bT i).length+1 by lia]
 exact((Sp.q h1 (by show p < p+1;lia) (by show p+1≤e;lia) ho (.inl rfl) (.inl rfl)).trans hs).trans s2
theorem Dp (i:Nat):(∀ x∈cL i,x≠.hs∧x≠.br)∨cL i=[.hs,.br,.lp,.br,.hs]:=by
 unfold cL
 match i with
 |0=>exact .inl (by decide)
 |1=>exact .inl (by decide)
 |2=>exact .inl (by decide)
 |3=>exact .inl (by decide)
 |4=>exact .inl (by decide)
 |5=>exact .inr rfl
 |n+6=>exact .inl (by intro x hx;cases hx)
theorem H6 {i:Nat} {q st:Int} (h:Here cs q (cL i)) (he:q+(cL i).length≤e) (ho:ops.length < big):∃ n,Sp cs e n ⟨q,ops,.blk st 0⟩ C D ⟨q+(cL i).length,ops,.blk st 0⟩ C D:=by
 rcases Dp i with hn|hb
 ·exact zP st 0 h hn he ho
 ·rw[hb] at h he ⊢
  have c0:=h.head
  have c1:=h.tail.head
  have c2:=h.tail.tail.head
  have c3:=h.tail.tail.tail.head
  have c4:=h.tail.tail.tail.tail.head
  have e5:q+(([Ch.hs,.br,.lp,.br,.hs]:List Ch).length:Int)=q+5:=rfl
  rw[e5] at he ⊢
  have h1:bu cs ⟨q,ops,.blk st 0⟩=some ⟨q+2,ops,.blk st 1⟩:=(bx c0 c1).trans rfl
  have h2:bu cs ⟨q+2,ops,.blk st 1⟩=some ⟨q+3,ops,.blk st 1⟩:=by
   rw[show q+2=q+1+1 from (Int.add_assoc q 1 1).symm,bx c2 rfl,O1 ⟨by decide,by decide⟩,Int.add_assoc,Int.add_assoc];rfl
  have h3:bu cs ⟨q+3,ops,.blk st 1⟩=some ⟨q+5,ops,.blk st 0⟩:=by
   rw[show q+3=q+1+1+1 by lia,bx c3 c4,show q+5=q+1+1+1+2 by lia];rfl
  exact⟨_,((Sp.q h1 (by show q < q+2;lia) (by show q+2≤e;lia) ho (.inr (by show ((1:Nat):Int)+1≠0;decide)) (.inl rfl)).trans
   (Sp.q h2 (by show q+2 < q+3;lia) (by show q+3≤e;lia) ho (.inr (by show ((1:Nat):Int)+1≠0;decide)) (.inl rfl))).trans
   (Sp.q h3 (by show q+3 < q+5;lia) he ho (.inr (by show ((0:Nat):Int)+1≠0;decide)) (.inl rfl))⟩
theorem zcy {i:Nat} (h:Here cs p (aW (.blk i))) (he:p+tl (.blk i)≤e) (ho:ops.length < big):∃ n,Sp cs e n ⟨p,ops,.plain⟩ C D ⟨p+tl (.blk i),ops,.plain⟩ (CX C p (.blk i)) (Ew D p (.blk i)):=by
 have hl:tl (.blk i)=2+(cL i).length+2:=by unfold tl aW;simp;lia
 rw[hl] at he
 have h':Here cs (p+2) (cL i++[.br,.hs]):=by
  have:=h.tail.tail
  rwa [show p+1+1=p+2 by lia] at this
 obtain⟨n,hs⟩:=H6 (e:=e) (ops:=ops) (C:=C) (D:=D) (st:=p) h'.left (by lia) ho
 have h1:bu cs ⟨p,ops,.plain⟩=some ⟨p+2,ops,.blk p 0⟩:=(bx h.head h.tail.head).trans rfl
 have h2:bu cs ⟨p+2+(cL i).length,ops,.blk p 0⟩=some ⟨p+2+(cL i).length+2,ops,.plain⟩:=(bx h'.right.head h'.right.tail.head).trans rfl
 have s2:Sp cs e 1 ⟨p+2+(cL i).length,ops,.blk p 0⟩ C D ⟨p+2+(cL i).length+2,ops,.plain⟩ (upd C (p+2+(cL i).length+2) (vi p)) D:=by
  refine .step h2 (by show p+2+((cL i).length:Int) < p+2+(cL i).length+2;lia) (by show p+2+((cL i).length:Int)+2≤e;lia) ho ?_
  rw[if_pos ⟨by show ((0:Nat):Int)+1≠0;decide,rfl⟩,if_neg (fun q=>q.2.1 rfl)]
  exact .refl
 refine⟨1+n+1,?_⟩
 have hc:CX C p (.blk i)=upd C (p+2+(cL i).length+2) (vi p):=by
  unfold CX
  rw[if_pos (show n8 _=true from rfl),hl]
  congr 1;lia
 rw[hc,show Ew D p (.blk i)=D from rfl,hl,show p+(2+((cL i).length:Int)+2)=p+2+(cL i).length+2 by lia]
 exact((Sp.q h1 (by show p < p+2;lia) (by show p+2≤e;lia) ho (.inl rfl) (.inl rfl)).trans hs).trans s2
end
section
variable {cs:List Ch} {e p:Int} {ops:List Int} {C D:Int→Option Value} {x:Ch}
theorem cF (i:Nat):(∃ x,aG i=[x]∧(x=.a∨x=.b∨x=.mi))∨aG i=[.bs,.lp]:=by
 unfold aG
 match i with
 |0=>exact .inl ⟨_,rfl,.inl rfl⟩
 |1=>exact .inl ⟨_,rfl,.inr (.inl rfl)⟩
 |2=>exact .inl ⟨_,rfl,.inr (.inr rfl)⟩
 |3=>exact .inr rfl
 |n+4=>exact .inl ⟨_,rfl,.inl rfl⟩
theorem oW (i:Nat):(∃ x,bM i=[x]∧x≠.bs∧x≠.dq)∨(∃ y,bM i=[.bs,y])∨bM i=[.hs,.br]:=by
 unfold bM
 match i with
 |0=>exact .inl ⟨_,rfl,by decide,by decide⟩
 |1=>exact .inl ⟨_,rfl,by decide,by decide⟩
 |2=>exact .inl ⟨_,rfl,by decide,by decide⟩
 |3=>exact .inl ⟨_,rfl,by decide,by decide⟩
 |4=>exact .inr (.inl ⟨_,rfl⟩)
 |5=>exact .inr (.inl ⟨_,rfl⟩)
 |6=>exact .inr (.inr rfl)
 |n+7=>exact .inl ⟨_,rfl,by decide,by decide⟩
theorem gH (i:Nat):aO i=[]∨(∃ x,aO i=[x]∧(x=.qt∨x=.bq∨x=.cm))∨aO i=[.cm,.am]∨aO i=[.hs,.qt]:=by
 unfold aO
 match i with
 |0=>exact .inl rfl
 |1=>exact .inl rfl
 |2=>exact .inl rfl
 |3=>exact .inr (.inl ⟨_,rfl,.inl rfl⟩)
 |4=>exact .inr (.inl ⟨_,rfl,.inr (.inl rfl)⟩)
 |5=>exact .inr (.inl ⟨_,rfl,.inr (.inr rfl)⟩)
 |6=>exact .inr (.inr (.inl rfl))
 |7=>exact .inr (.inr (.inr rfl))
 |n+8=>exact .inl rfl
theorem Uc {q:Int} {y:Ch} (h:Here cs q [.bs,y]) (he:q+2≤e) (ho:ops.length < big):Sp cs e 2 ⟨q,ops,.plain⟩ C D ⟨q+2,ops,.plain⟩ C D:=by
 have h1:bu cs ⟨q,ops,.plain⟩=some ⟨q+1,ops,.plainQ⟩:=(bx h.head rfl).trans rfl
 have h2:bu cs ⟨q+1,ops,.plainQ⟩=some ⟨q+2,ops,.plain⟩:=by
  show some (⟨q+1+1,ops,.plain⟩:WS)=_
  rw[show q+1+1=q+2 by lia]
 exact(Sp.q h1 (by show q < q+1;lia) (by show q+1≤e;lia) ho (.inl rfl) (.inl rfl)).trans (Sp.q h2 (by show q+1 < q+2;lia) he ho (.inl rfl) (.inl rfl))
theorem xU:∀ {ps:List Nat} {q:Int},Here cs q (ps.flatMap aG)→q+(ps.flatMap aG).length≤e→ops.length < big→∃ n,Sp cs e n ⟨q,ops,.plain⟩ C D ⟨q+(ps.flatMap aG).length,ops,.plain⟩ C D
 |[],q,h,he,ho=>⟨0,by simpa using .refl⟩
 |i::ps,q,h,he,ho=>by
  rw[List.flatMap_cons] at h he ⊢
  rw[List.length_append] at he ⊢
  obtain⟨n,hs⟩:=xU h.right (by lia) ho
  have hl:=h.left
  have e2:q+((aG i).length:Int)+(ps.flatMap aG).length=q+(((aG i).length+(ps.flatMap aG).length:Nat):Int):=by lia
  rw[← e2]
  rcases cF i with ⟨x,hx,hxx⟩|hx
  ·rw[hx] at hl hs ⊢ he
   refine⟨1+n,Sp.trans (dJ hl.head ?_ ?_ (by simp at he;lia) ho) hs⟩
   ·rcases hxx with rfl|rfl|rfl<;>rfl
   ·rcases hxx with rfl|rfl|rfl<;>exact⟨by decide,rfl,rfl,by decide⟩
  ·rw[hx] at hl hs ⊢ he
   exact⟨2+n,Sp.trans (Uc hl (by simp at he;lia) ho) hs⟩
theorem yf {q st:Int} (h:ao cs q=some x) (hx:x≠.bs∧x≠.dq) (he:q+1≤e) (ho:ops.length < big):Sp cs e 1 ⟨q,ops,.str st false⟩ C D ⟨q+1,ops,.str st false⟩ C D:=by
 refine Sp.q ?_ (by show q < q+1;lia) he ho (.inl rfl) (.inr (by intro z;cases z))
 rw[bx h rfl]
 unfold jx
 dsimp only
 rw[show aM x=false from decide_eq_false hx.1,decide_eq_false hx.2];rfl
theorem MJ {q st:Int} {y:Ch} (h:Here cs q [.bs,y]) (he:q+2≤e) (ho:ops.length < big):Sp cs e 2 ⟨q,ops,.str st false⟩ C D ⟨q+2,ops,.str st false⟩ C D:=by
 have h1:bu cs ⟨q,ops,.str st false⟩=some ⟨q+1,ops,.str st true⟩:=(bx h.head rfl).trans rfl
 have h2:bu cs ⟨q+1,ops,.str st true⟩=some ⟨q+2,ops,.str st false⟩:=by
  rw[bx h.tail.head rfl,show q+2=q+1+1 from (Int.add_assoc q 1 1).symm];rfl
 exact(Sp.q h1 (by show q < q+1;lia) (by show q+1≤e;lia) ho (.inl rfl) (.inr (by intro z;cases z))).trans (Sp.q h2 (by show q+1 < q+2;lia) he ho (.inl rfl) (.inr (by intro z;cases z)))
theorem Cm {st:Int}:∀ {ss:List Nat} {q:Int},Here cs q (ss.flatMap bM)→q+(ss.flatMap bM).length≤e→ops.length < big→∃ n,Sp cs e n ⟨q,ops,.str st false⟩ C D ⟨q+(ss.flatMap bM).length,ops,.str st false⟩ C D
 |[],q,h,he,ho=>⟨0,by simpa using .refl⟩
 |i::ss,q,h,he,ho=>by
  rw[List.flatMap_cons] at h he ⊢
  rw[List.length_append] at he ⊢
  obtain⟨n,hs⟩:=Cm (st:=st) h.right (by lia) ho
  have hl:=h.left
  have e2:q+((bM i).length:Int)+(ss.flatMap bM).length=q+(((bM i).length+(ss.flatMap bM).length:Nat):Int):=by lia
  rw[← e2]
  rcases oW i with ⟨x,hx,hxx⟩|⟨y,hx⟩|hx
  ·rw[hx] at hl hs ⊢ he
   exact⟨1+n,Sp.trans (yf hl.head hxx (by simp at he;lia) ho) hs⟩
  ·rw[hx] at hl hs ⊢ he
   exact⟨2+n,Sp.trans (MJ hl (by simp at he;lia) ho) hs⟩
  ·rw[hx] at hl hs ⊢ he
   have t2:Sp cs e 1 ⟨q+1,ops,.str st false⟩ C D ⟨q+1+1,ops,.str st false⟩ C D:=yf hl.tail.head ⟨by decide,by decide⟩ (by simp at he;lia) ho
   rw[show q+1+1=q+(([Ch.hs,.br]:List Ch).length:Int) by simp;lia] at t2
   exact⟨1+1+n,Sp.trans (Sp.trans (yf hl.head ⟨by decide,by decide⟩ (by simp at he;lia) ho) t2) hs⟩
theorem zbz {ss:List Nat} (h:Here cs p (aW (.str ss))) (he:p+tl (.str ss)≤e) (ho:ops.length < big):∃ n,Sp cs e n ⟨p,ops,.plain⟩ C D ⟨p+tl (.str ss),ops,.plain⟩ (CX C p (.str ss)) (Ew D p (.str ss)):=by
 have hl:tl (.str ss)=1+(ss.flatMap bM).length+1:=by unfold tl aW;simp;lia
 rw[hl] at he
 obtain⟨n,hs⟩:=Cm (e:=e) (ops:=ops) (C:=C) (D:=D) (st:=p) h.tail.left (by lia) ho
 have h1:bu cs ⟨p,ops,.plain⟩=some ⟨p+1,ops,.str p false⟩:=(bx h.head rfl).trans rfl
 have h2:bu cs ⟨p+1+(ss.flatMap bM).length,ops,.str p false⟩=some ⟨p+1+(ss.flatMap bM).length+1,ops,.plain⟩:=(bx h.tail.last rfl).trans rfl
 have s2:Sp cs e 1 ⟨p+1+(ss.flatMap bM).length,ops,.str p false⟩ C D ⟨p+1+(ss.flatMap bM).length+1,ops,.plain⟩ C (upd D (p+1+(ss.flatMap bM).length+1) (vi p)):=by
  refine .step h2 (by show p+1+((ss.flatMap bM).length:Int) < p+1+(ss.flatMap bM).length+1;lia) (by show p+1+((ss.flatMap bM).length:Int)+1≤e;lia) ho ?_
  rw[if_neg (fun q=>q.1 rfl),if_pos ⟨fun q=>q.1 rfl,(by intro z;cases z),rfl⟩]
  exact .refl
 refine⟨1+n+1,?_⟩
 have hc:Ew D p (.str ss)=upd D (p+1+(ss.flatMap bM).length+1) (vi p):=by
  unfold Ew
  rw[if_pos (show isStr _=true from rfl),hl]
  congr 1;lia
 rw[hc,show CX C p (.str ss)=C from rfl,hl,show p+(1+((ss.flatMap bM).length:Int)+1)=p+1+(ss.flatMap bM).length+1 by lia]
 exact((Sp.q h1 (by show p < p+1;lia) (by show p+1≤e;lia) ho (.inl rfl) (.inl rfl)).trans hs).trans s2
theorem zbY {t:Tk} (h:Here cs p (aW t)) (he:p+tl t≤e) (ho:ops.length < big) (hc:∀ rd,t=.cl rd→ops≠[]) :
  ∃ n,Sp cs e n ⟨p,ops,.plain⟩ C D ⟨p+tl t,mz p ops t,.plain⟩ (CX C p t) (Ew D p t):=by
 cases t with
 |line i=>exact UJ h he ho
 |blk i=>exact zcy h he ho
 |str ss=>exact zbz h he ho
 |word ps=>exact xU h he ho
 |sp=>exact⟨1,dJ h.head rfl ⟨by decide,rfl,rfl,by decide⟩ he ho⟩
 |nl=>exact⟨1,dJ h.head rfl ⟨by decide,rfl,rfl,by decide⟩ he ho⟩
 |px i =>
  have h:Here cs p (aO i):=h
  show ∃ n,Sp cs e n ⟨p,ops,.plain⟩ C D ⟨p+((aO i).length:Int),ops,.plain⟩ C D
  have he:p+((aO i).length:Int)≤e:=he
  rcases gH i with hx|⟨x,hx,hxx⟩|hx|hx
  ·rw[hx];exact⟨0,by simpa using .refl⟩
  ·rw[hx] at h he ⊢
   refine⟨1,dJ h.head ?_ ?_ he ho⟩
   ·rcases hxx with rfl|rfl|rfl<;>rfl
   ·rcases hxx with rfl|rfl|rfl<;>exact⟨by decide,rfl,rfl,by decide⟩
  ·rw[hx] at h he ⊢
   have he:p+2≤e:=he
   have t2:Sp cs e 1 ⟨p+1,ops,.plain⟩ C D ⟨p+1+1,ops,.plain⟩ C D:=dJ h.tail.head rfl ⟨by decide,rfl,rfl,by decide⟩ (by lia) ho
   rw[show p+1+1=p+(([Ch.cm,.am]:List Ch).length:Int) by simp;lia] at t2
   exact⟨1+1,Sp.trans (dJ h.head rfl ⟨by decide,rfl,rfl,by decide⟩ (by lia) ho) t2⟩
  ·rw[hx] at h he ⊢
   have he:p+2≤e:=he
   have t2:Sp cs e 1 ⟨p+1,ops,.plain⟩ C D ⟨p+1+1,ops,.plain⟩ C D:=dJ h.tail.head rfl ⟨by decide,rfl,rfl,by decide⟩ (by lia) ho
   rw[show p+1+1=p+(([Ch.hs,.qt]:List Ch).length:Int) by simp;lia] at t2
   exact⟨1+1,Sp.trans (dJ h.head (by rw[h.tail.head];rfl) ⟨by decide,rfl,rfl,by decide⟩ (by lia) ho) t2⟩
 |op rd =>
  refine⟨1,Sp.q ?_ (by show p < p+1;lia) he ho (.inl rfl) (.inl rfl)⟩
  rw[bx h.head rfl]
  cases rd<;>rfl
 |cl rd =>
  refine⟨1,Sp.q ?_ (by show p < p+1;lia) he ho (.inl rfl) (.inl rfl)⟩
  rw[bx h.head rfl]
  cases rd<;>exact zds rfl ⟨rfl,rfl,rfl,by decide⟩ (hc _ rfl)
end
noncomputable def txt (ts:List Tk):List Ch:=ts.flatMap aW
noncomputable def bj (ts:List Tk):Int:=((txt ts).length:Int)
theorem gm (a b:List Tk):txt (a++b)=txt a++txt b:=List.flatMap_append
theorem qy (t:Tk) (r:List Tk):txt (t::r)=aW t++txt r:=rfl
theorem jF (t:Tk) (r:List Tk):bj (t::r)=tl t+bj r:=by unfold bj tl;rw[qy,List.length_append];lia
theorem dB (a b:List Tk):bj (a++b)=bj a+bj b:=by unfold bj;rw[gm,List.length_append];lia
theorem jO:bj []=0:=rfl
noncomputable def DW (p:Int) (ops:List Int):List Tk→List Int
 |[]=>ops
 |t::r=>DW (p+tl t) (mz p ops t) r
noncomputable def cmL (C:Int→Option Value) (p:Int):List Tk→(Int→Option Value)
 |[]=>C
 |t::r=>cmL (CX C p t) (p+tl t) r
noncomputable def dmL (D:Int→Option Value) (p:Int):List Tk→(Int→Option Value)
 |[]=>D
 |t::r=>dmL (Ew D p t) (p+tl t) r
noncomputable def kY (p:Int) (ops:List Int):List Tk→Prop
 |[]=>True
 |t::r=>(∀ rd,t=.cl rd→ops≠[])∧kY (p+tl t) (mz p ops t) r
noncomputable def Kn (C D:Int→Option Value) (p:Int):List Tk→Prop
 |[]=>True
 |t::r=>(∀ q,p < q→q≤p+tl t→C q=(if n8 t=true∧q=p+tl t then some (vi p) else none)∧D q=(if isStr t=true∧q=p+tl t then some (vi p) else none))∧Kn C D (p+tl t) r
theorem Hm (t:Tk):0≤tl t:=by unfold tl;lia
theorem yH (t:List Tk):0≤bj t:=by unfold bj;lia
theorem pU {t:Tk} (h:n8 t=true):0 < tl t:=by
 cases t with
 |line i=>unfold tl aW;simp;lia
 |blk i=>unfold tl aW;simp;lia
 |_=>cases h
theorem jn {t:Tk} (h:isStr t=true):0 < tl t:=by
 cases t with
 |str i=>unfold tl aW;simp;lia
 |_=>cases h
section
variable {cs:List Ch} {e:Int}
theorem j6:∀ (a b:List Tk) (p:Int) (ops:List Int),DW p ops (a++b)=DW (p+bj a) (DW p ops a) b
 |[],b,p,ops=>by rw[List.nil_append,jO,Int.add_zero];rfl
 |t::a,b,p,ops=>by
  show DW (p+tl t) (mz p ops t) (a++b)=_
  rw[j6 a b,jF,← Int.add_assoc];rfl
theorem fB:∀ (a b:List Tk) (p:Int) (ops:List Int),kY p ops (a++b)↔kY p ops a∧kY (p+bj a) (DW p ops a) b
 |[],b,p,ops=>by rw[List.nil_append,jO,Int.add_zero];exact⟨fun h=>⟨trivial,h⟩,fun h=>h.2⟩
 |t::a,b,p,ops=>by
  show _∧kY (p+tl t) (mz p ops t) (a++b)↔(_∧_)∧_
  rw[fB a b,jF,← Int.add_assoc]
  exact⟨fun⟨x,y,z⟩=>⟨⟨x,y⟩,z⟩,fun⟨⟨x,y⟩,z⟩=>⟨x,y,z⟩⟩
theorem cX {C D:Int→Option Value}:∀ (a b:List Tk) (p:Int),Kn C D p (a++b)↔Kn C D p a∧Kn C D (p+bj a) b
 |[],b,p=>by rw[List.nil_append,jO,Int.add_zero];exact⟨fun h=>⟨trivial,h⟩,fun h=>h.2⟩
 |t::a,b,p=>by
  show _∧Kn C D (p+tl t) (a++b)↔(_∧_)∧_
  rw[cX a b,jF,← Int.add_assoc]
  exact⟨fun⟨x,y,z⟩=>⟨⟨x,y⟩,z⟩,fun⟨⟨x,y⟩,z⟩=>⟨x,y,z⟩⟩
theorem Hj:∀ (ts:List Tk) (C:Int→Option Value) (p q:Int),q≤p→cmL C p ts q=C q
 |[],C,p,q,_=>rfl
 |t::r,C,p,q,h=>by
  have:=Hm t
  show cmL (CX C p t) (p+tl t) r q=C q
  rw[Hj r _ _ q (by lia)]
  unfold CX
  split
  ·rename_i hc
   have:=pU hc
   unfold upd
   rw[if_neg (by lia)]
  ·rfl
theorem Ho:∀ (ts:List Tk) (C:Int→Option Value) (p q:Int),q≤p→dmL C p ts q=C q
 |[],C,p,q,_=>rfl
 |t::r,C,p,q,h=>by
  have:=Hm t
  show dmL (Ew C p t) (p+tl t) r q=C q
  rw[Ho r _ _ q (by lia)]
  unfold Ew
  split
  ·rename_i hc
   have:=jn hc
   unfold upd
   rw[if_neg (by lia)]
  ·rfl
theorem Qo:∀ (ts:List Tk) (C D:Int→Option Value) (p:Int),(∀ q,p < q→C q=none∧D q=none)→Kn (cmL C p ts) (dmL D p ts) p ts
 |[],C,D,p,_=>trivial
 |t::r,C,D,p,h=>by
  have:=Hm t
  refine⟨fun q h1 h2=>⟨?_,?_⟩,Qo r _ _ _ fun q hq=>⟨?_,?_⟩⟩
  ·show cmL (CX C p t) (p+tl t) r q=_
   rw[Hj r _ _ q h2]
   unfold CX
   by_cases hc:n8 t=true
   ·rw[if_pos hc]
    unfold upd
    by_cases hq:q=p+tl t
    ·rw[if_pos hq,if_pos ⟨hc,hq⟩]
    ·rw[if_neg hq,if_neg (fun z=>hq z.2)];exact(h q h1).1
   ·rw[if_neg hc,if_neg (fun z=>hc z.1)];exact(h q h1).1
  ·show dmL (Ew D p t) (p+tl t) r q=_
   rw[Ho r _ _ q h2]
   unfold Ew
   by_cases hc:isStr t=true
   ·rw[if_pos hc]
    unfold upd
    by_cases hq:q=p+tl t
    ·rw[if_pos hq,if_pos ⟨hc,hq⟩]
    ·rw[if_neg hq,if_neg (fun z=>hq z.2)];exact(h q h1).2
   ·rw[if_neg hc,if_neg (fun z=>hc z.1)];exact(h q h1).2
  ·unfold CX
   split
   ·unfold upd
    rw[if_neg (by lia)];exact(h q (by lia)).1
   ·exact(h q (by lia)).1
  ·unfold Ew
   split
   ·unfold upd
    rw[if_neg (by lia)];exact(h q (by lia)).2
   ·exact(h q (by lia)).2
theorem S6 (p:Int) (ops:List Int) (t:Tk):(mz p ops t).length≤ops.length+(aW t).length:=by
 cases t with
 |op rd=>simp[mz,aW]
 |cl rd=>simp[mz];lia
 |_=>exact Nat.le_add_right _ _
theorem Hc:∀ (ts:List Tk) {p:Int} {ops:List Int} {C D:Int→Option Value},Here cs p (txt ts)→kY p ops ts→p+bj ts≤e→ops.length+(txt ts).length < big→∃ n,Sp cs e n ⟨p,ops,.plain⟩ C D ⟨p+bj ts,DW p ops ts,.plain⟩ (cmL C p ts) (dmL D p ts)
 |[],p,ops,C,D,h,hr,he,ho=>⟨0,by rw[jO,Int.add_zero];exact .refl⟩
 |t::r,p,ops,C,D,h,hr,he,ho=>by
  rw[jF] at he ⊢
  have:=yH r
  rw[qy,List.length_append] at ho
  obtain⟨n,h1⟩:=zbY (e:=e) (C:=C) (D:=D) (Here.left (b:=txt r) h) (by lia) (by lia) hr.1
  have:=S6 p ops t
  obtain⟨m,h2⟩:=Hc r (p:=p+tl t) (ops:=mz p ops t) (C:=CX C p t) (D:=Ew D p t) (Here.right (a:=aW t) h) hr.2 (by lia) (by lia)
  rw[← Int.add_assoc]
  exact⟨n+m,h1.trans h2⟩
end
noncomputable def bA:Sep→List Tk
 |.no=>[]
 |.line i=>[.line i]
 |.blk i t=>[.sp,.blk i]++(if t=true then [.sp] else [])
 |.sp=>[.sp]
 |.nl=>[.nl]
 |.sps=>[.sp,.sp]
noncomputable def dH (i:Nat):List Tk:=if aO i=[] then [] else [.px i]
noncomputable def v7:su→Tk
 |.word ps=>.word ps
 |.str ss=>.str ss
mutual
noncomputable def fK:It→List Tk
 |.atom px a=>dH px++[v7 a]
 |.lst px rd its last=>dH px++(.op rd::(jW its++(bA last++[.cl rd])))
noncomputable def jW:Lv→List Tk
 |.nil=>[]
 |.cons s i l=>bA s++(fK i++jW l)
end
theorem qK (s:Sep):txt (bA s)=aj s:=by
 cases s with
 |line i=>simp[txt,bA,aj,aW]
 |blk i t=>cases t<;>simp[txt,bA,aj,aW]
 |_=>rfl
theorem vY (i:Nat):txt (dH i)=aO i:=by
 unfold dH
 split
 ·rename_i h;rw[h];rfl
 ·simp[txt,aW]
theorem SQ (a:su):aW (v7 a)=aR a:=by
 cases a with
 |word ps=>rfl
 |str ss=>rfl
mutual
theorem yX:∀ i:It,txt (fK i)=aD i
 |.atom px a=>by
  unfold fK aD
  rw[gm,vY,qy,SQ]
  simp[txt]
 |.lst px rd its last=>by
  unfold fK aD
  rw[gm,vY,qy,gm,gm,vO its,qK]
  simp[txt,aW]
theorem vO:∀ l:Lv,txt (jW l)=aA l
 |.nil=>rfl
 |.cons s i l=>by
  unfold jW aA
  rw[gm,gm,qK,yX i,vO l]
end
noncomputable def Quiet (t:Tk):Prop:=∀ p ops,mz p ops t=ops∧∀ rd,t≠.cl rd
theorem dj:∀ (ts:List Tk),(∀ t∈ts,Quiet t)→∀ p ops,DW p ops ts=ops∧kY p ops ts
 |[],_,p,ops=>⟨rfl,trivial⟩
 |t::r,h,p,ops=>by
  obtain⟨h1,h2⟩:=h t List.mem_cons_self p ops
  obtain⟨h3,h4⟩:=dj r (fun x hx=>h x (List.mem_cons_of_mem _ hx)) (p+tl t) ops
  refine⟨?_,fun rd hq=>absurd hq (h2 rd),?_⟩
  ·show DW (p+tl t) (mz p ops t) r=ops
   rw[h1];exact h3
  ·rw[h1];exact h4
theorem nO (s:Sep):∀ t∈bA s,Quiet t:=by
 have q1:Quiet .sp:=fun p ops=>⟨rfl,fun rd h=>by cases h⟩
 have q2:Quiet .nl:=fun p ops=>⟨rfl,fun rd h=>by cases h⟩
 have q3:∀ i,Quiet (.line i):=fun i p ops=>⟨rfl,fun rd h=>by cases h⟩
 have q4:∀ i,Quiet (.blk i):=fun i p ops=>⟨rfl,fun rd h=>by cases h⟩
 cases s with
 |no=>intro t ht;cases ht
 |line i=>intro t ht;rw[List.mem_singleton.mp ht];exact q3 i
 |blk i b =>
  intro t ht
  cases b
  ·simp[bA] at ht;rcases ht with rfl|rfl;exact q1;exact q4 i
  ·simp[bA] at ht;rcases ht with rfl|rfl|rfl;exact q1;exact q4 i;exact q1
 |sp=>intro t ht;rw[List.mem_singleton.mp ht];exact q1
 |nl=>intro t ht;rw[List.mem_singleton.mp ht];exact q2
 |sps =>
  intro t ht
  simp[bA] at ht
  rw[ht];exact q1
theorem pZ (i:Nat):∀ t∈dH i,Quiet t:=by
 intro t ht
 unfold dH at ht
 split at ht
 ·cases ht
 ·rw[List.mem_singleton.mp ht];exact fun p ops=>⟨rfl,fun rd h=>by cases h⟩
theorem Ea (a:su):Quiet (v7 a):=by
 cases a<;>exact fun p ops=>⟨rfl,fun rd h=>by cases h⟩
mutual
theorem Gu:∀ (i:It) (p:Int) (ops:List Int),DW p ops (fK i)=ops∧kY p ops (fK i)
 |.atom px a,p,ops=>by
  unfold fK
  refine dj _ (fun t ht=>?_) p ops
  rcases List.mem_append.mp ht with h|h
  ·exact pZ px t h
  ·rw[List.mem_singleton.mp h];exact Ea a
 |.lst px rd its last,p,ops=>by
  unfold fK
  obtain⟨h1,h2⟩:=dj _ (pZ px) p ops
  rw[j6,fB,h1]
  have h3:∀ q o,DW q o (jW its++(bA last++[.cl rd]))=o.dropLast∧(o≠[]→kY q o (jW its++(bA last++[.cl rd]))):=fun q o=>by
   obtain⟨k1,k2⟩:=yI its q o
   obtain⟨k3,k4⟩:=dj _ (nO last) (q+bj (jW its)) o
   rw[j6,fB,k1,j6,fB,k3]
   exact⟨rfl,fun ho=>⟨k2,k4,fun _ _=>ho,trivial⟩⟩
  obtain⟨h4,h5⟩:=h3 (p+bj (dH px)+tl (.op rd)) (ops++[p+bj (dH px)])
  refine⟨?_,h2,(fun rd' hq=>by cases hq),h5 (by simp)⟩
  show DW _ (ops++[p+bj (dH px)]) _=ops
  rw[h4];simp
theorem yI:∀ (l:Lv) (p:Int) (ops:List Int),DW p ops (jW l)=ops∧kY p ops (jW l)
 |.nil,p,ops=>⟨rfl,trivial⟩
 |.cons s i l,p,ops=>by
  unfold jW
  obtain⟨h1,h2⟩:=dj _ (nO s) p ops
  obtain⟨h3,h4⟩:=Gu i (p+bj (bA s)) ops
  obtain⟨h5,h6⟩:=yI l (p+bj (bA s)+bj (fK i)) ops
  rw[j6,fB,h1,j6,fB,h3]
  exact⟨h5,h2,h4,h6⟩
end
noncomputable def FPass (cs:List Ch) (ex:Bool) (l d p q:Int):Prop:=∀ n r,FRun cs ex l n q d r→∃ n',FRun cs ex l n' p d r
section
variable {cs:List Ch} {e p q l d:Int} {ex:Bool} {x:Ch}
theorem FPass.refl:FPass cs ex l d p p:=fun n _ h=>⟨n,h⟩
theorem FPass.trans {r:Int} (a:FPass cs ex l d p q) (b:FPass cs ex l d q r):FPass cs ex l d p r:=fun n z h=>by
 obtain⟨m,h⟩:=b n z h
 exact a m z h
theorem FPass.step (h:FStep cs ex l p d (some (q,d,false))) (hq:1≤q):FPass cs ex l d p q:=fun n _ hr=>⟨n+1,.go h hq hr⟩
theorem FPass.cast {r:Int} (a:FPass cs ex l d p q) (h:q=r):FPass cs ex l d p r:=h▸a
theorem Sp.keep {n s C D s' C' D'} (x:Sp cs e n s C D s' C' D'):∀ q,C q≠none→C' q≠none:=by
 induction x with
 |refl=>exact fun q h=>h
 |step a b c d _ ih =>
  intro q h
  refine ih q ?_
  split
  ·unfold upd
   split
   ·intro z;cases z
   ·exact h
  ·exact h
theorem Sp.com {n s C D s' C' D'} (x:Sp cs e n s C D s' C' D') (he:e≤1+cs.length) (hC:∀ q,C' q=none) (hm:bz s.m≠0):∀ m r,ComRun cs m s' r→∃ m',ComRun cs m' s r:=by
 induction x with
 |refl=>exact fun m r h=>⟨m,h⟩
 |@step n s s1 s2 C D C' D' a b c d rest ih =>
  intro m r h
  have h1:bz s1.m≠0:=fun z=>by
   rw[if_pos ⟨hm,z⟩] at rest
   exact rest.keep s1.p (by unfold upd;rw[if_pos rfl];intro z;cases z) (hC _)
  obtain⟨m',h2⟩:=ih hC h1 m r h
  exact⟨m'+1,.step hm (by lia) a (fun _=>by lia) d h2⟩
theorem ul:([]:List Int).length < big:=by show 0 < 2 ^ 20;decide
theorem Td {i:Nat} (h:Here cs p (aW (.line i))):FPass cs ex l d p (p+tl (.line i)):=by
 have hl:tl (.line i)=1+(bT i).length+1:=by unfold tl aW;simp;lia
 have hend:=aU h.tail.last
 obtain⟨n,hs⟩:=v4 (e:=1+cs.length) (ops:=[]) (C:=fun _=>none) (D:=fun _=>none) p h.tail.left (Cv i) (by lia) ul
 have h1:bu cs ⟨p,[],.plain⟩=some ⟨p+1,[],.com p⟩:=(bx h.head rfl).trans rfl
 have h2:bu cs ⟨p+1+(bT i).length,[],.com p⟩=some ⟨p+1+(bT i).length+1,[],.plain⟩:=(bx h.tail.last rfl).trans rfl
 obtain⟨m,hm⟩:=hs.com (Int.le_refl _) (fun _=>rfl) (by show (1:Int)≠0;decide) 1 _ (.step (by show (1:Int)≠0;decide) hend.2 h2 (fun z=>by have z:p+1+((bT i).length:Int)+1=p+1+(bT i).length+2:=z;lia) ul (.stop rfl))
 rw[hl]
 have hp:=h.1
 refine FPass.cast (FPass.step (.com h.head rfl h1 (fun z=>by have z:p+1=p+2:=z;lia) hm) (by show 1≤p+1+((bT i).length:Int)+1;lia)) (by show p+1+((bT i).length:Int)+1=_;lia)
theorem zb3 {i:Nat} (h:Here cs p (aW (.blk i))):FPass cs ex l d p (p+tl (.blk i)):=by
 have hl:tl (.blk i)=2+(cL i).length+2:=by unfold tl aW;simp;lia
 have h':Here cs (p+2) (cL i++[.br,.hs]):=by
  have:=h.tail.tail
  rwa [show p+1+1=p+2 by lia] at this
 have hend:=aU h'.right.tail.head
 obtain⟨n,hs⟩:=H6 (e:=1+cs.length) (ops:=[]) (C:=fun _=>none) (D:=fun _=>none) (st:=p) h'.left (by lia) ul
 have h1:bu cs ⟨p,[],.plain⟩=some ⟨p+2,[],.blk p 0⟩:=(bx h.head h.tail.head).trans rfl
 have h2:bu cs ⟨p+2+(cL i).length,[],.blk p 0⟩=some ⟨p+2+(cL i).length+2,[],.plain⟩:=(bx h'.right.head h'.right.tail.head).trans rfl
 obtain⟨m,hm⟩:=hs.com (Int.le_refl _) (fun _=>rfl) (by show ((0:Nat):Int)+1≠0;decide) 1 _ (.step (by show ((0:Nat):Int)+1≠0;decide) (by show p+2+((cL i).length:Int) < _;lia) h2 (fun _=>by show p+2+((cL i).length:Int)+1 < _;lia) ul (.stop rfl))
 rw[hl]
 have hp:=h.1
 refine FPass.cast (FPass.step (.com h.head (by rw[h.tail.head];rfl) h1 (fun _=>by have:=aU h.tail.head;lia) hm) (by show 1≤p+2+((cL i).length:Int)+2;lia)) (by show p+2+((cL i).length:Int)+2=_;lia)
theorem uL (h:ao cs p=some x) (hb:aQ (some x) (ao cs (p+1))=none) (h1:aM x=false∧cH x=false∧fW x=false∧dX x=false∧x≠.dq):FPass cs ex l d p (p+1):=by
 have:=aU h
 exact FPass.step (.oth h hb h1.1 h1.2.1 h1.2.2.1 h1.2.2.2.1 h1.2.2.2.2) (by lia)
theorem vC {i:Nat} (h:Here cs p (aO i)):FPass cs ex l d p (p+(aO i).length):=by
 have hp:=h.1
 rcases gH i with hx|⟨x,hx,hxx⟩|hx|hx
 ·rw[hx];exact FPass.cast .refl (by simp)
 ·rw[hx] at h ⊢
  refine uL h.head ?_ ?_
  ·rcases hxx with rfl|rfl|rfl<;>rfl
  ·rcases hxx with rfl|rfl|rfl<;>exact⟨by decide,by decide,by decide,by decide,by decide⟩
 ·rw[hx] at h ⊢
  refine FPass.cast ((uL h.head rfl ⟨by decide,by decide,by decide,by decide,by decide⟩).trans (FPass.step (.am h.tail.head) (by lia))) (by simp;lia)
 ·rw[hx] at h ⊢
  refine FPass.cast ((uL h.head (by rw[h.tail.head];rfl) ⟨by decide,by decide,by decide,by decide,by decide⟩).trans (uL h.tail.head rfl ⟨by decide,by decide,by decide,by decide,by decide⟩)) (by simp;lia)
theorem HQ (hd:(ex&&decide (d=0))=false):∀ {ps:List Nat} {p:Int},Here cs p (ps.flatMap aG)→FPass cs ex l d p (p+(ps.flatMap aG).length)
 |[],p,h=>FPass.cast .refl (by simp)
 |i::ps,p,h=>by
  have hp:=h.1
  rw[List.flatMap_cons] at h ⊢
  have ih:=HQ hd h.right
  have hl:=h.left
  refine FPass.trans (q:=p+(aG i).length) ?_ (ih.cast (by rw[List.length_append];lia))
  rcases cF i with ⟨x,hx,hxx⟩|hx
  ·rw[hx] at hl ⊢
   have ne:x≠.am:=by rcases hxx with rfl|rfl|rfl<;>decide
   have wp:cH x=true:=by rcases hxx with rfl|rfl|rfl<;>rfl
   have es:aM x=false:=by rcases hxx with rfl|rfl|rfl<;>rfl
   have:=FStep.part (cs:=cs) (ex:=ex) (l:=l) (p:=p) (d:=d) hl.head ne (.inr wp) hd
   rw[es] at this
   exact FPass.step this (by show 1≤p+1;lia)
  ·rw[hx] at hl ⊢
   exact FPass.step (FStep.part hl.head (by decide) (.inl rfl) hd) (by show 1≤p+2;lia)
theorem HF:∀ {ss:List Nat} {q:Int},Here cs q (ss.flatMap bM++[.dq])→∃ n,StrRun cs n q (q+(ss.flatMap bM).length+1)
 |[],q,h=>⟨0,by simpa using StrRun.stop h.head⟩
 |i::ss,q,h=>by
  rw[List.flatMap_cons,List.append_assoc] at h
  rw[List.flatMap_cons,List.length_append]
  obtain⟨n,hn⟩:=HF h.right
  have hl:=h.left
  have e:q+((bM i).length:Int)+(ss.flatMap bM).length+1=q+(((bM i).length+(ss.flatMap bM).length:Nat):Int)+1:=by lia
  rw[e] at hn
  rcases oW i with ⟨x,hx,h1,h2⟩|⟨y,hx⟩|hx
  ·rw[hx] at hl hn ⊢
   have es:aM x=false:=by unfold aM;simpa using h1
   refine⟨n+1,.step hl.head h2 ?_⟩
   rw[es];exact hn
  ·rw[hx] at hl hn ⊢
   exact⟨n+1,.step hl.head (by decide) hn⟩
  ·rw[hx] at hl hn ⊢
   refine⟨n+1+1,.step hl.head (by decide) (.step hl.tail.head (by decide) ?_)⟩
   have:q+(([Ch.hs,.br]:List Ch).length:Int)=q+(if aM Ch.hs=true then 2 else 1)+(if aM Ch.br=true then 2 else 1):=by
    show q+2=q+1+1
    lia
   rw[← this];exact hn
theorem zdY {ss:List Nat} (h:Here cs p (aW (.str ss))):FStep cs ex l p d (some (p+tl (.str ss),d,ex&&decide (d=0))):=by
 have hl:tl (.str ss)=1+(ss.flatMap bM).length+1:=by unfold tl aW;simp;lia
 obtain⟨n,hn⟩:=HF h.tail
 rw[hl,show p+(1+((ss.flatMap bM).length:Int)+1)=p+1+(ss.flatMap bM).length+1 by lia]
 exact .str h.head hn
noncomputable def uQ (cs:List Ch) (q:Int):Prop:=WordRun cs 0 q q
theorem Cz:∀ {ps:List Nat} {q:Int},Here cs q (ps.flatMap aG)→uQ cs (q+(ps.flatMap aG).length)→∃ n,WordRun cs n q (q+(ps.flatMap aG).length)
 |[],q,h,hs=>⟨0,by simpa [uQ] using hs⟩
 |i::ps,q,h,hs=>by
  rw[List.flatMap_cons] at h hs ⊢
  rw[List.length_append] at hs ⊢
  have e:q+((aG i).length:Int)+(ps.flatMap aG).length=q+(((aG i).length+(ps.flatMap aG).length:Nat):Int):=by lia
  rw[← e] at hs ⊢
  obtain⟨n,hn⟩:=Cz h.right hs
  have hl:=h.left
  rcases cF i with ⟨x,hx,hxx⟩|hx
  ·rw[hx] at hl hn ⊢
   refine⟨n+1,.on hl.head ?_ ?_ ?_ hn⟩
   ·rcases hxx with rfl|rfl|rfl<;>rfl
   ·rcases hxx with rfl|rfl|rfl<;>rfl
   ·rcases hxx with rfl|rfl|rfl<;>exact .inl rfl
  ·rw[hx] at hl hn ⊢
   exact⟨n+1,.esc hl.head (aU hl.tail.head).2 hn⟩
end
section
variable {cs:List Ch} {e p q l d:Int} {ex:Bool} {x:Ch}
theorem jf {s:Sep} (h:Here cs p (aj s)):FPass cs ex l d p (p+(aj s).length):=by
 have hp:=h.1
 have ws:∀ {x:Ch} {p:Int},ao cs p=some x→(x=.sp∨x=.nl)→FPass cs ex l d p (p+1):=fun {x p} h hx=>by
  rcases hx with rfl|rfl<;>exact uL h rfl ⟨by decide,by decide,by decide,by decide,by decide⟩
 cases s with
 |no=>exact FPass.cast .refl (by simp[aj])
 |line i=>exact(Td (i:=i) (by simpa [aj,aW] using h)).cast (by simp[aj,tl,aW])
 |sp=>exact ws h.head (.inl rfl)
 |nl=>exact ws h.head (.inr rfl)
 |sps=>exact((ws h.head (.inl rfl)).trans (ws h.tail.head (.inl rfl))).cast (by simp[aj];lia)
 |blk i t =>
  have h1:Here cs p ([.sp]++(aW (.blk i)++(if t=true then [.sp] else []))):=by
   have:aj (.blk i t)=[.sp]++(aW (.blk i)++(if t=true then [.sp] else [])):=by simp[aj,aW]
   rwa [this] at h
  have e1:(p+((aj (.blk i t)).length:Int))=p+1+tl (.blk i)+((if t=true then [Ch.sp] else []).length:Int):=by
   simp only[aj,tl,aW,List.length_append,List.length_cons,List.length_nil];lia
  rw[e1]
  have h2:Here cs (p+1) (aW (.blk i)++(if t=true then [.sp] else [])):=h1.right
  refine(ws h1.left.head (.inl rfl)).trans ((zb3 h2.left).trans ?_)
  have h3:Here cs (p+1+tl (.blk i)) (if t=true then [.sp] else []):=h2.right
  cases t with
  |true=>exact ws h3.head (.inl rfl)
  |false=>exact FPass.cast .refl (by simp)
theorem q7 (rd:Bool):fW (wk rd)=true:=by cases rd<;>rfl
theorem qU (rd:Bool):dX (pI rd)=true:=by cases rd<;>rfl
theorem Ii {a:su} (hd:(ex&&decide (d=0))=false) (h:Here cs p (aR a)):FPass cs ex l d p (p+(aR a).length):=by
 cases a with
 |word ps=>exact HQ hd h
 |str ss =>
  have hp:=h.1
  have h':Here cs p (aW (.str ss)):=by simpa [aR,aW] using h
  have:=zdY (ex:=ex) (l:=l) (d:=d) h'
  rw[hd] at this
  have hn:=Hm (.str ss)
  exact(FPass.step this (by lia)).cast (by simp[aR,tl,aW])
mutual
theorem Xr (hl:l≤0):∀ (i:It) {p d:Int},1≤d→Here cs p (aD i)→FPass cs ex l d p (p+(aD i).length)
 |.atom px a,p,d,hd,h=>by
  have h:Here cs p (aO px++aR a):=h
  refine FPass.cast ((vC h.left).trans (Ii (by rw[decide_eq_false (by lia)];simp) h.right)) ?_
  simp only[aD,List.length_append];lia
 |.lst px rd its last,p,d,hd,h=>by
  have h:Here cs p (aO px++([wk rd]++(aA its++(aj last++[pI rd])))):=h
  have hp:=h.1
  refine FPass.trans (vC h.left) fun n r hr=>?_
  have h1:=h.right
  have h2:Here cs (p+(aO px).length+1) (aA its++(aj last++[pI rd])):=h1.right
  have h3:=h2.right
  have h4:=h3.right.head
  have hq:=(aU h4).1
  have c1:∃ n,FRun cs ex l n (p+(aO px).length+1+(aA its).length+(aj last).length) (d+1) r:=by
   have st:=FStep.cl (cs:=cs) (ex:=ex) (l:=l) (d:=d+1) h4 (qU rd) (by lia)
   rw[show d+1 - 1=d by lia,decide_eq_false (by lia)] at st
   refine⟨n+1,.go st (by lia) ?_⟩
   rw[show p+((aO px).length:Int)+1+(aA its).length+(aj last).length+1=p+((aD (.lst px rd its last)).length:Int) by
    simp only[aD,List.length_append,List.length_singleton];lia]
   exact hr
  obtain⟨n1,c1⟩:=c1
  obtain⟨n2,c2⟩:=jf (d:=d+1) h3.left _ _ c1
  obtain⟨n3,c3⟩:=Hv hl its (d:=d+1) (by lia) h2.left _ _ c2
  have st:=FStep.op (cs:=cs) (ex:=ex) (l:=l) (d:=d) h1.left.head (q7 rd)
  rw[decide_eq_false (by lia)] at st
  exact⟨n3+1,.go st (by lia) c3⟩
theorem Hv (hl:l≤0):∀ (v:Lv) {p d:Int},1≤d→Here cs p (aA v)→FPass cs ex l d p (p+(aA v).length)
 |.nil,p,d,hd,h=>FPass.cast .refl (by simp[aA])
 |.cons s i v,p,d,hd,h=>by
  have h:Here cs p (aj s++(aD i++aA v)):=h
  refine FPass.cast ((jf h.left).trans ((Xr hl i hd h.right.left).trans (Hv hl v hd h.right.right))) ?_
  simp only[aA,List.length_append];lia
end
theorem f_list {rd:Bool} {its:Lv} {last:Sep} (h:Here cs p ([wk rd]++(aA its++(aj last++[pI rd])))):∃ n,FRun cs ex 0 n p 0 (.val (p+1+(aA its).length+(aj last).length+1)):=by
 have hp:=h.1
 have h2:Here cs (p+1) (aA its++(aj last++[pI rd])):=h.right
 have h3:=h2.right
 have st:=FStep.cl (cs:=cs) (ex:=ex) (l:=0) (d:=1) h3.right.head (qU rd) (by lia)
 rw[show (1:Int) - 1=0 by lia,decide_eq_true rfl] at st
 obtain⟨n2,c2⟩:=jf (d:=1) h3.left _ _ (.done st)
 obtain⟨n3,c3⟩:=Hv (Int.le_refl 0) its (d:=1) (by lia) h2.left _ _ c2
 have st2:=FStep.op (cs:=cs) (ex:=ex) (l:=0) (d:=0) h.left.head (q7 rd)
 rw[decide_eq_false (by lia)] at st2
 exact⟨n3+1,.go st2 (by lia) c3⟩
theorem zcc {i:It} (h:Here cs p (aD i)) (hw:kindOf i=.word→uQ cs (p+(aD i).length)) (ok:vR i):∃ n,FRun cs true 0 n p 0 (.val (p+(aD i).length)):=by
 cases i with
 |atom px a =>
  have h:Here cs p (aO px++aR a):=h
  have e1:p+((aD (.atom px a)).length:Int)=p+(aO px).length+(aR a).length:=by simp only[aD,List.length_append];lia
  rw[e1] at hw ⊢
  have hr:=h.right
  have:∃ n,FRun cs true 0 n (p+(aO px).length) 0 (.val (p+(aO px).length+(aR a).length)):=by
   cases a with
   |word ps =>
    obtain⟨n,hn⟩:=Cz hr (hw rfl)
    obtain⟨ne,_⟩:=ok
    cases ps with
    |nil=>exact absurd rfl ne
    |cons j r =>
     have hr':Here cs (p+(aO px).length) ((j::r).flatMap aG):=hr
     rw[List.flatMap_cons] at hr'
     have hl:=hr'.left
     rcases cF j with ⟨x,hx,hxx⟩|hx
     ·rw[hx] at hl
      exact⟨0,.done (.word hl.head (by rcases hxx with rfl|rfl|rfl<;>decide) (.inr (by rcases hxx with rfl|rfl|rfl<;>rfl)) rfl rfl hn)⟩
     ·rw[hx] at hl
      exact⟨0,.done (.word hl.head (by decide) (.inl rfl) rfl rfl hn)⟩
   |str ss =>
    have h':Here cs (p+(aO px).length) (aW (.str ss)):=by simpa [aR,aW] using hr
    have:=zdY (ex:=true) (l:=0) (d:=0) h'
    have e2:tl (.str ss)=((aR (.str ss)).length:Int):=by simp[aR,tl,aW]
    rw[e2] at this
    exact⟨0,.done this⟩
  obtain⟨n,hn⟩:=this
  exact vC h.left _ _ hn
 |lst px rd its last =>
  have h:Here cs p (aO px++([wk rd]++(aA its++(aj last++[pI rd])))):=h
  obtain⟨n,hn⟩:=f_list (ex:=true) h.right
  have e1:p+(aO px).length+1+(aA its).length+(aj last).length+1=p+((aD (.lst px rd its last)).length:Int):=by simp only[aD,List.length_append,List.length_singleton];lia
  rw[e1] at hn
  exact vC h.left _ _ hn
noncomputable def Ao (cs:List Ch) (ar:List Int) (e:Int):Prop:=(ar=[]∧e=1+cs.length)∨(ar≠[]∧∃ y,ao cs e=some y∧dX y=true)
theorem Oe {ar:List Int} (h:Ao cs ar e):∃ r,FRun cs ex 0 0 e 0 r∧tells cs (ends cs r) r=wH cs ar:=by
 rcases h with ⟨rfl,rfl⟩|⟨hn,y,hy,hc⟩
 ·exact⟨.out,.out (by lia),rfl⟩
 ·exact⟨.err,.err (.bad hy hc (by lia)),by unfold wH;rw[if_neg hn];rfl⟩
theorem Nr {ar:List Int} {last:Sep}:∀ {v:Lv} {p:Int},Here cs p (aA v++aj last)→Ao cs ar (p+(aA v).length+(aj last).length)→∃ n r,FRun cs false 0 n p 0 r∧tells cs (ends cs r) r=vX cs ar v p
 |.nil,p,h,he=>by
  have h:Here cs p (aj last):=h
  refine aV (fun r h1 h2=>?_) (Oe (ex:=false) he)
  simp only[aA,List.length_nil] at h1
  rw[show p+((0:Nat):Int)=p by lia] at h1
  obtain⟨n,hn⟩:=jf h _ _ h1
  exact⟨n,r,hn,h2⟩
 |.cons s i v,p,h,he=>by
  have h:Here cs p ((aj s++(aD i++aA v))++aj last):=h
  have h0:Here cs p (aj s++(aD i++(aA v++aj last))):=by simpa [List.append_assoc] using h
  have he':Ao cs ar (p+(aj s).length+(aD i).length+(aA v).length+(aj last).length):=by
   rw[show p+((aj s).length:Int)+(aD i).length+(aA v).length+(aj last).length=p+((aA (.cons s i v)).length:Int)+(aj last).length by simp only[aA,List.length_append];lia]
   exact he
  unfold vX
  cases i with
  |atom px a =>
   have hno:¬ tD (.atom px a)=true:=by intro z;cases z
   rw[if_neg hno]
   refine fM (fun n r h1 h2=>?_) (Nr h0.right.right he')
   have h3:Here cs (p+(aj s).length) (aO px++aR a):=h0.right.left
   obtain⟨m,hm⟩:=((jf h0.left).trans ((vC h3.left).trans ((Ii (by simp) h3.right).cast (by simp only[aD,List.length_append];lia)))) _ _ h1
   exact⟨m,r,hm,h2⟩
  |lst px rd its last' =>
   rw[if_pos (show tD (.lst px rd its last')=true from rfl)]
   have h3:Here cs (p+(aj s).length) (aO px++([wk rd]++(aA its++(aj last'++[pI rd])))):=h0.right.left
   obtain⟨n,hn⟩:=f_list (ex:=false) h3.right
   obtain⟨m,hm⟩:=((jf h0.left).trans (vC h3.left)) _ _ hn
   refine⟨m,_,hm,?_⟩
   show vi (p+(aj s).length+(aO px).length+1+(aA its).length+(aj last').length+1)=vi _
   congr 1
   simp only[aD,List.length_append,List.length_singleton];lia
end
noncomputable def BPass (cs:List Ch) (C D:Int→Option Value) (ex:Bool) (l d p q:Int):Prop:=∀ n r,BRun cs C D ex l n p d r→∃ n',BRun cs C D ex l n' q d r
section
variable {cs:List Ch} {C D:Int→Option Value} {e p q l d:Int} {ex:Bool} {x:Ch}
theorem BPass.refl:BPass cs C D ex l d p p:=fun n _ h=>⟨n,h⟩
theorem BPass.trans {r:Int} (a:BPass cs C D ex l d p q) (b:BPass cs C D ex l d q r):BPass cs C D ex l d p r:=fun n z h=>by
 obtain⟨m,h⟩:=a n z h
 exact b m z h
theorem BPass.step (h:BStep cs C D ex l q d (some (p,d,false))) (hq:1 < q) (hp:p≤1+cs.length):BPass cs C D ex l d p q:=fun n _ hr=>⟨n+1,.go hq h hp hr⟩
theorem BPass.cast {r:Int} (a:BPass cs C D ex l d p q) (h:q=r):BPass cs C D ex l d p r:=h▸a
theorem vz:∀ {ps:List Nat} {p:Int},Here cs p (ps.flatMap aG)→isQ cs p=false→isQ cs (p+(ps.flatMap aG).length)=false
 |[],p,h,u=>by simpa using u
 |i::ps,p,h,u=>by
  rw[List.flatMap_cons] at h ⊢
  have hl:=h.left
  have:isQ cs (p+(aG i).length)=false:=by
   rcases cF i with ⟨x,hx,hxx⟩|hx
   ·rw[hx] at hl ⊢
    exact bw hl.head (by rcases hxx with rfl|rfl|rfl<;>decide)
   ·rw[hx] at hl ⊢
    have:=bw hl.tail.head (by decide)
    rwa [show p+1+1=p+(([Ch.bs,.lp]:List Ch).length:Int) by simp<;>lia] at this
  have:=vz h.right this
  rw[List.length_append]
  rwa [show p+((aG i).length:Int)+(ps.flatMap aG).length=p+(((aG i).length+(ps.flatMap aG).length:Nat):Int) by lia] at this
theorem Qm:∀ {ss:List Nat} {p:Int},Here cs p (ss.flatMap bM)→isQ cs p=false→isQ cs (p+(ss.flatMap bM).length)=false
 |[],p,h,u=>by simpa using u
 |i::ss,p,h,u=>by
  rw[List.flatMap_cons] at h ⊢
  have hl:=h.left
  have:isQ cs (p+(bM i).length)=false:=by
   rcases oW i with ⟨x,hx,h1,h2⟩|⟨y,hx⟩|hx
   ·rw[hx] at hl ⊢
    exact bw hl.head h1
   ·rw[hx] at hl ⊢
    have h1:=vg hl.head
    rw[u] at h1
    have h2:isQ cs (p+1+1)=false:=by
     by_cases hy:y=.bs
     ·have:=hl.tail.head
      rw[hy] at this
      rw[vg this,h1];rfl
     ·exact bw hl.tail.head hy
    rwa [show p+1+1=p+(([Ch.bs,y]:List Ch).length:Int) by simp<;>lia] at h2
   ·rw[hx] at hl ⊢
    have:=bw hl.tail.head (by decide)
    rwa [show p+1+1=p+(([Ch.hs,.br]:List Ch).length:Int) by simp<;>lia] at this
  have:=Qm h.right this
  rw[List.length_append]
  rwa [show p+((bM i).length:Int)+(ss.flatMap bM).length=p+(((bM i).length+(ss.flatMap bM).length:Nat):Int) by lia] at this
theorem Yb {t:Tk} (h:Here cs p (aW t)) (u:isQ cs p=false):isQ cs (p+tl t)=false:=by
 cases t with
 |line i =>
  have:=bw h.tail.last (by decide)
  rwa [show p+1+((bT i).length:Int)+1=p+tl (.line i) by unfold tl aW;simp;lia] at this
 |blk i =>
  have h':Here cs (p+1+1) (cL i++[.br,.hs]):=h.tail.tail
  have:=bw h'.right.tail.head (by decide)
  rwa [show p+1+1+((cL i).length:Int)+1+1=p+tl (.blk i) by unfold tl aW;simp;lia] at this
 |sp=>exact bw h.head (by decide)
 |nl=>exact bw h.head (by decide)
 |px i =>
  have h:Here cs p (aO i):=h
  show isQ cs (p+((aO i).length:Int))=false
  rcases gH i with hx|⟨x,hx,hxx⟩|hx|hx
  ·rw[hx];simpa using u
  ·rw[hx] at h ⊢
   exact bw h.head (by rcases hxx with rfl|rfl|rfl<;>decide)
  ·rw[hx] at h ⊢
   have:=bw h.tail.head (by decide)
   rwa [show p+1+1=p+(([Ch.cm,.am]:List Ch).length:Int) by simp<;>lia] at this
  ·rw[hx] at h ⊢
   have:=bw h.tail.head (by decide)
   rwa [show p+1+1=p+(([Ch.hs,.qt]:List Ch).length:Int) by simp<;>lia] at this
 |word ps=>exact vz h u
 |str ss =>
  have:=bw h.tail.last (by decide)
  rwa [show p+1+((ss.flatMap bM).length:Int)+1=p+tl (.str ss) by unfold tl aW;simp;lia] at this
 |op rd=>exact bw h.head (by cases rd<;>decide)
 |cl rd=>exact bw h.head (by cases rd<;>decide)
theorem oM:∀ {ts:List Tk} {p:Int},Here cs p (txt ts)→isQ cs p=false→isQ cs (p+bj ts)=false
 |[],p,h,u=>by rw[jO,Int.add_zero];exact u
 |t::r,p,h,u=>by
  rw[jF,← Int.add_assoc]
  exact oM (Here.right (a:=aW t) h) (Yb (Here.left (b:=txt r) h) u)
theorem jB {t:Tk} {r:List Tk} (k:Kn C D p (t::r)) (h1:n8 t=false) {q:Int} (a:p < q) (b:q≤p+tl t):C q=none:=by
 have:=(k.1 q a b).1
 rw[if_neg (fun z=>by rw[h1] at z;cases z.1)] at this
 exact this
theorem FN {t:Tk} {r:List Tk} (k:Kn C D p (t::r)) (h1:n8 t=true):C (p+tl t)=some (vi p):=by
 have:=(k.1 (p+tl t) (by have:=pU h1;lia) (Int.le_refl _)).1
 rw[if_pos ⟨h1,rfl⟩] at this
 exact this
theorem zcT {t:Tk} {r:List Tk} (k:Kn C D p (t::r)) (h1:isStr t=true):D (p+tl t)=some (vi p):=by
 have:=(k.1 (p+tl t) (by have:=jn h1;lia) (Int.le_refl _)).2
 rw[if_pos ⟨h1,rfl⟩] at this
 exact this
theorem Rp {t:Tk} {r:List Tk} (hp:1≤p) (hpe:p≤1+cs.length) (k:Kn C D p (t::r)) (h1:n8 t=true):BPass cs C D ex l d p (p+tl t) :=
 BPass.step (.com (FN k h1)) (by have:=pU h1;lia) hpe
theorem sG (h:ao cs p=some x) (u:isQ cs p=false) (hc:C (p+1)=none) (h1:aM x=false∧cH x=false∧fW x=false∧dX x=false∧x≠.dq):BPass cs C D ex l d p (p+1):=by
 have hr:=aU h
 have e:p+1 - 1=p:=by lia
 have:=BStep.oth (cs:=cs) (C:=C) (D:=D) (ex:=ex) (l:=l) (p:=p+1) (d:=d) (x:=x) hc (by rw[e];exact h) (by rw[e];exact u) h1.1 h1.2.1 h1.2.2.1 h1.2.2.2.1 h1.2.2.2.2
 rw[e] at this
 exact BPass.step this (by lia) (by lia)
theorem xu {t:Tk} {r:List Tk} (ht:t=.sp∨t=.nl) (h:Here cs p (aW t)) (u:isQ cs p=false) (k:Kn C D p (t::r)):BPass cs C D ex l d p (p+tl t):=by
 rcases ht with rfl|rfl
 ·exact sG h.head u (jB k rfl (by lia) (by show p+1≤p+1;lia)) ⟨by decide,by decide,by decide,by decide,by decide⟩
 ·exact sG h.head u (jB k rfl (by lia) (by show p+1≤p+1;lia)) ⟨by decide,by decide,by decide,by decide,by decide⟩
theorem zeI {i:Nat} {r:List Tk} (h:Here cs p (aW (.px i))) (u:isQ cs p=false) (k:Kn C D p (.px i::r)):BPass cs C D ex l d p (p+tl (.px i)):=by
 have no:∀ q,p < q→q≤p+tl (.px i)→C q=none:=fun q a b=>jB k rfl a b
 have h:Here cs p (aO i):=h
 have e0:tl (.px i)=((aO i).length:Int):=rfl
 rw[e0] at no ⊢
 rcases gH i with hx|⟨x,hx,hxx⟩|hx|hx
 ·rw[hx];exact BPass.cast .refl (by simp)
 ·rw[hx] at h no ⊢
  exact sG h.head u (no _ (by lia) (by simp)) (by rcases hxx with rfl|rfl|rfl<;>exact⟨by decide,by decide,by decide,by decide,by decide⟩)
 ·rw[hx] at h no ⊢
  have hr:=aU h.tail.head
  have hp:=h.1
  have e:p+1+1 - 1=p+1:=by lia
  have st:=BStep.am (cs:=cs) (C:=C) (D:=D) (ex:=ex) (l:=l) (p:=p+1+1) (d:=d) (no _ (by lia) (by simp<;>lia)) (by rw[e];exact h.tail.head) (by rw[e];exact bw h.head (by decide))
  rw[e] at st
  exact((sG h.head u (no _ (by lia) (by simp<;>lia)) ⟨by decide,by decide,by decide,by decide,by decide⟩).trans (BPass.step st (by lia) (by lia))).cast (by simp<;>lia)
 ·rw[hx] at h no ⊢
  exact((sG h.head u (no _ (by lia) (by simp<;>lia)) ⟨by decide,by decide,by decide,by decide,by decide⟩).trans (sG h.tail.head (bw h.head (by decide)) (no _ (by lia) (by simp<;>lia)) ⟨by decide,by decide,by decide,by decide,by decide⟩)).cast (by simp<;>lia)
theorem H7 (hd:(ex&&decide (d=0))=false):∀ {ps:List Nat} {p:Int},Here cs p (ps.flatMap aG)→isQ cs p=false→(∀ q,p < q→q≤p+(ps.flatMap aG).length→C q=none)→BPass cs C D ex l d p (p+(ps.flatMap aG).length)
 |[],p,h,u,no=>BPass.cast .refl (by simp)
 |i::ps,p,h,u,no=>by
  have hp:=h.1
  rw[List.flatMap_cons] at h no ⊢
  rw[List.length_append] at no
  have hl:=h.left
  have u2:isQ cs (p+(aG i).length)=false:=by
   have:=vz (ps:=[i]) (p:=p) (by simpa using hl) u
   simpa using this
  have ih:=H7 hd h.right u2 (fun q a b=>no q (by lia) (by lia))
  refine BPass.trans ?_ (ih.cast (by rw[List.length_append];lia))
  rcases cF i with ⟨x,hx,hxx⟩|hx
  ·rw[hx] at hl no ⊢
   have e:p+1 - 1=p:=by lia
   have ne:x≠.am:=by rcases hxx with rfl|rfl|rfl<;>decide
   have wp:cH x=true:=by rcases hxx with rfl|rfl|rfl<;>rfl
   have st:=BStep.part (cs:=cs) (C:=C) (D:=D) (ex:=ex) (l:=l) (p:=p+1) (d:=d) (x:=x) (no _ (by lia) (by simp<;>lia)) (by rw[e];exact hl.head) (.inr (.inr ⟨wp,ne⟩)) hd
   rw[e,u] at st
   have hr:=aU hl.head
   have st':BStep cs C D ex l (p+1) d (some (p+1 - 1,d,false)):=st
   rw[e] at st'
   exact BPass.step st' (by show 1 < p+1;lia) (by lia)
  ·rw[hx] at hl no ⊢
   have e:p+2 - 1=p+1:=by lia
   have q1:isQ cs (p+1)=true:=by rw[vg hl.head,u];rfl
   have st:=BStep.part (cs:=cs) (C:=C) (D:=D) (ex:=ex) (l:=l) (p:=p+2) (d:=d) (x:=.lp) (no _ (by lia) (by simp<;>lia)) (by rw[e];exact hl.tail.head) (.inl (by rw[e];exact q1)) hd
   rw[e,q1] at st
   have st':BStep cs C D ex l (p+2) d (some (p+2 - 2,d,false)):=st
   rw[show p+2 - 2=p by lia] at st'
   have hr:=aU hl.head
   exact BPass.step st' (by show 1 < p+2;lia) (by lia)
theorem zdp {ss:List Nat} {r:List Tk} (h:Here cs p (aW (.str ss))) (u:isQ cs p=false) (k:Kn C D p (.str ss::r)):BStep cs C D ex l (p+tl (.str ss)) d (some (p,d,ex&&decide (d=0))):=by
 have hn:=jn (t:=.str ss) rfl
 have e:p+tl (.str ss) - 1=p+1+(ss.flatMap bM).length:=by unfold tl aW;simp;lia
 refine .str (jB k rfl (by lia) (Int.le_refl _)) ?_ ?_ (zcT k rfl)
 ·rw[e];exact h.tail.last
 ·rw[e];exact Qm h.tail.left (bw h.head (by decide))
end
theorem pD (i:Nat):bj (dH i)=((aO i).length:Int):=by unfold bj;rw[vY]
theorem j8 (s:Sep):bj (bA s)=((aj s).length:Int):=by unfold bj;rw[qK]
theorem yM (i:It):bj (fK i)=((aD i).length:Int):=by unfold bj;rw[yX]
theorem yW (l:Lv):bj (jW l)=((aA l).length:Int):=by unfold bj;rw[vO]
section
variable {cs:List Ch} {C D:Int→Option Value} {e p q l d:Int} {ex:Bool} {x:Ch}
theorem Hi {s:Sep} (h:Here cs p (aj s)) (u:isQ cs p=false):isQ cs (p+(aj s).length)=false:=by
 have:=oM (ts:=bA s) (by rw[qK];exact h) u
 rwa [j8] at this
theorem zgK {i:It} (h:Here cs p (aD i)) (u:isQ cs p=false):isQ cs (p+(aD i).length)=false:=by
 have:=oM (ts:=fK i) (by rw[yX];exact h) u
 rwa [yM] at this
theorem zbn {v:Lv} (h:Here cs p (aA v)) (u:isQ cs p=false):isQ cs (p+(aA v).length)=false:=by
 have:=oM (ts:=jW v) (by rw[vO];exact h) u
 rwa [yW] at this
theorem Jd {i:Nat} (h:Here cs p (aO i)) (u:isQ cs p=false):isQ cs (p+(aO i).length)=false:=by
 have:=oM (ts:=dH i) (by rw[vY];exact h) u
 rwa [pD] at this
theorem Here.le {l:List Ch} (h:Here cs p l) (hl:l≠[]):p≤1+cs.length:=by
 cases l with
 |nil=>exact absurd rfl hl
 |cons x r=>have:=aU h.head;lia
theorem rB {s:Sep} (h:Here cs p (aj s)) (u:isQ cs p=false) (k:Kn C D p (bA s)):BPass cs C D ex l d p (p+(aj s).length):=by
 have hp:=h.1
 cases s with
 |no=>exact BPass.cast .refl (by simp[aj])
 |line i=>exact(Rp hp (Here.le h (by simp[aj])) k rfl).cast (by simp[aj,tl,aW])
 |sp=>exact xu (.inl rfl) h u k
 |nl=>exact xu (.inr rfl) h u k
 |sps =>
  have k2:Kn C D (p+1) [.sp]:=k.2
  exact((xu (t:=.sp) (r:=[.sp]) (.inl rfl) h.left u k).trans (xu (t:=.sp) (r:=[]) (.inl rfl) (p:=p+1) h.tail (bw h.head (by decide)) k2)).cast (by show p+1+1=p+((2:Nat):Int);lia)
 |blk i t =>
  have h1:Here cs p ([.sp]++(aW (.blk i)++(if t=true then [.sp] else []))):=by
   have:aj (.blk i t)=[.sp]++(aW (.blk i)++(if t=true then [.sp] else [])):=by simp[aj,aW]
   rwa [this] at h
  have e1:(p+((aj (.blk i t)).length:Int))=p+1+tl (.blk i)+((if t=true then [Ch.sp] else []).length:Int):=by
   simp only[aj,tl,aW,List.length_append,List.length_cons,List.length_nil];lia
  rw[e1]
  have h2:Here cs (p+1) (aW (.blk i)++(if t=true then [.sp] else [])):=h1.right
  have k1:Kn C D p (.sp::(.blk i::(if t=true then [Tk.sp] else []))):=by
   have:bA (.blk i t)=.sp::(.blk i::(if t=true then [Tk.sp] else [])):=by simp[bA]
   rwa [this] at k
  have k2:Kn C D (p+1) (.blk i::(if t=true then [Tk.sp] else [])):=k1.2
  have s1:BPass cs C D ex l d p (p+1+tl (.blk i)):=(xu (t:=.sp) (.inl rfl) h1.left u k1).trans (Rp (p:=p+1) (by lia) (Here.le h2.left (by simp[aW])) k2 rfl)
  have h3:Here cs (p+1+tl (.blk i)) (if t=true then [.sp] else []):=h2.right
  have k3:=k2.2
  cases t with
  |true=>exact s1.trans (xu (t:=.sp) (r:=[]) (.inl rfl) h3 (Yb h2.left (bw h1.left.head (by decide))) k3)
  |false=>exact s1.cast (by simp)
theorem Nh {i:Nat} (h:Here cs p (aO i)) (u:isQ cs p=false) (k:Kn C D p (dH i)):BPass cs C D ex l d p (p+(aO i).length):=by
 unfold dH at k
 split at k
 ·rename_i hx
  rw[hx];exact BPass.cast .refl (by simp)
 ·exact zeI (r:=[]) h u k
theorem Ug {a:su} {r:List Tk} (hd:(ex&&decide (d=0))=false) (h:Here cs p (aR a)) (u:isQ cs p=false) (k:Kn C D p (v7 a::r)):BPass cs C D ex l d p (p+(aR a).length):=by
 cases a with
 |word ps=>exact H7 hd h u fun q a b=>jB k rfl a b
 |str ss =>
  have h':Here cs p (aW (.str ss)):=by simpa [aR,aW] using h
  have st:=zdp (ex:=ex) (l:=l) (d:=d) h' u k
  rw[hd] at st
  have:=jn (t:=.str ss) rfl
  have hp:=h.1
  exact(BPass.step st (by lia) (Here.le h' (by simp[aW]))).cast (by simp[aR,tl,aW])
theorem yJ {rd:Bool} {r:List Tk} (h:ao cs p=some (pI rd)) (u:isQ cs p=false) (k:Kn C D p (.cl rd::r)):BStep cs C D ex l (p+1) d (some (p,d+1,decide (d+1=0))):=by
 have e:p+1 - 1=p:=by lia
 have:=BStep.cl (cs:=cs) (C:=C) (D:=D) (ex:=ex) (l:=l) (p:=p+1) (d:=d) (x:=pI rd) (jB k rfl (by lia) (by show p+1≤p+1;lia)) (by rw[e];exact h) (by rw[e];exact u) (qU rd)
 rwa [e] at this
theorem yd {rd:Bool} {r:List Tk} (h:ao cs p=some (wk rd)) (u:isQ cs p=false) (k:Kn C D p (.op rd::r)) (hd:¬ d - 1 < l):BStep cs C D ex l (p+1) d (some (p,d - 1,decide (d - 1=0))):=by
 have e:p+1 - 1=p:=by lia
 have:=BStep.op (cs:=cs) (C:=C) (D:=D) (ex:=ex) (l:=l) (p:=p+1) (d:=d) (x:=wk rd) (jB k rfl (by lia) (by show p+1≤p+1;lia)) (by rw[e];exact h) (by rw[e];exact u) (q7 rd) hd
 rwa [e] at this
theorem Dg {px:Nat} {rd:Bool} {its:Lv} {last:Sep} (k:Kn C D p (fK (.lst px rd its last))):Kn C D p (dH px)∧Kn C D (p+(aO px).length) (.op rd::(jW its++(bA last++[.cl rd])))∧Kn C D (p+(aO px).length+1) (jW its) ∧
  Kn C D (p+(aO px).length+1+(aA its).length) (bA last)∧Kn C D (p+(aO px).length+1+(aA its).length+(aj last).length) [.cl rd]:=by
 unfold fK at k
 rw[cX,pD] at k
 obtain⟨k1,k2⟩:=k
 have k3:Kn C D (p+(aO px).length+1) (jW its++(bA last++[.cl rd])):=k2.2
 rw[cX,yW,cX,j8] at k3
 exact⟨k1,k2,k3.1,k3.2.1,k3.2.2⟩
mutual
theorem zdr (hl:l≤0):∀ (i:It) {p d:Int},1≤d→Here cs p (aD i)→isQ cs p=false→Kn C D p (fK i)→BPass cs C D ex l d p (p+(aD i).length)
 |.atom px a,p,d,hd,h,u,k=>by
  have h:Here cs p (aO px++aR a):=h
  unfold fK at k
  rw[cX,pD] at k
  refine BPass.cast ((Nh h.left u k.1).trans (Ug (by rw[decide_eq_false (by lia)];simp) h.right (Jd h.left u) k.2)) ?_
  simp only[aD,List.length_append];lia
 |.lst px rd its last,p,d,hd,h,u,k=>by
  have h:Here cs p (aO px++([wk rd]++(aA its++(aj last++[pI rd])))):=h
  have hp:=h.1
  refine lz (fun k1 k2 k3 k4 k5=>?_) (Dg k)
  have u1:=Jd h.left u
  have h1:=h.right
  have h2:Here cs (p+(aO px).length+1) (aA its++(aj last++[pI rd])):=h1.right
  have u2:=bw h1.left.head (by cases rd<;>decide)
  have u3:=zbn h2.left u2
  have h3:=h2.right
  have u4:=Hi h3.left u3
  have h4:=h3.right.head
  have hq:=aU h4
  have h5:=aU h1.left.head
  refine(Nh h.left u k1).trans fun n r hr=>?_
  have st:=yd (ex:=ex) (l:=l) (d:=d+1) h1.left.head u1 k2 (by lia)
  rw[show d+1 - 1=d by lia,decide_eq_false (by lia)] at st
  obtain⟨n2,c2⟩:=RK hl its (d:=d+1) (by lia) h2.left u2 k3 _ _ (.go (by lia) st (by lia) hr)
  obtain⟨n3,c3⟩:=rB h3.left u3 k4 _ _ c2
  have st2:=yJ (ex:=ex) (l:=l) (d:=d) h4 u4 k5
  rw[decide_eq_false (by lia)] at st2
  rw[show p+((aD (.lst px rd its last)).length:Int)=p+((aO px).length:Int)+1+(aA its).length+(aj last).length+1 by
    simp only[aD,List.length_append,List.length_singleton];lia]
  exact⟨n3+1,.go (by lia) st2 (by lia) c3⟩
theorem RK (hl:l≤0):∀ (v:Lv) {p d:Int},1≤d→Here cs p (aA v)→isQ cs p=false→Kn C D p (jW v)→BPass cs C D ex l d p (p+(aA v).length)
 |.nil,p,d,hd,h,u,k=>BPass.cast .refl (by simp[aA])
 |.cons s i v,p,d,hd,h,u,k=>by
  have h:Here cs p (aj s++(aD i++aA v)):=h
  unfold jW at k
  rw[cX,j8,cX,yM] at k
  have u1:=Hi h.left u
  have u2:=zgK h.right.left u1
  refine BPass.cast ((rB h.left u k.1).trans ((zdr hl i hd h.right.left u1 k.2.1).trans (RK hl v hd h.right.right u2 k.2.2))) ?_
  simp only[aA,List.length_append];lia
end
theorem Q9 {px:Nat} {rd:Bool} {its:Lv} {last:Sep} (h:Here cs p (aD (.lst px rd its last))) (u:isQ cs p=false) (k:Kn C D p (fK (.lst px rd its last))) :
  ∃ n,BRun cs C D ex 0 n (p+(aD (.lst px rd its last)).length) 0 (.val (p+(aO px).length)):=by
 have h:Here cs p (aO px++([wk rd]++(aA its++(aj last++[pI rd])))):=h
 have hp:=h.1
 refine lz (fun k1 k2 k3 k4 k5=>?_) (Dg k)
 have u1:=Jd h.left u
 have h1:=h.right
 have h2:Here cs (p+(aO px).length+1) (aA its++(aj last++[pI rd])):=h1.right
 have u2:=bw h1.left.head (by cases rd<;>decide)
 have u3:=zbn h2.left u2
 have h3:=h2.right
 have u4:=Hi h3.left u3
 have h4:=h3.right.head
 have hq:=aU h4
 have h5:=aU h1.left.head
 have st:=yd (ex:=ex) (l:=0) (d:=1) h1.left.head u1 k2 (by lia)
 rw[show (1:Int) - 1=0 by lia,decide_eq_true rfl] at st
 obtain⟨n2,c2⟩:=RK (Int.le_refl 0) its (d:=1) (by lia) h2.left u2 k3 _ _ (.done (by lia) st)
 obtain⟨n3,c3⟩:=rB h3.left u3 k4 _ _ c2
 have st2:=yJ (ex:=ex) (l:=0) (d:=0) h4 u4 k5
 rw[decide_eq_false (by lia)] at st2
 rw[show p+((aD (.lst px rd its last)).length:Int)=p+((aO px).length:Int)+1+(aA its).length+(aj last).length+1 by
   simp only[aD,List.length_append,List.length_singleton];lia]
 exact⟨n3+1,.go (by lia) st2 (by lia) c3⟩
end
noncomputable def Stp (cs:List Ch) (C:Int→Option Value) (p:Int):Prop:=¬ 1 < p∨(1 < p∧(C p).isSome=true)∨(1 < p∧C p=none∧isQ cs (p - 1)=false∧∃ x,ao cs (p - 1)=some x∧cH x=false∧aM x=false∧eZ x=false)
noncomputable def MN:Tk→Bool
 |.word _=>false
 |.px _=>false
 |_=>true
noncomputable def oY (ts:List Tk):Prop:=∀ t,ts.getLast?=some t→MN t=true
section
variable {cs:List Ch} {C D:Int→Option Value} {e p q l d:Int} {ex:Bool} {x:Ch}
theorem Stp.w (h:Stp cs C p):WBack cs C 0 p p:=by
 rcases h with h|⟨h1,h2⟩|⟨h1,h2,h3,x,h4,h5,h6,h7⟩
 ·exact .start h
 ·exact .com h1 h2
 ·exact .out h1 h2 h3 h4 h5 h6 h7
theorem Stp.pb (h:Stp cs C p):PBack cs C 0 p p:=by
 rcases h with h|⟨h1,h2⟩|⟨h1,h2,h3,x,h4,h5,h6,h7⟩
 ·exact .start h
 ·exact .com h1 h2
 ·exact .out h1 h2 h3 h4 h7 (by rintro rfl;cases h5)
theorem Uy {t:Tk} (h:Here cs q (aW t)) (u:isQ cs q=false) (k:Kn C D q [t]) (hs:MN t=true):Stp cs C (q+tl t):=by
 have hp:=h.1
 have one:∀ {x:Ch},tl t=1→n8 t=false→ao cs q=some x→cH x=false→aM x=false→eZ x=false→Stp cs C (q+tl t):=fun {x} e1 e2 e3 e4 e5 e6=>by
  have n:=jB k e2 (q:=q+tl t) (by lia) (Int.le_refl _)
  refine .inr (.inr ⟨by lia,n,?_⟩)
  rw[e1,show q+1 - 1=q by lia]
  exact⟨u,x,e3,e4,e5,e6⟩
 cases t with
 |line i=>exact .inr (.inl ⟨by have:=pU (t:=.line i) rfl;lia,by rw[FN k rfl];rfl⟩)
 |blk i=>exact .inr (.inl ⟨by have:=pU (t:=.blk i) rfl;lia,by rw[FN k rfl];rfl⟩)
 |sp=>exact one rfl rfl h.head rfl rfl rfl
 |nl=>exact one rfl rfl h.head rfl rfl rfl
 |px i=>cases hs
 |word ps=>cases hs
 |op rd=>exact one rfl rfl h.head (by cases rd<;>rfl) (by cases rd<;>rfl) (by cases rd<;>rfl)
 |cl rd=>exact one rfl rfl h.head (by cases rd<;>rfl) (by cases rd<;>rfl) (by cases rd<;>rfl)
 |str ss =>
  have hn:=jn (t:=.str ss) rfl
  have e:q+tl (.str ss) - 1=q+1+(ss.flatMap bM).length:=by unfold tl aW;simp;lia
  refine .inr (.inr ⟨by lia,jB k rfl (by lia) (Int.le_refl _),?_⟩)
  rw[e]
  exact⟨Qm h.tail.left (bw h.head (by decide)),.dq,h.tail.last,rfl,rfl,rfl⟩
theorem G9 {ts:List Tk} (h:Here cs 1 (txt ts)) (k:Kn C D 1 ts) (hl:oY ts):Stp cs C (1+bj ts):=by
 rcases List.eq_nil_or_concat ts with rfl|⟨a,t,rfl⟩
 ·exact .inl (by rw[jO];lia)
 ·rw[List.concat_eq_append] at *
  rw[gm] at h
  rw[cX] at k
  have hr:Here cs (1+bj a) (aW t):=by
   have:=h.right
   rw[show txt [t]=aW t by simp[txt]] at this
   exact this
  have:=Uy hr (oM h.left Hr) k.2 (hl t (by simp))
  rw[dB,← Int.add_assoc]
  rwa [show bj [t]=tl t by rw[jF,jO,Int.add_zero]]
theorem zdH {i:Nat} (h:Here cs p (aO i)) (u:isQ cs p=false) (no:∀ q,p < q→q≤p+(aO i).length→C q=none) {m:Nat} {r:Int} (hw:WBack cs C m p r):∃ n,WBack cs C n (p+(aO i).length) r:=by
 have hp:=h.1
 have one:∀ {x:Ch} {p:Int} {m:Nat},1≤p→ao cs p=some x→isQ cs p=false→C (p+1)=none→(cH x=true∨aM x=true∨eZ x=true)→WBack cs C m p r→WBack cs C (m+1) (p+1) r:=fun {x p m} hp h1 h2 h3 h4 h5=>by
  refine .on (x:=x) (by lia) h3 ?_ ?_ h4 ?_
  ·rwa [show p+1 - 1=p by lia]
  ·rwa [show p+1 - 1=p by lia]
  ·rwa [show p+1 - 1=p by lia]
 rcases gH i with hx|⟨x,hx,hxx⟩|hx|hx
 ·rw[hx];exact⟨m,by simpa using hw⟩
 ·rw[hx] at h no ⊢
  exact⟨_,one hp h.head u (no _ (by lia) (by simp)) (by rcases hxx with rfl|rfl|rfl<;>exact .inr (.inr rfl)) hw⟩
 ·rw[hx] at h no ⊢
  rw[show p+((([Ch.cm,.am]:List Ch).length:Nat):Int)=p+1+1 by simp<;>lia] at no ⊢
  exact⟨_,one (by lia) h.tail.head (bw h.head (by decide)) (no _ (by lia) (by lia)) (.inl rfl) (one hp h.head u (no _ (by lia) (by lia)) (.inr (.inr rfl)) hw)⟩
 ·rw[hx] at h no ⊢
  rw[show p+((([Ch.hs,.qt]:List Ch).length:Nat):Int)=p+1+1 by simp<;>lia] at no ⊢
  exact⟨_,one (by lia) h.tail.head (bw h.head (by decide)) (no _ (by lia) (by lia)) (.inr (.inr rfl)) (one hp h.head u (no _ (by lia) (by lia)) (.inr (.inr rfl)) hw)⟩
theorem zfw {i:Nat} (h:Here cs p (aO i)) (u:isQ cs p=false) (no:∀ q,p < q→q≤p+(aO i).length→C q=none) {m:Nat} {r:Int} (hw:PBack cs C m p r):∃ n,PBack cs C n (p+(aO i).length) r:=by
 have hp:=h.1
 have one:∀ {x:Ch} {p:Int} {m:Nat},1≤p→ao cs p=some x→isQ cs p=false→C (p+1)=none→(eZ x=true∨x=.am)→PBack cs C m p r→PBack cs C (m+1) (p+1) r:=fun {x p m} hp h1 h2 h3 h4 h5=>by
  refine .on (x:=x) (by lia) h3 ?_ ?_ h4 ?_
  ·rwa [show p+1 - 1=p by lia]
  ·rwa [show p+1 - 1=p by lia]
  ·rwa [show p+1 - 1=p by lia]
 rcases gH i with hx|⟨x,hx,hxx⟩|hx|hx
 ·rw[hx];exact⟨m,by simpa using hw⟩
 ·rw[hx] at h no ⊢
  exact⟨_,one hp h.head u (no _ (by lia) (by simp)) (by rcases hxx with rfl|rfl|rfl<;>exact .inl rfl) hw⟩
 ·rw[hx] at h no ⊢
  rw[show p+((([Ch.cm,.am]:List Ch).length:Nat):Int)=p+1+1 by simp<;>lia] at no ⊢
  exact⟨_,one (by lia) h.tail.head (bw h.head (by decide)) (no _ (by lia) (by lia)) (.inr rfl) (one hp h.head u (no _ (by lia) (by lia)) (.inl rfl) hw)⟩
 ·rw[hx] at h no ⊢
  rw[show p+((([Ch.hs,.qt]:List Ch).length:Nat):Int)=p+1+1 by simp<;>lia] at no ⊢
  exact⟨_,one (by lia) h.tail.head (bw h.head (by decide)) (no _ (by lia) (by lia)) (.inl rfl) (one hp h.head u (no _ (by lia) (by lia)) (.inl rfl) hw)⟩
theorem HJ:∀ {ps:List Nat} {p:Int} {m:Nat} {r:Int},Here cs p (ps.flatMap aG)→isQ cs p=false→(∀ q,p < q→q≤p+(ps.flatMap aG).length→C q=none)→WBack cs C m p r→∃ n,WBack cs C n (p+(ps.flatMap aG).length) r
 |[],p,m,r,h,u,no,hw=>⟨m,by simpa using hw⟩
 |i::ps,p,m,r,h,u,no,hw=>by
  have hp:=h.1
  rw[List.flatMap_cons] at h no ⊢
  rw[List.length_append] at no
  have hl:=h.left
  have u2:isQ cs (p+(aG i).length)=false:=by
   have:=vz (ps:=[i]) (p:=p) (by simpa using hl) u
   simpa using this
  have s1:∃ n,WBack cs C n (p+(aG i).length) r:=by
   rcases cF i with ⟨x,hx,hxx⟩|hx
   ·rw[hx] at hl no ⊢
    have wp:cH x=true:=by rcases hxx with rfl|rfl|rfl<;>rfl
    refine⟨m+1,.on (x:=x) (by show 1 < p+1;lia) (no _ (by show p < p+1;lia) (by simp<;>lia)) ?_ ?_ (.inl wp) ?_⟩
    ·show isQ cs (p+1 - 1)=false
     rwa [show p+1 - 1=p by lia]
    ·show ao cs (p+1 - 1)=some x
     rw[show p+1 - 1=p by lia];exact hl.head
    ·show WBack cs C m (p+1 - 1) r
     rwa [show p+1 - 1=p by lia]
   ·rw[hx] at hl no ⊢
    refine⟨m+1,.quo (by show 1 < p+2;lia) (no _ (by show p < p+2;lia) (by simp<;>lia)) ?_ ?_⟩
    ·show isQ cs (p+2 - 1)=true
     rw[show p+2 - 1=p+1 by lia,vg hl.head,u];rfl
    ·show WBack cs C m (p+2 - 2) r
     rwa [show p+2 - 2=p by lia]
  obtain⟨n1,s1⟩:=s1
  obtain⟨n2,s2⟩:=HJ h.right u2 (fun q a b=>no q (by lia) (by lia)) s1
  rw[List.length_append]
  exact⟨n2,by rwa [show p+((aG i).length:Int)+(ps.flatMap aG).length=p+(((aG i).length+(ps.flatMap aG).length:Nat):Int) by lia] at s2⟩
theorem xX:∀ {ps:List Nat} {p:Int},ps≠[]→Here cs p (ps.flatMap aG)→isQ cs p=false→∃ x,ao cs (p+(ps.flatMap aG).length - 1)=some x∧(isQ cs (p+(ps.flatMap aG).length - 1)=true∨aM x=true∨(cH x=true∧x≠.am))
 |[],p,hn,h,u=>absurd rfl hn
 |[i],p,_,h,u=>by
  rw[List.flatMap_cons] at h ⊢
  have hl:=h.left
  simp only[List.flatMap_nil,List.append_nil]
  rcases cF i with ⟨x,hx,hxx⟩|hx
  ·rw[hx] at hl ⊢
   rw[show p+((([x]:List Ch).length:Nat):Int) - 1=p by simp<;>lia]
   exact⟨x,hl.head,.inr (.inr ⟨by rcases hxx with rfl|rfl|rfl<;>rfl,by rcases hxx with rfl|rfl|rfl<;>decide⟩)⟩
  ·rw[hx] at hl ⊢
   rw[show p+((([Ch.bs,.lp]:List Ch).length:Nat):Int) - 1=p+1 by simp<;>lia]
   exact⟨.lp,hl.tail.head,.inl (by rw[vg hl.head,u];rfl)⟩
 |i::j::ps,p,_,h,u=>by
  rw[List.flatMap_cons] at h ⊢
  have hl:=h.left
  have u2:isQ cs (p+(aG i).length)=false:=by
   have:=vz (ps:=[i]) (p:=p) (by simpa using hl) u
   simpa using this
  have:=xX (ps:=j::ps) (by simp) h.right u2
  rw[List.length_append]
  rwa [show p+((aG i).length:Int)+((j::ps).flatMap aG).length - 1=p+(((aG i).length+((j::ps).flatMap aG).length:Nat):Int) - 1 by lia] at this
theorem zbZ {i:It} (h:Here cs p (aD i)) (u:isQ cs p=false) (k:Kn C D p (fK i)) (st:Stp cs C p) (ok:vR i):∃ n p',BRun cs C D true 0 n (p+(aD i).length) 0 (.val p')∧(p'=p∨p'=p+(aO (Ce i)).length):=by
 cases i with
 |lst px rd its last =>
  obtain⟨n,hn⟩:=Q9 (ex:=true) h u k
  exact⟨n,_,hn,.inr rfl⟩
 |atom px a =>
  have h:Here cs p (aO px++aR a):=h
  have hp:=h.1
  have e1:p+((aD (.atom px a)).length:Int)=p+(aO px).length+(aR a).length:=by simp only[aD,List.length_append];lia
  rw[e1]
  unfold fK at k
  rw[cX,pD] at k
  have u1:=Jd h.left u
  cases a with
  |str ss =>
   have h':Here cs (p+(aO px).length) (aW (.str ss)):=by simpa [aR,aW] using h.right
   have:=zdp (ex:=true) (l:=0) (d:=0) h' u1 k.2
   have e2:tl (.str ss)=((aR (.str ss)).length:Int):=by simp[aR,tl,aW]
   have hz:=jn (t:=.str ss) rfl
   rw[e2] at this hz
   exact⟨0,_,.done (by lia) this,.inr rfl⟩
  |word ps =>
   have hr:Here cs (p+(aO px).length) (ps.flatMap aG):=h.right
   have no:∀ q,p+(aO px).length < q→q≤p+(aO px).length+(ps.flatMap aG).length→C q=none:=fun q a b=>jB k.2 rfl a b
   have nop:∀ q,p < q→q≤p+(aO px).length→C q=none:=by
    have k1:=k.1
    unfold dH at k1
    split at k1
    ·rename_i hx;rw[hx];intro q a b;simp at b;lia
    ·exact fun q a b=>jB k1 rfl a b
   obtain⟨m1,w1⟩:=zdH h.left u nop st.w
   obtain⟨m2,w2⟩:=HJ hr u1 no w1
   refine aV (fun x x1 x2=>?_) (xX ok.1 hr u1)
   have hpos:=zG (a:=.word ps) ok
   have hpos':1≤(ps.flatMap aG).length:=hpos
   refine⟨0,p,.done (by show 1 < p+((aO px).length:Int)+(ps.flatMap aG).length;lia) (.word ?_ x1 x2 rfl rfl w2),.inl rfl⟩
   exact no _ (by lia) (Int.le_refl _)
end
section
variable {cs:List Ch} {C D:Int→Option Value} {e p q l d:Int} {ex:Bool} {x:Ch} {ar:List Int}
structure Bef (cs:List Ch) (ts:List Tk) (ar:List Int):Prop where
 h:Here cs 1 (txt ts)
 r:kY 1 [] ts
 o:DW 1 [] ts=ar
theorem Bef.le {ts:List Tk} (b:Bef cs ts ar):1+bj ts≤1+cs.length:=Here.end b.h (by lia)
theorem Bef.u {ts:List Tk} (b:Bef cs ts ar):isQ cs (1+bj ts)=false:=oM b.h Hr
theorem small {n:Nat} (h:n≤300):n < big:=Nat.lt_of_le_of_lt h (by decide)
theorem Bef.sp {ts:List Tk} (b:Bef cs ts ar) (hl:cs.length≤300):∃ n,Sp cs (1+bj ts) n ⟨1,[],.plain⟩ (fun _=>none) (fun _=>none) ⟨1+bj ts,ar,.plain⟩ (cmL (fun _=>none) 1 ts) (dmL (fun _=>none) 1 ts):=by
 have h1:=b.le
 have h2:(txt ts).length≤cs.length:=by unfold bj at h1;lia
 obtain⟨n,hn⟩:=Hc (e:=1+bj ts) (C:=fun _=>none) (D:=fun _=>none) ts b.h b.r (Int.le_refl _) (by rw[List.length_nil,Nat.zero_add];exact small (by lia))
 rw[b.o] at hn
 exact⟨n,hn⟩
theorem Bef.span {ts:List Tk} (b:Bef cs ts ar) (hl:cs.length≤300):∃ n2 C D,n2 < big∧SpanRun cs (1+bj ts) n2 ⟨1,[],.plain⟩ (fun _=>none) (fun _=>none) C D∧Kn C D 1 ts:=by
 obtain⟨n,hn⟩:=b.sp hl
 have h1:=b.le
 have h2:=hn.small
 exact⟨n,_,_,small (by have h2:(1:Int)+n≤1+bj ts:=h2;lia),hn.span h1 (Int.le_refl _),Qo ts _ _ 1 fun _ _=>⟨rfl,rfl⟩⟩
theorem Bef.prun {ts:List Tk} (b:Bef cs ts ar) (hl:cs.length≤300):∃ n s',PRun cs (1+bj ts) n ⟨1,[],.plain⟩ s'∧s'.ops=ar:=by
 obtain⟨n,hn⟩:=b.sp hl
 exact⟨n,_,hn.prun (Int.le_refl _),rfl⟩
theorem Bef.app {ts ts2:List Tk} {ar2:List Int} (b:Bef cs ts ar) (h:Here cs (1+bj ts) (txt ts2)) (r:kY (1+bj ts) ar ts2) (o:DW (1+bj ts) ar ts2=ar2):Bef cs (ts++ts2) ar2:=by
 refine⟨?_,?_,?_⟩
 ·rw[gm]
  refine⟨by lia,fun k c e=>?_⟩
  by_cases hk:k < (txt ts).length
  ·rw[List.getElem?_append_left hk] at e
   exact b.h.2 k c e
  ·rw[List.getElem?_append_right (by lia)] at e
   have:=h.2 _ c e
   rw[← this];congr 1
   unfold bj;lia
 ·rw[fB,b.o];exact⟨b.r,r⟩
 ·rw[j6,b.o];exact o
theorem Bef.sep {ts:List Tk} {s:Sep} (b:Bef cs ts ar) (h:Here cs (1+bj ts) (aj s)):Bef cs (ts++bA s) ar :=
 b.app (by rw[qK];exact h) (dj _ (nO s) _ _).2 (dj _ (nO s) _ _).1
theorem Bef.px {ts:List Tk} {i:Nat} (b:Bef cs ts ar) (h:Here cs (1+bj ts) (aO i)):Bef cs (ts++dH i) ar :=
 b.app (by rw[vY];exact h) (dj _ (pZ i) _ _).2 (dj _ (pZ i) _ _).1
theorem Bef.it {ts:List Tk} {i:It} (b:Bef cs ts ar) (h:Here cs (1+bj ts) (aD i)):Bef cs (ts++fK i) ar :=
 b.app (by rw[yX];exact h) (Gu i _ _).2 (Gu i _ _).1
theorem Bef.lv {ts:List Tk} {v:Lv} (b:Bef cs ts ar) (h:Here cs (1+bj ts) (aA v)):Bef cs (ts++jW v) ar :=
 b.app (by rw[vO];exact h) (yI v _ _).2 (yI v _ _).1
theorem Bef.op {ts:List Tk} {rd:Bool} (b:Bef cs ts ar) (h:ao cs (1+bj ts)=some (wk rd)):Bef cs (ts++[.op rd]) (ar++[1+bj ts]):=by
 have:=aU h
 refine b.app ⟨this.1,fun k c e=>?_⟩ ⟨fun _ q=>(by cases q),trivial⟩ rfl
 have e:[wk rd][k]?=some c:=e
 cases k with
 |zero=>cases e;simpa using h
 |succ k=>cases e
theorem I8 (h:Ao cs ar e):uQ cs e:=by
 rcases h with ⟨_,rfl⟩|⟨_,y,hy,hc⟩
 ·exact .ends (by lia)
 ·refine .out hy ?_ ?_ ?_ ?_<;>(revert hc;cases y<;>intro hc<;>first|rfl|cases hc)
theorem xZ {s:Sep} (h:Here cs p (aj s)) (hs:s≠.no):uQ cs p:=by
 have ws:∀ {x:Ch},ao cs p=some x→(x=.sp∨x=.nl)→uQ cs p:=fun {x} h hx=>by
  rcases hx with rfl|rfl<;>exact .out h rfl rfl rfl rfl
 cases s with
 |no=>exact absurd rfl hs
 |line i =>
  have h1:=Here.head (x:=.sc) (b:=bT i++[.nl]) (by simpa [aj] using h)
  exact .mark (k:=⟨1,"",false,false⟩) (aU h1).2 (by rw[h1];rfl)
 |sp=>exact ws h.head (.inl rfl)
 |nl=>exact ws h.head (.inr rfl)
 |sps=>exact ws h.head (.inl rfl)
 |blk i t=>exact ws (Here.head (x:=.sp) (b:=[.hs,.br]++cL i++[.br,.hs]++(if t then [.sp] else [])) (by simpa [aj] using h)) (.inl rfl)
theorem QW {ts:List Tk} {s:Sep} (h:s=.no→oY ts):oY (ts++bA s):=by
 intro t ht
 cases s with
 |no=>rw[show bA .no=[] from rfl,List.append_nil] at ht;exact h rfl t ht
 |line i=>simp[bA] at ht;subst ht;rfl
 |sp=>simp[bA] at ht;subst ht;rfl
 |nl=>simp[bA] at ht;subst ht;rfl
 |sps=>simp[bA] at ht;subst ht;rfl
 |blk i b =>
  cases b
  ·simp[bA] at ht;subst ht;rfl
  ·simp[bA] at ht;subst ht;rfl
theorem Vj {ts:List Tk} {i:It} (h:kindOf i≠.word):oY (ts++fK i):=by
 intro t ht
 cases i with
 |atom px a =>
  cases a with
  |word ps=>exact absurd rfl h
  |str ss=>unfold fK at ht;simp[v7] at ht;subst ht;rfl
 |lst px rd its last=>unfold fK at ht;simp[List.getLast?_append,List.getLast?_cons] at ht;subst ht;rfl
theorem Ei:(if (0:Int) < 1 then (0:Int) else 1)=0:=rfl
theorem zd4 {px:Nat} {rd:Bool} {its:Lv} {last:Sep} {ts:List Tk} (hl:cs.length≤300) (b:Bef cs ts ar) (hp:p=1+bj ts) (h:Here cs p (aD (.lst px rd its last))) :
  Mi cs p (p+(aO px).length) (p+(aD (.lst px rd its last)).length) (spotOf its (p+(aO px).length+1)):=by
 subst hp
 have h0:=h
 have h:Here cs (1+bj ts) (aO px++([wk rd]++(aA its++(aj last++[pI rd])))):=h
 have h1:=h.right
 have h2:Here cs (1+bj ts+(aO px).length+1) (aA its++(aj last++[pI rd])):=h1.right
 have h3:=h2.right
 have h4:=h3.right.head
 have r4:=aU h4
 have r1:=aU h1.left.head
 have u:=b.u
 have u1:=Jd h.left u
 have u2:=bw h1.left.head (by cases rd<;>decide)
 have u3:=zbn h2.left u2
 have u4:=Hi h3.left u3
 have ee:1+bj ts+((aD (.lst px rd its last)).length:Int)=1+bj ts+((aO px).length:Int)+1+(aA its).length+(aj last).length+1:=by
  simp only[aD,List.length_append,List.length_singleton];lia
 have bl:=b.le
 have tn:=yH ts
 have bp:Bef cs (ts++dH px) ar:=b.px h.left
 have ep:1+bj (ts++dH px)=1+bj ts+(aO px).length:=by rw[dB,pD];lia
 have bo:Bef cs ((ts++dH px)++[.op rd]) (ar++[1+bj (ts++dH px)]):=bp.op (by rw[ep];exact h1.left.head)
 have eo:1+bj ((ts++dH px)++[.op rd])=1+bj ts+(aO px).length+1:=by
  rw[dB,← Int.add_assoc,ep]
  show _+((1:Nat):Int)=_
  lia
 have bi:Bef cs (ts++fK (.lst px rd its last)) ar:=b.it h0
 have ei:1+bj (ts++fK (.lst px rd its last))=1+bj ts+(aD (.lst px rd its last)).length:=by rw[dB,yM];lia
 refine fD (fun nI CI DI nI1 sI kI=>?_) (bi.span hl)
 rw[ei] at sI
 rw[cX] at kI
 have kI2:=kI.2
 refine lz (fun kk1 kk2 kk3 kk4 kk5=>?_) (Dg kI2)
 have lenE:1+bj ts+((aD (.lst px rd its last)).length:Int)≤1+cs.length:=by have:=bi.le;lia
 refine⟨?_,?_,?_,?_,⟨_,h1.left.head,q7 rd⟩,u1,?_,⟨pI rd,?_,qU rd⟩,?_,?_⟩
 ·-- out of it,forward
  have st:=FStep.cl (cs:=cs) (ex:=false) (l:=0) (d:=1) h4 (qU rd) (by lia)
  rw[show (1:Int) - 1=0 by lia,decide_eq_true rfl] at st
  obtain⟨n2,c2⟩:=jf (d:=1) h3.left _ _ (.done st)
  rw[ee]
  cases its with
  |nil =>
   refine⟨by show 1≤1+bj ts+((aO px).length:Int)+1;lia,n2,?_⟩
   rw[Ei]
   show FRun cs false 0 n2 (1+bj ts+((aO px).length:Int)+1) 1 _
   rw[show 1+bj ts+((aO px).length:Int)+1+((aA .nil).length:Int)=1+bj ts+((aO px).length:Int)+1 by simp[aA]] at c2 ⊢
   exact c2
  |cons s0 i0 l0 =>
   have h2':Here cs (1+bj ts+(aO px).length+1) (aj s0++(aD i0++aA l0)):=h2.left
   obtain⟨n3,c3⟩:=((Xr (Int.le_refl 0) i0 (d:=1) (by lia) h2'.right.left).trans ((Hv (Int.le_refl 0) l0 (d:=1) (by lia) h2'.right.right).cast (by simp only[aA,List.length_append];lia))) _ _ c2
   refine⟨by show 1≤1+bj ts+((aO px).length:Int)+1+(aj s0).length;lia,n3,?_⟩
   rw[Ei];exact c3
 ·-- out of it,backward
  have main:∀ (ts2:List Tk) (s0:Sep),ts2=((ts++dH px)++[.op rd])++bA s0→Here cs (1+bj ts+(aO px).length+1) (aj s0)→ig cs false 1 (1+bj ts+(aO px).length+1+(aj s0).length) (.val (1+bj ts+(aO px).length)):=by
   intro ts2 s0 he hs
   have bs:Bef cs ts2 (ar++[1+bj (ts++dH px)]):=by rw[he];exact bo.sep (by rw[eo];exact hs)
   refine fD (fun n2 C D n21 sr kn=>?_) (bs.span hl)
   have e2:1+bj ts2=1+bj ts+(aO px).length+1+(aj s0).length:=by rw[he,dB,j8,← Int.add_assoc,eo]
   rw[he,cX,cX,ep,eo] at kn
   have st:=yd (ex:=false) (l:=0) (d:=1) h1.left.head u1 kn.1.2 (by lia)
   rw[show (1:Int) - 1=0 by lia,decide_eq_true rfl] at st
   obtain⟨n3,c3⟩:=rB hs u2 kn.2 _ _ (.done (by lia) st)
   have:=bs.le
   exact⟨by lia,n2,C,D,n3,n21,by rw[← e2];exact sr,by rw[Ei];exact c3⟩
  cases its with
  |nil =>
   have:=main _ .no rfl ⟨by lia,fun k c e=>by cases e⟩
   simpa [aj,spotOf] using this
  |cons s0 i0 l0 =>
   have h2':Here cs (1+bj ts+(aO px).length+1) (aj s0++(aD i0++aA l0)):=h2.left
   exact main _ s0 rfl h2'.left
 ·-- into it,forward
  have st:=FStep.op (cs:=cs) (ex:=false) (l:=-1) (d:=-1) h1.left.head (q7 rd)
  rw[show (-1:Int)+1=0 by lia,decide_eq_true rfl] at st
  obtain⟨n2,c2⟩:=vC h.left _ _ (.done st)
  exact⟨by lia,n2,c2⟩
 ·-- into it,backward
  have st:=yJ (ex:=false) (l:=-1) (d:=-1) h4 u4 kk5
  rw[show (-1:Int)+1=0 by lia,decide_eq_true rfl] at st
  refine⟨lenE,nI,CI,DI,0,nI1,sI,?_⟩
  rw[ee,show 1+bj ts+((aO px).length:Int)+1+(aA its).length+(aj last).length+1 - 1=1+bj ts+((aO px).length:Int)+1+(aA its).length+(aj last).length by lia]
  exact .done (by lia) st
 ·obtain⟨n,hn⟩:=f_list (ex:=false) h1
  rw[ee]
  exact⟨by lia,n,hn⟩
 ·rw[ee,show 1+bj ts+((aO px).length:Int)+1+(aA its).length+(aj last).length+1 - 1=1+bj ts+((aO px).length:Int)+1+(aA its).length+(aj last).length by lia]
  exact h4
 ·rw[ee,show 1+bj ts+((aO px).length:Int)+1+(aA its).length+(aj last).length+1 - 1=1+bj ts+((aO px).length:Int)+1+(aA its).length+(aj last).length by lia]
  exact u4
 ·obtain⟨n,hn⟩:=Q9 (ex:=false) h0 u kI2
  rw[show 1+bj ts+((aD (.lst px rd its last)).length:Int) - 1+1=1+bj ts+(aD (.lst px rd its last)).length by lia]
  exact⟨lenE,nI,CI,DI,n,nI1,sI,hn⟩
end
noncomputable def Back (cs:List Ch) (ts:List Tk) (p:Int) (prev:Value):Prop:=∀ C D,Kn C D 1 ts→∃ n r q,BRun cs C D true 0 n p 0 r∧(∀ p',r=.val p'→zq cs p' q)∧(r=.out→q=1)∧tells cs q r=prev
theorem R5 {cs:List Ch} {p:Int}:∀ {i:It},Here cs p (aD i)→Here cs p (aO (Ce i))
 |.atom px a,h=>Here.left (b:=aR a) h
 |.lst px rd its last,h=>Here.left (b:=[wk rd]++(aA its++(aj last++[pI rd]))) h
theorem zfB {C D:Int→Option Value} {p:Int} {i:Nat} (k1:Kn C D p (dH i)):∀ q,p < q→q≤p+(aO i).length→C q=none:=by
 unfold dH at k1
 split at k1
 ·rename_i hx;rw[hx];intro q a b;simp at b;lia
 ·exact fun q a b=>jB k1 rfl a b
section
variable {cs:List Ch} {e p:Int} {ar:List Int}
theorem Ln {i:It} {ts:List Tk} (hl:cs.length≤300) (b:Bef cs ts ar) (hp:p=1+bj ts) (h:Here cs p (aD i)) (ok:vR i) (lo:oY ts):Back cs (ts++fK i) (p+(aD i).length) (vi p):=by
 subst hp
 intro C D k
 rw[cX] at k
 have st:=G9 b.h k.1 lo
 have u:=b.u
 refine fM (fun n p' hr hp'=>?_) (zbZ h u k.2 st ok)
 refine⟨n,.val p',1+bj ts,hr,fun p2 e2=>?_,fun z=>(by cases z),rfl⟩
 cases e2
 rcases hp' with rfl|rfl
 ·refine fD (fun n2 C2 D2 a1 a2 a3=>?_) (b.span hl)
  exact⟨b.le,n2,C2,D2,0,a1,a2,(G9 b.h a3 lo).pb⟩
 ·have hx:=R5 h
  have bp:=b.px hx
  refine fD (fun n2 C2 D2 a1 a2 a3=>?_) (bp.span hl)
  rw[cX] at a3
  have e1:1+bj (ts++dH (Ce i))=1+bj ts+(aO (Ce i)).length:=by rw[dB,pD];lia
  obtain⟨m,hm⟩:=zfw hx u (zfB a3.2) (G9 b.h a3.1 lo).pb
  have:=bp.le
  exact⟨by lia,n2,C2,D2,m,a1,by rw[← e1];exact a2,hm⟩
mutual
theorem zdM (hl:cs.length≤300):∀ (i:It) {ts:List Tk} {p:Int} {ar:List Int},vR i→Bef cs ts ar→p=1+bj ts→Here cs p (aD i)→uo cs i p ar
 |.atom px a,ts,p,ar,ok,b,hp,h=>trivial
 |.lst px rd its last,ts,p,ar,ok,b,hp,h=>by
  have h0:=h
  refine⟨zd4 hl b hp h,?_⟩
  subst hp
  have h:Here cs (1+bj ts) (aO px++([wk rd]++(aA its++(aj last++[pI rd])))):=h
  have h1:=h.right
  have h2:Here cs (1+bj ts+(aO px).length+1) (aA its++(aj last++[pI rd])):=h1.right
  have h2':Here cs (1+bj ts+(aO px).length+1) ((aA its++aj last)++[pI rd]):=by rw[List.append_assoc];exact h2
  have h4:=h2.right.right.head
  have u1:=Jd h.left b.u
  have r1:=aU h1.left.head
  have ee:1+bj ts+((aD (.lst px rd its last)).length:Int) - 1=1+bj ts+((aO px).length:Int)+1+(aA its).length+(aj last).length:=by
   simp only[aD,List.length_append,List.length_singleton];lia
  have bp:Bef cs (ts++dH px) ar:=b.px h.left
  have ep:1+bj (ts++dH px)=1+bj ts+(aO px).length:=by rw[dB,pD];lia
  have bo:Bef cs ((ts++dH px)++[.op rd]) (ar++[1+bj (ts++dH px)]):=bp.op (by rw[ep];exact h1.left.head)
  have eo:1+bj ((ts++dH px)++[.op rd])=1+bj ts+(aO px).length+1:=by
   rw[dB,← Int.add_assoc,ep]
   show _+((1:Nat):Int)=_
   lia
  rw[ep] at bo
  rw[ee]
  refine N8 hl its (last:=last) (bk:=.none) ok bo eo.symm h2'.left (.inr ⟨by simp,pI rd,h4,qU rd⟩) rfl (fun _=>?_) ?_
  ·intro t ht
   simp at ht
   subst ht;rfl
  ·intro C D k
   rw[cX,ep] at k
   have e1:1+bj ts+((aO px).length:Int)+1 - 1=1+bj ts+(aO px).length:=by lia
   refine⟨0,.err,0,.err (by lia) (.bad (jB k.2 rfl (by lia) (by show _≤1+bj ts+((aO px).length:Int)+1;lia)) (by rw[e1];exact h1.left.head) (by rw[e1];exact u1) (q7 rd) (by lia)),fun p' z=>(by cases z),fun z=>(by cases z),?_⟩
   unfold Fv
   rw[if_neg (by simp)]
   rfl
theorem N8 (hl:cs.length≤300):∀ (v:Lv) {last:Sep} {bk:Bk} {ts:List Tk} {p:Int} {ar:List Int} {prev:Value} {e:Int},tQ bk v→Bef cs ts ar→p=1+bj ts→Here cs p (aA v++aj last)→Ao cs ar e →
  e=p+(aA v).length+(aj last).length→(bk≠.word→oY ts)→Back cs ts p prev→gk cs v p ar prev e
 |.nil,last,bk,ts,p,ar,prev,e,ok,b,hp,h,he,ep,lo,bk_=>by
  subst hp
  have h:Here cs (1+bj ts) (aj last):=h
  have ep:e=1+bj ts+(aj last).length:=by rw[ep];simp[aA]
  subst ep
  have tn:=yH ts
  have bs:=b.sep h
  have e1:1+bj (ts++bA last)=1+bj ts+(aj last).length:=by rw[dB,j8];lia
  have bsl:=bs.le
  refine⟨?_,?_,?_,?_⟩
  ·refine aV (fun r h1 h2=>?_) (Oe (ex:=true) he)
   obtain⟨n,hn⟩:=jf h _ _ h1
   exact⟨r,⟨by lia,n,hn⟩,h2⟩
  ·refine fD (fun n2 C D a1 a2 a3=>?_) (bs.span hl)
   rw[cX] at a3
   refine gD (fun n r q c1 c2 c3 c4=>?_) (bk_ C D a3.1)
   obtain⟨m,hm⟩:=rB h b.u a3.2 _ _ c1
   exact⟨r,q,⟨by lia,n2,C,D,m,a1,by rw[← e1];exact a2,hm⟩,c2,c3,c4⟩
  ·refine aV (fun r h1 h2=>?_) (Oe (ex:=false) he)
   obtain⟨n,hn⟩:=jf h _ _ h1
   exact⟨r,⟨by lia,n,hn⟩,h2⟩
  ·have:=bs.prun hl
   rwa [e1] at this
 |.cons s i v,last,bk,ts,p,ar,prev,e,ok,b,hp,h,he,ep,lo,bk_=>by
  subst hp
  have h0:Here cs (1+bj ts) (aj s++(aD i++(aA v++aj last))):=by
   have:aA (.cons s i v)++aj last=aj s++(aD i++(aA v++aj last)):=by simp[aA,List.append_assoc]
   rwa [this] at h
  refine iJ (fun ok1 ok2 ok3=>?_) ok
  have tn:=yH ts
  have bs:=b.sep h0.left
  have e1:1+bj (ts++bA s)=1+bj ts+(aj s).length:=by rw[dB,j8];lia
  have bsl:=bs.le
  have hi:Here cs (1+bj ts+(aj s).length) (aD i):=h0.right.left
  have hv:Here cs (1+bj ts+(aj s).length+(aD i).length) (aA v++aj last):=h0.right.right
  have ep2:e=1+bj ts+(aj s).length+(aD i).length+(aA v).length+(aj last).length:=by
   rw[ep];simp only[aA,List.length_append];lia
  have los:oY (ts++bA s):=QW fun hs=>lo fun hb=>ok1 (.inl hb) hs
  have bi:Bef cs ((ts++bA s)++fK i) ar:=bs.it (by rw[e1];exact hi)
  have e2:1+bj ((ts++bA s)++fK i)=1+bj ts+(aj s).length+(aD i).length:=by rw[dB,yM,← Int.add_assoc,e1]
  have hw:kindOf i=.word→uQ cs (1+bj ts+(aj s).length+(aD i).length):=fun hk=>by
   cases v with
   |nil =>
    by_cases hs:last=.no
    ·have:1+bj ts+((aj s).length:Int)+(aD i).length=e:=by rw[ep2,hs];simp[aA,aj]
     rw[this];exact I8 he
    ·exact xZ (s:=last) hv hs
   |cons s' i' v' =>
    have:s'≠.no:=ok3.1 (.inl hk)
    have hv':Here cs (1+bj ts+(aj s).length+(aD i).length) ((aj s'++(aD i'++aA v'))++aj last):=hv
    exact xZ hv'.left.left this
  refine⟨⟨?_,?_,?_,?_⟩,zdM hl i ok2 bs e1.symm hi,N8 hl v (last:=last) ok3 bi e2.symm hv he ep2 (fun hk=>Vj hk) (Ln hl bs e1.symm hi ok2 los)⟩
  ·obtain⟨n,hn⟩:=zcc hi hw ok2
   obtain⟨m,hm⟩:=jf h0.left _ _ hn
   exact⟨_,⟨by lia,m,hm⟩,rfl⟩
  ·refine fD (fun n2 C D a1 a2 a3=>?_) (bs.span hl)
   rw[cX] at a3
   refine gD (fun n r q c1 c2 c3 c4=>?_) (bk_ C D a3.1)
   obtain⟨m,hm⟩:=rB h0.left b.u a3.2 _ _ c1
   exact⟨r,q,⟨by lia,n2,C,D,m,a1,by rw[← e1];exact a2,hm⟩,c2,c3,c4⟩
  ·refine fM (fun n r h1 h2=>?_) (Nr (v:=.cons s i v) (last:=last) (ar:=ar) h (by rw[← ep];exact he))
   exact⟨r,⟨by lia,n,h1⟩,h2⟩
  ·have:=bs.prun hl
   rwa [e1] at this
end
end
theorem plain:CN:=by
 intro its last ok hl
 generalize hcs:aA its++aj last=cs at *
 have h:Here cs 1 (aA its++aj last):=by rw[hcs];exact Ob cs
 have b:Bef cs [] []:=⟨⟨by lia,fun k c e=>by cases e⟩,trivial,rfl⟩
 have hlen:(1:Int)+cs.length=1+(aA its).length+(aj last).length:=by rw[← hcs,List.length_append];lia
 refine⟨N8 hl its (last:=last) (bk:=.none) (ts:=[]) ok b rfl h (.inl ⟨rfl,rfl⟩) hlen (fun _ t ht=>by cases ht) ?_,?_⟩
 ·intro C D _
  exact⟨0,.out,1,.out (by lia),fun p' z=>(by cases z),fun _=>rfl,rfl⟩
 ·have b2:Bef cs (([]++jW its)++bA last) []:=(b.lv h.left).sep (by
   rw[List.nil_append,yW];exact h.right)
  have:=b2.prun (by lia)
  rw[List.nil_append,dB,yW,j8] at this
  rwa [hlen,Int.add_assoc]
structure HdOk (K:Frag):Prop where
 kf:KF K
 xk:XK K
 fns:bc K
 fnc:Qx K
 sys:∃ o,K.lookup sysModules=some o
 t29:∃ n,K.lookup 29=some ⟨.type "tuple",none,.seq #[] n,#[]⟩
 law:nsIn K mainGlobals "law"=some (some (.ref 804))
theorem HdOk.bs {K:Frag} (H:HdOk K) {q:Program} {loose:List Str} {mean:ExcName→Option Value} {mg mb:Str→Option Value} {h:Heap} (T:Top q loose mean mg mb h) (k:K.In h):Bs K h :=
 ⟨H.kf,H.xk,k,T.nolimit,let ⟨o,e⟩:=H.sys;⟨o,k _ _ e⟩,⟨mg,T.g⟩,⟨mb,T.b,T.builtins⟩⟩
theorem yL {K:Frag} (H:HdOk K) {w:World} {s:Shared} {sc:Addr} {us:List Value} {xs:List Int} (X:Bs K s.heap) (hg:s.gens=#[]) (e:s.heap.IsList sc (List.toArray us)) (hz:us.length≤big) (hus:us.map er=xs.map vi) :
  codeAny (model PP w) callerA (.call (.ref 804) ⟨[.ref sc],[]⟩) (fun r s'=>s'.gens=#[]∧s'.os=s.os∧r=.ok (.ret (.bool true))∧s.heap.StaysIn s'.heap) s:=by
 obtain⟨n29,h29⟩:=H.t29
 have cl:=zdx (w:=w) (os:=s.os) (R:=fun _ _=>False) (σ:=fun _=>none) X H.fns H.fnc plain e hz hus ⟨n29,X.kin _ _ h29⟩
 refine codeAny_mono (cl callerA [] (fun _=>none) s [.ref sc] ⟨rfl,rfl,by decide,by decide⟩ (fun env he=>by cases he) ⟨fun _ _ h=>h,fun _=>none,fun a r h=>(by cases h),fun a c h=>(by cases h),fun L m h=>(by cases h)⟩ hg rfl rfl) ?_
 intro r s' h
 cases h with
 |ret g o sr q=>exact⟨g,o,by rw[ux q],sr.base⟩
 |err g o f q=>exact q.elim
noncomputable abbrev LW:OpenLaw:=PySem.Challenge.rw_np0103_01
theorem ints_of:∀ {xs:List WData},WShape.hasItems [] xs .int=true→∃ is:List Int,xs=is.map WData.int
 |[],_=>⟨[],rfl⟩
 |x::r,h=>by
  have h:(WShape.has [] x .int&&WShape.hasItems [] r .int)=true:=h
  obtain⟨h1,h2⟩:=Bool.and_eq_true_iff.mp h
  obtain⟨is,rfl⟩:=ints_of h2
  cases x with
  |int i=>exact⟨i::is,rfl⟩
  |_=>cases h1
theorem pre_of {args:List WData} (h:LW.row.toRowW.claim.pre args=true):∃ is:List Int,args=[.list (is.map WData.int)]∧is.length≤63:=by
 have h:(WShape.hasAll [] args [.list .int]&&LW.pre.holds [] { args:=args })=true:=h
 obtain⟨h1,h2⟩:=Bool.and_eq_true_iff.mp h
 cases args with
 |nil=>cases h1
 |cons x r =>
  have h1:(WShape.has [] x (.list .int)&&WShape.hasAll [] r [])=true:=h1
  obtain⟨h3,h4⟩:=Bool.and_eq_true_iff.mp h1
  cases r with
  |cons y z=>cases h4
  |nil =>
   cases x with
   |list xs =>
    have h3:(WShape.hasItems [] xs .int||false)=true:=h3
    rw[Bool.or_false] at h3
    obtain⟨is,rfl⟩:=ints_of h3
    refine⟨is,rfl,?_⟩
    by_cases q:(63:Int) < ((is.map WData.int).length:Int)
    ·exfalso
     have hv:WTm.value [] (.len (.arg 0)) { args:=[.list (is.map WData.int)] }=some (.int ((is.map WData.int).length:Int)):=by
      simp[WTm.value]
     have hl:WTm.value [] (.lt (.lit (.int 63)) (.len (.arg 0))) { args:=[.list (is.map WData.int)] }=some (.bool true):=by
      unfold WTm.value
      rw[hv]
      show some (WData.bool (decide ((63:Int) < ((is.map WData.int).length:Int))))=_
      rw[decide_eq_true q]
     have hn:WTm.value [] LW.pre { args:=[.list (is.map WData.int)] }=some (.bool false):=by
      show WTm.value [] (.and (.not (.lt (.lit (.int 63)) (.len (.arg 0)))) (.lit (.bool true))) _=_
      unfold WTm.value
      unfold WTm.value
      rw[hl]
      rfl
     unfold WTm.holds at h2
     rw[hn] at h2
     cases h2
    ·simp at q;lia
   |_=>cases h3
theorem uB {cl:Str→Option Addr} {h:Heap}:∀ {is:List Int} {vals:List Value} {as:List Addr},ReadsAllW [] cl h vals (is.map WData.int) as→vals.map er=is.map vi∧vals.length=is.length
 |[],vals,as,h=>by cases h;exact⟨rfl,rfl⟩
 |i::is,vals,as,h=>by
  cases h with
  |cons h1 h2 =>
   obtain⟨e1,e2⟩:=uB h2
   cases h1
   exact⟨by rw[List.map_cons,List.map_cons,e1];rfl,by rw[List.length_cons,List.length_cons,e2]⟩
theorem walk {KK:Params→Frag} (H:∀ P,HdOk (KK P)) {q:Program} {loose:List Str} {d:DefRec} {kwd:List (Str × Expr)} (hn:d.name="law") :
  WalkO q loose (fun _ _=>True) (fun w h=>(KK w.params).In h) LW.row.toRowW d kwd (fun f vs=>PySem.call f vs):=by
 intro w s₀ Z7 mg mb G Y a o pm cd doc dV kV ho hd hcd hD hmg hg args vals as hpre hlay hrd hwl hlo
 refine aV (fun is z0 hlen=>?_) (pre_of hpre);subst z0
 have e0:=mg_of Y G.T.g (H w.params).law
 rw[hn,e0] at hmg
 have ha:a=804:=by injection hmg with z;injection z with z;exact z.symm
 subst ha
 cases hrd with
 |cons h1 h2 =>
  cases h2
  cases h1 with
  |@list sc o1 vs n xs as' e1 e2 e3 e4 =>
   obtain⟨k1,k2⟩:=uB e4
   refine wpAny_call (codeAny_mono (yL (H w.params) (us:=vs.toList) (xs:=is) ((H w.params).bs G.T Y) hg ⟨o1,e1,e2,n,by simpa using e3⟩ (by rw[k2];show _≤2 ^ 20;lia) k1) ?_)
   refine fun r s'=>ru fun g' o' z1 st=>?_;subst z1
   exact GoodW.toG ⟨.inl ⟨.bool true,.bool true,[],rfl,fun cls=>rfl,.bool true,by with_unfolding_all rfl,fun _=>⟨List.nodup_nil,fun a ha=>by cases ha⟩⟩,st,o',g'⟩
noncomputable abbrev pw:Program:=PySem.Challenge.pw_np0103_01
noncomputable def bd:List Stmt:=behindTheImports pw
noncomputable def bK (i:Nat):Stmt:=(bd[i]?).getD (.Pass ⟨0,0,0,0⟩)
noncomputable def inC:Stmt→List Stmt
 |.ClassDef _ _ _ b _ _ _ _ _ _ _=>b
 |_=>[]
noncomputable def bO (i j:Nat):Stmt:=((inC (bK i))[j]?).getD (.Pass ⟨0,0,0,0⟩)
noncomputable def oT (l:List Value):Obj:=⟨.type "tuple",none,.seq ⟨l⟩ 0,⟨[]⟩⟩
noncomputable def oF (l:List Value):Obj:=⟨.none,none,.fields ⟨l⟩,⟨[]⟩⟩
noncomputable def oC (l:List Value):Obj:=⟨.type "code",none,.fields ⟨l⟩,⟨[]⟩⟩
noncomputable def oD (n:Nat) (l:List DictEntry):Obj:=⟨.type "dict",none,.dict ⟨l⟩ n,⟨[]⟩⟩
noncomputable def eN (P:Params) (x:Str) (t:Tok) (v:Value):DictEntry:=⟨PyData.keyHash P x,.str x t,v⟩
noncomputable def hF (q:Str):Stmt→Obj
 |.FunctionDef n a b _ _ _ s _ _ _=>⟨.none,none,.func { name:=n,qualname:=q,params:=a,body:=.stmts b,scope:=s,globals:=0,closure:=[],defaults:=.none,kwdefaults:=.none },⟨[]⟩⟩
 |_=>default
noncomputable def fF (q:Str) (d m c:Value):Stmt→Obj
 |.FunctionDef n a b _ _ _ s _ _ _=>⟨.type "function",none,.func { name:=n,qualname:=q,params:=a,body:=.stmts b,scope:=s,globals:=3,closure:=[],defaults:=d,kwdefaults:=.none,pyModule:=m,code:=c },⟨[]⟩⟩
 |_=>default
noncomputable abbrev bN:=BT.node
noncomputable abbrev bL:=BT.nil
noncomputable abbrev bQ (o:Obj):=bN o bL bL
noncomputable def tE:Obj:=oT []
noncomputable def tF:Obj:=oF []
noncomputable def oK (m q:Str) (t l n a x:Nat) (b:Bool):Obj:=oC [.str m t,.str q (t+1),.str "/claim/cut.py" (t+2),.int l 0,.int n 0,.int 0 0,.int 0 0,.int 3 0,.ref a,.bool b,.int 181 0,.ref (a+1),.none,.ref (a+2),.ref (a+3),.ref (a+4),.int x 0,.int l 0,.str "/claim/cut.py" (x+1)]
noncomputable def Qz:Life:={}
noncomputable def R0:=oC [.str "<module>" 182,.str "<module>" 183,.str "/claim/cut.py" 184,.int 1 0,.int 0 0,.int 0 0,.int 0 0,.int 0 0,.ref 11,.bool false,.int 181 0,.ref 12,.none,.none,.none,.none,.int 185 0,.int 1 0,.str "/claim/cut.py" 186]
noncomputable def RZ:Obj:=⟨(.type "frame"),none,.plain,⟨[some (.ref 13),some (.ref 3),some (.ref 3),none,some (.str "__main__" 164),none,some (.ref 0)]⟩⟩
noncomputable def hpa (P:Params):Heap:=⟨⟨[(boot_o_0 P),(boot_o_1 P),(boot_o_2 P),(boot_o_3 P),(boot_o_4 P),(boot_o_5 P),(boot_o_6 P),(boot_o_7 P),(boot_o_8 P),(boot_o_9 P),(boot_o_10 P),tE,tF,R0,RZ]⟩,Qz⟩
noncomputable def trb (P:Params):BT:=(bN (boot_o_0 P) (bN (boot_o_1 P) (bN (boot_o_3 P) (bQ (boot_o_7 P)) (bQ tE)) (bN (boot_o_5 P) (bQ (boot_o_9 P)) (bQ R0))) (bN (boot_o_2 P) (bN (boot_o_4 P) (bQ (boot_o_8 P)) (bQ tF)) (bN (boot_o_6 P) (bQ (boot_o_10 P)) (bQ RZ))))
noncomputable def o2 (P:Params):Obj:=⟨.none,none,(.dict ⟨[eN P "type.__subclasses__.Exception.0" 329 (.int 96 0),eN P "type.__subclasses__.Exception.n" 330 (.int 1 0)]⟩ 2),⟨[]⟩⟩
noncomputable def o3 (P:Params):Obj:=oD 31 [eN P "__name__" 165 (.str "emacs.syntax" 333),eN P "__doc__" 166 .none,eN P "__package__" 167 .none,eN P "__loader__" 168 (.builtin "__main__.__loader__#opaque"),eN P "__spec__" 169 .none,eN P "__annotations__" 170 (.ref 6),eN P "__builtins__" 171 (.ref 4),eN P "__file__" 173 (.str "/claim/cut.py" 172),eN P "__cached__" 174 .none,eN P "_wall" 193 (.ref 21),eN P "ParseState" 280 (.ref 68),eN P "state_of" 299 (.ref 79),eN P "LispSignal" 332 (.ref 96),eN P "WHITESPACE" 336 (.str " " 335),eN P "WORD" 338 (.str "w" 337),eN P "SYMBOL" 340 (.str "_" 339),eN P "PUNCTUATION" 342 (.str "." 341),eN P "OPENS" 344 (.str "(" 343),eN P "CLOSES" 346 (.str ")" 345),eN P "PREFIX" 348 (.str "'" 347),eN P "STRING" 350 (.str "\"" 349),eN P "ESCAPE" 352 (.str "\\" 351),eN P "QUOTES" 354 (.str "/" 353),eN P "PAIRED" 356 (.str "$" 355),eN P "BEGINS" 358 (.str "<" 357),eN P "ENDS" 360 (.str ">" 359),eN P "INHERITS" 362 (.str "@" 361),eN P "COMMENT_FENCE" 364 (.str "!" 363),eN P "STRING_FENCE" 366 (.str "|" 365),eN P "KINDS" 368 (.str " w_.()'\"\\/$<>@!|" 367),eN P "FLAGS" 370 (.str "1234bcnp" 369)]
noncomputable def zdD:Obj:=oF [.int 1 0,.int 0 0,.ref 20,.int 5 0,.int 0 0,.ref 27,.int 33 0,.int 0 0,.ref 78,.int 37 0,.int 0 0,.ref 85]
noncomputable def Yg:=oT [.str "k" 190]
noncomputable def Xw:=hF "_wall" (bK 0)
noncomputable def Wc:=oK "_wall" "_wall" 187 1 1 15 191 true
noncomputable def Un:=fF "_wall" .none (.str "__main__" 164) (.ref 20) (bK 0)
noncomputable def YJ:Obj:=⟨(.type "builtin_function_or_method"),none,(.fields ⟨[.builtin "type.__prepare__",.type "type"]⟩),⟨[]⟩⟩
noncomputable def YF (P:Params):Obj:=oD 9 [eN P "__module__" 203 (.str "emacs.parsestate" 194),eN P "__qualname__" 205 (.str "ParseState" 204),eN P "__firstlineno__" 207 (.int 5 206),eN P "__init__" 231 (.ref 37),eN P "depth" 238 (.ref 44),eN P "innermost" 245 (.ref 51),eN P "is_plain" 252 (.ref 58),eN P "items" 260 (.ref 65),eN P "__static_attributes__" 273 (.ref 66)]
noncomputable def X6:=oF [.int 7 0,.int 4 0,.ref 36,.int 21 0,.int 4 0,.ref 43,.int 24 0,.int 4 0,.ref 50,.int 27 0,.int 4 0,.ref 57,.int 30 0,.int 4 0,.ref 64]
noncomputable def Xn:=oC [.str "ParseState" 198,.str "ParseState" 199,.str "/claim/cut.py" 200,.int 5 0,.int 0 0,.int 0 0,.int 0 0,.int 0 0,.ref 25,.bool false,.int 181 0,.ref 26,.none,.none,.none,.none,.int 201 0,.int 5 0,.str "/claim/cut.py" 202]
noncomputable def o28:Obj:=⟨(.type "frame"),none,.plain,⟨[some (.ref 27),some (.ref 3),some (.ref 24),none,some (.str "emacs.parsestate" 194),none,some (.ref 0)]⟩⟩
noncomputable def Vn:=oT []
noncomputable def Vt:=oT [.ref 29,.int 0 208,.int 0 209,.none,.none,.none,.int 0 210,.str "" 211,.bool false,.none,.bool false,.str "" 212]
noncomputable def Yu:=oT [.str "self" 216,.str "opens" 217,.str "below" 218,.str "least" 219,.str "whole" 220,.str "word" 221,.str "string" 222,.str "comment" 223,.str "style" 224,.str "nests" 225,.str "start" 226,.str "quoted" 227,.str "half" 228]
noncomputable def Xx:=hF "ParseState.__init__" (bO 2 0)
noncomputable def Tz:=oK "__init__" "ParseState.__init__" 213 7 13 31 229 true
noncomputable def Ve:=fF "ParseState.__init__" (.ref 30) (.str "emacs.parsestate" 194) (.ref 36) (bO 2 0)
noncomputable def YK:=oT [.str "self" 235]
noncomputable def Yn:=hF "ParseState.depth" (bO 2 1)
noncomputable def Va:=oK "depth" "ParseState.depth" 232 21 1 38 236 true
noncomputable def Vw:=fF "ParseState.depth" .none (.str "emacs.parsestate" 194) (.ref 43) (bO 2 1)
noncomputable def Xu:=oT [.str "self" 242]
noncomputable def Ym:=hF "ParseState.innermost" (bO 2 2)
noncomputable def Xa:=oK "innermost" "ParseState.innermost" 239 24 1 45 243 true
noncomputable def Ti:=fF "ParseState.innermost" .none (.str "emacs.parsestate" 194) (.ref 50) (bO 2 2)
noncomputable def XJ:=oT [.str "self" 249]
noncomputable def Yd:=hF "ParseState.is_plain" (bO 2 3)
noncomputable def Up:=oK "is_plain" "ParseState.is_plain" 246 27 1 52 250 true
noncomputable def Tv:=fF "ParseState.is_plain" .none (.str "emacs.parsestate" 194) (.ref 57) (bO 2 3)
noncomputable def YQ:=oT [.str "self" 256,.str "inner" 257]
noncomputable def Yo:=hF "ParseState.items" (bO 2 4)
noncomputable def Vl:=oK "items" "ParseState.items" 253 30 1 59 258 true
noncomputable def Sv:=fF "ParseState.items" .none (.str "emacs.parsestate" 194) (.ref 64) (bO 2 4)
noncomputable def Yk:=oT [.str "below" 261,.str "comment" 262,.str "half" 263,.str "least" 264,.str "nests" 265,.str "opens" 266,.str "quoted" 267,.str "start" 268,.str "string" 269,.str "style" 270,.str "whole" 271,.str "word" 272]
noncomputable def Wy (P:Params):Obj:=oD 4 [eN P "__module__" 203 (.str "emacs.parsestate" 194),eN P "__firstlineno__" 207 (.int 5 206),eN P "__init__" 231 (.ref 37),eN P "depth" 238 (.ref 44),eN P "innermost" 245 (.ref 51),eN P "is_plain" 252 (.ref 58),eN P "items" 260 (.ref 65),eN P "__static_attributes__" 273 (.ref 66),eN P "__dict__" 275 (.ref 69),eN P "__weakref__" 277 (.ref 70),eN P "__doc__" 278 .none]
noncomputable def Vc:Obj:=⟨(.type "type"),none,(.cls { name:="ParseState",bases:=[.type "object"],mro:=[.ref 68,.type "object"],ns:=67,qualname:="ParseState",hasDict:=true,slotNames:=[],subclasses:=[],abstract:=false,collection:=none,hasDel:=false }),⟨[none,none,some (.str "ParseState" 196),some (.str "ParseState" 204),some (.builtin "object.__new__"),some (.bool true)]⟩⟩
noncomputable def XD:Obj:=⟨(.type "getset_descriptor"),none,(.fields ⟨[.str "__dict__" 274,.ref 68,.builtin "function.__dict__",.builtin "function.__dict__#set"]⟩),⟨[]⟩⟩
noncomputable def XR:Obj:=⟨(.type "getset_descriptor"),none,(.fields ⟨[.str "__weakref__" 276,.ref 68,.builtin "ExceptionGroup.__weakref__",.none]⟩),⟨[]⟩⟩
noncomputable def YG:Obj:=⟨(.type "super"),none,(.fields ⟨[.ref 68,.ref 68,.ref 68]⟩),⟨[]⟩⟩
noncomputable def Xo:Obj:=⟨(.type "builtin_function_or_method"),none,(.fields ⟨[.builtin "object.__init_subclass__",.ref 68]⟩),⟨[]⟩⟩
noncomputable def Yj:=oT [.str "items" 284,.str "opens" 285,.str "below" 286,.str "least" 287,.str "whole" 288,.str "word" 289,.str "string" 290,.str "comment" 291,.str "style" 292,.str "nests" 293,.str "start" 294,.str "quoted" 295,.str "half" 296]
noncomputable def YH:=hF "state_of" (bK 3)
noncomputable def VB:=oK "state_of" "state_of" 281 33 1 73 297 true
noncomputable def Um:=fF "state_of" .none (.str "emacs.parsestate" 194) (.ref 78) (bK 3)
noncomputable def Yv:=oT [.type "Exception"]
noncomputable def XX:Obj:=⟨(.type "builtin_function_or_method"),none,(.fields ⟨[.builtin "type.__prepare__",.type "type"]⟩),⟨[]⟩⟩
noncomputable def YS (P:Params):Obj:=oD 5 [eN P "__module__" 309 (.str "emacs.errors" 300),eN P "__qualname__" 311 (.str "LispSignal" 310),eN P "__firstlineno__" 313 (.int 37 312),eN P "__init__" 322 (.ref 93),eN P "__static_attributes__" 325 (.ref 94)]
noncomputable def Yw:=oF [.int 39 0,.int 4 0,.ref 92]
noncomputable def YC:=oC [.str "LispSignal" 304,.str "LispSignal" 305,.str "/claim/cut.py" 306,.int 37 0,.int 0 0,.int 0 0,.int 0 0,.int 0 0,.ref 83,.bool false,.int 181 0,.ref 84,.none,.none,.none,.none,.int 307 0,.int 37 0,.str "/claim/cut.py" 308]
noncomputable def o86:Obj:=⟨(.type "frame"),none,.plain,⟨[some (.ref 85),some (.ref 3),some (.ref 82),none,some (.str "emacs.errors" 300),none,some (.ref 0)]⟩⟩
noncomputable def X8:=oT [.str "self" 317,.str "symbol" 318,.str "data" 319]
noncomputable def Yy:=hF "LispSignal.__init__" (bO 5 0)
noncomputable def Tn:=oK "__init__" "LispSignal.__init__" 314 39 3 87 320 true
noncomputable def Qq:=fF "LispSignal.__init__" .none (.str "emacs.errors" 300) (.ref 92) (bO 5 0)
noncomputable def Yc:=oT [.str "data" 323,.str "symbol" 324]
noncomputable def Pk (P:Params):Obj:=oD 3 [eN P "__module__" 309 (.str "emacs.errors" 300),eN P "__firstlineno__" 313 (.int 37 312),eN P "__init__" 322 (.ref 93),eN P "__static_attributes__" 325 (.ref 94),eN P "__weakref__" 327 (.ref 97),eN P "__doc__" 328 .none]
noncomputable def Vf:Obj:=⟨(.type "type"),none,(.cls { name:="LispSignal",bases:=[.type "Exception"],mro:=[.ref 96,.type "Exception",.type "BaseException",.type "object"],ns:=95,qualname:="LispSignal",hasDict:=true,slotNames:=[],subclasses:=[],abstract:=false,collection:=none,hasDel:=false }),⟨[some (.ref 80),none,some (.str "LispSignal" 302),some (.str "LispSignal" 310),some (.builtin "Exception.__new__"),some (.bool true)]⟩⟩
noncomputable def Ye:Obj:=⟨(.type "getset_descriptor"),none,(.fields ⟨[.str "__weakref__" 326,.ref 96,.builtin "ExceptionGroup.__weakref__",.none]⟩),⟨[]⟩⟩
noncomputable def Yr:Obj:=⟨(.type "super"),none,(.fields ⟨[.ref 96,.ref 96,.ref 96]⟩),⟨[]⟩⟩
noncomputable def YD:Obj:=⟨(.type "builtin_function_or_method"),none,(.fields ⟨[.builtin "object.__init_subclass__",.ref 96]⟩),⟨[]⟩⟩
noncomputable def zeD (P:Params):BT:=(bN (boot_o_0 P) (bN (boot_o_1 P) (bN (o3 P) (bN (boot_o_7 P) (bN tE (bN tE (bQ Yo) (bQ (Pk P))) (bN Xu (bQ Um) bL)) (bN YJ (bN tF (bQ YG) bL) (bN tE (bQ tE) bL))) (bN tE (bN Xw (bN Xx (bQ (Wy P)) (bQ YD)) (bN Ti (bQ tE) bL)) (bN Xn (bN Va (bQ Yj) bL) (bN tE (bQ Yy) bL)))) (bN (boot_o_5 P) (bN (boot_o_9 P) (bN Yg (bN Yu (bQ Sv) (bQ Ye)) (bN Ym (bQ XX) bL)) (bN tE (bN tE (bQ tE) bL) (bN Up (bQ X8) bL))) (bN R0 (bN Un (bN Ve (bQ XD) bL) (bN tF (bQ YC) bL)) (bN Vn (bN tE (bQ YH) bL) (bN YQ (bQ Qq) bL))))) (bN (o2 P) (bN (boot_o_4 P) (bN (boot_o_8 P) (bN tF (bN tF (bQ Vl) (bQ Vf)) (bN tE (bQ Yv) bL)) (bN (YF P) (bN YK (bQ Xo) bL) (bN Yd (bQ tF) bL))) (bN zdD (bN Wc (bN Tz (bQ Vc) bL) (bN tE (bQ Yw) bL)) (bN o28 (bN Vw (bQ tE) bL) (bN tF (bQ Tn) bL)))) (bN (boot_o_6 P) (bN (boot_o_10 P) (bN tE (bN tE (bQ Yk) (bQ Yr)) (bN Xa (bQ (YS P)) bL)) (bN X6 (bN Yn (bQ tF) bL) (bN Tv (bQ tE) bL))) (bN RZ (bN tE (bN tE (bQ XR) bL) (bN XJ (bQ o86) bL)) (bN Vt (bN tF (bQ VB) bL) (bN tE (bQ Yc) bL))))))
noncomputable def zgD (P:Params):Obj:=oD 35 [eN P "__name__" 165 (.str "emacs.syntax" 333),eN P "__doc__" 166 .none,eN P "__package__" 167 .none,eN P "__loader__" 168 (.builtin "__main__.__loader__#opaque"),eN P "__spec__" 169 .none,eN P "__annotations__" 170 (.ref 6),eN P "__builtins__" 171 (.ref 4),eN P "__file__" 173 (.str "/claim/cut.py" 172),eN P "__cached__" 174 .none,eN P "_wall" 193 (.ref 21),eN P "ParseState" 280 (.ref 68),eN P "state_of" 299 (.ref 79),eN P "LispSignal" 332 (.ref 96),eN P "WHITESPACE" 336 (.str " " 335),eN P "WORD" 338 (.str "w" 337),eN P "SYMBOL" 340 (.str "_" 339),eN P "PUNCTUATION" 342 (.str "." 341),eN P "OPENS" 344 (.str "(" 343),eN P "CLOSES" 346 (.str ")" 345),eN P "PREFIX" 348 (.str "'" 347),eN P "STRING" 350 (.str "\"" 349),eN P "ESCAPE" 352 (.str "\\" 351),eN P "QUOTES" 354 (.str "/" 353),eN P "PAIRED" 356 (.str "$" 355),eN P "BEGINS" 358 (.str "<" 357),eN P "ENDS" 360 (.str ">" 359),eN P "INHERITS" 362 (.str "@" 361),eN P "COMMENT_FENCE" 364 (.str "!" 363),eN P "STRING_FENCE" 366 (.str "|" 365),eN P "KINDS" 368 (.str " w_.()'\"\\/$<>@!|" 367),eN P "FLAGS" 370 (.str "1234bcnp" 369),eN P "Syntax" 432 (.ref 144),eN P "sorted_flags" 438 (.ref 153),eN P "read_syntax" 444 (.ref 158),eN P "SyntaxTable" 538 (.ref 225)]
noncomputable def zeY:Obj:=oF [.int 1 0,.int 0 0,.ref 20,.int 5 0,.int 0 0,.ref 27,.int 33 0,.int 0 0,.ref 78,.int 37 0,.int 0 0,.ref 85,.int 61 0,.int 0 0,.ref 105,.int 79 0,.int 0 0,.ref 152,.int 81 0,.int 0 0,.ref 157,.int 90 0,.int 0 0,.ref 164]
noncomputable def Dy:Obj:=⟨(.type "builtin_function_or_method"),none,(.fields ⟨[.builtin "type.__prepare__",.type "type"]⟩),⟨[]⟩⟩
noncomputable def FW (P:Params):Obj:=oD 9 [eN P "__module__" 378 (.str "emacs.syntax" 333),eN P "__qualname__" 380 (.str "Syntax" 379),eN P "__firstlineno__" 382 (.int 61 381),eN P "__init__" 392 (.ref 113),eN P "has" 400 (.ref 120),eN P "is_escape" 407 (.ref 127),eN P "is_word_part" 414 (.ref 134),eN P "style" 421 (.ref 141),eN P "__static_attributes__" 425 (.ref 142)]
noncomputable def Fz:=oF [.int 63 0,.int 4 0,.ref 112,.int 68 0,.int 4 0,.ref 119,.int 71 0,.int 4 0,.ref 126,.int 74 0,.int 4 0,.ref 133,.int 77 0,.int 4 0,.ref 140]
noncomputable def GK:=oC [.str "Syntax" 373,.str "Syntax" 374,.str "/claim/cut.py" 375,.int 61 0,.int 0 0,.int 0 0,.int 0 0,.int 0 0,.ref 103,.bool false,.int 181 0,.ref 104,.none,.none,.none,.none,.int 376 0,.int 61 0,.str "/claim/cut.py" 377]
noncomputable def Dc:Obj:=⟨(.type "frame"),none,.plain,⟨[some (.ref 105),some (.ref 3),some (.ref 102),none,some (.str "emacs.syntax" 333),none,some (.ref 0)]⟩⟩
noncomputable def Fq:=oT [.str "self" 386,.str "kind" 387,.str "match" 388,.str "flags" 389]
noncomputable def o111:=hF "Syntax.__init__" (bO 25 0)
noncomputable def zO:=oK "__init__" "Syntax.__init__" 383 63 4 107 390 true
noncomputable def CV:=fF "Syntax.__init__" .none (.str "emacs.syntax" 333) (.ref 112) (bO 25 0)
noncomputable def FZ:=oT [.str "self" 396,.str "flag" 397]
noncomputable def Dz:=hF "Syntax.has" (bO 25 1)
noncomputable def CQ:=oK "has" "Syntax.has" 393 68 2 114 398 true
noncomputable def Cq:=fF "Syntax.has" .none (.str "emacs.syntax" 333) (.ref 119) (bO 25 1)
noncomputable def Ey:=oT [.str "self" 404]
noncomputable def G5:=hF "Syntax.is_escape" (bO 25 2)
noncomputable def Ak:=oK "is_escape" "Syntax.is_escape" 401 71 1 121 405 true
noncomputable def zK:=fF "Syntax.is_escape" .none (.str "emacs.syntax" 333) (.ref 126) (bO 25 2)
noncomputable def Dr:=oT [.str "self" 411]
noncomputable def Fj:=hF "Syntax.is_word_part" (bO 25 3)
noncomputable def BZ:=oK "is_word_part" "Syntax.is_word_part" 408 74 1 128 412 true
noncomputable def CJ:=fF "Syntax.is_word_part" .none (.str "emacs.syntax" 333) (.ref 133) (bO 25 3)
noncomputable def Dh:=oT [.str "self" 418]
noncomputable def Dl:=hF "Syntax.style" (bO 25 4)
noncomputable def Aq:=oK "style" "Syntax.style" 415 77 1 135 419 true
noncomputable def Cd:=fF "Syntax.style" .none (.str "emacs.syntax" 333) (.ref 140) (bO 25 4)
noncomputable def Dm:=oT [.str "flags" 422,.str "kind" 423,.str "match" 424]
noncomputable def Bc (P:Params):Obj:=oD 4 [eN P "__module__" 378 (.str "emacs.syntax" 333),eN P "__firstlineno__" 382 (.int 61 381),eN P "__init__" 392 (.ref 113),eN P "has" 400 (.ref 120),eN P "is_escape" 407 (.ref 127),eN P "is_word_part" 414 (.ref 134),eN P "style" 421 (.ref 141),eN P "__static_attributes__" 425 (.ref 142),eN P "__dict__" 427 (.ref 145),eN P "__weakref__" 429 (.ref 146),eN P "__doc__" 430 .none]
noncomputable def zM:Obj:=⟨(.type "type"),none,(.cls { name:="Syntax",bases:=[.type "object"],mro:=[.ref 144,.type "object"],ns:=143,qualname:="Syntax",hasDict:=true,slotNames:=[],subclasses:=[],abstract:=false,collection:=none,hasDel:=false }),⟨[none,none,some (.str "Syntax" 371),some (.str "Syntax" 379),some (.builtin "object.__new__"),some (.bool true)]⟩⟩
noncomputable def GQ:Obj:=⟨(.type "getset_descriptor"),none,(.fields ⟨[.str "__dict__" 426,.ref 144,.builtin "function.__dict__",.builtin "function.__dict__#set"]⟩),⟨[]⟩⟩
noncomputable def Ex:Obj:=⟨(.type "getset_descriptor"),none,(.fields ⟨[.str "__weakref__" 428,.ref 144,.builtin "ExceptionGroup.__weakref__",.none]⟩),⟨[]⟩⟩
noncomputable def Di:Obj:=⟨(.type "super"),none,(.fields ⟨[.ref 144,.ref 144,.ref 144]⟩),⟨[]⟩⟩
noncomputable def DQ:Obj:=⟨(.type "builtin_function_or_method"),none,(.fields ⟨[.builtin "object.__init_subclass__",.ref 144]⟩),⟨[]⟩⟩
noncomputable def Ej:=hF "sorted_flags" (bK 26)
noncomputable def Ar:=oC [.str "sorted_flags" 433,.str "sorted_flags" 434,.str "/claim/cut.py" 435,.int 79 0,.int 1 0,.int 0 0,.int 0 0,.int 3 0,.ref 149,.bool true,.int 181 0,.ref 150,.none,.none,.none,.ref 151,.int 436 0,.int 79 0,.str "/claim/cut.py" 437]
noncomputable def wF:=fF "sorted_flags" .none (.str "emacs.syntax" 333) (.ref 152) (bK 26)
noncomputable def Gs:=hF "read_syntax" (bK 27)
noncomputable def An:=oC [.str "read_syntax" 439,.str "read_syntax" 440,.str "/claim/cut.py" 441,.int 81 0,.int 1 0,.int 0 0,.int 0 0,.int 3 0,.ref 154,.bool true,.int 181 0,.ref 155,.none,.none,.none,.ref 156,.int 442 0,.int 81 0,.str "/claim/cut.py" 443]
noncomputable def BK:=fF "read_syntax" .none (.str "emacs.syntax" 333) (.ref 157) (bK 27)
noncomputable def GP:Obj:=⟨(.type "builtin_function_or_method"),none,(.fields ⟨[.builtin "type.__prepare__",.type "type"]⟩),⟨[]⟩⟩
noncomputable def G4 (P:Params):Obj:=oD 12 [eN P "__module__" 452 (.str "emacs.syntax" 333),eN P "__qualname__" 454 (.str "SyntaxTable" 453),eN P "__firstlineno__" 456 (.int 90 455),eN P "__init__" 464 (.ref 173),eN P "modify" 473 (.ref 180),eN P "modify_all" 484 (.ref 187),eN P "modify_range" 494 (.ref 194),eN P "own" 503 (.ref 201),eN P "at" 513 (.ref 208),eN P "kind_of" 521 (.ref 215),eN P "copy" 528 (.ref 222),eN P "__static_attributes__" 531 (.ref 223)]
noncomputable def De:=oF [.int 92 0,.int 4 0,.ref 172,.int 96 0,.int 4 0,.ref 179,.int 99 0,.int 4 0,.ref 186,.int 104 0,.int 4 0,.ref 193,.int 107 0,.int 4 0,.ref 200,.int 111 0,.int 4 0,.ref 207,.int 120 0,.int 4 0,.ref 214,.int 123 0,.int 4 0,.ref 221]
noncomputable def Dn:=oC [.str "SyntaxTable" 447,.str "SyntaxTable" 448,.str "/claim/cut.py" 449,.int 90 0,.int 0 0,.int 0 0,.int 0 0,.int 0 0,.ref 162,.bool false,.int 181 0,.ref 163,.none,.none,.none,.none,.int 450 0,.int 90 0,.str "/claim/cut.py" 451]
noncomputable def Do:Obj:=⟨(.type "frame"),none,.plain,⟨[some (.ref 164),some (.ref 3),some (.ref 161),none,some (.str "emacs.syntax" 333),none,some (.ref 0)]⟩⟩
noncomputable def zJ:=oT [.none]
noncomputable def DG:=oT [.str "self" 460,.str "parent" 461]
noncomputable def Du:=hF "SyntaxTable.__init__" (bO 28 0)
noncomputable def CP:=oK "__init__" "SyntaxTable.__init__" 457 92 2 167 462 true
noncomputable def Cj:=fF "SyntaxTable.__init__" (.ref 166) (.str "emacs.syntax" 333) (.ref 172) (bO 28 0)
noncomputable def GD:=oT [.str "self" 468,.str "code" 469,.str "syntax" 470]
noncomputable def Ef:=hF "SyntaxTable.modify" (bO 28 1)
noncomputable def Bp:=oK "modify" "SyntaxTable.modify" 465 96 3 174 471 true
noncomputable def CT:=fF "SyntaxTable.modify" .none (.str "emacs.syntax" 333) (.ref 179) (bO 28 1)
noncomputable def Eb:=oT [.str "self" 477,.str "text" 478,.str "description" 479,.str "syntax" 480,.str "sign" 481]
noncomputable def G3:=hF "SyntaxTable.modify_all" (bO 28 2)
noncomputable def Ay:=oK "modify_all" "SyntaxTable.modify_all" 474 99 3 181 482 true
noncomputable def Bx:=fF "SyntaxTable.modify_all" .none (.str "emacs.syntax" 333) (.ref 186) (bO 28 2)
noncomputable def Dt:=oT [.str "self" 488,.str "first" 489,.str "last" 490,.str "syntax" 491]
noncomputable def Eu:=hF "SyntaxTable.modify_range" (bO 28 3)
noncomputable def zB:=oK "modify_range" "SyntaxTable.modify_range" 485 104 4 188 492 true
noncomputable def Cp:=fF "SyntaxTable.modify_range" .none (.str "emacs.syntax" 333) (.ref 193) (bO 28 3)
noncomputable def FJ:=oT [.str "self" 498,.str "code" 499,.str "found" 500]
noncomputable def Gh:=hF "SyntaxTable.own" (bO 28 4)
noncomputable def o200:=oK "own" "SyntaxTable.own" 495 107 2 195 501 true
noncomputable def Bd:=fF "SyntaxTable.own" .none (.str "emacs.syntax" 333) (.ref 200) (bO 28 4)
noncomputable def Fw:=oT [.str "self" 507,.str "code" 508,.str "table" 509,.str "found" 510]
noncomputable def Ff:=hF "SyntaxTable.at" (bO 28 5)
noncomputable def zF:=oK "at" "SyntaxTable.at" 504 111 2 202 511 true
noncomputable def Az:=fF "SyntaxTable.at" .none (.str "emacs.syntax" 333) (.ref 207) (bO 28 5)
noncomputable def Ge:=oT [.str "self" 517,.str "code" 518]
noncomputable def Ep:=hF "SyntaxTable.kind_of" (bO 28 6)
noncomputable def zy:=oK "kind_of" "SyntaxTable.kind_of" 514 120 2 209 519 true
noncomputable def Ae:=fF "SyntaxTable.kind_of" .none (.str "emacs.syntax" 333) (.ref 214) (bO 28 6)
noncomputable def DN:=oT [.str "self" 525]
noncomputable def Dw:=hF "SyntaxTable.copy" (bO 28 7)
noncomputable def Bo:=oK "copy" "SyntaxTable.copy" 522 123 1 216 526 true
noncomputable def zx:=fF "SyntaxTable.copy" .none (.str "emacs.syntax" 333) (.ref 221) (bO 28 7)
noncomputable def Gv:=oT [.str "parent" 529,.str "rows" 530]
noncomputable def zN (P:Params):Obj:=oD 4 [eN P "__module__" 452 (.str "emacs.syntax" 333),eN P "__firstlineno__" 456 (.int 90 455),eN P "__init__" 464 (.ref 173),eN P "modify" 473 (.ref 180),eN P "modify_all" 484 (.ref 187),eN P "modify_range" 494 (.ref 194),eN P "own" 503 (.ref 201),eN P "at" 513 (.ref 208),eN P "kind_of" 521 (.ref 215),eN P "copy" 528 (.ref 222),eN P "__static_attributes__" 531 (.ref 223),eN P "__dict__" 533 (.ref 226),eN P "__weakref__" 535 (.ref 227),eN P "__doc__" 536 .none]
noncomputable def Aw:Obj:=⟨(.type "type"),none,(.cls { name:="SyntaxTable",bases:=[.type "object"],mro:=[.ref 225,.type "object"],ns:=224,qualname:="SyntaxTable",hasDict:=true,slotNames:=[],subclasses:=[],abstract:=false,collection:=none,hasDel:=false }),⟨[none,none,some (.str "SyntaxTable" 445),some (.str "SyntaxTable" 453),some (.builtin "object.__new__"),some (.bool true)]⟩⟩
noncomputable def Gb:Obj:=⟨(.type "getset_descriptor"),none,(.fields ⟨[.str "__dict__" 532,.ref 225,.builtin "function.__dict__",.builtin "function.__dict__#set"]⟩),⟨[]⟩⟩
noncomputable def Gd:Obj:=⟨(.type "getset_descriptor"),none,(.fields ⟨[.str "__weakref__" 534,.ref 225,.builtin "ExceptionGroup.__weakref__",.none]⟩),⟨[]⟩⟩
noncomputable def Ec:Obj:=⟨(.type "super"),none,(.fields ⟨[.ref 225,.ref 225,.ref 225]⟩),⟨[]⟩⟩
noncomputable def Gr:Obj:=⟨(.type "builtin_function_or_method"),none,(.fields ⟨[.builtin "object.__init_subclass__",.ref 225]⟩),⟨[]⟩⟩
noncomputable def zdL (P:Params):BT:=(bN (boot_o_0 P) (bN (boot_o_1 P) (bN (zgD P) (bN (boot_o_7 P) (bN tE (bN tE (bN Yo (bQ zK) (bQ tE)) (bN (Pk P) (bQ tE) (bQ Gv))) (bN Xu (bN Um (bQ (Bc P)) (bQ zF)) (bN o111 (bQ tF) bL))) (bN YJ (bN tF (bN YG (bQ tE) (bQ Gh)) (bN tE (bQ tE) bL)) (bN tE (bN tE (bQ Ej) (bQ Ae)) (bN CQ (bQ Eb) bL)))) (bN tE (bN Xw (bN Xx (bN (Wy P) (bQ tE) (bQ tE)) (bN YD (bQ De) (bQ Gd))) (bN Ti (bN tE (bQ Di) (bQ Ge)) (bN tF (bQ Bp) bL))) (bN Xn (bN Va (bN Yj (bQ Dl) (bQ tF)) (bN tE (bQ Du) bL)) (bN tE (bN Yy (bQ tF) (bQ tE)) (bN Ey (bQ Bx) bL))))) (bN (boot_o_5 P) (bN (boot_o_9 P) (bN Yg (bN Yu (bN Sv (bQ tF) (bQ zB)) (bN Ye (bQ (G4 P)) (bQ Aw))) (bN Ym (bN XX (bQ GQ) (bQ tE)) (bN CV (bQ tE) bL))) (bN tE (bN tE (bN tE (bQ Dh) (bQ Bd)) (bN GK (bQ DG) bL)) (bN Up (bN X8 (bQ wF) (bQ tF)) (bN tE (bQ G3) bL)))) (bN R0 (bN Un (bN Ve (bN XD (bQ BZ) (bQ FJ)) (bN Dy (bQ Do) (bQ Gr))) (bN tF (bN YC (bQ tE) (bQ Ep)) (bN tE (bQ tE) bL))) (bN Vn (bN tE (bN YH (bQ Cd) (bQ tE)) (bN Fq (bQ Cj) bL)) (bN YQ (bN Qq (bQ An) (bQ Bo)) (bN G5 (bQ tF) bL)))))) (bN (o2 P) (bN (boot_o_4 P) (bN (boot_o_8 P) (bN tF (bN tF (bN Vl (bQ tE) (bQ Eu)) (bN Vf (bQ GP) (bQ (zN P)))) (bN tE (bN Yv (bQ zM) (bQ Az)) (bN zO (bQ GD) bL))) (bN (YF P) (bN YK (bN Xo (bQ tF) (bQ o200)) (bN Fz (bQ tF) bL)) (bN Yd (bN tF (bQ Ar) (bQ tE)) (bN Cq (bQ tE) bL)))) (bN zeY (bN Wc (bN Tz (bN Vc (bQ Fj) (bQ tF)) (bN tE (bQ Dn) (bQ Ec))) (bN tE (bN Yw (bQ DQ) (bQ tE)) (bN FZ (bQ CT) bL))) (bN o28 (bN Vw (bN tE (bQ Aq) (bQ Fw)) (bN tF (bQ CP) bL)) (bN tF (bN Tn (bQ Gs) (bQ Dw)) (bN tE (bQ tE) bL))))) (bN (boot_o_6 P) (bN (boot_o_10 P) (bN tE (bN tE (bN Yk (bQ Dr) (bQ Cp)) (bN Yr (bQ tE) (bQ Gb))) (bN Xa (bN (YS P) (bQ Ex) (bQ tF)) (bN tE (bQ Ef) bL))) (bN X6 (bN Yn (bN tF (bQ tE) (bQ tE)) (bN Dc (bQ tE) bL)) (bN Tv (bN tE (bQ tE) (bQ DN)) (bN tF (bQ Ay) bL)))) (bN RZ (bN tE (bN tE (bN XR (bQ CJ) (bQ tE)) (bN (FW P) (bQ zJ) bL)) (bN XJ (bN o86 (bQ tF) (bQ zy)) (bN Dz (bQ tF) bL))) (bN Vt (bN tF (bN VB (bQ Dm) (bQ Ff)) (bN tE (bQ tE) bL)) (bN tE (bN Yc (bQ BK) (bQ zx)) (bN Ak (bQ Dt) bL)))))))
noncomputable def zgy (P:Params):Obj:=oD 45 [eN P "__name__" 165 (.str "emacs.parse" 660),eN P "__doc__" 166 .none,eN P "__package__" 167 .none,eN P "__loader__" 168 (.builtin "__main__.__loader__#opaque"),eN P "__spec__" 169 .none,eN P "__annotations__" 170 (.ref 6),eN P "__builtins__" 171 (.ref 4),eN P "__file__" 173 (.str "/claim/cut.py" 172),eN P "__cached__" 174 .none,eN P "_wall" 193 (.ref 21),eN P "ParseState" 280 (.ref 68),eN P "state_of" 299 (.ref 79),eN P "LispSignal" 332 (.ref 96),eN P "WHITESPACE" 336 (.str " " 335),eN P "WORD" 338 (.str "w" 337),eN P "SYMBOL" 340 (.str "_" 339),eN P "PUNCTUATION" 342 (.str "." 341),eN P "OPENS" 344 (.str "(" 343),eN P "CLOSES" 346 (.str ")" 345),eN P "PREFIX" 348 (.str "'" 347),eN P "STRING" 350 (.str "\"" 349),eN P "ESCAPE" 352 (.str "\\" 351),eN P "QUOTES" 354 (.str "/" 353),eN P "PAIRED" 356 (.str "$" 355),eN P "BEGINS" 358 (.str "<" 357),eN P "ENDS" 360 (.str ">" 359),eN P "INHERITS" 362 (.str "@" 361),eN P "COMMENT_FENCE" 364 (.str "!" 363),eN P "STRING_FENCE" 366 (.str "|" 365),eN P "KINDS" 368 (.str " w_.()'\"\\/$<>@!|" 367),eN P "FLAGS" 370 (.str "1234bcnp" 369),eN P "Syntax" 432 (.ref 144),eN P "sorted_flags" 438 (.ref 153),eN P "read_syntax" 444 (.ref 158),eN P "SyntaxTable" 538 (.ref 225),eN P "letters" 544 (.ref 236),eN P "standard_table" 553 (.ref 243),eN P "lisp_table" 560 (.ref 250),eN P "Mark" 597 (.ref 267),eN P "syntax_at" 607 (.ref 278),eN P "pair_style" 616 (.ref 285),eN P "begin_mark" 627 (.ref 292),eN P "end_mark" 638 (.ref 299),eN P "fits" 648 (.ref 306),eN P "is_quoted" 659 (.ref 313)]
noncomputable def zdI:Obj:=oF [.int 1 0,.int 0 0,.ref 20,.int 5 0,.int 0 0,.ref 27,.int 33 0,.int 0 0,.ref 78,.int 37 0,.int 0 0,.ref 85,.int 61 0,.int 0 0,.ref 105,.int 79 0,.int 0 0,.ref 152,.int 81 0,.int 0 0,.ref 157,.int 90 0,.int 0 0,.ref 164,.int 125 0,.int 0 0,.ref 235,.int 127 0,.int 0 0,.ref 242,.int 139 0,.int 0 0,.ref 249,.int 150 0,.int 0 0,.ref 256,.int 157 0,.int 0 0,.ref 277,.int 160 0,.int 0 0,.ref 284,.int 163 0,.int 0 0,.ref 291,.int 172 0,.int 0 0,.ref 298,.int 181 0,.int 0 0,.ref 305,.int 185 0,.int 0 0,.ref 312]
noncomputable def JF:=hF "letters" (bK 29)
noncomputable def G7:=oK "letters" "letters" 539 125 0 230 542 true
noncomputable def Gy:=fF "letters" .none (.str "emacs.syntax" 333) (.ref 235) (bK 29)
noncomputable def Ku:=oT [.str "table" 548,.str "opens" 549,.str "closes" 550]
noncomputable def KR:=hF "standard_table" (bK 30)
noncomputable def FT:=oK "standard_table" "standard_table" 545 127 0 237 551 true
noncomputable def Gi:=fF "standard_table" .none (.str "emacs.syntax" 333) (.ref 242) (bK 30)
noncomputable def JX:=oT [.str "table" 557]
noncomputable def Jy:=hF "lisp_table" (bK 31)
noncomputable def FQ:=oK "lisp_table" "lisp_table" 554 139 0 244 558 true
noncomputable def Dd:=fF "lisp_table" .none (.str "emacs.syntax" 333) (.ref 249) (bK 31)
noncomputable def Kr:Obj:=⟨(.type "builtin_function_or_method"),none,(.fields ⟨[.builtin "type.__prepare__",.type "type"]⟩),⟨[]⟩⟩
noncomputable def K3 (P:Params):Obj:=oD 5 [eN P "__module__" 570 (.str "emacs.syntaxpairs" 561),eN P "__qualname__" 572 (.str "Mark" 571),eN P "__firstlineno__" 574 (.int 150 573),eN P "__init__" 585 (.ref 264),eN P "__static_attributes__" 590 (.ref 265)]
noncomputable def Kh:=oF [.int 152 0,.int 4 0,.ref 263]
noncomputable def JZ:=oC [.str "Mark" 565,.str "Mark" 566,.str "/claim/cut.py" 567,.int 150 0,.int 0 0,.int 0 0,.int 0 0,.int 0 0,.ref 254,.bool false,.int 181 0,.ref 255,.none,.none,.none,.none,.int 568 0,.int 150 0,.str "/claim/cut.py" 569]
noncomputable def JQ:Obj:=⟨(.type "frame"),none,.plain,⟨[some (.ref 256),some (.ref 3),some (.ref 253),none,some (.str "emacs.syntaxpairs" 561),none,some (.ref 0)]⟩⟩
noncomputable def La:=oT [.str "self" 578,.str "length" 579,.str "style" 580,.str "nests" 581,.str "is_fence" 582]
noncomputable def J0:=hF "Mark.__init__" (bO 33 0)
noncomputable def DR:=oK "__init__" "Mark.__init__" 575 152 5 258 583 true
noncomputable def Fe:=fF "Mark.__init__" .none (.str "emacs.syntaxpairs" 561) (.ref 263) (bO 33 0)
noncomputable def Lz:=oT [.str "is_fence" 586,.str "length" 587,.str "nests" 588,.str "style" 589]
noncomputable def Gn (P:Params):Obj:=oD 4 [eN P "__module__" 570 (.str "emacs.syntaxpairs" 561),eN P "__firstlineno__" 574 (.int 150 573),eN P "__init__" 585 (.ref 264),eN P "__static_attributes__" 590 (.ref 265),eN P "__dict__" 592 (.ref 268),eN P "__weakref__" 594 (.ref 269),eN P "__doc__" 595 .none]
noncomputable def G8:Obj:=⟨(.type "type"),none,(.cls { name:="Mark",bases:=[.type "object"],mro:=[.ref 267,.type "object"],ns:=266,qualname:="Mark",hasDict:=true,slotNames:=[],subclasses:=[],abstract:=false,collection:=none,hasDel:=false }),⟨[none,none,some (.str "Mark" 563),some (.str "Mark" 571),some (.builtin "object.__new__"),some (.bool true)]⟩⟩
noncomputable def Jp:Obj:=⟨(.type "getset_descriptor"),none,(.fields ⟨[.str "__dict__" 591,.ref 267,.builtin "function.__dict__",.builtin "function.__dict__#set"]⟩),⟨[]⟩⟩
noncomputable def JC:Obj:=⟨(.type "getset_descriptor"),none,(.fields ⟨[.str "__weakref__" 593,.ref 267,.builtin "ExceptionGroup.__weakref__",.none]⟩),⟨[]⟩⟩
noncomputable def JH:Obj:=⟨(.type "super"),none,(.fields ⟨[.ref 267,.ref 267,.ref 267]⟩),⟨[]⟩⟩
noncomputable def Ke:Obj:=⟨(.type "builtin_function_or_method"),none,(.fields ⟨[.builtin "object.__init_subclass__",.ref 267]⟩),⟨[]⟩⟩
noncomputable def Kv:=oT [.str "view" 601,.str "table" 602,.str "place" 603,.str "code" 604]
noncomputable def K7:=hF "syntax_at" (bK 34)
noncomputable def Gj:=oK "syntax_at" "syntax_at" 598 157 3 272 605 true
noncomputable def Em:=fF "syntax_at" .none (.str "emacs.syntaxpairs" 561) (.ref 277) (bK 34)
noncomputable def KQ:=oT [.str "told" 611,.str "other" 612,.str "style" 613]
noncomputable def Ko:=hF "pair_style" (bK 35)
noncomputable def Gm:=oK "pair_style" "pair_style" 608 160 2 279 614 true
noncomputable def Dv:=fF "pair_style" .none (.str "emacs.syntaxpairs" 561) (.ref 284) (bK 35)
noncomputable def J8:=oT [.str "view" 620,.str "table" 621,.str "place" 622,.str "one" 623,.str "other" 624]
noncomputable def KN:=hF "begin_mark" (bK 36)
noncomputable def DY:=oK "begin_mark" "begin_mark" 617 163 3 286 625 true
noncomputable def GR:=fF "begin_mark" .none (.str "emacs.syntaxpairs" 561) (.ref 291) (bK 36)
noncomputable def Jx:=oT [.str "view" 631,.str "table" 632,.str "place" 633,.str "one" 634,.str "other" 635]
noncomputable def Jk:=hF "end_mark" (bK 37)
noncomputable def EY:=oK "end_mark" "end_mark" 628 172 3 293 636 true
noncomputable def Ez:=fF "end_mark" .none (.str "emacs.syntaxpairs" 561) (.ref 298) (bK 37)
noncomputable def Kw:=oT [.str "mark" 642,.str "style" 643,.str "nests" 644,.str "is_fence" 645]
noncomputable def Lq:=hF "fits" (bK 38)
noncomputable def Gp:=oK "fits" "fits" 639 181 4 300 646 true
noncomputable def Et:=fF "fits" .none (.str "emacs.syntaxpairs" 561) (.ref 305) (bK 38)
noncomputable def Ka:=oT [.str "view" 652,.str "table" 653,.str "place" 654,.str "count" 655,.str "before" 656]
noncomputable def Iz:=hF "is_quoted" (bK 39)
noncomputable def GZ:=oK "is_quoted" "is_quoted" 649 185 3 307 657 true
noncomputable def GJ:=fF "is_quoted" .none (.str "emacs.syntaxpairs" 561) (.ref 312) (bK 39)
noncomputable def ze6 (P:Params):BT:=(bN (boot_o_0 P) (bN (boot_o_1 P) (bN (zgy P) (bN (boot_o_7 P) (bN tE (bN tE (bN Yo (bN zK (bQ Kh) bL) (bQ tE)) (bN (Pk P) (bN tE (bQ tF) bL) (bQ Gv))) (bN Xu (bN Um (bN (Bc P) (bQ Ke) bL) (bQ zF)) (bN o111 (bN tF (bQ tE) bL) (bQ Ku)))) (bN YJ (bN tF (bN YG (bN tE (bQ DR) bL) (bQ Gh)) (bN tE (bN tE (bQ Jx) bL) (bQ tF))) (bN tE (bN tE (bN Ej (bQ tE) bL) (bQ Ae)) (bN CQ (bN Eb (bQ Iz) bL) (bQ tE))))) (bN tE (bN Xw (bN Xx (bN (Wy P) (bN tE (bQ tF) bL) (bQ tE)) (bN YD (bN De (bQ DY) bL) (bQ Gd))) (bN Ti (bN tE (bN Di (bQ tE) bL) (bQ Ge)) (bN tF (bN Bp (bQ tE) bL) (bQ Gi)))) (bN Xn (bN Va (bN Yj (bN Dl (bQ G8) bL) (bQ tF)) (bN tE (bN Du (bQ Ez) bL) (bQ G7))) (bN tE (bN Yy (bN tF (bQ Ko) bL) (bQ tE)) (bN Ey (bQ Bx) (bQ tE)))))) (bN (boot_o_5 P) (bN (boot_o_9 P) (bN Yg (bN Yu (bN Sv (bN tF (bQ JQ) bL) (bQ zB)) (bN Ye (bN (G4 P) (bQ tE) bL) (bQ Aw))) (bN Ym (bN XX (bN GQ (bQ tF) bL) (bQ tE)) (bN CV (bN tE (bQ Gp) bL) (bQ KR)))) (bN tE (bN tE (bN tE (bN Dh (bQ Lz) bL) (bQ Bd)) (bN GK (bN DG (bQ Jk) bL) (bQ tE))) (bN Up (bN X8 (bN wF (bQ KQ) bL) (bQ tF)) (bN tE (bN G3 (bQ GJ) bL) (bQ FQ))))) (bN R0 (bN Un (bN Ve (bN XD (bN BZ (bQ tE) bL) (bQ FJ)) (bN Dy (bN Do (bQ tE) bL) (bQ Gr))) (bN tF (bN YC (bN tE (bQ Gj) bL) (bQ Ep)) (bN tE (bN tE (bQ Ka) bL) (bQ tF)))) (bN Vn (bN tE (bN YH (bN Cd (bQ JC) bL) (bQ tE)) (bN Fq (bN Cj (bQ tF) bL) (bQ tE))) (bN YQ (bN Qq (bN An (bQ Dv) bL) (bQ Bo)) (bN G5 (bQ tF) (bQ (K3 P)))))))) (bN (o2 P) (bN (boot_o_4 P) (bN (boot_o_8 P) (bN tF (bN tF (bN Vl (bN tE (bQ JZ) bL) (bQ Eu)) (bN Vf (bN GP (bQ J8) bL) (bQ (zN P)))) (bN tE (bN Yv (bN zM (bQ tE) bL) (bQ Az)) (bN zO (bN GD (bQ Lq) bL) (bQ tE)))) (bN (YF P) (bN YK (bN Xo (bN tF (bQ Fe) bL) (bQ o200)) (bN Fz (bN tF (bQ tE) bL) (bQ tE))) (bN Yd (bN tF (bN Ar (bQ tF) bL) (bQ tE)) (bN Cq (bN tE (bQ GZ) bL) (bQ Jy))))) (bN zdI (bN Wc (bN Tz (bN Vc (bN Fj (bQ La) bL) (bQ tF)) (bN tE (bN Dn (bQ GR) bL) (bQ Ec))) (bN tE (bN Yw (bN DQ (bQ K7) bL) (bQ tE)) (bN FZ (bN CT (bQ tF) bL) (bQ tE)))) (bN o28 (bN Vw (bN tE (bN Aq (bQ Jp) bL) (bQ Fw)) (bN tF (bN CP (bQ tE) bL) (bQ Gy))) (bN tF (bN Tn (bN Gs (bQ Gm) bL) (bQ Dw)) (bN tE (bQ tE) (bQ Kr)))))) (bN (boot_o_6 P) (bN (boot_o_10 P) (bN tE (bN tE (bN Yk (bN Dr (bQ tE) bL) (bQ Cp)) (bN Yr (bN tE (bQ KN) bL) (bQ Gb))) (bN Xa (bN (YS P) (bN Ex (bQ Kv) bL) (bQ tF)) (bN tE (bN Ef (bQ Et) bL) (bQ FT)))) (bN X6 (bN Yn (bN tF (bN tE (bQ (Gn P)) bL) (bQ tE)) (bN Dc (bN tE (bQ EY) bL) (bQ JF))) (bN Tv (bN tE (bN tE (bQ tE) bL) (bQ DN)) (bN tF (bQ Ay) (bQ Dd))))) (bN RZ (bN tE (bN tE (bN XR (bN CJ (bQ J0) bL) (bQ tE)) (bN (FW P) (bN zJ (bQ tF) bL) (bQ tE))) (bN XJ (bN o86 (bN tF (bQ Em) bL) (bQ zy)) (bN Dz (bN tF (bQ tE) bL) (bQ JX)))) (bN Vt (bN tF (bN VB (bN Dm (bQ JH) bL) (bQ Ff)) (bN tE (bN tE (bQ Kw) bL) (bQ tF))) (bN tE (bN Yc (bN BK (bQ tE) bL) (bQ zx)) (bN Ak (bQ Dt) (bQ tE))))))))
noncomputable def zge (P:Params):Obj:=oD 46 [eN P "__name__" 165 (.str "emacs.parse" 660),eN P "__doc__" 166 .none,eN P "__package__" 167 .none,eN P "__loader__" 168 (.builtin "__main__.__loader__#opaque"),eN P "__spec__" 169 .none,eN P "__annotations__" 170 (.ref 6),eN P "__builtins__" 171 (.ref 4),eN P "__file__" 173 (.str "/claim/cut.py" 172),eN P "__cached__" 174 .none,eN P "_wall" 193 (.ref 21),eN P "ParseState" 280 (.ref 68),eN P "state_of" 299 (.ref 79),eN P "LispSignal" 332 (.ref 96),eN P "WHITESPACE" 336 (.str " " 335),eN P "WORD" 338 (.str "w" 337),eN P "SYMBOL" 340 (.str "_" 339),eN P "PUNCTUATION" 342 (.str "." 341),eN P "OPENS" 344 (.str "(" 343),eN P "CLOSES" 346 (.str ")" 345),eN P "PREFIX" 348 (.str "'" 347),eN P "STRING" 350 (.str "\"" 349),eN P "ESCAPE" 352 (.str "\\" 351),eN P "QUOTES" 354 (.str "/" 353),eN P "PAIRED" 356 (.str "$" 355),eN P "BEGINS" 358 (.str "<" 357),eN P "ENDS" 360 (.str ">" 359),eN P "INHERITS" 362 (.str "@" 361),eN P "COMMENT_FENCE" 364 (.str "!" 363),eN P "STRING_FENCE" 366 (.str "|" 365),eN P "KINDS" 368 (.str " w_.()'\"\\/$<>@!|" 367),eN P "FLAGS" 370 (.str "1234bcnp" 369),eN P "Syntax" 432 (.ref 144),eN P "sorted_flags" 438 (.ref 153),eN P "read_syntax" 444 (.ref 158),eN P "SyntaxTable" 538 (.ref 225),eN P "letters" 544 (.ref 236),eN P "standard_table" 553 (.ref 243),eN P "lisp_table" 560 (.ref 250),eN P "Mark" 597 (.ref 267),eN P "syntax_at" 607 (.ref 278),eN P "pair_style" 616 (.ref 285),eN P "begin_mark" 627 (.ref 292),eN P "end_mark" 638 (.ref 299),eN P "fits" 648 (.ref 306),eN P "is_quoted" 659 (.ref 313),eN P "Walk" 846 (.ref 449)]
noncomputable def zfm:Obj:=oF [.int 1 0,.int 0 0,.ref 20,.int 5 0,.int 0 0,.ref 27,.int 33 0,.int 0 0,.ref 78,.int 37 0,.int 0 0,.ref 85,.int 61 0,.int 0 0,.ref 105,.int 79 0,.int 0 0,.ref 152,.int 81 0,.int 0 0,.ref 157,.int 90 0,.int 0 0,.ref 164,.int 125 0,.int 0 0,.ref 235,.int 127 0,.int 0 0,.ref 242,.int 139 0,.int 0 0,.ref 249,.int 150 0,.int 0 0,.ref 256,.int 157 0,.int 0 0,.ref 277,.int 160 0,.int 0 0,.ref 284,.int 163 0,.int 0 0,.ref 291,.int 172 0,.int 0 0,.ref 298,.int 181 0,.int 0 0,.ref 305,.int 185 0,.int 0 0,.ref 312,.int 193 0,.int 0 0,.ref 319]
noncomputable def PL:Obj:=⟨(.type "builtin_function_or_method"),none,(.fields ⟨[.builtin "type.__prepare__",.type "type"]⟩),⟨[]⟩⟩
noncomputable def Ra (P:Params):Obj:=oD 22 [eN P "__module__" 669 (.str "emacs.parse" 660),eN P "__qualname__" 671 (.str "Walk" 670),eN P "__firstlineno__" 673 (.int 193 672),eN P "__init__" 684 (.ref 327),eN P "state" 692 (.ref 334),eN P "depth" 699 (.ref 341),eN P "end_word" 706 (.ref 348),eN P "begin_word" 713 (.ref 355),eN P "open_at" 721 (.ref 362),eN P "close" 728 (.ref 369),eN P "begin_comment" 737 (.ref 376),eN P "leave_comment" 744 (.ref 383),eN P "begin_string" 752 (.ref 390),eN P "end_string" 759 (.ref 397),eN P "take" 769 (.ref 404),eN P "step_in_comment" 779 (.ref 411),eN P "step_in_string" 788 (.ref 418),eN P "finish_half" 796 (.ref 425),eN P "step_plain" 807 (.ref 432),eN P "step_by_kind" 815 (.ref 439),eN P "step" 823 (.ref 446),eN P "__static_attributes__" 839 (.ref 447)]
noncomputable def Qg:=oF [.int 195 0,.int 4 0,.ref 326,.int 212 0,.int 4 0,.ref 333,.int 216 0,.int 4 0,.ref 340,.int 219 0,.int 4 0,.ref 347,.int 224 0,.int 4 0,.ref 354,.int 228 0,.int 4 0,.ref 361,.int 233 0,.int 4 0,.ref 368,.int 242 0,.int 4 0,.ref 375,.int 249 0,.int 4 0,.ref 382,.int 258 0,.int 4 0,.ref 389,.int 263 0,.int 4 0,.ref 396,.int 268 0,.int 4 0,.ref 403,.int 276 0,.int 4 0,.ref 410,.int 289 0,.int 4 0,.ref 417,.int 300 0,.int 4 0,.ref 424,.int 311 0,.int 4 0,.ref 431,.int 329 0,.int 4 0,.ref 438,.int 346 0,.int 4 0,.ref 445]
noncomputable def Pj:=oC [.str "Walk" 664,.str "Walk" 665,.str "/claim/cut.py" 666,.int 193 0,.int 0 0,.int 0 0,.int 0 0,.int 0 0,.ref 317,.bool false,.int 181 0,.ref 318,.none,.none,.none,.none,.int 667 0,.int 193 0,.str "/claim/cut.py" 668]
noncomputable def Qn:Obj:=⟨(.type "frame"),none,.plain,⟨[some (.ref 319),some (.ref 3),some (.ref 316),none,some (.str "emacs.parse" 660),none,some (.ref 0)]⟩⟩
noncomputable def Ou:=oT [.str "self" 677,.str "view" 678,.str "table" 679,.str "place" 680,.str "state" 681]
noncomputable def MP:=hF "Walk.__init__" (bO 41 0)
noncomputable def Jh:=oK "__init__" "Walk.__init__" 674 195 5 321 682 true
noncomputable def Ks:=fF "Walk.__init__" .none (.str "emacs.parse" 660) (.ref 326) (bO 41 0)
noncomputable def QT:=oT [.str "self" 688,.str "inner" 689]
noncomputable def QX:=hF "Walk.state" (bO 41 1)
noncomputable def JV:=oK "state" "Walk.state" 685 212 1 328 690 true
noncomputable def Kl:=fF "Walk.state" .none (.str "emacs.parse" 660) (.ref 333) (bO 41 1)
noncomputable def PN:=oT [.str "self" 696]
noncomputable def N7:=hF "Walk.depth" (bO 41 2)
noncomputable def Jj:=oK "depth" "Walk.depth" 693 216 1 335 697 true
noncomputable def JW:=fF "Walk.depth" .none (.str "emacs.parse" 660) (.ref 340) (bO 41 2)
noncomputable def RJ:=oT [.str "self" 703]
noncomputable def Nb:=hF "Walk.end_word" (bO 41 3)
noncomputable def Jc:=oK "end_word" "Walk.end_word" 700 219 1 342 704 true
noncomputable def IK:=fF "Walk.end_word" .none (.str "emacs.parse" 660) (.ref 347) (bO 41 3)
noncomputable def Qu:=oT [.str "self" 710]
noncomputable def Rx:=hF "Walk.begin_word" (bO 41 4)
noncomputable def Jr:=oK "begin_word" "Walk.begin_word" 707 224 1 349 711 true
noncomputable def K6:=fF "Walk.begin_word" .none (.str "emacs.parse" 660) (.ref 354) (bO 41 4)
noncomputable def Mf:=oT [.str "self" 717,.str "place" 718]
noncomputable def Oi:=hF "Walk.open_at" (bO 41 5)
noncomputable def KY:=oK "open_at" "Walk.open_at" 714 228 2 356 719 true
noncomputable def Jt:=fF "Walk.open_at" .none (.str "emacs.parse" 660) (.ref 361) (bO 41 5)
noncomputable def Qt:=oT [.str "self" 725]
noncomputable def Rh:=hF "Walk.close" (bO 41 6)
noncomputable def J9:=oK "close" "Walk.close" 722 233 1 363 726 true
noncomputable def JG:=fF "Walk.close" .none (.str "emacs.parse" 660) (.ref 368) (bO 41 6)
noncomputable def Qe:=oT [.str "self" 732,.str "mark" 733,.str "start" 734]
noncomputable def Mv:=hF "Walk.begin_comment" (bO 41 7)
noncomputable def J1:=oK "begin_comment" "Walk.begin_comment" 729 242 3 370 735 true
noncomputable def K5:=fF "Walk.begin_comment" .none (.str "emacs.parse" 660) (.ref 375) (bO 41 7)
noncomputable def N6:=oT [.str "self" 741]
noncomputable def Qy:=hF "Walk.leave_comment" (bO 41 8)
noncomputable def KH:=oK "leave_comment" "Walk.leave_comment" 738 249 1 377 742 true
noncomputable def K1:=fF "Walk.leave_comment" .none (.str "emacs.parse" 660) (.ref 382) (bO 41 8)
noncomputable def Mh:=oT [.str "self" 748,.str "ender" 749]
noncomputable def PK:=hF "Walk.begin_string" (bO 41 9)
noncomputable def KJ:=oK "begin_string" "Walk.begin_string" 745 258 2 384 750 true
noncomputable def Js:=fF "Walk.begin_string" .none (.str "emacs.parse" 660) (.ref 389) (bO 41 9)
noncomputable def RB:=oT [.str "self" 756]
noncomputable def M5:=hF "Walk.end_string" (bO 41 10)
noncomputable def Jo:=oK "end_string" "Walk.end_string" 753 263 1 391 757 true
noncomputable def I7:=fF "Walk.end_string" .none (.str "emacs.parse" 660) (.ref 396) (bO 41 10)
noncomputable def o400:=oT [.str "self" 763,.str "mark" 764,.str "word" 765,.str "limit" 766]
noncomputable def Om:=hF "Walk.take" (bO 41 11)
noncomputable def Kd:=oK "take" "Walk.take" 760 268 4 398 767 true
noncomputable def Km:=fF "Walk.take" .none (.str "emacs.parse" 660) (.ref 403) (bO 41 11)
noncomputable def Nq:=oT [.str "self" 773,.str "limit" 774,.str "is_fence" 775,.str "mark" 776]
noncomputable def QD:=hF "Walk.step_in_comment" (bO 41 12)
noncomputable def JL:=oK "step_in_comment" "Walk.step_in_comment" 770 276 2 405 777 true
noncomputable def Jg:=fF "Walk.step_in_comment" .none (.str "emacs.parse" 660) (.ref 410) (bO 41 12)
noncomputable def QS:=oT [.str "self" 783,.str "code" 784,.str "syntax" 785]
noncomputable def LR:=hF "Walk.step_in_string" (bO 41 13)
noncomputable def Kz:=oK "step_in_string" "Walk.step_in_string" 780 289 1 412 786 true
noncomputable def JS:=fF "Walk.step_in_string" .none (.str "emacs.parse" 660) (.ref 417) (bO 41 13)
noncomputable def Mu:=oT [.str "self" 792,.str "word" 793]
noncomputable def Qa:=hF "Walk.finish_half" (bO 41 14)
noncomputable def Jz:=oK "finish_half" "Walk.finish_half" 789 300 1 419 794 true
noncomputable def Jq:=fF "Walk.finish_half" .none (.str "emacs.parse" 660) (.ref 424) (bO 41 14)
noncomputable def Nz:=oT [.str "self" 800,.str "limit" 801,.str "mark" 802,.str "start" 803,.str "syntax" 804]
noncomputable def RQ:=hF "Walk.step_plain" (bO 41 15)
noncomputable def IV:=oK "step_plain" "Walk.step_plain" 797 311 2 426 805 true
noncomputable def Kp:=fF "Walk.step_plain" .none (.str "emacs.parse" 660) (.ref 431) (bO 41 15)
noncomputable def Mp:=oT [.str "self" 811,.str "syntax" 812]
noncomputable def Rv:=hF "Walk.step_by_kind" (bO 41 16)
noncomputable def Ju:=oK "step_by_kind" "Walk.step_by_kind" 808 329 2 433 813 true
noncomputable def Lj:=fF "Walk.step_by_kind" .none (.str "emacs.parse" 660) (.ref 438) (bO 41 16)
noncomputable def Py:=oT [.str "self" 819,.str "limit" 820]
noncomputable def o444:=hF "Walk.step" (bO 41 17)
noncomputable def Kf:=oK "step" "Walk.step" 816 346 2 440 821 true
noncomputable def Jm:=fF "Walk.step" .none (.str "emacs.parse" 660) (.ref 445) (bO 41 17)
noncomputable def Oh:=oT [.str "below" 824,.str "comment" 825,.str "half" 826,.str "least" 827,.str "nests" 828,.str "opens" 829,.str "place" 830,.str "quoted" 831,.str "start" 832,.str "string" 833,.str "style" 834,.str "table" 835,.str "view" 836,.str "whole" 837,.str "word" 838]
noncomputable def JN (P:Params):Obj:=oD 4 [eN P "__module__" 669 (.str "emacs.parse" 660),eN P "__firstlineno__" 673 (.int 193 672),eN P "__init__" 684 (.ref 327),eN P "state" 692 (.ref 334),eN P "depth" 699 (.ref 341),eN P "end_word" 706 (.ref 348),eN P "begin_word" 713 (.ref 355),eN P "open_at" 721 (.ref 362),eN P "close" 728 (.ref 369),eN P "begin_comment" 737 (.ref 376),eN P "leave_comment" 744 (.ref 383),eN P "begin_string" 752 (.ref 390),eN P "end_string" 759 (.ref 397),eN P "take" 769 (.ref 404),eN P "step_in_comment" 779 (.ref 411),eN P "step_in_string" 788 (.ref 418),eN P "finish_half" 796 (.ref 425),eN P "step_plain" 807 (.ref 432),eN P "step_by_kind" 815 (.ref 439),eN P "step" 823 (.ref 446),eN P "__static_attributes__" 839 (.ref 447),eN P "__dict__" 841 (.ref 450),eN P "__weakref__" 843 (.ref 451),eN P "__doc__" 844 .none]
noncomputable def Le:Obj:=⟨(.type "type"),none,(.cls { name:="Walk",bases:=[.type "object"],mro:=[.ref 449,.type "object"],ns:=448,qualname:="Walk",hasDict:=true,slotNames:=[],subclasses:=[],abstract:=false,collection:=none,hasDel:=false }),⟨[none,none,some (.str "Walk" 662),some (.str "Walk" 670),some (.builtin "object.__new__"),some (.bool true)]⟩⟩
noncomputable def Rg:Obj:=⟨(.type "getset_descriptor"),none,(.fields ⟨[.str "__dict__" 840,.ref 449,.builtin "function.__dict__",.builtin "function.__dict__#set"]⟩),⟨[]⟩⟩
noncomputable def M6:Obj:=⟨(.type "getset_descriptor"),none,(.fields ⟨[.str "__weakref__" 842,.ref 449,.builtin "ExceptionGroup.__weakref__",.none]⟩),⟨[]⟩⟩
noncomputable def PJ:Obj:=⟨(.type "super"),none,(.fields ⟨[.ref 449,.ref 449,.ref 449]⟩),⟨[]⟩⟩
noncomputable def Rz:Obj:=⟨(.type "builtin_function_or_method"),none,(.fields ⟨[.builtin "object.__init_subclass__",.ref 449]⟩),⟨[]⟩⟩
noncomputable def zfG (P:Params):BT:=(bN (boot_o_0 P) (bN (boot_o_1 P) (bN (zge P) (bN (boot_o_7 P) (bN tE (bN tE (bN Yo (bN zK (bQ Kh) (bQ K1)) (bN tE (bQ Pj) (bQ Oh))) (bN (Pk P) (bN tE (bQ tF) (bQ tE)) (bN Gv (bQ Qu) bL))) (bN Xu (bN Um (bN (Bc P) (bQ Ke) (bQ tF)) (bN zF (bQ tE) bL)) (bN o111 (bN tF (bQ tE) (bQ IV)) (bN Ku (bQ Rh) bL)))) (bN YJ (bN tF (bN YG (bN tE (bQ DR) (bQ tE)) (bN Gh (bQ Ks) bL)) (bN tE (bN tE (bQ Jx) (bQ Qa)) (bN tF (bQ tE) bL))) (bN tE (bN tE (bN Ej (bQ tE) (bQ Nq)) (bN Ae (bQ tF) bL)) (bN CQ (bN Eb (bQ Iz) (bQ Lj)) (bN tE (bQ J1) bL))))) (bN tE (bN Xw (bN Xx (bN (Wy P) (bN tE (bQ tF) (bQ tE)) (bN tE (bQ Ou) (bQ M6))) (bN YD (bN De (bQ DY) (bQ tE)) (bN Gd (bQ K6) bL))) (bN Ti (bN tE (bN Di (bQ tE) (bQ Kd)) (bN Ge (bQ N7) bL)) (bN tF (bN Bp (bQ tE) (bQ Mp)) (bN Gi (bQ tF) bL)))) (bN Xn (bN Va (bN Yj (bN Dl (bQ G8) (bQ M5)) (bN tF (bQ tE) bL)) (bN tE (bN Du (bQ Ez) (bQ tF)) (bN G7 (bQ tE) bL))) (bN tE (bN Yy (bN tF (bQ Ko) (bQ Jg)) (bN tE (bQ Jc) bL)) (bN Ey (bN Bx (bQ PL) (bQ tE)) (bN tE (bQ N6) bL)))))) (bN (boot_o_5 P) (bN (boot_o_9 P) (bN Yg (bN Yu (bN Sv (bN tF (bQ JQ) (bQ tF)) (bN zB (bQ tE) (bQ Le))) (bN Ye (bN (G4 P) (bQ tE) (bQ Kz)) (bN Aw (bQ Rx) bL))) (bN Ym (bN XX (bN GQ (bQ tF) (bQ tE)) (bN tE (bQ PN) bL)) (bN CV (bN tE (bQ Gp) (bQ tE)) (bN KR (bQ JG) bL)))) (bN tE (bN tE (bN tE (bN Dh (bQ Lz) (bQ RB)) (bN Bd (bQ tF) bL)) (bN GK (bN DG (bQ Jk) (bQ Jq)) (bN tE (bQ KY) bL))) (bN Up (bN X8 (bN wF (bQ KQ) (bQ QD)) (bN tF (bQ tE) bL)) (bN tE (bN G3 (bQ GJ) (bQ tF)) (bN FQ (bQ tE) bL))))) (bN R0 (bN Un (bN Ve (bN XD (bN BZ (bQ tE) (bQ KJ)) (bN FJ (bQ MP) (bQ Rz))) (bN Dy (bN Do (bQ tE) (bQ Mu)) (bN Gr (bQ tF) bL))) (bN tF (bN YC (bN tE (bQ Gj) (bQ tE)) (bN Ep (bQ JW) bL)) (bN tE (bN tE (bQ Ka) (bQ Rv)) (bN tF (bQ tE) bL)))) (bN Vn (bN tE (bN YH (bN Cd (bQ JC) (bQ I7)) (bN tE (bQ JV) bL)) (bN Fq (bN Cj (bQ tF) (bQ tE)) (bN tE (bQ Qt) bL))) (bN YQ (bN Qq (bN An (bQ Dv) (bQ tF)) (bN Bo (bQ tE) bL)) (bN G5 (bN tF (bQ tE) (bQ Kf)) (bN (K3 P) (bQ Qy) bL))))))) (bN (o2 P) (bN (boot_o_4 P) (bN (boot_o_8 P) (bN tF (bN tF (bN Vl (bN tE (bQ JZ) (bQ tE)) (bN Eu (bQ Qn) (bQ (JN P)))) (bN Vf (bN GP (bQ J8) (bQ LR)) (bN (zN P) (bQ tE) bL))) (bN tE (bN Yv (bN zM (bQ tE) (bQ o400)) (bN Az (bQ tF) bL)) (bN zO (bN GD (bQ Lq) (bQ Kp)) (bN tE (bQ J9) bL)))) (bN (YF P) (bN YK (bN Xo (bN tF (bQ Fe) (bQ tF)) (bN o200 (bQ tE) bL)) (bN Fz (bN tF (bQ tE) (bQ Jz)) (bN tE (bQ Oi) bL))) (bN Yd (bN tF (bN Ar (bQ tF) (bQ tE)) (bN tE (bQ RJ) bL)) (bN Cq (bN tE (bQ GZ) (bQ tE)) (bN Jy (bQ K5) bL))))) (bN zfm (bN Wc (bN Tz (bN Vc (bN Fj (bQ La) (bQ PK)) (bN tF (bQ tE) (bQ PJ))) (bN tE (bN Dn (bQ GR) (bQ tF)) (bN Ec (bQ tE) bL))) (bN tE (bN Yw (bN DQ (bQ K7) (bQ Km)) (bN tE (bQ Jj) bL)) (bN FZ (bN CT (bQ tF) (bQ tE)) (bN tE (bQ Qe) bL)))) (bN o28 (bN Vw (bN tE (bN Aq (bQ Jp) (bQ Jo)) (bN Fw (bQ QX) bL)) (bN tF (bN CP (bQ tE) (bQ Nz)) (bN Gy (bQ tF) bL))) (bN tF (bN Tn (bN Gs (bQ Gm) (bQ tE)) (bN Dw (bQ IK) bL)) (bN tE (bN tE (bQ (Ra P)) (bQ o444)) (bN Kr (bQ tE) bL)))))) (bN (boot_o_6 P) (bN (boot_o_10 P) (bN tE (bN tE (bN Yk (bN Dr (bQ tE) (bQ Mh)) (bN Cp (bQ tF) (bQ Rg))) (bN Yr (bN tE (bQ KN) (bQ JS)) (bN Gb (bQ Jr) bL))) (bN Xa (bN (YS P) (bN Ex (bQ Kv) (bQ Om)) (bN tF (bQ tE) bL)) (bN tE (bN Ef (bQ Et) (bQ tF)) (bN FT (bQ tE) bL)))) (bN X6 (bN Yn (bN tF (bN tE (bQ (Gn P)) (bQ tE)) (bN tE (bQ QT) bL)) (bN Dc (bN tE (bQ EY) (bQ tE)) (bN JF (bQ Jt) bL))) (bN Tv (bN tE (bN tE (bQ tE) (bQ JL)) (bN DN (bQ Nb) bL)) (bN tF (bN Ay (bQ tE) (bQ Py)) (bN Dd (bQ tF) bL))))) (bN RZ (bN tE (bN tE (bN XR (bN CJ (bQ J0) (bQ Js)) (bN tE (bQ Jh) bL)) (bN (FW P) (bN zJ (bQ tF) (bQ tE)) (bN tE (bQ Mf) bL))) (bN XJ (bN o86 (bN tF (bQ Em) (bQ tF)) (bN zy (bQ tE) bL)) (bN Dz (bN tF (bQ tE) (bQ Ju)) (bN JX (bQ Mv) bL)))) (bN Vt (bN tF (bN VB (bN Dm (bQ JH) (bQ tE)) (bN Ff (bQ Kl) bL)) (bN tE (bN tE (bQ Kw) (bQ RQ)) (bN tF (bQ tE) bL))) (bN tE (bN Yc (bN BK (bQ tE) (bQ QS)) (bN zx (bQ tF) bL)) (bN Ak (bN Dt (bQ Qg) (bQ Jm)) (bN tE (bQ KH) bL))))))))
noncomputable def zgc (P:Params):Obj:=oD 54 [eN P "__name__" 165 (.str "emacs.scans" 908),eN P "__doc__" 166 .none,eN P "__package__" 167 .none,eN P "__loader__" 168 (.builtin "__main__.__loader__#opaque"),eN P "__spec__" 169 .none,eN P "__annotations__" 170 (.ref 6),eN P "__builtins__" 171 (.ref 4),eN P "__file__" 173 (.str "/claim/cut.py" 172),eN P "__cached__" 174 .none,eN P "_wall" 193 (.ref 21),eN P "ParseState" 280 (.ref 68),eN P "state_of" 299 (.ref 79),eN P "LispSignal" 332 (.ref 96),eN P "WHITESPACE" 336 (.str " " 335),eN P "WORD" 338 (.str "w" 337),eN P "SYMBOL" 340 (.str "_" 339),eN P "PUNCTUATION" 342 (.str "." 341),eN P "OPENS" 344 (.str "(" 343),eN P "CLOSES" 346 (.str ")" 345),eN P "PREFIX" 348 (.str "'" 347),eN P "STRING" 350 (.str "\"" 349),eN P "ESCAPE" 352 (.str "\\" 351),eN P "QUOTES" 354 (.str "/" 353),eN P "PAIRED" 356 (.str "$" 355),eN P "BEGINS" 358 (.str "<" 357),eN P "ENDS" 360 (.str ">" 359),eN P "INHERITS" 362 (.str "@" 361),eN P "COMMENT_FENCE" 364 (.str "!" 363),eN P "STRING_FENCE" 366 (.str "|" 365),eN P "KINDS" 368 (.str " w_.()'\"\\/$<>@!|" 367),eN P "FLAGS" 370 (.str "1234bcnp" 369),eN P "Syntax" 432 (.ref 144),eN P "sorted_flags" 438 (.ref 153),eN P "read_syntax" 444 (.ref 158),eN P "SyntaxTable" 538 (.ref 225),eN P "letters" 544 (.ref 236),eN P "standard_table" 553 (.ref 243),eN P "lisp_table" 560 (.ref 250),eN P "Mark" 597 (.ref 267),eN P "syntax_at" 607 (.ref 278),eN P "pair_style" 616 (.ref 285),eN P "begin_mark" 627 (.ref 292),eN P "end_mark" 638 (.ref 299),eN P "fits" 648 (.ref 306),eN P "is_quoted" 659 (.ref 313),eN P "Walk" 846 (.ref 449),eN P "begins_expression" 854 (.ref 460),eN P "parse_partial" 871 (.ref 468),eN P "state_at" 880 (.ref 475),eN P "comment_end" 892 (.ref 482),eN P "spans_to" 907 (.ref 489),eN P "ENDS_TOO_SOON" 911 (.str "Containing expression ends prematurely" 910),eN P "UNBALANCED" 913 (.str "Unbalanced parentheses" 912),eN P "Scan" 991 (.ref 541)]
noncomputable def zdO:Obj:=oF [.int 1 0,.int 0 0,.ref 20,.int 5 0,.int 0 0,.ref 27,.int 33 0,.int 0 0,.ref 78,.int 37 0,.int 0 0,.ref 85,.int 61 0,.int 0 0,.ref 105,.int 79 0,.int 0 0,.ref 152,.int 81 0,.int 0 0,.ref 157,.int 90 0,.int 0 0,.ref 164,.int 125 0,.int 0 0,.ref 235,.int 127 0,.int 0 0,.ref 242,.int 139 0,.int 0 0,.ref 249,.int 150 0,.int 0 0,.ref 256,.int 157 0,.int 0 0,.ref 277,.int 160 0,.int 0 0,.ref 284,.int 163 0,.int 0 0,.ref 291,.int 172 0,.int 0 0,.ref 298,.int 181 0,.int 0 0,.ref 305,.int 185 0,.int 0 0,.ref 312,.int 193 0,.int 0 0,.ref 319,.int 355 0,.int 0 0,.ref 459,.int 364 0,.int 0 0,.ref 467,.int 376 0,.int 0 0,.ref 474,.int 379 0,.int 0 0,.ref 481,.int 387 0,.int 0 0,.ref 488,.int 401 0,.int 0 0,.ref 495]
noncomputable def Tj:=oT [.str "walk" 850,.str "syntax" 851]
noncomputable def Ut:=hF "begins_expression" (bK 42)
noncomputable def Rq:=oK "begins_expression" "begins_expression" 847 355 1 454 852 true
noncomputable def Qs:=fF "begins_expression" .none (.str "emacs.parse" 660) (.ref 459) (bK 42)
noncomputable def Rk:=oT [.none,.none,.bool false,.bool false]
noncomputable def VF:=oT [.str "view" 858,.str "table" 859,.str "place" 860,.str "limit" 861,.str "state" 862,.str "target" 863,.str "stop_before" 864,.str "stop_comment" 865,.str "walk" 866,.str "depth" 867,.str "comment" 868]
noncomputable def TJ:=hF "parse_partial" (bK 43)
noncomputable def Ox:=oK "parse_partial" "parse_partial" 855 364 8 462 869 true
noncomputable def Oa:=fF "parse_partial" (.ref 461) (.str "emacs.parse" 660) (.ref 467) (bK 43)
noncomputable def Us:=oT [.str "view" 875,.str "table" 876,.str "place" 877]
noncomputable def WK:=hF "state_at" (bK 44)
noncomputable def Q5:=oK "state_at" "state_at" 872 376 3 469 878 true
noncomputable def Pn:=fF "state_at" .none (.str "emacs.parse" 660) (.ref 474) (bK 44)
noncomputable def Vk:=oT [.str "view" 886,.str "table" 887,.str "at" 888,.str "walk" 889]
noncomputable def WD:=hF "comment_end" (bK 46)
noncomputable def Mm:=oK "comment_end" "comment_end" 883 379 3 476 890 true
noncomputable def Qp:=fF "comment_end" .none (.str "emacs.comments" 881) (.ref 481) (bK 46)
noncomputable def Tw:=oT [.str "view" 896,.str "table" 897,.str "limit" 898,.str "walk" 899,.str "comments" 900,.str "strings" 901,.str "start" 902,.str "comment" 903,.str "string" 904]
noncomputable def V2:=hF "spans_to" (bK 47)
noncomputable def Oc:=oK "spans_to" "spans_to" 893 387 3 483 905 true
noncomputable def Oo:=fF "spans_to" .none (.str "emacs.comments" 881) (.ref 488) (bK 47)
noncomputable def U3:Obj:=⟨(.type "builtin_function_or_method"),none,(.fields ⟨[.builtin "type.__prepare__",.type "type"]⟩),⟨[]⟩⟩
noncomputable def VP (P:Params):Obj:=oD 10 [eN P "__module__" 921 (.str "emacs.scans" 908),eN P "__qualname__" 923 (.str "Scan" 922),eN P "__firstlineno__" 925 (.int 401 924),eN P "__init__" 937 (.ref 503),eN P "counts" 944 (.ref 510),eN P "lost" 951 (.ref 517),eN P "deeper" 958 (.ref 524),eN P "shallower" 966 (.ref 531),eN P "pair" 974 (.ref 538),eN P "__static_attributes__" 984 (.ref 539)]
noncomputable def Ur:=oF [.int 403 0,.int 4 0,.ref 502,.int 414 0,.int 4 0,.ref 509,.int 417 0,.int 4 0,.ref 516,.int 420 0,.int 4 0,.ref 523,.int 424 0,.int 4 0,.ref 530,.int 430 0,.int 4 0,.ref 537]
noncomputable def U4:=oC [.str "Scan" 916,.str "Scan" 917,.str "/claim/cut.py" 918,.int 401 0,.int 0 0,.int 0 0,.int 0 0,.int 0 0,.ref 493,.bool false,.int 181 0,.ref 494,.none,.none,.none,.none,.int 919 0,.int 401 0,.str "/claim/cut.py" 920]
noncomputable def Ua:Obj:=⟨(.type "frame"),none,.plain,⟨[some (.ref 495),some (.ref 3),some (.ref 492),none,some (.str "emacs.scans" 908),none,some (.ref 0)]⟩⟩
noncomputable def Sd:=oT [.str "self" 929,.str "view" 930,.str "table" 931,.str "place" 932,.str "depth" 933,.str "is_expression" 934]
noncomputable def Sg:=hF "Scan.__init__" (bO 51 0)
noncomputable def QZ:=oK "__init__" "Scan.__init__" 926 403 6 497 935 true
noncomputable def Ow:=fF "Scan.__init__" .none (.str "emacs.scans" 908) (.ref 502) (bO 51 0)
noncomputable def Uq:=oT [.str "self" 941]
noncomputable def Xd:=hF "Scan.counts" (bO 51 1)
noncomputable def QL:=oK "counts" "Scan.counts" 938 414 1 504 942 true
noncomputable def Pr:=fF "Scan.counts" .none (.str "emacs.scans" 908) (.ref 509) (bO 51 1)
noncomputable def Xh:=oT [.str "self" 948]
noncomputable def Ss:=hF "Scan.lost" (bO 51 2)
noncomputable def NB:=oK "lost" "Scan.lost" 945 417 1 511 949 true
noncomputable def LQ:=fF "Scan.lost" .none (.str "emacs.scans" 908) (.ref 516) (bO 51 2)
noncomputable def Sw:=oT [.str "self" 955]
noncomputable def Tc:=hF "Scan.deeper" (bO 51 3)
noncomputable def Mz:=oK "deeper" "Scan.deeper" 952 420 1 518 956 true
noncomputable def O6:=fF "Scan.deeper" .none (.str "emacs.scans" 908) (.ref 523) (bO 51 3)
noncomputable def Wr:=oT [.str "self" 962,.str "end" 963]
noncomputable def Wl:=hF "Scan.shallower" (bO 51 4)
noncomputable def Rw:=oK "shallower" "Scan.shallower" 959 424 2 525 964 true
noncomputable def Nf:=fF "Scan.shallower" .none (.str "emacs.scans" 908) (.ref 530) (bO 51 4)
noncomputable def V7:=oT [.str "self" 970,.str "end" 971]
noncomputable def WP:=hF "Scan.pair" (bO 51 5)
noncomputable def Qk:=oK "pair" "Scan.pair" 967 430 2 532 972 true
noncomputable def PT:=fF "Scan.pair" .none (.str "emacs.scans" 908) (.ref 537) (bO 51 5)
noncomputable def UL:=oT [.str "depth" 975,.str "good" 976,.str "is_done" 977,.str "is_expression" 978,.str "is_paired" 979,.str "least" 980,.str "place" 981,.str "table" 982,.str "view" 983]
noncomputable def QV (P:Params):Obj:=oD 4 [eN P "__module__" 921 (.str "emacs.scans" 908),eN P "__firstlineno__" 925 (.int 401 924),eN P "__init__" 937 (.ref 503),eN P "counts" 944 (.ref 510),eN P "lost" 951 (.ref 517),eN P "deeper" 958 (.ref 524),eN P "shallower" 966 (.ref 531),eN P "pair" 974 (.ref 538),eN P "__static_attributes__" 984 (.ref 539),eN P "__dict__" 986 (.ref 542),eN P "__weakref__" 988 (.ref 543),eN P "__doc__" 989 .none]
noncomputable def QH:Obj:=⟨(.type "type"),none,(.cls { name:="Scan",bases:=[.type "object"],mro:=[.ref 541,.type "object"],ns:=540,qualname:="Scan",hasDict:=true,slotNames:=[],subclasses:=[],abstract:=false,collection:=none,hasDel:=false }),⟨[none,none,some (.str "Scan" 914),some (.str "Scan" 922),some (.builtin "object.__new__"),some (.bool true)]⟩⟩
noncomputable def SM:Obj:=⟨(.type "getset_descriptor"),none,(.fields ⟨[.str "__dict__" 985,.ref 541,.builtin "function.__dict__",.builtin "function.__dict__#set"]⟩),⟨[]⟩⟩
noncomputable def TP:Obj:=⟨(.type "getset_descriptor"),none,(.fields ⟨[.str "__weakref__" 987,.ref 541,.builtin "ExceptionGroup.__weakref__",.none]⟩),⟨[]⟩⟩
noncomputable def WM:Obj:=⟨(.type "super"),none,(.fields ⟨[.ref 541,.ref 541,.ref 541]⟩),⟨[]⟩⟩
noncomputable def Ww:Obj:=⟨(.type "builtin_function_or_method"),none,(.fields ⟨[.builtin "object.__init_subclass__",.ref 541]⟩),⟨[]⟩⟩
noncomputable def zf3 (P:Params):BT:=(bN (boot_o_0 P) (bN (boot_o_1 P) (bN (zgc P) (bN (boot_o_7 P) (bN tE (bN tE (bN Yo (bN zK (bN Kh (bQ tE) bL) (bQ K1)) (bN tE (bQ Pj) (bQ Oh))) (bN (Pk P) (bN tE (bN tF (bQ TP) bL) (bQ tE)) (bN Gv (bQ Qu) (bQ tE)))) (bN Xu (bN Um (bN (Bc P) (bN Ke (bQ Wr) bL) (bQ tF)) (bN zF (bQ tE) (bQ tF))) (bN o111 (bN tF (bQ tE) (bQ IV)) (bN Ku (bQ Rh) (bQ U4))))) (bN YJ (bN tF (bN YG (bN tE (bN DR (bQ tF) bL) (bQ tE)) (bN Gh (bQ Ks) (bQ tF))) (bN tE (bN tE (bQ Jx) (bQ Qa)) (bN tF (bQ tE) (bQ V2)))) (bN tE (bN tE (bN Ej (bN tE (bQ tE) bL) (bQ Nq)) (bN Ae (bQ tF) (bQ Us))) (bN CQ (bN Eb (bQ Iz) (bQ Lj)) (bN tE (bQ J1) (bQ Ow)))))) (bN tE (bN Xw (bN Xx (bN (Wy P) (bN tE (bN tF (bQ Ss) bL) (bQ tE)) (bN tE (bQ Ou) (bQ M6))) (bN YD (bN De (bQ DY) (bQ tE)) (bN Gd (bQ K6) (bQ tE)))) (bN Ti (bN tE (bN Di (bN tE (bQ Nf) bL) (bQ Kd)) (bN Ge (bQ N7) (bQ Ox))) (bN tF (bN Bp (bQ tE) (bQ Mp)) (bN Gi (bQ tF) (bQ Sd))))) (bN Xn (bN Va (bN Yj (bN Dl (bN G8 (bQ Mz) bL) (bQ M5)) (bN tF (bQ tE) (bQ Rq))) (bN tE (bN Du (bQ Ez) (bQ tF)) (bN G7 (bQ tE) (bQ U3)))) (bN tE (bN Yy (bN tF (bN Ko (bQ UL) bL) (bQ Jg)) (bN tE (bQ Jc) (bQ Pn))) (bN Ey (bN Bx (bQ PL) (bQ tE)) (bN tE (bQ N6) (bQ tE))))))) (bN (boot_o_5 P) (bN (boot_o_9 P) (bN Yg (bN Yu (bN Sv (bN tF (bN JQ (bQ Xh) bL) (bQ tF)) (bN zB (bQ tE) (bQ Le))) (bN Ye (bN (G4 P) (bN tE (bQ Ww) bL) (bQ Kz)) (bN Aw (bQ Rx) (bQ Mm)))) (bN Ym (bN XX (bN GQ (bN tF (bQ Wl) bL) (bQ tE)) (bN tE (bQ PN) (bQ tE))) (bN CV (bN tE (bQ Gp) (bQ tE)) (bN KR (bQ JG) (bQ tE))))) (bN tE (bN tE (bN tE (bN Dh (bN Lz (bQ tE) bL) (bQ RB)) (bN Bd (bQ tF) (bQ tE))) (bN GK (bN DG (bQ Jk) (bQ Jq)) (bN tE (bQ KY) (bQ Oo)))) (bN Up (bN X8 (bN wF (bN KQ (bQ Qk) bL) (bQ QD)) (bN tF (bQ tE) (bQ WK))) (bN tE (bN G3 (bQ GJ) (bQ tF)) (bN FQ (bQ tE) (bQ tF)))))) (bN R0 (bN Un (bN Ve (bN XD (bN BZ (bN tE (bQ LQ) bL) (bQ KJ)) (bN FJ (bQ MP) (bQ Rz))) (bN Dy (bN Do (bQ tE) (bQ Mu)) (bN Gr (bQ tF) (bQ Tw)))) (bN tF (bN YC (bN tE (bN Gj (bQ tF) bL) (bQ tE)) (bN Ep (bQ JW) (bQ tE))) (bN tE (bN tE (bQ Ka) (bQ Rv)) (bN tF (bQ tE) (bQ Sg))))) (bN Vn (bN tE (bN YH (bN Cd (bN JC (bQ tE) bL) (bQ I7)) (bN tE (bQ JV) (bQ Rk))) (bN Fq (bN Cj (bQ tF) (bQ tE)) (bN tE (bQ Qt) (bQ tE)))) (bN YQ (bN Qq (bN An (bN Dv (bQ QH) bL) (bQ tF)) (bN Bo (bQ tE) (bQ tF))) (bN G5 (bN tF (bQ tE) (bQ Kf)) (bN (K3 P) (bQ Qy) (bQ QL)))))))) (bN (o2 P) (bN (boot_o_4 P) (bN (boot_o_8 P) (bN tF (bN tF (bN Vl (bN tE (bN JZ (bQ tF) bL) (bQ tE)) (bN Eu (bQ Qn) (bQ (JN P)))) (bN Vf (bN GP (bN J8 (bQ WM) bL) (bQ LR)) (bN (zN P) (bQ tE) (bQ WD)))) (bN tE (bN Yv (bN zM (bN tE (bQ tE) bL) (bQ o400)) (bN Az (bQ tF) (bQ VF))) (bN zO (bN GD (bQ Lq) (bQ Kp)) (bN tE (bQ J9) (bQ Ua))))) (bN (YF P) (bN YK (bN Xo (bN tF (bN Fe (bQ Sw) bL) (bQ tF)) (bN o200 (bQ tE) (bQ Tj))) (bN Fz (bN tF (bQ tE) (bQ Jz)) (bN tE (bQ Oi) (bQ Oc)))) (bN Yd (bN tF (bN Ar (bN tF (bQ WP) bL) (bQ tE)) (bN tE (bQ RJ) (bQ tE))) (bN Cq (bN tE (bQ GZ) (bQ tE)) (bN Jy (bQ K5) (bQ tE)))))) (bN zdO (bN Wc (bN Tz (bN Vc (bN Fj (bN La (bQ NB) bL) (bQ PK)) (bN tF (bQ tE) (bQ PJ))) (bN tE (bN Dn (bQ GR) (bQ tF)) (bN Ec (bQ tE) (bQ tF)))) (bN tE (bN Yw (bN DQ (bN K7 (bQ tE) bL) (bQ Km)) (bN tE (bQ Jj) (bQ Oa))) (bN FZ (bN CT (bQ tF) (bQ tE)) (bN tE (bQ Qe) (bQ tE))))) (bN o28 (bN Vw (bN tE (bN Aq (bN Jp (bQ O6) bL) (bQ Jo)) (bN Fw (bQ QX) (bQ Qs))) (bN tF (bN CP (bQ tE) (bQ Nz)) (bN Gy (bQ tF) (bQ (VP P))))) (bN tF (bN Tn (bN Gs (bN Gm (bQ (QV P)) bL) (bQ tE)) (bN Dw (bQ IK) (bQ tE))) (bN tE (bN tE (bQ (Ra P)) (bQ o444)) (bN Kr (bQ tE) (bQ Xd))))))) (bN (boot_o_6 P) (bN (boot_o_10 P) (bN tE (bN tE (bN Yk (bN Dr (bN tE (bQ tE) bL) (bQ Mh)) (bN Cp (bQ tF) (bQ Rg))) (bN Yr (bN tE (bQ KN) (bQ JS)) (bN Gb (bQ Jr) (bQ Qp)))) (bN Xa (bN (YS P) (bN Ex (bN Kv (bQ Rw) bL) (bQ Om)) (bN tF (bQ tE) (bQ TJ))) (bN tE (bN Ef (bQ Et) (bQ tF)) (bN FT (bQ tE) (bQ tF))))) (bN X6 (bN Yn (bN tF (bN tE (bN (Gn P) (bQ Tc) bL) (bQ tE)) (bN tE (bQ QT) (bQ Ut))) (bN Dc (bN tE (bQ EY) (bQ tE)) (bN JF (bQ Jt) (bQ tE)))) (bN Tv (bN tE (bN tE (bN tE (bQ PT) bL) (bQ JL)) (bN DN (bQ Nb) (bQ Q5))) (bN tF (bN Ay (bQ tE) (bQ Py)) (bN Dd (bQ tF) (bQ Uq)))))) (bN RZ (bN tE (bN tE (bN XR (bN CJ (bN J0 (bQ tE) bL) (bQ Js)) (bN tE (bQ Jh) (bQ tE))) (bN (FW P) (bN zJ (bQ tF) (bQ tE)) (bN tE (bQ Mf) (bQ tE)))) (bN XJ (bN o86 (bN tF (bN Em (bQ V7) bL) (bQ tF)) (bN zy (bQ tE) (bQ tF))) (bN Dz (bN tF (bQ tE) (bQ Ju)) (bN JX (bQ Mv) (bQ QZ))))) (bN Vt (bN tF (bN VB (bN Dm (bN JH (bQ tF) bL) (bQ tE)) (bN Ff (bQ Kl) (bQ tE))) (bN tE (bN tE (bQ Kw) (bQ RQ)) (bN tF (bQ tE) (bQ Ur)))) (bN tE (bN Yc (bN BK (bN tE (bQ SM) bL) (bQ QS)) (bN zx (bQ tF) (bQ Vk))) (bN Ak (bN Dt (bQ Qg) (bQ Jm)) (bN tE (bQ KH) (bQ Pr)))))))))
noncomputable def zgg (P:Params):Obj:=oD 74 [eN P "__name__" 165 (.str "emacs.textrow" 1219),eN P "__doc__" 166 .none,eN P "__package__" 167 .none,eN P "__loader__" 168 (.builtin "__main__.__loader__#opaque"),eN P "__spec__" 169 .none,eN P "__annotations__" 170 (.ref 6),eN P "__builtins__" 171 (.ref 4),eN P "__file__" 173 (.str "/claim/cut.py" 172),eN P "__cached__" 174 .none,eN P "_wall" 193 (.ref 21),eN P "ParseState" 280 (.ref 68),eN P "state_of" 299 (.ref 79),eN P "LispSignal" 332 (.ref 96),eN P "WHITESPACE" 336 (.str " " 335),eN P "WORD" 338 (.str "w" 337),eN P "SYMBOL" 340 (.str "_" 339),eN P "PUNCTUATION" 342 (.str "." 341),eN P "OPENS" 344 (.str "(" 343),eN P "CLOSES" 346 (.str ")" 345),eN P "PREFIX" 348 (.str "'" 347),eN P "STRING" 350 (.str "\"" 349),eN P "ESCAPE" 352 (.str "\\" 351),eN P "QUOTES" 354 (.str "/" 353),eN P "PAIRED" 356 (.str "$" 355),eN P "BEGINS" 358 (.str "<" 357),eN P "ENDS" 360 (.str ">" 359),eN P "INHERITS" 362 (.str "@" 361),eN P "COMMENT_FENCE" 364 (.str "!" 363),eN P "STRING_FENCE" 366 (.str "|" 365),eN P "KINDS" 368 (.str " w_.()'\"\\/$<>@!|" 367),eN P "FLAGS" 370 (.str "1234bcnp" 369),eN P "Syntax" 432 (.ref 144),eN P "sorted_flags" 438 (.ref 153),eN P "read_syntax" 444 (.ref 158),eN P "SyntaxTable" 538 (.ref 225),eN P "letters" 544 (.ref 236),eN P "standard_table" 553 (.ref 243),eN P "lisp_table" 560 (.ref 250),eN P "Mark" 597 (.ref 267),eN P "syntax_at" 607 (.ref 278),eN P "pair_style" 616 (.ref 285),eN P "begin_mark" 627 (.ref 292),eN P "end_mark" 638 (.ref 299),eN P "fits" 648 (.ref 306),eN P "is_quoted" 659 (.ref 313),eN P "Walk" 846 (.ref 449),eN P "begins_expression" 854 (.ref 460),eN P "parse_partial" 871 (.ref 468),eN P "state_at" 880 (.ref 475),eN P "comment_end" 892 (.ref 482),eN P "spans_to" 907 (.ref 489),eN P "ENDS_TOO_SOON" 911 (.str "Containing expression ends prematurely" 910),eN P "UNBALANCED" 913 (.str "Unbalanced parentheses" 912),eN P "Scan" 991 (.ref 541),eN P "string_end" 1004 (.ref 552),eN P "word_end" 1014 (.ref 559),eN P "step_forward" 1025 (.ref 566),eN P "take_kind" 1035 (.ref 573),eN P "forward_one" 1047 (.ref 580),eN P "string_begin" 1060 (.ref 587),eN P "word_begin" 1071 (.ref 594),eN P "step_backward" 1085 (.ref 601),eN P "backward_one" 1099 (.ref 608),eN P "scan_by" 1111 (.ref 615),eN P "scan_lists" 1122 (.ref 622),eN P "scan_sexps" 1132 (.ref 629),eN P "backward_prefix" 1145 (.ref 636),eN P "edge" 1153 (.ref 643),eN P "forward_sexp" 1164 (.ref 650),eN P "forward_list" 1175 (.ref 657),eN P "by_turns" 1188 (.ref 664),eN P "up_list" 1198 (.ref 671),eN P "down_list" 1208 (.ref 678),eN P "matching" 1218 (.ref 685)]
noncomputable def zdw:Obj:=oF [.int 1 0,.int 0 0,.ref 20,.int 5 0,.int 0 0,.ref 27,.int 33 0,.int 0 0,.ref 78,.int 37 0,.int 0 0,.ref 85,.int 61 0,.int 0 0,.ref 105,.int 79 0,.int 0 0,.ref 152,.int 81 0,.int 0 0,.ref 157,.int 90 0,.int 0 0,.ref 164,.int 125 0,.int 0 0,.ref 235,.int 127 0,.int 0 0,.ref 242,.int 139 0,.int 0 0,.ref 249,.int 150 0,.int 0 0,.ref 256,.int 157 0,.int 0 0,.ref 277,.int 160 0,.int 0 0,.ref 284,.int 163 0,.int 0 0,.ref 291,.int 172 0,.int 0 0,.ref 298,.int 181 0,.int 0 0,.ref 305,.int 185 0,.int 0 0,.ref 312,.int 193 0,.int 0 0,.ref 319,.int 355 0,.int 0 0,.ref 459,.int 364 0,.int 0 0,.ref 467,.int 376 0,.int 0 0,.ref 474,.int 379 0,.int 0 0,.ref 481,.int 387 0,.int 0 0,.ref 488,.int 401 0,.int 0 0,.ref 495,.int 437 0,.int 0 0,.ref 551,.int 447 0,.int 0 0,.ref 558,.int 458 0,.int 0 0,.ref 565,.int 484 0,.int 0 0,.ref 572,.int 491 0,.int 0 0,.ref 579,.int 502 0,.int 0 0,.ref 586,.int 512 0,.int 0 0,.ref 593,.int 522 0,.int 0 0,.ref 600,.int 548 0,.int 0 0,.ref 607,.int 560 0,.int 0 0,.ref 614,.int 570 0,.int 0 0,.ref 621,.int 572 0,.int 0 0,.ref 628,.int 575 0,.int 0 0,.ref 635,.int 583 0,.int 0 0,.ref 642,.int 585 0,.int 0 0,.ref 649,.int 590 0,.int 0 0,.ref 656,.int 593 0,.int 0 0,.ref 663,.int 598 0,.int 0 0,.ref 670,.int 600 0,.int 0 0,.ref 677,.int 602 0,.int 0 0,.ref 684]
noncomputable def zak:=oT [.str "view" 995,.str "table" 996,.str "place" 997,.str "begin" 998,.str "code" 999,.str "at" 1000,.str "syntax" 1001]
noncomputable def zb6:=hF "string_end" (bK 52)
noncomputable def Wa:=oK "string_end" "string_end" 992 437 3 546 1002 true
noncomputable def U8:=fF "string_end" .none (.str "emacs.scans" 908) (.ref 551) (bK 52)
noncomputable def o555:=oT [.str "scan" 1008,.str "view" 1009,.str "table" 1010,.str "syntax" 1011]
noncomputable def zaO:=hF "word_end" (bK 53)
noncomputable def Uh:=oK "word_end" "word_end" 1005 447 1 553 1012 true
noncomputable def V9:=fF "word_end" .none (.str "emacs.scans" 908) (.ref 558) (bK 53)
noncomputable def zcw:=oT [.str "scan" 1018,.str "view" 1019,.str "table" 1020,.str "end" 1021,.str "syntax" 1022]
noncomputable def zbH:=hF "step_forward" (bK 54)
noncomputable def Wd:=oK "step_forward" "step_forward" 1015 458 1 560 1023 true
noncomputable def TF:=fF "step_forward" .none (.str "emacs.scans" 908) (.ref 565) (bK 54)
noncomputable def zbr:=oT [.str "scan" 1029,.str "kind" 1030,.str "opens" 1031,.str "closes" 1032]
noncomputable def zbX:=hF "take_kind" (bK 55)
noncomputable def VR:=oK "take_kind" "take_kind" 1026 484 4 567 1033 true
noncomputable def Vv:=fF "take_kind" .none (.str "emacs.scans" 908) (.ref 572) (bK 55)
noncomputable def zcN:=oT [.str "view" 1039,.str "table" 1040,.str "at" 1041,.str "depth" 1042,.str "is_expression" 1043,.str "scan" 1044]
noncomputable def zc5:=hF "forward_one" (bK 56)
noncomputable def V0:=oK "forward_one" "forward_one" 1036 491 5 574 1045 true
noncomputable def Sy:=fF "forward_one" .none (.str "emacs.scans" 908) (.ref 579) (bK 56)
noncomputable def zau:=oT [.str "view" 1051,.str "table" 1052,.str "place" 1053,.str "end" 1054,.str "at" 1055,.str "syntax" 1056,.str "is_alike" 1057]
noncomputable def zaS:=hF "string_begin" (bK 57)
noncomputable def W9:=oK "string_begin" "string_begin" 1048 502 3 581 1058 true
noncomputable def R7:=fF "string_begin" .none (.str "emacs.scans" 908) (.ref 586) (bK 57)
noncomputable def zbK:=oT [.str "scan" 1064,.str "comments" 1065,.str "view" 1066,.str "table" 1067,.str "syntax" 1068]
noncomputable def zaj:=hF "word_begin" (bK 58)
noncomputable def UG:=oK "word_begin" "word_begin" 1061 512 2 588 1069 true
noncomputable def TQ:=fF "word_begin" .none (.str "emacs.scans" 908) (.ref 593) (bK 58)
noncomputable def zaI:=oT [.str "scan" 1075,.str "comments" 1076,.str "strings" 1077,.str "view" 1078,.str "table" 1079,.str "syntax" 1080,.str "quoted" 1081,.str "begin" 1082]
noncomputable def za8:=hF "step_backward" (bK 59)
noncomputable def o600:=oK "step_backward" "step_backward" 1072 522 3 595 1083 true
noncomputable def S8:=fF "step_backward" .none (.str "emacs.scans" 908) (.ref 600) (bK 59)
noncomputable def zcq:=oT [.str "view" 1089,.str "table" 1090,.str "at" 1091,.str "depth" 1092,.str "is_expression" 1093,.str "comments" 1094,.str "strings" 1095,.str "scan" 1096]
noncomputable def zcl:=hF "backward_one" (bK 60)
noncomputable def U7:=oK "backward_one" "backward_one" 1086 548 5 602 1097 true
noncomputable def VN:=fF "backward_one" .none (.str "emacs.scans" 908) (.ref 607) (bK 60)
noncomputable def zbt:=oT [.str "view" 1103,.str "table" 1104,.str "at" 1105,.str "count" 1106,.str "depth" 1107,.str "is_expression" 1108]
noncomputable def zcL:=hF "scan_by" (bK 61)
noncomputable def Vg:=oK "scan_by" "scan_by" 1100 560 6 609 1109 true
noncomputable def Ue:=fF "scan_by" .none (.str "emacs.scans" 908) (.ref 614) (bK 61)
noncomputable def zbC:=oT [.str "view" 1115,.str "table" 1116,.str "at" 1117,.str "count" 1118,.str "depth" 1119]
noncomputable def zaF:=hF "scan_lists" (bK 62)
noncomputable def VD:=oK "scan_lists" "scan_lists" 1112 570 5 616 1120 true
noncomputable def UT:=fF "scan_lists" .none (.str "emacs.scans" 908) (.ref 621) (bK 62)
noncomputable def zc9:=oT [.str "view" 1126,.str "table" 1127,.str "at" 1128,.str "count" 1129]
noncomputable def zcS:=hF "scan_sexps" (bK 63)
noncomputable def Sq:=oK "scan_sexps" "scan_sexps" 1123 572 4 623 1130 true
noncomputable def UW:=fF "scan_sexps" .none (.str "emacs.scans" 908) (.ref 628) (bK 63)
noncomputable def zck:=oT [.str "view" 1138,.str "table" 1139,.str "at" 1140,.str "comments" 1141,.str "syntax" 1142]
noncomputable def zaP:=hF "backward_prefix" (bK 65)
noncomputable def Te:=oK "backward_prefix" "backward_prefix" 1135 575 3 630 1143 true
noncomputable def R4:=fF "backward_prefix" .none (.str "emacs.sexps" 1133) (.ref 635) (bK 65)
noncomputable def zbl:=oT [.str "view" 1149,.str "count" 1150]
noncomputable def zcD:=hF "edge" (bK 66)
noncomputable def Wi:=oK "edge" "edge" 1146 583 2 637 1151 true
noncomputable def Wt:=fF "edge" .none (.str "emacs.sexps" 1133) (.ref 642) (bK 66)
noncomputable def zbJ:=oT [.str "view" 1157,.str "table" 1158,.str "at" 1159,.str "count" 1160,.str "found" 1161]
noncomputable def za6:=hF "forward_sexp" (bK 67)
noncomputable def Wq:=oK "forward_sexp" "forward_sexp" 1154 585 4 644 1162 true
noncomputable def TY:=fF "forward_sexp" .none (.str "emacs.sexps" 1133) (.ref 649) (bK 67)
noncomputable def zbf:=oT [.str "view" 1168,.str "table" 1169,.str "at" 1170,.str "count" 1171,.str "found" 1172]
noncomputable def zaE:=hF "forward_list" (bK 68)
noncomputable def Xg:=oK "forward_list" "forward_list" 1165 590 4 651 1173 true
noncomputable def Ws:=fF "forward_list" .none (.str "emacs.sexps" 1133) (.ref 656) (bK 68)
noncomputable def zba:=oT [.str "view" 1179,.str "table" 1180,.str "at" 1181,.str "count" 1182,.str "depth" 1183,.str "way" 1184,.str "turn" 1185]
noncomputable def zbB:=hF "by_turns" (bK 69)
noncomputable def V4:=oK "by_turns" "by_turns" 1176 593 5 658 1186 true
noncomputable def U9:=fF "by_turns" .none (.str "emacs.sexps" 1133) (.ref 663) (bK 69)
noncomputable def zac:=oT [.str "view" 1192,.str "table" 1193,.str "at" 1194,.str "count" 1195]
noncomputable def zc0:=hF "up_list" (bK 70)
noncomputable def Wf:=oK "up_list" "up_list" 1189 598 4 665 1196 true
noncomputable def SX:=fF "up_list" .none (.str "emacs.sexps" 1133) (.ref 670) (bK 70)
noncomputable def zal:=oT [.str "view" 1202,.str "table" 1203,.str "at" 1204,.str "count" 1205]
noncomputable def za5:=hF "down_list" (bK 71)
noncomputable def Vz:=oK "down_list" "down_list" 1199 600 4 672 1206 true
noncomputable def R9:=fF "down_list" .none (.str "emacs.sexps" 1133) (.ref 677) (bK 71)
noncomputable def zc4:=oT [.str "view" 1212,.str "table" 1213,.str "place" 1214,.str "syntax" 1215]
noncomputable def zaW:=hF "matching" (bK 72)
noncomputable def Wk:=oK "matching" "matching" 1209 602 3 679 1216 true
noncomputable def Vx:=fF "matching" .none (.str "emacs.sexps" 1133) (.ref 684) (bK 72)
noncomputable def zfr (P:Params):BT:=(bN (boot_o_0 P) (bN (boot_o_1 P) (bN (zgg P) (bN (boot_o_7 P) (bN tE (bN tE (bN Yo (bN zK (bN Kh (bQ tE) bL) (bN K1 (bQ zbl) bL)) (bN tE (bN Pj (bQ tF) bL) (bQ Oh))) (bN (Pk P) (bN tE (bN tF (bQ TP) bL) (bN tE (bQ SX) bL)) (bN Gv (bN Qu (bQ U7) bL) (bQ tE)))) (bN Xu (bN Um (bN (Bc P) (bN Ke (bQ Wr) bL) (bN tF (bQ zaE) bL)) (bN zF (bN tE (bQ tE) bL) (bQ tF))) (bN o111 (bN tF (bN tE (bQ V9) bL) (bQ IV)) (bN Ku (bN Rh (bQ tE) bL) (bQ U4))))) (bN YJ (bN tF (bN YG (bN tE (bN DR (bQ tF) bL) (bN tE (bQ tE) bL)) (bN Gh (bN Ks (bQ zau) bL) (bQ tF))) (bN tE (bN tE (bN Jx (bQ Wa) bL) (bN Qa (bQ tE) bL)) (bN tF (bN tE (bQ Ue) bL) (bQ V2)))) (bN tE (bN tE (bN Ej (bN tE (bQ tE) bL) (bN Nq (bQ V4) bL)) (bN Ae (bN tF (bQ za8) bL) (bQ Us))) (bN CQ (bN Eb (bN Iz (bQ tE) bL) (bQ Lj)) (bN tE (bN J1 (bQ tF) bL) (bQ Ow)))))) (bN tE (bN Xw (bN Xx (bN (Wy P) (bN tE (bN tF (bQ Ss) bL) (bN tE (bQ Wt) bL)) (bN tE (bN Ou (bQ V0) bL) (bQ M6))) (bN YD (bN De (bN DY (bQ tF) bL) (bN tE (bQ tE) bL)) (bN Gd (bN K6 (bQ zbt) bL) (bQ tE)))) (bN Ti (bN tE (bN Di (bN tE (bQ Nf) bL) (bN Kd (bQ tF) bL)) (bN Ge (bN N7 (bQ tE) bL) (bQ Ox))) (bN tF (bN Bp (bN tE (bQ tE) bL) (bQ Mp)) (bN Gi (bN tF (bQ zcS) bL) (bQ Sd))))) (bN Xn (bN Va (bN Yj (bN Dl (bN G8 (bQ Mz) bL) (bN M5 (bQ tE) bL)) (bN tF (bN tE (bQ R7) bL) (bQ Rq))) (bN tE (bN Du (bN Ez (bQ o555) bL) (bN tF (bQ zaW) bL)) (bN G7 (bN tE (bQ tE) bL) (bQ U3)))) (bN tE (bN Yy (bN tF (bN Ko (bQ UL) bL) (bN Jg (bQ zac) bL)) (bN tE (bN Jc (bQ tF) bL) (bQ Pn))) (bN Ey (bN Bx (bN PL (bQ zbX) bL) (bQ tE)) (bN tE (bN N6 (bQ Te) bL) (bQ tE))))))) (bN (boot_o_5 P) (bN (boot_o_9 P) (bN Yg (bN Yu (bN Sv (bN tF (bN JQ (bQ Xh) bL) (bN tF (bQ zcD) bL)) (bN zB (bN tE (bQ tE) bL) (bQ Le))) (bN Ye (bN (G4 P) (bN tE (bQ Ww) bL) (bN Kz (bQ tF) bL)) (bN Aw (bN Rx (bQ tE) bL) (bQ Mm)))) (bN Ym (bN XX (bN GQ (bN tF (bQ Wl) bL) (bN tE (bQ Ws) bL)) (bN tE (bN PN (bQ UG) bL) (bQ tE))) (bN CV (bN tE (bN Gp (bQ tF) bL) (bQ tE)) (bN KR (bN JG (bQ zc9) bL) (bQ tE))))) (bN tE (bN tE (bN tE (bN Dh (bN Lz (bQ tE) bL) (bN RB (bQ Wq) bL)) (bN Bd (bN tF (bQ zaS) bL) (bQ tE))) (bN GK (bN DG (bN Jk (bQ tE) bL) (bN Jq (bQ zc4) bL)) (bN tE (bN KY (bQ tF) bL) (bQ Oo)))) (bN Up (bN X8 (bN wF (bN KQ (bQ Qk) bL) (bN QD (bQ tE) bL)) (bN tF (bN tE (bQ S8) bL) (bQ WK))) (bN tE (bN G3 (bN GJ (bQ zbr) bL) (bQ tF)) (bN FQ (bN tE (bQ tE) bL) (bQ tF)))))) (bN R0 (bN Un (bN Ve (bN XD (bN BZ (bN tE (bQ LQ) bL) (bN KJ (bQ tF) bL)) (bN FJ (bN MP (bQ tE) bL) (bQ Rz))) (bN Dy (bN Do (bN tE (bQ tE) bL) (bN Mu (bQ Vz) bL)) (bN Gr (bN tF (bQ zcL) bL) (bQ Tw)))) (bN tF (bN YC (bN tE (bN Gj (bQ tF) bL) (bN tE (bQ tE) bL)) (bN Ep (bN JW (bQ zaI) bL) (bQ tE))) (bN tE (bN tE (bN Ka (bQ Wd) bL) (bQ Rv)) (bN tF (bN tE (bQ UW) bL) (bQ Sg))))) (bN Vn (bN tE (bN YH (bN Cd (bN JC (bQ tE) bL) (bN I7 (bQ zbf) bL)) (bN tE (bN JV (bQ tF) bL) (bQ Rk))) (bN Fq (bN Cj (bN tF (bQ zaO) bL) (bN tE (bQ Vx) bL)) (bN tE (bN Qt (bQ VD) bL) (bQ tE)))) (bN YQ (bN Qq (bN An (bN Dv (bQ QH) bL) (bN tF (bQ zc0) bL)) (bN Bo (bN tE (bQ tE) bL) (bQ tF))) (bN G5 (bN tF (bN tE (bQ Vv) bL) (bQ Kf)) (bN (K3 P) (bN Qy (bQ tE) bL) (bQ QL)))))))) (bN (o2 P) (bN (boot_o_4 P) (bN (boot_o_8 P) (bN tF (bN tF (bN Vl (bN tE (bN JZ (bQ tF) bL) (bN tE (bQ tE) bL)) (bN Eu (bN Qn (bQ zcN) bL) (bQ (JN P)))) (bN Vf (bN GP (bN J8 (bQ WM) bL) (bN LR (bQ tE) bL)) (bN (zN P) (bN tE (bQ VN) bL) (bQ WD)))) (bN tE (bN Yv (bN zM (bN tE (bQ tE) bL) (bN o400 (bQ Xg) bL)) (bN Az (bN tF (bQ zaj) bL) (bQ VF))) (bN zO (bN GD (bN Lq (bQ tE) bL) (bQ Kp)) (bN tE (bN J9 (bQ tF) bL) (bQ Ua))))) (bN (YF P) (bN YK (bN Xo (bN tF (bN Fe (bQ Sw) bL) (bN tF (bQ za6) bL)) (bN o200 (bN tE (bQ tE) bL) (bQ Tj))) (bN Fz (bN tF (bN tE (bQ U8) bL) (bN Jz (bQ tF) bL)) (bN tE (bN Oi (bQ tE) bL) (bQ Oc)))) (bN Yd (bN tF (bN Ar (bN tF (bQ WP) bL) (bN tE (bQ U9) bL)) (bN tE (bN RJ (bQ o600) bL) (bQ tE))) (bN Cq (bN tE (bN GZ (bQ tF) bL) (bQ tE)) (bN Jy (bN K5 (bQ zck) bL) (bQ tE)))))) (bN zdw (bN Wc (bN Tz (bN Vc (bN Fj (bN La (bQ NB) bL) (bN PK (bQ tE) bL)) (bN tF (bN tE (bQ Sy) bL) (bQ PJ))) (bN tE (bN Dn (bN GR (bQ zak) bL) (bN tF (bQ za5) bL)) (bN Ec (bN tE (bQ tE) bL) (bQ tF)))) (bN tE (bN Yw (bN DQ (bN K7 (bQ tE) bL) (bN Km (bQ zba) bL)) (bN tE (bN Jj (bQ tF) bL) (bQ Oa))) (bN FZ (bN CT (bN tF (bQ zbH) bL) (bQ tE)) (bN tE (bN Qe (bQ Sq) bL) (bQ tE))))) (bN o28 (bN Vw (bN tE (bN Aq (bN Jp (bQ O6) bL) (bN Jo (bQ tF) bL)) (bN Fw (bN QX (bQ tE) bL) (bQ Qs))) (bN tF (bN CP (bN tE (bQ tE) bL) (bN Nz (bQ Wk) bL)) (bN Gy (bN tF (bQ zaF) bL) (bQ (VP P))))) (bN tF (bN Tn (bN Gs (bN Gm (bQ (QV P)) bL) (bN tE (bQ tE) bL)) (bN Dw (bN IK (bQ zcq) bL) (bQ tE))) (bN tE (bN tE (bN (Ra P) (bQ VR) bL) (bQ o444)) (bN Kr (bN tE (bQ R4) bL) (bQ Xd))))))) (bN (boot_o_6 P) (bN (boot_o_10 P) (bN tE (bN tE (bN Yk (bN Dr (bN tE (bQ tE) bL) (bN Mh (bQ Wi) bL)) (bN Cp (bN tF (bQ zc5) bL) (bQ Rg))) (bN Yr (bN tE (bN KN (bQ tE) bL) (bN JS (bQ zal) bL)) (bN Gb (bN Jr (bQ tF) bL) (bQ Qp)))) (bN Xa (bN (YS P) (bN Ex (bN Kv (bQ Rw) bL) (bN Om (bQ tE) bL)) (bN tF (bN tE (bQ TQ) bL) (bQ TJ))) (bN tE (bN Ef (bN Et (bQ zcw) bL) (bQ tF)) (bN FT (bN tE (bQ tE) bL) (bQ tF))))) (bN X6 (bN Yn (bN tF (bN tE (bN (Gn P) (bQ Tc) bL) (bN tE (bQ TY) bL)) (bN tE (bN QT (bQ W9) bL) (bQ Ut))) (bN Dc (bN tE (bN EY (bQ tF) bL) (bN tE (bQ tE) bL)) (bN JF (bN Jt (bQ zbC) bL) (bQ tE)))) (bN Tv (bN tE (bN tE (bN tE (bQ PT) bL) (bN JL (bQ tF) bL)) (bN DN (bN Nb (bQ tE) bL) (bQ Q5))) (bN tF (bN Ay (bN tE (bQ tE) bL) (bQ Py)) (bN Dd (bN tF (bQ zaP) bL) (bQ Uq)))))) (bN RZ (bN tE (bN tE (bN XR (bN CJ (bN J0 (bQ tE) bL) (bN Js (bQ zbJ) bL)) (bN tE (bN Jh (bQ tF) bL) (bQ tE))) (bN (FW P) (bN zJ (bN tF (bQ zb6) bL) (bN tE (bQ R9) bL)) (bN tE (bN Mf (bQ Vg) bL) (bQ tE)))) (bN XJ (bN o86 (bN tF (bN Em (bQ V7) bL) (bN tF (bQ zbB) bL)) (bN zy (bN tE (bQ tE) bL) (bQ tF))) (bN Dz (bN tF (bN tE (bQ TF) bL) (bQ Ju)) (bN JX (bN Mv (bQ tE) bL) (bQ QZ))))) (bN Vt (bN tF (bN VB (bN Dm (bN JH (bQ tF) bL) (bN tE (bQ tE) bL)) (bN Ff (bN Kl (bQ zbK) bL) (bQ tE))) (bN tE (bN tE (bN Kw (bQ Uh) bL) (bQ RQ)) (bN tF (bN tE (bQ UT) bL) (bQ Ur)))) (bN tE (bN Yc (bN BK (bN tE (bQ SM) bL) (bN QS (bQ Wf) bL)) (bN zx (bN tF (bQ zcl) bL) (bQ Vk))) (bN Ak (bN Dt (bN Qg (bQ tE) bL) (bQ Jm)) (bN tE (bN KH (bQ tF) bL) (bQ Pr)))))))))
noncomputable def zce (P:Params):Obj:=oD 87 [eN P "__name__" 165 (.str "law_np0103_01" 1275),eN P "__doc__" 166 .none,eN P "__package__" 167 .none,eN P "__loader__" 168 (.builtin "__main__.__loader__#opaque"),eN P "__spec__" 169 .none,eN P "__annotations__" 170 (.ref 6),eN P "__builtins__" 171 (.ref 4),eN P "__file__" 173 (.str "/claim/cut.py" 172),eN P "__cached__" 174 .none,eN P "_wall" 193 (.ref 21),eN P "ParseState" 280 (.ref 68),eN P "state_of" 299 (.ref 79),eN P "LispSignal" 332 (.ref 96),eN P "WHITESPACE" 336 (.str " " 335),eN P "WORD" 338 (.str "w" 337),eN P "SYMBOL" 340 (.str "_" 339),eN P "PUNCTUATION" 342 (.str "." 341),eN P "OPENS" 344 (.str "(" 343),eN P "CLOSES" 346 (.str ")" 345),eN P "PREFIX" 348 (.str "'" 347),eN P "STRING" 350 (.str "\"" 349),eN P "ESCAPE" 352 (.str "\\" 351),eN P "QUOTES" 354 (.str "/" 353),eN P "PAIRED" 356 (.str "$" 355),eN P "BEGINS" 358 (.str "<" 357),eN P "ENDS" 360 (.str ">" 359),eN P "INHERITS" 362 (.str "@" 361),eN P "COMMENT_FENCE" 364 (.str "!" 363),eN P "STRING_FENCE" 366 (.str "|" 365),eN P "KINDS" 368 (.str " w_.()'\"\\/$<>@!|" 367),eN P "FLAGS" 370 (.str "1234bcnp" 369),eN P "Syntax" 432 (.ref 144),eN P "sorted_flags" 438 (.ref 153),eN P "read_syntax" 444 (.ref 158),eN P "SyntaxTable" 538 (.ref 225),eN P "letters" 544 (.ref 236),eN P "standard_table" 553 (.ref 243),eN P "lisp_table" 560 (.ref 250),eN P "Mark" 597 (.ref 267),eN P "syntax_at" 607 (.ref 278),eN P "pair_style" 616 (.ref 285),eN P "begin_mark" 627 (.ref 292),eN P "end_mark" 638 (.ref 299),eN P "fits" 648 (.ref 306),eN P "is_quoted" 659 (.ref 313),eN P "Walk" 846 (.ref 449),eN P "begins_expression" 854 (.ref 460),eN P "parse_partial" 871 (.ref 468),eN P "state_at" 880 (.ref 475),eN P "comment_end" 892 (.ref 482),eN P "spans_to" 907 (.ref 489),eN P "ENDS_TOO_SOON" 911 (.str "Containing expression ends prematurely" 910),eN P "UNBALANCED" 913 (.str "Unbalanced parentheses" 912),eN P "Scan" 991 (.ref 541),eN P "string_end" 1004 (.ref 552),eN P "word_end" 1014 (.ref 559),eN P "step_forward" 1025 (.ref 566),eN P "take_kind" 1035 (.ref 573),eN P "forward_one" 1047 (.ref 580),eN P "string_begin" 1060 (.ref 587),eN P "word_begin" 1071 (.ref 594),eN P "step_backward" 1085 (.ref 601),eN P "backward_one" 1099 (.ref 608),eN P "scan_by" 1111 (.ref 615),eN P "scan_lists" 1122 (.ref 622),eN P "scan_sexps" 1132 (.ref 629),eN P "backward_prefix" 1145 (.ref 636),eN P "edge" 1153 (.ref 643),eN P "forward_sexp" 1164 (.ref 650),eN P "forward_list" 1175 (.ref 657),eN P "by_turns" 1188 (.ref 664),eN P "up_list" 1198 (.ref 671),eN P "down_list" 1208 (.ref 678),eN P "matching" 1218 (.ref 685),eN P "TextRow" 1274 (.ref 724),eN P "_law_deck" 1282 (.ref 733),eN P "_law_draw" 1292 (.ref 740),eN P "_law_many" 1298 (.ref 745),eN P "_law_put" 1304 (.ref 750),eN P "_law_between" 1315 (.ref 757),eN P "_law_word" 1324 (.ref 764),eN P "_law_item" 1345 (.ref 771),eN P "_law_level" 1358 (.ref 778),eN P "_law_told" 1370 (.ref 785),eN P "_law_lists_right" 1385 (.ref 792),eN P "_law_level_right" 1391 (.ref 797),eN P "law" 1403 (.ref 804)]
noncomputable def Yp:Obj:=oF [.int 1 0,.int 0 0,.ref 20,.int 5 0,.int 0 0,.ref 27,.int 33 0,.int 0 0,.ref 78,.int 37 0,.int 0 0,.ref 85,.int 61 0,.int 0 0,.ref 105,.int 79 0,.int 0 0,.ref 152,.int 81 0,.int 0 0,.ref 157,.int 90 0,.int 0 0,.ref 164,.int 125 0,.int 0 0,.ref 235,.int 127 0,.int 0 0,.ref 242,.int 139 0,.int 0 0,.ref 249,.int 150 0,.int 0 0,.ref 256,.int 157 0,.int 0 0,.ref 277,.int 160 0,.int 0 0,.ref 284,.int 163 0,.int 0 0,.ref 291,.int 172 0,.int 0 0,.ref 298,.int 181 0,.int 0 0,.ref 305,.int 185 0,.int 0 0,.ref 312,.int 193 0,.int 0 0,.ref 319,.int 355 0,.int 0 0,.ref 459,.int 364 0,.int 0 0,.ref 467,.int 376 0,.int 0 0,.ref 474,.int 379 0,.int 0 0,.ref 481,.int 387 0,.int 0 0,.ref 488,.int 401 0,.int 0 0,.ref 495,.int 437 0,.int 0 0,.ref 551,.int 447 0,.int 0 0,.ref 558,.int 458 0,.int 0 0,.ref 565,.int 484 0,.int 0 0,.ref 572,.int 491 0,.int 0 0,.ref 579,.int 502 0,.int 0 0,.ref 586,.int 512 0,.int 0 0,.ref 593,.int 522 0,.int 0 0,.ref 600,.int 548 0,.int 0 0,.ref 607,.int 560 0,.int 0 0,.ref 614,.int 570 0,.int 0 0,.ref 621,.int 572 0,.int 0 0,.ref 628,.int 575 0,.int 0 0,.ref 635,.int 583 0,.int 0 0,.ref 642,.int 585 0,.int 0 0,.ref 649,.int 590 0,.int 0 0,.ref 656,.int 593 0,.int 0 0,.ref 663,.int 598 0,.int 0 0,.ref 670,.int 600 0,.int 0 0,.ref 677,.int 602 0,.int 0 0,.ref 684,.int 610 0,.int 0 0,.ref 691,.int 627 0,.int 0 0,.ref 732,.int 630 0,.int 0 0,.ref 739,.int 641 0,.int 0 0,.ref 744,.int 646 0,.int 0 0,.ref 749,.int 648 0,.int 0 0,.ref 756,.int 659 0,.int 0 0,.ref 763,.int 669 0,.int 0 0,.ref 770,.int 685 0,.int 0 0,.ref 777,.int 693 0,.int 0 0,.ref 784,.int 698 0,.int 0 0,.ref 791,.int 706 0,.int 0 0,.ref 796,.int 726 0,.int 0 0,.ref 803]
noncomputable def zdB:Obj:=⟨(.type "builtin_function_or_method"),none,(.fields ⟨[.builtin "type.__prepare__",.type "type"]⟩),⟨[]⟩⟩
noncomputable def zfF (P:Params):Obj:=oD 8 [eN P "__module__" 1228 (.str "emacs.textrow" 1219),eN P "__qualname__" 1230 (.str "TextRow" 1229),eN P "__firstlineno__" 1232 (.int 610 1231),eN P "__init__" 1242 (.ref 700),eN P "begin" 1249 (.ref 707),eN P "end" 1256 (.ref 714),eN P "code_at" 1264 (.ref 721),eN P "__static_attributes__" 1267 (.ref 722)]
noncomputable def zdq:=oF [.int 612 0,.int 4 0,.ref 699,.int 616 0,.int 4 0,.ref 706,.int 619 0,.int 4 0,.ref 713,.int 622 0,.int 4 0,.ref 720]
noncomputable def zda:=oC [.str "TextRow" 1223,.str "TextRow" 1224,.str "/claim/cut.py" 1225,.int 610 0,.int 0 0,.int 0 0,.int 0 0,.int 0 0,.ref 689,.bool false,.int 181 0,.ref 690,.none,.none,.none,.none,.int 1226 0,.int 610 0,.str "/claim/cut.py" 1227]
noncomputable def zfe:Obj:=⟨(.type "frame"),none,.plain,⟨[some (.ref 691),some (.ref 3),some (.ref 688),none,some (.str "emacs.textrow" 1219),none,some (.ref 0)]⟩⟩
noncomputable def zbk:=oT [.int 1 1233]
noncomputable def zdi:=oT [.str "self" 1237,.str "codes" 1238,.str "place" 1239]
noncomputable def ze1:=hF "TextRow.__init__" (bO 74 0)
noncomputable def zcK:=oK "__init__" "TextRow.__init__" 1234 612 3 694 1240 true
noncomputable def zcx:=fF "TextRow.__init__" (.ref 693) (.str "emacs.textrow" 1219) (.ref 699) (bO 74 0)
noncomputable def zdk:=oT [.str "self" 1246]
noncomputable def zdR:=hF "TextRow.begin" (bO 74 1)
noncomputable def zay:=oK "begin" "TextRow.begin" 1243 616 1 701 1247 true
noncomputable def zc1:=fF "TextRow.begin" .none (.str "emacs.textrow" 1219) (.ref 706) (bO 74 1)
noncomputable def zfl:=oT [.str "self" 1253]
noncomputable def zfg:=hF "TextRow.end" (bO 74 2)
noncomputable def zbS:=oK "end" "TextRow.end" 1250 619 1 708 1254 true
noncomputable def zcA:=fF "TextRow.end" .none (.str "emacs.textrow" 1219) (.ref 713) (bO 74 2)
noncomputable def zeU:=oT [.str "self" 1260,.str "place" 1261]
noncomputable def zdl:=hF "TextRow.code_at" (bO 74 3)
noncomputable def zb1:=oK "code_at" "TextRow.code_at" 1257 622 2 715 1262 true
noncomputable def zb9:=fF "TextRow.code_at" .none (.str "emacs.textrow" 1219) (.ref 720) (bO 74 3)
noncomputable def zfo:=oT [.str "codes" 1265,.str "place" 1266]
noncomputable def za9 (P:Params):Obj:=oD 4 [eN P "__module__" 1228 (.str "emacs.textrow" 1219),eN P "__firstlineno__" 1232 (.int 610 1231),eN P "__init__" 1242 (.ref 700),eN P "begin" 1249 (.ref 707),eN P "end" 1256 (.ref 714),eN P "code_at" 1264 (.ref 721),eN P "__static_attributes__" 1267 (.ref 722),eN P "__dict__" 1269 (.ref 725),eN P "__weakref__" 1271 (.ref 726),eN P "__doc__" 1272 .none]
noncomputable def zaG:Obj:=⟨(.type "type"),none,(.cls { name:="TextRow",bases:=[.type "object"],mro:=[.ref 724,.type "object"],ns:=723,qualname:="TextRow",hasDict:=true,slotNames:=[],subclasses:=[],abstract:=false,collection:=none,hasDel:=false }),⟨[none,none,some (.str "TextRow" 1221),some (.str "TextRow" 1229),some (.builtin "object.__new__"),some (.bool true)]⟩⟩
noncomputable def zeV:Obj:=⟨(.type "getset_descriptor"),none,(.fields ⟨[.str "__dict__" 1268,.ref 724,.builtin "function.__dict__",.builtin "function.__dict__#set"]⟩),⟨[]⟩⟩
noncomputable def zeZ:Obj:=⟨(.type "getset_descriptor"),none,(.fields ⟨[.str "__weakref__" 1270,.ref 724,.builtin "ExceptionGroup.__weakref__",.none]⟩),⟨[]⟩⟩
noncomputable def zem:Obj:=⟨(.type "super"),none,(.fields ⟨[.ref 724,.ref 724,.ref 724]⟩),⟨[]⟩⟩
noncomputable def zdd:Obj:=⟨(.type "builtin_function_or_method"),none,(.fields ⟨[.builtin "object.__init_subclass__",.ref 724]⟩),⟨[]⟩⟩
noncomputable def zec:=hF "_law_deck" (bK 76)
noncomputable def zbR:=oC [.str "_law_deck" 1277,.str "_law_deck" 1278,.str "/claim/cut.py" 1279,.int 627 0,.int 1 0,.int 0 0,.int 0 0,.int 3 0,.ref 729,.bool true,.int 181 0,.ref 730,.none,.none,.none,.ref 731,.int 1280 0,.int 627 0,.str "/claim/cut.py" 1281]
noncomputable def zaD:=fF "_law_deck" .none (.str "law_np0103_01" 1275) (.ref 732) (bK 76)
noncomputable def zeb:=oT [.str "deck" 1286,.str "many" 1287,.str "rest" 1288,.str "mixed" 1289]
noncomputable def ze8:=hF "_law_draw" (bK 77)
noncomputable def zbj:=oK "_law_draw" "_law_draw" 1283 630 2 734 1290 true
noncomputable def zcY:=fF "_law_draw" .none (.str "law_np0103_01" 1275) (.ref 739) (bK 77)
noncomputable def zed:=hF "_law_many" (bK 78)
noncomputable def zat:=oC [.str "_law_many" 1293,.str "_law_many" 1294,.str "/claim/cut.py" 1295,.int 641 0,.int 3 0,.int 0 0,.int 0 0,.int 3 0,.ref 741,.bool true,.int 181 0,.ref 742,.none,.none,.none,.ref 743,.int 1296 0,.int 641 0,.str "/claim/cut.py" 1297]
noncomputable def zbc:=fF "_law_many" .none (.str "law_np0103_01" 1275) (.ref 744) (bK 78)
noncomputable def ze0:=hF "_law_put" (bK 79)
noncomputable def zbF:=oC [.str "_law_put" 1299,.str "_law_put" 1300,.str "/claim/cut.py" 1301,.int 646 0,.int 2 0,.int 0 0,.int 0 0,.int 3 0,.ref 746,.bool true,.int 181 0,.ref 747,.none,.none,.none,.ref 748,.int 1302 0,.int 646 0,.str "/claim/cut.py" 1303]
noncomputable def zb7:=fF "_law_put" .none (.str "law_np0103_01" 1275) (.ref 749) (bK 79)
noncomputable def zer:=oT [.str "deck" 1308,.str "codes_so_far" 1309,.str "is_needed" 1310,.str "way" 1311,.str "inner" 1312]
noncomputable def zdy:=hF "_law_between" (bK 80)
noncomputable def zci:=oK "_law_between" "_law_between" 1305 648 3 751 1313 true
noncomputable def zb4:=fF "_law_between" .none (.str "law_np0103_01" 1275) (.ref 756) (bK 80)
noncomputable def zfz:=oT [.str "deck" 1319,.str "codes_so_far" 1320,.str "nth" 1321]
noncomputable def zfL:=hF "_law_word" (bK 81)
noncomputable def zbW:=oK "_law_word" "_law_word" 1316 659 2 758 1322 true
noncomputable def zaC:=fF "_law_word" .none (.str "law_np0103_01" 1275) (.ref 763) (bK 81)
noncomputable def zf2:=oT [.str "deck" 1328,.str "codes_so_far" 1329,.str "around" 1330,.str "deep" 1331,.str "left" 1332,.str "items" 1333,.str "before" 1334,.str "prefix" 1335,.str "lists_it" 1336,.str "first" 1337,.str "start" 1338,.str "inner" 1339,.str "kind" 1340,.str "opens" 1341,.str "closes" 1342]
noncomputable def zeJ:=hF "_law_item" (bK 82)
noncomputable def zcM:=oK "_law_item" "_law_item" 1325 669 7 765 1343 true
noncomputable def zab:=fF "_law_item" .none (.str "law_np0103_01" 1275) (.ref 770) (bK 82)
noncomputable def zeq:=oT [.str "deck" 1349,.str "codes_so_far" 1350,.str "around" 1351,.str "deep" 1352,.str "left" 1353,.str "items" 1354,.str "before" 1355]
noncomputable def zeo:=hF "_law_level" (bK 83)
noncomputable def o777:=oK "_law_level" "_law_level" 1346 685 5 772 1356 true
noncomputable def zav:=fF "_law_level" .none (.str "law_np0103_01" 1275) (.ref 777) (bK 83)
noncomputable def zdm:=oT [.str "move" 1362,.str "view" 1363,.str "table" 1364,.str "at" 1365,.str "count" 1366,.str "error" 1367]
noncomputable def zfx:=hF "_law_told" (bK 84)
noncomputable def za3:=oK "_law_told" "_law_told" 1359 693 5 779 1368 true
noncomputable def zaA:=fF "_law_told" .none (.str "law_np0103_01" 1275) (.ref 784) (bK 84)
noncomputable def zeK:=oT [.str "view" 1374,.str "table" 1375,.str "item" 1376,.str "first" 1377,.str "start" 1378,.str "end" 1379,.str "inner" 1380,.str "around" 1381,.str "spot" 1382]
noncomputable def zdK:=hF "_law_lists_right" (bK 85)
noncomputable def zaw:=oK "_law_lists_right" "_law_lists_right" 1371 698 3 786 1383 true
noncomputable def zaM:=fF "_law_lists_right" .none (.str "law_np0103_01" 1275) (.ref 791) (bK 85)
noncomputable def zes:=hF "_law_level_right" (bK 86)
noncomputable def zas:=oC [.str "_law_level_right" 1386,.str "_law_level_right" 1387,.str "/claim/cut.py" 1388,.int 706 0,.int 6 0,.int 0 0,.int 0 0,.int 3 0,.ref 793,.bool true,.int 181 0,.ref 794,.none,.none,.none,.ref 795,.int 1389 0,.int 706 0,.str "/claim/cut.py" 1390]
noncomputable def zbU:=fF "_law_level_right" .none (.str "law_np0103_01" 1275) (.ref 796) (bK 86)
noncomputable def zfK:=oT [.str "script" 1395,.str "deck" 1396,.str "codes_so_far" 1397,.str "items" 1398,.str "view" 1399,.str "table" 1400]
noncomputable def zfY:=hF "law" (bK 87)
noncomputable def zao:=oK "law" "law" 1392 726 1 798 1401 true
noncomputable def zam:=fF "law" .none (.str "law_np0103_01" 1275) (.ref 803) (bK 87)
noncomputable def zew (P:Params):BT:=(bN (boot_o_0 P) (bN (boot_o_1 P) (bN (zce P) (bN (boot_o_7 P) (bN tE (bN tE (bN Yo (bN zK (bN Kh (bQ tE) (bQ zf2)) (bN K1 (bQ zbl) bL)) (bN tE (bN Pj (bQ tF) bL) (bN Oh (bQ zdk) bL))) (bN (Pk P) (bN tE (bN tF (bQ TP) (bQ tF)) (bN tE (bQ SX) bL)) (bN Gv (bN Qu (bQ U7) bL) (bN tE (bQ tF) bL)))) (bN Xu (bN Um (bN (Bc P) (bN Ke (bQ Wr) (bQ zfx)) (bN tF (bQ zaE) bL)) (bN zF (bN tE (bQ tE) bL) (bN tF (bQ zdl) bL))) (bN o111 (bN tF (bN tE (bQ V9) bL) (bN IV (bQ zdB) bL)) (bN Ku (bN Rh (bQ tE) bL) (bN U4 (bQ tE) bL))))) (bN YJ (bN tF (bN YG (bN tE (bN DR (bQ tF) (bQ tE)) (bN tE (bQ tE) bL)) (bN Gh (bN Ks (bQ zau) bL) (bN tF (bQ tE) bL))) (bN tE (bN tE (bN Jx (bQ Wa) bL) (bN Qa (bQ tE) bL)) (bN tF (bN tE (bQ Ue) bL) (bN V2 (bQ zed) bL)))) (bN tE (bN tE (bN Ej (bN tE (bQ tE) (bQ zaw)) (bN Nq (bQ V4) bL)) (bN Ae (bN tF (bQ za8) bL) (bN Us (bQ zem) bL))) (bN CQ (bN Eb (bN Iz (bQ tE) bL) (bN Lj (bQ tF) bL)) (bN tE (bN J1 (bQ tF) bL) (bN Ow (bQ tF) bL)))))) (bN tE (bN Xw (bN Xx (bN (Wy P) (bN tE (bN tF (bQ Ss) (bQ zab)) (bN tE (bQ Wt) bL)) (bN tE (bN Ou (bQ V0) bL) (bN M6 (bQ zc1) bL))) (bN YD (bN De (bN DY (bQ tF) (bQ zao)) (bN tE (bQ tE) bL)) (bN Gd (bN K6 (bQ zbt) bL) (bN tE (bQ zbj) bL)))) (bN Ti (bN tE (bN Di (bN tE (bQ Nf) (bQ tF)) (bN Kd (bQ tF) bL)) (bN Ge (bN N7 (bQ tE) bL) (bN Ox (bQ (za9 P)) bL))) (bN tF (bN Bp (bN tE (bQ tE) bL) (bN Mp (bQ zda) bL)) (bN Gi (bN tF (bQ zcS) bL) (bN Sd (bQ zdy) bL))))) (bN Xn (bN Va (bN Yj (bN Dl (bN G8 (bQ Mz) (bQ tE)) (bN M5 (bQ tE) bL)) (bN tF (bN tE (bQ R7) bL) (bN Rq (bQ tE) bL))) (bN tE (bN Du (bN Ez (bQ o555) bL) (bN tF (bQ zaW) bL)) (bN G7 (bN tE (bQ tE) bL) (bN U3 (bQ tF) bL)))) (bN tE (bN Yy (bN tF (bN Ko (bQ UL) (bQ zes)) (bN Jg (bQ zac) bL)) (bN tE (bN Jc (bQ tF) bL) (bN Pn (bQ zec) bL))) (bN Ey (bN Bx (bN PL (bQ zbX) bL) (bN tE (bQ zcK) bL)) (bN tE (bN N6 (bQ Te) bL) (bN tE (bQ zbW) bL))))))) (bN (boot_o_5 P) (bN (boot_o_9 P) (bN Yg (bN Yu (bN Sv (bN tF (bN JQ (bQ Xh) (bQ zeJ)) (bN tF (bQ zcD) bL)) (bN zB (bN tE (bQ tE) bL) (bN Le (bQ zdR) bL))) (bN Ye (bN (G4 P) (bN tE (bQ Ww) (bQ tE)) (bN Kz (bQ tF) bL)) (bN Aw (bN Rx (bQ tE) bL) (bN Mm (bQ tE) bL)))) (bN Ym (bN XX (bN GQ (bN tF (bQ Wl) (bQ zaA)) (bN tE (bQ Ws) bL)) (bN tE (bN PN (bQ UG) bL) (bN tE (bQ zb9) bL))) (bN CV (bN tE (bN Gp (bQ tF) bL) (bN tE (bQ tE) bL)) (bN KR (bN JG (bQ zc9) bL) (bN tE (bQ zer) bL))))) (bN tE (bN tE (bN tE (bN Dh (bN Lz (bQ tE) (bQ o777)) (bN RB (bQ Wq) bL)) (bN Bd (bN tF (bQ zaS) bL) (bN tE (bQ zbS) bL))) (bN GK (bN DG (bN Jk (bQ tE) bL) (bN Jq (bQ zc4) bL)) (bN tE (bN KY (bQ tF) bL) (bN Oo (bQ zbc) bL)))) (bN Up (bN X8 (bN wF (bN KQ (bQ Qk) (bQ tE)) (bN QD (bQ tE) bL)) (bN tF (bN tE (bQ S8) bL) (bN WK (bQ tE) bL))) (bN tE (bN G3 (bN GJ (bQ zbr) bL) (bN tF (bQ tE) bL)) (bN FQ (bN tE (bQ tE) bL) (bN tF (bQ tE) bL)))))) (bN R0 (bN Un (bN Ve (bN XD (bN BZ (bN tE (bQ LQ) (bQ tF)) (bN KJ (bQ tF) bL)) (bN FJ (bN MP (bQ tE) bL) (bN Rz (bQ tF) bL))) (bN Dy (bN Do (bN tE (bQ tE) bL) (bN Mu (bQ Vz) bL)) (bN Gr (bN tF (bQ zcL) bL) (bN Tw (bQ tE) bL)))) (bN tF (bN YC (bN tE (bN Gj (bQ tF) (bQ tE)) (bN tE (bQ tE) bL)) (bN Ep (bN JW (bQ zaI) bL) (bN tE (bQ zeV) bL))) (bN tE (bN tE (bN Ka (bQ Wd) bL) (bN Rv (bQ zbk) bL)) (bN tF (bN tE (bQ UW) bL) (bN Sg (bQ zb4) bL))))) (bN Vn (bN tE (bN YH (bN Cd (bN JC (bQ tE) (bQ zdm)) (bN I7 (bQ zbf) bL)) (bN tE (bN JV (bQ tF) bL) (bN Rk (bQ zeU) bL))) (bN Fq (bN Cj (bN tF (bQ zaO) bL) (bN tE (bQ Vx) bL)) (bN tE (bN Qt (bQ VD) bL) (bN tE (bQ zbF) bL)))) (bN YQ (bN Qq (bN An (bN Dv (bQ QH) (bQ zbU)) (bN tF (bQ zc0) bL)) (bN Bo (bN tE (bQ tE) bL) (bN tF (bQ zaD) bL))) (bN G5 (bN tF (bN tE (bQ Vv) bL) (bN Kf (bQ tE) bL)) (bN (K3 P) (bN Qy (bQ tE) bL) (bN QL (bQ tE) bL)))))))) (bN (o2 P) (bN (boot_o_4 P) (bN (boot_o_8 P) (bN tF (bN tF (bN Vl (bN tE (bN JZ (bQ tF) (bQ tE)) (bN tE (bQ tE) bL)) (bN Eu (bN Qn (bQ zcN) bL) (bN (JN P) (bQ tE) bL))) (bN Vf (bN GP (bN J8 (bQ WM) (bQ zfK)) (bN LR (bQ tE) bL)) (bN (zN P) (bN tE (bQ VN) bL) (bN WD (bQ zeb) bL)))) (bN tE (bN Yv (bN zM (bN tE (bQ tE) (bQ za3)) (bN o400 (bQ Xg) bL)) (bN Az (bN tF (bQ zaj) bL) (bN VF (bQ zb1) bL))) (bN zO (bN GD (bN Lq (bQ tE) bL) (bN Kp (bQ (zfF P)) bL)) (bN tE (bN J9 (bQ tF) bL) (bN Ua (bQ tF) bL))))) (bN (YF P) (bN YK (bN Xo (bN tF (bN Fe (bQ Sw) (bQ zeo)) (bN tF (bQ za6) bL)) (bN o200 (bN tE (bQ tE) bL) (bN Tj (bQ zfg) bL))) (bN Fz (bN tF (bN tE (bQ U8) bL) (bN Jz (bQ tF) bL)) (bN tE (bN Oi (bQ tE) bL) (bN Oc (bQ zat) bL)))) (bN Yd (bN tF (bN Ar (bN tF (bQ WP) (bQ zaM)) (bN tE (bQ U9) bL)) (bN tE (bN RJ (bQ o600) bL) (bN tE (bQ zdd) bL))) (bN Cq (bN tE (bN GZ (bQ tF) bL) (bN tE (bQ zdi) bL)) (bN Jy (bN K5 (bQ zck) bL) (bN tE (bQ zfz) bL)))))) (bN Yp (bN Wc (bN Tz (bN Vc (bN Fj (bN La (bQ NB) (bQ tE)) (bN PK (bQ tE) bL)) (bN tF (bN tE (bQ Sy) bL) (bN PJ (bQ tE) bL))) (bN tE (bN Dn (bN GR (bQ zak) (bQ zam)) (bN tF (bQ za5) bL)) (bN Ec (bN tE (bQ tE) bL) (bN tF (bQ zcY) bL)))) (bN tE (bN Yw (bN DQ (bN K7 (bQ tE) (bQ zeK)) (bN Km (bQ zba) bL)) (bN tE (bN Jj (bQ tF) bL) (bN Oa (bQ zaG) bL))) (bN FZ (bN CT (bN tF (bQ zbH) bL) (bN tE (bQ zfe) bL)) (bN tE (bN Qe (bQ Sq) bL) (bN tE (bQ zci) bL))))) (bN o28 (bN Vw (bN tE (bN Aq (bN Jp (bQ O6) (bQ tF)) (bN Jo (bQ tF) bL)) (bN Fw (bN QX (bQ tE) bL) (bN Qs (bQ tF) bL))) (bN tF (bN CP (bN tE (bQ tE) bL) (bN Nz (bQ Wk) bL)) (bN Gy (bN tF (bQ zaF) bL) (bN (VP P) (bQ ze0) bL)))) (bN tF (bN Tn (bN Gs (bN Gm (bQ (QV P)) (bQ zas)) (bN tE (bQ tE) bL)) (bN Dw (bN IK (bQ zcq) bL) (bN tE (bQ zbR) bL))) (bN tE (bN tE (bN (Ra P) (bQ VR) bL) (bN o444 (bQ zcx) bL)) (bN Kr (bN tE (bQ R4) bL) (bN Xd (bQ zaC) bL))))))) (bN (boot_o_6 P) (bN (boot_o_10 P) (bN tE (bN tE (bN Yk (bN Dr (bN tE (bQ tE) (bQ zcM)) (bN Mh (bQ Wi) bL)) (bN Cp (bN tF (bQ zc5) bL) (bN Rg (bQ zay) bL))) (bN Yr (bN tE (bN KN (bQ tE) (bQ zfY)) (bN JS (bQ zal) bL)) (bN Gb (bN Jr (bQ tF) bL) (bN Qp (bQ ze8) bL)))) (bN Xa (bN (YS P) (bN Ex (bN Kv (bQ Rw) (bQ tE)) (bN Om (bQ tE) bL)) (bN tF (bN tE (bQ TQ) bL) (bN TJ (bQ zfo) bL))) (bN tE (bN Ef (bN Et (bQ zcw) bL) (bN tF (bQ zdq) bL)) (bN FT (bN tE (bQ tE) bL) (bN tF (bQ tE) bL))))) (bN X6 (bN Yn (bN tF (bN tE (bN (Gn P) (bQ Tc) (bQ zav)) (bN tE (bQ TY) bL)) (bN tE (bN QT (bQ W9) bL) (bN Ut (bQ zcA) bL))) (bN Dc (bN tE (bN EY (bQ tF) bL) (bN tE (bQ tE) bL)) (bN JF (bN Jt (bQ zbC) bL) (bN tE (bQ tE) bL)))) (bN Tv (bN tE (bN tE (bN tE (bQ PT) (bQ tF)) (bN JL (bQ tF) bL)) (bN DN (bN Nb (bQ tE) bL) (bN Q5 (bQ tF) bL))) (bN tF (bN Ay (bN tE (bQ tE) bL) (bN Py (bQ ze1) bL)) (bN Dd (bN tF (bQ zaP) bL) (bN Uq (bQ zfL) bL)))))) (bN RZ (bN tE (bN tE (bN XR (bN CJ (bN J0 (bQ tE) (bQ zeq)) (bN Js (bQ zbJ) bL)) (bN tE (bN Jh (bQ tF) bL) (bN tE (bQ zfl) bL))) (bN (FW P) (bN zJ (bN tF (bQ zb6) bL) (bN tE (bQ R9) bL)) (bN tE (bN Mf (bQ Vg) bL) (bN tE (bQ tF) bL)))) (bN XJ (bN o86 (bN tF (bN Em (bQ V7) (bQ zdK)) (bN tF (bQ zbB) bL)) (bN zy (bN tE (bQ tE) bL) (bN tF (bQ zeZ) bL))) (bN Dz (bN tF (bN tE (bQ TF) bL) (bN Ju (bQ tE) bL)) (bN JX (bN Mv (bQ tE) bL) (bN QZ (bQ tE) bL))))) (bN Vt (bN tF (bN VB (bN Dm (bN JH (bQ tF) (bQ tE)) (bN tE (bQ tE) bL)) (bN Ff (bN Kl (bQ zbK) bL) (bN tE (bQ tE) bL))) (bN tE (bN tE (bN Kw (bQ Uh) bL) (bN RQ (bQ tE) bL)) (bN tF (bN tE (bQ UT) bL) (bN Ur (bQ zb7) bL)))) (bN tE (bN Yc (bN BK (bN tE (bQ SM) (bQ tE)) (bN QS (bQ Wf) bL)) (bN zx (bN tF (bQ zcl) bL) (bN Vk (bQ tE) bL))) (bN Ak (bN Dt (bN Qg (bQ tE) bL) (bN Jm (bQ tF) bL)) (bN tE (bN KH (bQ tF) bL) (bN Pr (bQ tF) bL)))))))))
noncomputable def Ba (P:Params):Heap:=⟨⟨[(boot_o_0 P),(boot_o_1 P),(o2 P),(zce P),(boot_o_4 P),(boot_o_5 P),(boot_o_6 P),(boot_o_7 P),(boot_o_8 P),(boot_o_9 P),(boot_o_10 P),tE,Yp,R0,RZ,tE,tF,Yg,tE,Xw,Wc,Un,tE,YJ,(YF P),tE,X6,Xn,o28,Vn,Vt,tE,tF,Yu,tE,Xx,Tz,Ve,tE,tF,YK,tE,Yn,Va,Vw,tE,tF,Xu,tE,Ym,Xa,Ti,tE,tF,XJ,tE,Yd,Up,Tv,tE,tF,YQ,tE,Yo,Vl,Sv,Yk,(Wy P),Vc,XD,XR,YG,Xo,tE,tF,Yj,tE,YH,VB,Um,Yv,XX,(YS P),tE,Yw,YC,o86,tE,tF,X8,tE,Yy,Tn,Qq,Yc,(Pk P),Vf,Ye,Yr,YD,tE,Dy,(FW P),tE,Fz,GK,Dc,tE,tF,Fq,tE,o111,zO,CV,tE,tF,FZ,tE,Dz,CQ,Cq,tE,tF,Ey,tE,G5,Ak,zK,tE,tF,Dr,tE,Fj,BZ,CJ,tE,tF,Dh,tE,Dl,Aq,Cd,Dm,(Bc P),zM,GQ,Ex,Di,DQ,tE,tF,Ej,Ar,wF,tE,tF,Gs,An,BK,tE,GP,(G4 P),tE,De,Dn,Do,zJ,tE,tF,DG,tE,Du,CP,Cj,tE,tF,GD,tE,Ef,Bp,CT,tE,tF,Eb,tE,G3,Ay,Bx,tE,tF,Dt,tE,Eu,zB,Cp,tE,tF,FJ,tE,Gh,o200,Bd,tE,tF,Fw,tE,Ff,zF,Az,tE,tF,Ge,tE,Ep,zy,Ae,tE,tF,DN,tE,Dw,Bo,zx,Gv,(zN P),Aw,Gb,Gd,Ec,Gr,tE,tF,tE,tE,JF,G7,Gy,tE,tF,Ku,tE,KR,FT,Gi,tE,tF,JX,tE,Jy,FQ,Dd,tE,Kr,(K3 P),tE,Kh,JZ,JQ,tE,tF,La,tE,J0,DR,Fe,Lz,(Gn P),G8,Jp,JC,JH,Ke,tE,tF,Kv,tE,K7,Gj,Em,tE,tF,KQ,tE,Ko,Gm,Dv,tE,tF,J8,tE,KN,DY,GR,tE,tF,Jx,tE,Jk,EY,Ez,tE,tF,Kw,tE,Lq,Gp,Et,tE,tF,Ka,tE,Iz,GZ,GJ,tE,PL,(Ra P),tE,Qg,Pj,Qn,tE,tF,Ou,tE,MP,Jh,Ks,tE,tF,QT,tE,QX,JV,Kl,tE,tF,PN,tE,N7,Jj,JW,tE,tF,RJ,tE,Nb,Jc,IK,tE,tF,Qu,tE,Rx,Jr,K6,tE,tF,Mf,tE,Oi,KY,Jt,tE,tF,Qt,tE,Rh,J9,JG,tE,tF,Qe,tE,Mv,J1,K5,tE,tF,N6,tE,Qy,KH,K1,tE,tF,Mh,tE,PK,KJ,Js,tE,tF,RB,tE,M5,Jo,I7,tE,tF,o400,tE,Om,Kd,Km,tE,tF,Nq,tE,QD,JL,Jg,tE,tF,QS,tE,LR,Kz,JS,tE,tF,Mu,tE,Qa,Jz,Jq,tE,tF,Nz,tE,RQ,IV,Kp,tE,tF,Mp,tE,Rv,Ju,Lj,tE,tF,Py,tE,o444,Kf,Jm,Oh,(JN P),Le,Rg,M6,PJ,Rz,tE,tF,Tj,tE,Ut,Rq,Qs,Rk,tE,tF,VF,tE,TJ,Ox,Oa,tE,tF,Us,tE,WK,Q5,Pn,tE,tF,Vk,tE,WD,Mm,Qp,tE,tF,Tw,tE,V2,Oc,Oo,tE,U3,(VP P),tE,Ur,U4,Ua,tE,tF,Sd,tE,Sg,QZ,Ow,tE,tF,Uq,tE,Xd,QL,Pr,tE,tF,Xh,tE,Ss,NB,LQ,tE,tF,Sw,tE,Tc,Mz,O6,tE,tF,Wr,tE,Wl,Rw,Nf,tE,tF,V7,tE,WP,Qk,PT,UL,(QV P),QH,SM,TP,WM,Ww,tE,tF,zak,tE,zb6,Wa,U8,tE,tF,o555,tE,zaO,Uh,V9,tE,tF,zcw,tE,zbH,Wd,TF,tE,tF,zbr,tE,zbX,VR,Vv,tE,tF,zcN,tE,zc5,V0,Sy,tE,tF,zau,tE,zaS,W9,R7,tE,tF,zbK,tE,zaj,UG,TQ,tE,tF,zaI,tE,za8,o600,S8,tE,tF,zcq,tE,zcl,U7,VN,tE,tF,zbt,tE,zcL,Vg,Ue,tE,tF,zbC,tE,zaF,VD,UT,tE,tF,zc9,tE,zcS,Sq,UW,tE,tF,zck,tE,zaP,Te,R4,tE,tF,zbl,tE,zcD,Wi,Wt,tE,tF,zbJ,tE,za6,Wq,TY,tE,tF,zbf,tE,zaE,Xg,Ws,tE,tF,zba,tE,zbB,V4,U9,tE,tF,zac,tE,zc0,Wf,SX,tE,tF,zal,tE,za5,Vz,R9,tE,tF,zc4,tE,zaW,Wk,Vx,tE,zdB,(zfF P),tE,zdq,zda,zfe,zbk,tE,tF,zdi,tE,ze1,zcK,zcx,tE,tF,zdk,tE,zdR,zay,zc1,tE,tF,zfl,tE,zfg,zbS,zcA,tE,tF,zeU,tE,zdl,zb1,zb9,zfo,(za9 P),zaG,zeV,zeZ,zem,zdd,tE,tF,zec,zbR,zaD,tE,tF,zeb,tE,ze8,zbj,zcY,tE,tF,zed,zat,zbc,tE,tF,ze0,zbF,zb7,tE,tF,zer,tE,zdy,zci,zb4,tE,tF,zfz,tE,zfL,zbW,zaC,tE,tF,zf2,tE,zeJ,zcM,zab,tE,tF,zeq,tE,zeo,o777,zav,tE,tF,zdm,tE,zfx,za3,zaA,tE,tF,zeK,tE,zdK,zaw,zaM,tE,tF,zes,zas,zbU,tE,tF,zfK,tE,zfY,zao,zam]⟩,Qz⟩
noncomputable def env0:Env:={ scope:=pw.main.scope,locals:=mainNs,globals:=mainNs,cells:=[],code:=.ref 13,frame:=some 14 }
noncomputable def cE:Code:=.body bd env0
noncomputable abbrev rz:Pos:=⟨0,0,0,0⟩
noncomputable def sts (a b:Nat):List Stmt:=(bd.drop a).take (b - a)
noncomputable abbrev CW (t:BT) (n k:Nat) (os:OsState):SharedT:=⟨t,n,Qz,⟨[]⟩,boot_drawn,k,os⟩
theorem WW (w:World) (os:OsState):segRunT treeTable pw w 11 (some (.ref 6)) 1 867 (CW (trb w.params) 15 187 os) (piecesOf (sts 0 25) env0 cE ⟨0,0,0,0⟩ [topFrame rz])=some (.next,CW (zeD w.params) 100 371 os,cE,⟨60,0,60,5⟩):=by
 unfold piecesOf
 rewrite[Fast.te10110043849684766642,Fast.te14364793385576792824,Fast.te12563942051412417395]
 kernel_rfl
theorem Vo (w:World) (os:OsState):segRunT treeTable pw w 11 (some (.ref 6)) 1 860 (CW (zeD w.params) 100 371 os) (piecesOf (sts 25 29) env0 cE ⟨60,0,60,5⟩ [topFrame rz])=some (.next,CW (zdL w.params) 230 539 os,cE,⟨90,0,124,16⟩):=by
 unfold piecesOf
 rewrite[Fast.te10110043849684766642,Fast.te14364793385576792824,Fast.te12563942051412417395]
 kernel_rfl
theorem Su (w:World) (os:OsState):segRunT treeTable pw w 11 (some (.ref 6)) 1 529 (CW (zdL w.params) 230 539 os) (piecesOf (sts 29 41) env0 cE ⟨90,0,124,16⟩ [topFrame rz])=some (.next,CW (ze6 w.params) 314 662 os,cE,⟨192,0,192,8⟩):=by
 unfold piecesOf
 rewrite[Fast.te10110043849684766642,Fast.te14364793385576792824,Fast.te12563942051412417395]
 kernel_rfl
theorem R8 (w:World) (os:OsState):segRunT treeTable pw w 11 (some (.ref 6)) 1 787 (CW (ze6 w.params) 314 662 os) (piecesOf (sts 41 42) env0 cE ⟨192,0,192,8⟩ [topFrame rz])=some (.next,CW (zfG w.params) 454 847 os,cE,⟨193,0,354,34⟩):=by
 unfold piecesOf
 rewrite[Fast.te10110043849684766642,Fast.te14364793385576792824,Fast.te12563942051412417395]
 kernel_rfl
theorem Tq (w:World) (os:OsState):segRunT treeTable pw w 11 (some (.ref 6)) 1 598 (CW (zfG w.params) 454 847 os) (piecesOf (sts 42 52) env0 cE ⟨193,0,354,34⟩ [topFrame rz])=some (.next,CW (zf3 w.params) 546 992 os,cE,⟨401,0,436,35⟩):=by
 unfold piecesOf
 rewrite[Fast.te10110043849684766642,Fast.te14364793385576792824,Fast.te12563942051412417395]
 kernel_rfl
theorem Xb (w:World) (os:OsState):segRunT treeTable pw w 11 (some (.ref 6)) 1 684 (CW (zf3 w.params) 546 992 os) (piecesOf (sts 52 74) env0 cE ⟨401,0,436,35⟩ [topFrame rz])=some (.next,CW (zfr w.params) 686 1221 os,cE,⟨609,0,609,8⟩):=by
 unfold piecesOf
 rewrite[Fast.te10110043849684766642,Fast.te14364793385576792824,Fast.te12563942051412417395]
 kernel_rfl
theorem Xi (w:World) (os:OsState):segRunT treeTable pw w 11 (some (.ref 6)) 1 713 (CW (zfr w.params) 686 1221 os) (piecesOf (sts 74 88) env0 cE ⟨609,0,609,8⟩ [topFrame rz])=some (.next,CW (zew w.params) 805 1404 os,cE,⟨726,0,732,88⟩):=by
 unfold piecesOf
 rewrite[Fast.te10110043849684766642,Fast.te14364793385576792824,Fast.te12563942051412417395]
 kernel_rfl
noncomputable def ks:List Addr:=[68,96,144,225,267,449,541,724,67,95,143,224,266,448,540,723,3,1,29,30,166,461,693,21,37,44,51,58,65,79,93,113,120,127,134,141,153,158,173,180,187,194,201,208,215,222,236,243,250,264,278,285,292,299,306,313,327,334,341,348,355,362,369,376,383,390,397,404,411,418,425,432,439,446,460,468,475,482,489,503,510,517,524,531,538,552,559,566,573,580,587,594,601,608,615,622,629,636,643,650,657,664,671,678,685,700,707,714,721,733,740,745,750,757,764,771,778,785,792,797,804,20,36,43,50,57,64,78,92,112,119,126,133,140,152,157,172,179,186,193,200,207,214,221,235,242,249,263,277,284,291,298,305,312,326,333,340,347,354,361,368,375,382,389,396,403,410,417,424,431,438,445,459,467,474,481,488,502,509,516,523,530,537,551,558,565,572,579,586,593,600,607,614,621,628,635,642,649,656,663,670,677,684,699,706,713,720,732,739,744,749,756,763,770,777,784,791,796,803]
noncomputable def KK (P:Params):Frag:=[(68,Vc),(96,Vf),(144,zM),(225,Aw),(267,G8),(449,Le),(541,QH),(724,zaG),(67,(Wy P)),(95,(Pk P)),(143,(Bc P)),(224,(zN P)),(266,(Gn P)),(448,(JN P)),(540,(QV P)),(723,(za9 P)),(3,(zce P)),(1,(boot_o_1 P)),(29,Vn),(30,Vt),(166,zJ),(461,Rk),(693,zbk),(21,Un),(37,Ve),(44,Vw),(51,Ti),(58,Tv),(65,Sv),(79,Um),(93,Qq),(113,CV),(120,Cq),(127,zK),(134,CJ),(141,Cd),(153,wF),(158,BK),(173,Cj),(180,CT),(187,Bx),(194,Cp),(201,Bd),(208,Az),(215,Ae),(222,zx),(236,Gy),(243,Gi),(250,Dd),(264,Fe),(278,Em),(285,Dv),(292,GR),(299,Ez),(306,Et),(313,GJ),(327,Ks),(334,Kl),(341,JW),(348,IK),(355,K6),(362,Jt),(369,JG),(376,K5),(383,K1),(390,Js),(397,I7),(404,Km),(411,Jg),(418,JS),(425,Jq),(432,Kp),(439,Lj),(446,Jm),(460,Qs),(468,Oa),(475,Pn),(482,Qp),(489,Oo),(503,Ow),(510,Pr),(517,LQ),(524,O6),(531,Nf),(538,PT),(552,U8),(559,V9),(566,TF),(573,Vv),(580,Sy),(587,R7),(594,TQ),(601,S8),(608,VN),(615,Ue),(622,UT),(629,UW),(636,R4),(643,Wt),(650,TY),(657,Ws),(664,U9),(671,SX),(678,R9),(685,Vx),(700,zcx),(707,zc1),(714,zcA),(721,zb9),(733,zaD),(740,zcY),(745,zbc),(750,zb7),(757,zb4),(764,zaC),(771,zab),(778,zav),(785,zaA),(792,zaM),(797,zbU),(804,zam),(20,Wc),(36,Tz),(43,Va),(50,Xa),(57,Up),(64,Vl),(78,VB),(92,Tn),(112,zO),(119,CQ),(126,Ak),(133,BZ),(140,Aq),(152,Ar),(157,An),(172,CP),(179,Bp),(186,Ay),(193,zB),(200,o200),(207,zF),(214,zy),(221,Bo),(235,G7),(242,FT),(249,FQ),(263,DR),(277,Gj),(284,Gm),(291,DY),(298,EY),(305,Gp),(312,GZ),(326,Jh),(333,JV),(340,Jj),(347,Jc),(354,Jr),(361,KY),(368,J9),(375,J1),(382,KH),(389,KJ),(396,Jo),(403,Kd),(410,JL),(417,Kz),(424,Jz),(431,IV),(438,Ju),(445,Kf),(459,Rq),(467,Ox),(474,Q5),(481,Mm),(488,Oc),(502,QZ),(509,QL),(516,NB),(523,Mz),(530,Rw),(537,Qk),(551,Wa),(558,Uh),(565,Wd),(572,VR),(579,V0),(586,W9),(593,UG),(600,o600),(607,U7),(614,Vg),(621,VD),(628,Sq),(635,Te),(642,Wi),(649,Wq),(656,Xg),(663,V4),(670,Wf),(677,Vz),(684,Wk),(699,zcK),(706,zay),(713,zbS),(720,zb1),(732,zbR),(739,zbj),(744,zat),(749,zbF),(756,zci),(763,zbW),(770,zcM),(777,o777),(784,za3),(791,zaw),(796,zas),(803,zao)]
theorem zdC (P:Params):ks=(KK P).map (·.1):=by kernel_rfl
noncomputable def vw:Program:={ pw with main:={ pw.main with body:=[bK 87] } }
noncomputable def lse:List Str:=(["_wall","ParseState","state_of","LispSignal","WHITESPACE","WORD","SYMBOL","PUNCTUATION","OPENS","CLOSES","PREFIX","STRING","ESCAPE","QUOTES","PAIRED","BEGINS","ENDS","INHERITS","COMMENT_FENCE","STRING_FENCE","KINDS","FLAGS","Syntax","sorted_flags","read_syntax","SyntaxTable","letters","standard_table","lisp_table","Mark","syntax_at","pair_style","begin_mark","end_mark","fits","is_quoted","Walk","begins_expression","parse_partial","state_at","comment_end","spans_to","ENDS_TOO_SOON","UNBALANCED","Scan","string_end","word_end","step_forward","take_kind","forward_one","string_begin","word_begin","step_backward","backward_one","scan_by","scan_lists","scan_sexps","backward_prefix","edge","forward_sexp","forward_list","by_turns","up_list","down_list","matching","TextRow","_law_deck","_law_draw","_law_many","_law_put","_law_between","_law_word","_law_item","_law_level","_law_told","_law_lists_right","_law_level_right"]:List String).map Str.ofString
noncomputable abbrev Yf (s:Shared):List (Option Obj):=ks.map s.heap.get?
noncomputable abbrev Ya (w:World):List (Option Obj):=(KK w.params).map fun p=>some p.2
theorem pre0 (w:World) (os:OsState):topGo treeTable pw w 11 (some (.ref 6)) 12 ⟨boot_heap w.params,⟨[]⟩,boot_drawn,boot_toks,os⟩ (topStub pw)=some (⟨hpa w.params,⟨[]⟩,boot_drawn,187,os⟩,⟨denote treeTable cE,cE,rz,[topFrame rz]⟩):=by
 unfold topStub
 rewrite[Fast.te15667345088766844465,Fast.te14364793385576792824,Fast.te17154629097778926822,Fast.te11892475500146522536]
 kernel_rfl
theorem zgq (w:World) (os:OsState):segRun treeTable pw w 11 (some (.ref 6)) 1 1 ⟨hpa w.params,⟨[]⟩,boot_drawn,187,os⟩ (blockOf bd env0 cE rz [topFrame rz])=some (.next,(CW (trb w.params) 15 187 os).abs,cE,rz):=by
 unfold blockOf
 rewrite[Fast.te14374325043358763698,Fast.te14364793385576792824,Fast.te1066825118222455980]
 kernel_rfl
theorem zgz (w:World) (os:OsState):topRun treeTable pw w 11 (some (.ref 6)) 2 (CW (zew w.params) 805 1404 os).abs ⟨doneF .next,cE,⟨726,0,732,88⟩,[topFrame rz]⟩=some ⟨Ba w.params,⟨[]⟩,boot_drawn,1404,os⟩:=by
 rewrite[Fast.te14082659384304107361,Fast.te14364793385576792824]
 kernel_rfl
theorem zcJ:bd=sts 0 25++(sts 25 29++(sts 29 41++(sts 41 42++(sts 42 52++(sts 52 74++(sts 74 88++[])))))):=by kernel_rfl
theorem zgh (w:World) (os:OsState):topRun treeTable pw w 11 (some (.ref 6)) 5053 ⟨boot_heap w.params,⟨[]⟩,boot_drawn,boot_toks,os⟩ (topStub pw)=some ⟨Ba w.params,⟨[]⟩,boot_drawn,1404,os⟩:=by
 have k:=piece_app (segRun_of (WW w os)) (piece_app (segRun_of (Vo w os)) (piece_app (segRun_of (Su w os)) (piece_app (segRun_of (R8 w os)) (piece_app (segRun_of (Tq w os)) (piece_app (segRun_of (Xb w os)) (piece_app (segRun_of (Xi w os)) (piece_nil (zgz w os))))))))
 rewrite[← zcJ] at k
 exact go_top (pre0 w os) (piece_block (zgq w os) k)
theorem zez:∀ w:World,(fencedOpening treeTable pw w 6000).map (fun s=>(s.heap,s.gens,s.drawn,s.toks))=some (boot_heap w.params,Array.mk [],boot_drawn,boot_toks) :=
 boot_open (by kernel_rfl) (by decide) (fun s=>by kernel_rfl)
theorem zfI (w:World):((boot_heap w.params).isNs mainGlobals&&(Array.mk []:Array GenState).size == 0,(boot_heap w.params).objs.size,(boot_heap w.params).nsMap mainGlobals "__annotations__")=(true,11,some (.ref 6)):=by kernel_rfl
theorem zeR (w:World) (os:OsState):(staticsOk (importedModules pw.main.body) (boot_heap w.params) (Ba w.params)&&namesBound pw (Ba w.params)&&gensDone ⟨Ba w.params,⟨[]⟩,boot_drawn,1404,os⟩&&laidKept (boot_heap w.params) (Ba w.params))=true:=by
 rewrite[Fast.te5923862056798008813]
 kernel_rfl
theorem zeT (w:World) (os:OsState):Yf ⟨Ba w.params,⟨[]⟩,boot_drawn,1404,os⟩=Ya w:=by kernel_rfl
theorem zfW (w:World) (os:OsState):openSeen vw lse (importedModules pw.main.body) (fun _=>true) true ⟨Ba w.params,⟨[]⟩,boot_drawn,1404,os⟩=openGood vw lse:=by
 rewrite[Fast.te4187177175401517315]
 kernel_rfl
noncomputable def o9 {α:Type} (o:Option α) (k:α→Bool):Bool:=match o with
 |some a=>k a
 |none=>false
theorem eV {α:Type} {o:Option α} {k:α→Bool} (h:o9 o k=true):∃ a,o=some a∧k a=true:=by
 cases o with
 |none=>exact(Bool.false_ne_true h).elim
 |some a=>exact⟨a,rfl,h⟩
noncomputable def Kq (o:Obj):Option FuncData:=match o.data with
 |.func fd=>some fd
 |_=>none
theorem zaK {o:Obj} {fd:FuncData} (h:Kq o=some fd):o.data=.func fd:=by
 unfold Kq at h
 cases e:o.data with
 |func g=>rw[e] at h;rw[Option.some.inj h]
 |_=>rw[e] at h;exact gG h
noncomputable def zaL (o:Obj):Option (Array Value):=match o.data with
 |.fields vs=>some vs
 |_=>none
theorem zbV {o:Obj} {vs:Array Value} (h:zaL o=some vs):o.data=.fields vs:=by
 unfold zaL at h
 cases e:o.data with
 |fields g=>rw[e] at h;rw[Option.some.inj h]
 |_=>rw[e] at h;exact gG h
noncomputable def zeQ (b:FuncBody):Option (List Stmt):=match b with
 |.stmts b=>some b
 |_=>none
theorem zaH {b:FuncBody} {x:List Stmt} (h:zeQ b=some x):b=.stmts x:=by
 cases b with
 |stmts g=>rw[Option.some.inj h]
 |_=>exact gG h
noncomputable def NZ (k:ScopeKind):Bool:=match k with
 |.function=>true
 |_=>false
theorem Q4 {k:ScopeKind} (h:NZ k=true):k=.function:=by
 cases k with
 |function=>rfl
 |_=>exact(Bool.false_ne_true h).elim
noncomputable def R2 (k:NameKind):Bool:=match k with
 |.cell=>true
 |_=>false
noncomputable def M9 (k:NameKind):Bool:=match k with
 |.local=>true
 |_=>false
theorem Mw {k:NameKind} (h:M9 k=true):k=.local:=by
 cases k with
 |«local»=>rfl
 |_=>exact(Bool.false_ne_true h).elim
theorem za2 {v:Value} {a:Addr} (h:asR v=some a):v=.ref a:=by
 cases v with
 |ref=>rw[Option.some.inj h]
 |_=>exact gG h
theorem Xq {v:Value} {x:Str} (h:LC v=some x):∃ t,v=.str x t:=by
 cases v with
 |str y t=>exact⟨t,by rw[Option.some.inj h]⟩
 |_=>exact gG h
noncomputable def fdX (o:Obj):FuncData:=(Kq o).getD default
noncomputable def fdO (K:Frag) (a:Addr):FuncData:=((K.lookup a).bind Kq).getD default
noncomputable def H9 (K:Frag) (fd:FuncData):Bool:=o9 (asR fd.code) fun c=>o9 (K.lookup c) fun o=>o9 (zaL o) fun vs=>o9 (vs[1]?:Option Value) fun v=>o9 (LC v) fun q=>q == fd.qualname
theorem rm {K:Frag} {fd:FuncData} (h:H9 K fd=true):∃ c oc vs t,fd.code=.ref c∧K.lookup c=some oc∧oc.data=.fields vs∧vs[1]?=some (.str fd.qualname t):=by
 refine aV (fun c h1 h=>?_) (eV h)
 refine aV (fun o h2 h=>?_) (eV h)
 refine aV (fun vs h3 h=>?_) (eV h)
 refine aV (fun v h4 h=>?_) (eV h)
 refine aV (fun q h5 h=>?_) (eV h)
 obtain⟨t,rfl⟩:=Xq h5
 rw[eq_of_beq h] at h4
 exact⟨c,o,vs,t,za2 h1,h2,zbV h3,h4⟩
noncomputable def XF (K:Frag) (p:FnI):Bool:=o9 (K.lookup p.a) fun o=>o9 (Kq o) fun fd =>
  H9 K fd&&(o9 (zeQ fd.body) (fun b=>bZ fd.scope.names (p.ps++p.more) p.S (.many b))&&(NZ fd.scope.kind &&
  (!fd.scope.isGenerator&&(!fd.scope.isCoroutine&&(Nat.beq fd.globals mainGlobals&&(Nat.beq fd.builtins builtinsNs &&
  (fd.scope.names.all (fun x=>!R2 x.2)&&(p.ps.all (fun x=>o9 (fd.scope.names.lookup x) M9)&&decide (p.ps++p.more).Nodup))))))))
theorem zfD {K:Frag} {p:FnI} (h:XF K p=true) (hb:∀ vals:List Value,vals.length+p.dv.length=p.ps.length→∀ S,peek K S (bindArgs (fdO K p.a) ⟨vals,[]⟩)=some (p.ps.zip (vals++p.dv))) :
  ∃ sc body,Vd K p.a sc p.ps p.dv body∧bZ sc (p.ps++p.more) p.S (.many body)=true∧(p.ps++p.more).Nodup:=by
 refine aV (fun o hl h=>?_) (eV h)
 refine aV (fun fd hf h=>?_) (eV h)
 have e:fdO K p.a=fd:=by unfold fdO;rw[hl];show (Kq o).getD default=fd;rw[hf];rfl
 rw[e] at hb
 refine b2 h fun h1 h=>b2 h fun h2 h=>b2 h fun h3 h=>b2 h fun h4 h=>b2 h fun h5 h=>b2 h fun h6 h=>b2 h fun h7 h=>b2 h fun h8 h=>b2 h fun h9 h10=>?_
 refine aV (fun b hbd h2=>?_) (eV h2)
 refine⟨fd.scope.names,b,⟨⟨o,fd,hl,zaK hf,rm h1,zaH hbd,rfl,Q4 h3,Bool.not_eq_true' _▸h4,Bool.not_eq_true' _▸h5,Nat.eq_of_beq_eq_true h6,Nat.eq_of_beq_eq_true h7,hb⟩,fun x hx e=>?_,fun x hx=>?_⟩,h2,of_decide_eq_true h10⟩
 ·have:=List.all_eq_true.mp h8 x hx
  rw[e] at this
  exact(Bool.false_ne_true this).elim
 ·refine aV (fun k hk h=>?_) (eV (List.all_eq_true.mp h9 x hx))
  rw[hk,Mw h]
theorem Vh (P:Params):fns.all (XF (KK P))=true:=by kernel_rfl
theorem Rc (P:Params) (v:Nat→Value) (S:Setting):fns.map (fun p=>peek (KK P) S (bindArgs (fdO (KK P) p.a) ⟨(List.range (p.ps.length - p.dv.length)).map v,[]⟩))=fns.map fun p=>some (p.ps.zip ((List.range (p.ps.length - p.dv.length)).map v++p.dv)):=by
 rewrite[Fast.te9782568553167038054]
 kernel_rfl
theorem Je (l:List Value):(List.range l.length).map (fun i=>l.getD i .none)=l:=by
 apply List.ext_getElem
 ·simp
 ·intro i h1 h2
  simp at h1
  simp[h1]
theorem zby (P:Params):bc (KK P):=by
 refine⟨fun p hp=>zfD (List.all_eq_true.mp (Vh P) p hp) fun vals hl S=>?_⟩
 have e:=(List.map_inj_left.mp (Rc P (fun i=>vals.getD i .none) S)) p hp
 have k:p.ps.length - p.dv.length=vals.length:=by lia
 rw[k,Je] at e
 exact e
noncomputable def NT:Option (Option Value)→Bool
 |some none=>true
 |_=>false
theorem bid {α:Type} {r:Option (Option α)} {v:α} (h:r.bind id=some v):r=some (some v):=by
 cases r with
 |none=>exact gG h
 |some r=>exact congrArg some h
noncomputable def zco (r:Option (Option Value)) (a:Addr):Bool:=o9 (r.bind id) fun v=>o9 (asR v) fun b=>Nat.beq b a
theorem Av {r:Option (Option Value)} (h:NT r=true):r=some none:=by
 cases r with
 |none=>exact(Bool.false_ne_true h).elim
 |some r=>cases r with
  |none=>rfl
  |some=>exact(Bool.false_ne_true h).elim
theorem HN {r:Option (Option Value)} {a:Addr} (h:zco r a=true):r=some (some (.ref a)):=by
 refine aV (fun v h1 h=>?_) (eV h)
 refine aV (fun b h2 h=>?_) (eV h)
 rw[bid h1,za2 h2,Nat.eq_of_beq_eq_true h]
noncomputable def zfQ (v:Value):Option String:=match v with
 |.builtin x=>some x
 |_=>none
theorem zb8 {v:Value} {x:String} (h:zfQ v=some x):v=.builtin x:=by
 cases v with
 |builtin=>rw[Option.some.inj h]
 |_=>exact gG h
noncomputable def zde (K:Frag):Bool:=gtab.all fun p=>o9 ((nsIn K mainGlobals p.1).bind id) fun v=>er v == p.2
noncomputable def zgd (K:Frag):Bool:=ucls.all fun C=>(List.range attrs.length).all fun n=>match iI rG C n with
 |none=>plainGet K C (bH n)&&hasDictIn K C&&NT (findIn K (.ref C) (bH n))&&NT (takerIn K C (bH n))
 |some f=>plainGet K C (bH n)&&zco (findIn K (.ref C) (bH n)) f&&isFn K (.ref f)&&keepIn K (.ref f)
noncomputable def zgF (K:Frag):Bool:=ctab.all fun p=>!(ucls.contains p.1)||(makesIn K p.1&&zco (findIn K (.ref p.1) "__init__") p.2&&isFn K (.ref p.2)&&keepIn K (.ref p.1))
noncomputable def setB (K:Frag):Bool:=ucls.all fun C=>o9 ((findIn K (.ref C) "__setattr__").bind id) (fun v=>o9 (zfQ v) fun x=>x == "object.__setattr__")&&plainOver K C
theorem WT (P:Params):zde (KK P)=true:=by kernel_rfl
theorem Ro (P:Params):zgd (KK P)=true:=by kernel_rfl
theorem zbu (P:Params):zgF (KK P)=true:=by kernel_rfl
theorem zcW (P:Params):setB (KK P)=true:=by kernel_rfl
theorem zfO (P:Params):(ftab.all fun a=>keepIn (KK P) (.ref a))=true:=by kernel_rfl
theorem zbv:((List.range attrs.length).all fun k=>(List.range attrs.length).all fun m=>!(bH k == bH m)||Nat.beq k m)=true:=by kernel_rfl
theorem nog (P:Params):∀ b,nsIn (KK P) mainGlobals (jX b)=some none:=by intro b;cases b<;>kernel_rfl
theorem zeh (P:Params):KF (KK P) where
 glob p hp:=by
  refine aV (fun v hv h=>?_) (eV (List.all_eq_true.mp (WT P) p hp))
  exact⟨v,bid hv,eq_of_beq h⟩
 noglob:=nog P
 norange:=by kernel_rfl
 fld C hC n hn hm:=by
  have:=List.all_eq_true.mp (List.all_eq_true.mp (Ro P) C hC) n (List.mem_range.mpr hn)
  rw[hm] at this
  simp only[Bool.and_eq_true] at this
  exact⟨this.1.1.1,this.1.1.2,Av this.1.2,Av this.2⟩
 meth C hC n f hn hm:=by
  have:=List.all_eq_true.mp (List.all_eq_true.mp (Ro P) C hC) n (List.mem_range.mpr hn)
  rw[hm] at this
  simp only[Bool.and_eq_true] at this
  exact⟨this.1.1.1,HN this.1.1.2,this.1.2,this.2⟩
 cls p hp hu:=by
  have:=List.all_eq_true.mp (zbu P) p hp
  rw[show ucls.contains p.1=true from List.contains_iff_mem.mpr hu] at this
  simp only[Bool.not_true,Bool.false_or,Bool.and_eq_true] at this
  exact⟨this.1.1.1,HN this.1.1.2,this.1.2,this.2⟩
 set C hC:=by
  refine b2 (List.all_eq_true.mp (zcW P) C hC) fun h1 h2=>⟨?_,h2⟩
  refine aV (fun v hv h=>?_) (eV h1)
  refine aV (fun x hx h=>?_) (eV h)
  rw[bid hv,zb8 hx,eq_of_beq h]
 fn a ha:=List.all_eq_true.mp (zfO P) a ha
 inj k m hk hm e:=by
  have:=List.all_eq_true.mp (List.all_eq_true.mp zbv k (List.mem_range.mpr hk)) m (List.mem_range.mpr hm)
  rw[e,beq_self_eq_true] at this
  simp only[Bool.not_true,Bool.false_or] at this
  exact Nat.eq_of_beq_eq_true this
noncomputable def Vb (P:Params):List DictEntry:=match Pk P with
 |⟨_,_,.dict ⟨l⟩ _,_⟩=>l
 |_=>[]
theorem zdt (P:Params):((Vb P).all fun e=>(LC e.key).isSome)=true:=by kernel_rfl
theorem zcE (P:Params):StrKeys ⟨Vb P⟩:=by
 intro e he
 obtain⟨n,hk⟩:=Option.isSome_iff_exists.mp (List.all_eq_true.mp (zdt P) e (Array.mem_toList_iff.mpr he))
 obtain⟨t,hk⟩:=Xq hk
 exact⟨n,t,hk⟩
theorem zf9 (P:Params):XK (KK P) where
 cls:=⟨"LispSignal","LispSignal",95,[.type "Exception"],[],[],false,none,none,some (.ref 80),none,some (.str "LispSignal" 302),some (.str "LispSignal" 310),some (.bool true),nsFind ⟨Vb P⟩,by kernel_rfl,
  fun h hk=>⟨Pk P,⟨Vb P⟩,3,hk 95 _ (by kernel_rfl),by kernel_rfl,zcE P,fun _=>rfl⟩,by kernel_rfl,by kernel_rfl,by kernel_rfl,by kernel_rfl⟩
 ga:=by kernel_rfl
 gt:=by kernel_rfl
 sym:=by kernel_rfl
 own:=by kernel_rfl
 keep:=by kernel_rfl
 fnc:=by kernel_rfl
 init:=⟨[("self",.local),("symbol",.local),("data",.local)],⟨40,8,40,12⟩,⟨40,8,40,19⟩,⟨40,22,40,28⟩,⟨40,8,40,28⟩,⟨41,8,41,12⟩,⟨41,8,41,17⟩,⟨41,20,41,24⟩,⟨41,8,41,24⟩,
  ⟨Qq,fdX Qq,by kernel_rfl,by kernel_rfl,rm (by kernel_rfl),by kernel_rfl,by kernel_rfl,by kernel_rfl,by kernel_rfl,by kernel_rfl,by kernel_rfl,by kernel_rfl,fun vals hl S=>by
   rcases vals with _|⟨a,_|⟨b,_|⟨c,_|⟨d,r⟩⟩⟩⟩
   iterate 3 cases hl
   ·kernel_rfl
   ·simp at hl⟩,
  by decide,by decide⟩
theorem zct (P:Params):Qx (KK P) :=
 ⟨wF,fdX wF,[("fast",.str "text"),("fast",.str "flag")],
  0,⟨80,11,80,13⟩,⟨80,11,80,18⟩,⟨80,20,80,24⟩,⟨80,29,80,33⟩,⟨80,37,80,42⟩,⟨80,46,80,50⟩,⟨80,54,80,58⟩,⟨80,46,80,58⟩,⟨80,19,80,59⟩,⟨80,11,80,60⟩,⟨80,4,80,60⟩,[],by kernel_rfl,by kernel_rfl,rm (by kernel_rfl),by decide,by kernel_rfl,
  by kernel_rfl,by kernel_rfl,by kernel_rfl,by kernel_rfl,fun v=>by kernel_rfl⟩
theorem ze7 (P:Params):HdOk (KK P) where
 kf:=zeh P
 xk:=zf9 P
 fns:=zby P
 fnc:=zct P
 sys:=⟨boot_o_1 P,by kernel_rfl⟩
 t29:=⟨0,by kernel_rfl⟩
 law:=by kernel_rfl
theorem left:LeftO pw vw lse (fun _=>true) Yf Ya 6000 :=
 LeftO.of_pieces zez zfI zgh (by decide) fun w=>funext fun os=>Prod.ext (zeR w os) (Prod.ext (zfW w os) (zeT w os))
noncomputable def dLaw:DefRec:=match bK 87 with
 |.FunctionDef n a b _ _ _ s _ _ p=>⟨n,a,b,s,p⟩
 |_=>⟨"",⟨[],[],none,[],[],none,[]⟩,[],default,default⟩
theorem Sh:dLaw.name="law":=by kernel_rfl
theorem zcP:defOf vw LW.row.name=some (dLaw,[]):=by kernel_rfl
theorem zcu:LW.row.prog.theDef LW.row.name=some (dLaw.params,dLaw.body,dLaw.scope):=by kernel_rfl
theorem zfZ:kwWritten? dLaw.params.kwonlyargs dLaw.params.kw_defaults=some []:=by kernel_rfl
theorem zf1:(chainsOk vw&&opensWell LW.row.prog&&(frees LW.row.toRowW&&LW.row.within.isEmpty))=true:=by kernel_rfl
theorem Xf:LW.row.prog.bare:=⟨rfl,rfl,rfl,rfl,rfl,by decide +kernel⟩
theorem WN:LW.row.toRowW.promised:=⟨[.list []],by decide +kernel,by decide +kernel⟩
noncomputable abbrev P0:=LW.row.prog
theorem zfN:namesResolve P0=true:=by kernel_rfl
theorem zef:noRoadLSs { strict:=!(importedModules P0.main.body).all cThrough.contains,foot:=none,bare:=(["vars","dir","locals"]:List Str).filter (readsOut P0 P0.main.body) } P0.main.body=true:=by kernel_rfl
theorem zeL:(namesMeet P0 P0.main.body fun _ n=>attrL n)=true:=by kernel_rfl
theorem zeG:(sreFenced P0.main&&((moduleNames P0.main.body).isEmpty||lookedIntoSs (moduleNames P0.main.body) P0.main.body))=true:=by kernel_rfl
theorem zeP:P0.boundNames.all (fun n=>!worldNames.contains n)=true:=by kernel_rfl
theorem zfE:looksOpen P0=true:=look_both (look_both (look_both (look_both zeG zfN) zeP) zef) zeL
theorem Ux:LW.wellSaid=true:=by
 unfold OpenLaw.wellSaid OpenRow.wellSaid OpenRow.partSaid
 rewrite[zfE]
 kernel_rfl
end Mine.Internal
theorem PySem.Challenge.cw_np0103_01_holds : PySem.Challenge.rw_np0103_01.Holds := by
  exact holds_law Mine.Internal.Ux fun said => holds_open (r := Mine.Internal.LW.row) (q := Mine.Internal.vw) (loose := Mine.Internal.lse) (Xt := fun _ => true) (XP := fun _ _ => True) (Yf := Mine.Internal.Yf) (Ya := Mine.Internal.Ya) (YP := fun w h => (Mine.Internal.KK w.params).In h) (d := Mine.Internal.dLaw) (kwd := []) (N := 6000)
    Mine.Internal.left (fun w s e => Frag.in_of (Mine.Internal.zdC _) e) (fun w h h' x k => Frag.In.keeps x k) (fun _ _ => trivial) (fun _ _ _ _ _ => trivial) Mine.Internal.zcP Mine.Internal.zcu Mine.Internal.zfZ (fun s _ => recFacts_nil rfl) rfl said Mine.Internal.zf1 Mine.Internal.Xf Mine.Internal.WN
    (Mine.Internal.walk Mine.Internal.ze7 Mine.Internal.Sh)
