/-
 Laid together: Alk18, LawBody, Qua18, Mean18, MeanB18, SameK, LawQuasi.
-/
import Derived.Test.YtaeioidifpebdaaGreatDoorGD
import Derived.Test.YtaeioidifpebdaaGreatDoorGA
import Derived.Test.YtaeioidifpebdaaGreatDoorGC
import Derived.Test.YtaeioidifpebdaaGreatDoorSame3
section
namespace Go.Proofs.YtaeioidifpebdaaGreatDoor
open Go Go.RowKit Go.Lib
set_option linter.unusedSimpArgs false
set_option linter.unusedVariables false
set_option maxHeartbeats 4000000
set_option maxRecDepth 100000
theorem orT {b:Bool} {P:Prop} (h:P):b=true∨b=false∧P:=by cases b<;>simp [h]
theorem orF {b:Bool} {P:Prop} (h:P):b=false∨b=true∧P:=by cases b<;>simp [h]
theorem XX {d:D} (hok:d.Ok):∃b:Bool,Pure Tryz.prog 16 [.agg d.cc] (.one (.v (.bool b)))∧(b=false→¬d.weigh p18 800<0):=⟨_,FE d hok,fun h=>by simpa using h⟩
theorem XY {d:D} (hok:d.Ok) (hw:¬d.weigh p18 800<0):Pure Tryz.prog 20 [.agg d.cc] (.one (.v (.int .i64 d.depth))):=xS d (by have:=(FF hw).1;omega)
theorem XZ {d:D} (hok:d.Ok) (hw:¬d.weigh p18 800<0):Pure Tryz.prog 22 [.agg d.cc] (.one (.v (.bool (oD d)))):=PM d hok (FI _ d 800 (by omega) (by omega)) (by have:=(FF hw).1;omega)
theorem YA {d:D} (hok:d.Ok) (hw:¬d.weigh p18 800<0) (hd:¬50<d.depth) (hm:oD d=true):Lit 0 d:=Lit.of hok hw (by omega) (rN.1 hm).1
end Go.Proofs.YtaeioidifpebdaaGreatDoor
end
section
namespace Go.Proofs.YtaeioidifpebdaaGreatDoor
open Go Go.RowKit Go.Lib
set_option linter.unusedSimpArgs false
set_option linter.unusedVariables false
set_option maxRecDepth 100000
mutual
noncomputable def D.mkd:D→Bool
 | .mk k _ _ _ t l=>(decide (k=6)&&(eqB t lF||eqB t cW||eqB t cE))||nO l
noncomputable def nO:List D→Bool
 | []=>false
 | d::l=>d.mkd||nO l
end
theorem D.mkd_eq (d:D):d.mkd=((decide (d.k=6)&&(eqB d.t lF||eqB d.t cW||eqB d.t cE))||nO d.l):=by cases d;rw [D.mkd];rfl
theorem BK {d:D}:∀{l:List D},nO l=false→d∈l→d.mkd=false
 | x::l,h,hd=>by
  rw [nO,Bool.or_eq_false_iff] at h
  rcases List.mem_cons.1 hd with rfl|hd
  ·exact h.1
  ·exact BK h.2 hd
theorem FO {d x:D} (h:d.mkd=false) (hx:x∈d.l):x.mkd=false:=by
 rw [D.mkd_eq,Bool.or_eq_false_iff] at h;exact BK h.2 hx
theorem JL:∀l:List D,(aE l).mkd=nO l
 | []=>rfl
 | d::l=>by
  have:=JL l
  rw [cJ,bW,D.mkd,nO,nO,nO,this,nO];simp
theorem yP {d:D} (h:d.mkd=false):gY d lF=false∧gY d cW=false∧gY d cE=false:=by
 rw [D.mkd_eq,Bool.or_eq_false_iff] at h
 have h:=h.1
 unfold gY
 revert h
 cases decide (d.k=6)<;>cases eqB d.t lF<;>cases eqB d.t cW<;>cases eqB d.t cE<;>simp
theorem BL {d:D} (h:d.k≠7) (s:ByteArray):lS d s=none:=by unfold lS;rw [EI h]
theorem nK {d:D} {s:ByteArray} (h:gY d.fst s=false):lS d s=none:=by
 unfold lS eM;rw [if_neg (fun q=>by rw [h] at q;cases q.2)]
theorem DH (s:ByteArray) (y:D):lS (aE [bJ s,y]) s=some y:=by
 unfold lS;rw [iI,oW,aY rfl];rfl
theorem UU {w s:ByteArray} (h:w≠s) (r:List D):lS (aE (bJ w::r)) s=none:=by
 unfold lS;rw [BA _ h]
theorem yQ {d:D} (ht:d.Two) (h:d.mkd=false):lS d lF=none∧lS d cE=none∧lS d cW=none:=by
 by_cases hk:d.k=7
 ·have hl:=ht.pair hk
  obtain⟨h1,h2,h3⟩:=yP (FO h (show d.fst∈d.l by rw [hl];simp))
  exact⟨nK h1,nK h3,nK h2⟩
 ·exact⟨BL hk _,BL hk _,BL hk _⟩
inductive Mean:K→D→Prop
 | const {d:D}:Mean (bT d) d
 | cons {a b:K} {x y:D}:Mean a x→Mean b y→Mean (kH a b) (bW x y)
 | vec {a:K} {l:List D}:l.length≤1000→Mean a (aE l)→Mean (fZ [eL zW,a]) (.mk 8 0 false [] e0 l)
 | app {a b:K} {l:List D} {y:D}:l.length≤1000→Mean a (aE l)→Mean b y→Mean (fZ [eL jJ,a,b]) (l.foldr bW y)
noncomputable def quK (d:D):Rs:=exV.q d 1
theorem BM {d:D} (ht:d.Two) (ho:d.Ok):quK d=kI exV d 1:=by
 have he:∀d',Gd (d.msr+1) d'→eB (evs d.msr) d'=exV.e d':=fun d' hd=>(SR hd).symm
 have hg:Agr d.msr ⟨eB (evs d.msr),(evs d.msr).b,(evs d.msr).q⟩ exV:=⟨fun d' hd=>he d' (hd.le (Nat.le_succ _)),(yO _).b,(yO _).q⟩
 show (evs (d.msr+1)).q d 1=_
 rw [evs]
 exact SP hg ⟨ht,ho,Nat.lt_succ_self _⟩ 1
theorem FP {d:D} (ht:d.Two) (ho:d.Ok) (h7:d.k≠7) (h8:d.k≠8):quK d=(bT d,0):=by
 rw [BM ht ho]
 unfold kI
 rw [BL h7];dsimp only
 rw [BL h7];dsimp only
 rw [if_neg h8,if_neg h7]
theorem vU {a b:D} (ht:(bW a b).Two) (ho:(bW a b).Ok) (h1:gY a lF=false) (h2:gY a cE=false) (h3:lS a cW=none):quK (bW a b)=(kH (quK a).1 (quK b).1,max (quK b).2 (quK a).2):=by
 rw [BM ht ho]
 unfold kI
 rw [nK (show gY (bW a b).fst lF=false from h1)];dsimp only
 rw [nK (show gY (bW a b).fst cE=false from h2)];dsimp only
 rw [show (bW a b).k=7 from rfl,if_neg (by decide),if_pos rfl,show (bW a b).fst=a from rfl,show (bW a b).snd=b from rfl,h3]
 rfl
theorem WW {y:D} (ht:(aE [bJ lF,y]).Two) (ho:(aE [bJ lF,y]).Ok):quK (aE [bJ lF,y])=exK y:=by
 rw [BM ht ho]
 unfold kI
 rw [DH];dsimp only
 rw [if_pos rfl];rfl
theorem PN {y b:D} (ht:(bW (aE [bJ cW,y]) b).Two) (ho:(bW (aE [bJ cW,y]) b).Ok):quK (bW (aE [bJ cW,y]) b)=(fZ [eL jJ,(exK y).1,(quK b).1],max (quK b).2 (exK y).2):=by
 have hn:∀s,gY (bW (aE [bJ cW,y]) b).fst s=false:=fun s=>EH (d:=aE [bJ cW,y]) (show (7:Int)≠6 by decide) s
 rw [BM ht ho]
 unfold kI
 rw [nK (hn _)];dsimp only
 rw [nK (hn _)];dsimp only
 rw [show (bW (aE [bJ cW,y]) b).k=7 from rfl,if_neg (by decide),if_pos rfl,show (bW (aE [bJ cW,y]) b).fst=aE [bJ cW,y] from rfl,DH]
 rfl
theorem JM {x:D} (ht:(aE [bJ dN,x]).Two) (ho:(aE [bJ dN,x]).Ok):exK (aE [bJ dN,x])=(bT x,0):=by
 rw [UO ht ho,nC _ (by simp [vI]),IG]
theorem TA {d:D} (hp:d.Plain) (hk:d.k=8):d=.mk 8 0 false [] e0 d.l∧d.l.length≤62:=by
 obtain⟨k,c,neg,mag,t,l⟩:=d
 have hk:k=8:=hk
 subst hk
 rw [D.Plain] at hp
 obtain⟨-,⟨h1,h2,h3,-⟩,-,-,-,-,-,h4,-⟩:=hp
 simp only [D.k,D.c,D.neg,D.mag,D.t] at h1 h2 h3
 have h1:=h1.resolve_left (by decide)
 have h2:=h2.resolve_left (by decide)
 have h3:=h3.resolve_left (by decide)
 subst h1 h3
 rw [h2.1,h2.2]
 exact⟨rfl,h4⟩
theorem PO {d:D} (hp:d.Plain) (hk:d.k=7):d=bW d.fst d.snd:=by
 have hl:=hp.two.pair hk
 generalize d.fst=a at hl
 generalize d.snd=b at hl
 obtain⟨k,c,neg,mag,t,l⟩:=d
 have hk:k=7:=hk
 have hl:l=[a,b]:=hl
 subst hk hl
 rw [D.Plain] at hp
 obtain⟨-,⟨h1,h2,h3,-⟩,-⟩:=hp
 simp only [D.k,D.c,D.neg,D.mag,D.t] at h1 h2 h3
 have h1:=h1.resolve_left (by decide)
 have h2:=h2.resolve_left (by decide)
 have h3:=h3.resolve_left (by decide)
 subst h1 h3
 rw [h2.1,h2.2]
 rfl
theorem sR:∀(n:Nat) (d:D),d.msr<n→d.Plain→d.Ok→d.mkd=false→∃c,quK d=(c,0)∧Mean c d
 | 0,d,h,_,_,_=>absurd h (Nat.not_lt_zero _)
 | n+1,d,h,hp,ho,hm=>by
  have ht:=hp.two
  obtain⟨o1,o2,o3⟩:=yQ ht hm
  by_cases h8:d.k=8
  ·obtain⟨e,hlen⟩:=TA hp h8
   have hg:=Gd.vec (n:=d.msr+1) ⟨ht,ho,Nat.lt_succ_self _⟩ h8
   have hpl:(aE d.l).Plain:=dY.2 (by obtain⟨k,c,neg,mag,t,l⟩:=d;rw [D.Plain] at hp;exact hp.2.2.2.2.2.2.2.2)
   have hmk:(aE d.l).mkd=false:=by rw [JL];rw [D.mkd_eq,Bool.or_eq_false_iff] at hm;exact hm.2
   obtain⟨c,h1,h2⟩:=sR n (aE d.l) (by have:=hg.2;omega) hpl hg.1.2.1 hmk
   refine⟨fZ [eL zW,c],?_,?_⟩
   ·rw [BM ht ho]
    unfold kI
    rw [o1];dsimp only
    rw [o2];dsimp only
    rw [if_pos h8]
    show (fZ [eL zW,(quK (aE d.l)).1],(quK (aE d.l)).2)=_
    rw [h1]
   ·rw [e];exact .vec (Nat.le_trans hlen (by decide)) h2
  by_cases h7:d.k=7
  ·obtain⟨hl,g1,g2,g3⟩:=Gd.pair (n:=d.msr+1) ⟨ht,ho,Nat.lt_succ_self _⟩ h7
   have e:=PO hp h7
   have m1:d.fst.mkd=false:=FO hm (by rw [hl];simp)
   have m2:d.snd.mkd=false:=FO hm (by rw [hl];simp)
   rw [e,lJ] at hp
   obtain⟨a,a1,a2⟩:=sR n d.fst (by have:=gQ d.snd;omega) hp.1 g1.2.1 m1
   obtain⟨b,b1,b2⟩:=sR n d.snd (by have:=gQ d.fst;omega) hp.2 g2.2.1 m2
   obtain⟨q1,q2,q3⟩:=yP m1
   rw [e] at ht ho ⊢
   exact⟨kH a b,by rw [vU ht ho q1 q3 (yQ g1.1 m1).2.2,a1,b1];rfl,.cons a2 b2⟩
  ·exact⟨bT d,FP ht ho h7 h8,.const⟩
def uI (x:D):D:=aE [bJ lF,aE [bJ dN,x]]
def yD (x d:D):D:=aE [bJ cW,aE [bJ dN,aE [x,d]]]
def FQ (d:D):D:=aE [bJ cE,d]
theorem PP {n:Nat} {d:D} (h:Lit n (FQ d)):oE (FQ d)=quK d:=by
 rw [ST h.pl.two h.ok (BA _ (by decide)) (BA _ (by decide)),FQ,nC _ (by simp [vI]),IH];rfl
theorem wO {d:D} {c:K} (h:Lit 6 (FQ d)) (hq:quK d=(c,0)):qW (FQ d)=(c,0):=by
 have:=PP h
 rw [UP h.may (by rw [this,hq]),this,hq]
theorem Lit.kids:∀{n:Nat} {l:List D},Lit n (aE l)→∀x∈l,x.Two∧x.Ok
 | n,l,h,x,hx=>⟨((Plains.iff l).1 (dY.1 h.pl) |> fun q=>by obtain⟨i,hi,rfl⟩:=List.mem_iff_getElem.1 hx;exact (q i hi).two),by
   have:=h.ok
   have key:∀l:List D,(aE l).Ok→∀x∈l,x.Ok:=fun l=>by
    induction l with
    | nil=>intro _ x hx;cases hx
    | cons y l ih =>
     intro ho x hx
     have:=ho.l
     rcases List.mem_cons.1 hx with rfl|hx
     ·exact this.1
     ·exact ih this.2.1 x hx
   exact key l this x hx⟩
theorem FR {d x:D} (hd:Lit 0 d) (hx:Lit 0 x) (hm:d.mkd=false):Lit 1 (aE [bJ dN,x]):=Lit.list (by simp only [List.mem_cons,List.not_mem_nil,or_false,forall_eq_or_imp,forall_eq];exact⟨Lit.sym (by decide) (by decide),hx⟩) (by simp)
theorem UV {d x:D} (hd:Lit 0 d) (hx:Lit 0 x) (hm:d.mkd=false):Lit 1 (aE [x,d]):=Lit.list (by simp only [List.mem_cons,List.not_mem_nil,or_false,forall_eq_or_imp,forall_eq];exact⟨hx,hd⟩) (by simp)
theorem yR {d x:D} (hd:Lit 0 d) (hx:Lit 0 x) (hm:d.mkd=false):Lit 2 (uI x):=Lit.list (by simp only [List.mem_cons,List.not_mem_nil,or_false,forall_eq_or_imp,forall_eq];exact⟨(Lit.sym (by decide) (by decide)).le (by omega),FR hd hx hm⟩) (by simp)
theorem BN {d x:D} (hd:Lit 0 d) (hx:Lit 0 x) (hm:d.mkd=false):Lit 2 (aE [bJ dN,aE [x,d]]):=Lit.list (by simp only [List.mem_cons,List.not_mem_nil,or_false,forall_eq_or_imp,forall_eq];exact⟨(Lit.sym (by decide) (by decide)).le (by omega),UV hd hx hm⟩) (by simp)
theorem NC {d x:D} (hd:Lit 0 d) (hx:Lit 0 x) (hm:d.mkd=false):Lit 3 (yD x d):=Lit.list (by simp only [List.mem_cons,List.not_mem_nil,or_false,forall_eq_or_imp,forall_eq];exact⟨(Lit.sym (by decide) (by decide)).le (by omega),BN hd hx hm⟩) (by simp)
theorem VM {d x:D} (hd:Lit 0 d) (hx:Lit 0 x) (hm:d.mkd=false):Lit 3 (aE [d,uI x,d]):=Lit.list (by simp only [List.mem_cons,List.not_mem_nil,or_false,forall_eq_or_imp,forall_eq];exact⟨hd.le (by omega),yR hd hx hm,hd.le (by omega)⟩) (by simp)
theorem VN {d x:D} (hd:Lit 0 d) (hx:Lit 0 x) (hm:d.mkd=false):Lit 4 (aE [d,yD x d]):=Lit.list (by simp only [List.mem_cons,List.not_mem_nil,or_false,forall_eq_or_imp,forall_eq];exact⟨hd.le (by omega),NC hd hx hm⟩) (by simp)
theorem pF {d x:D} (hd:Lit 0 d) (hx:Lit 0 x) (hm:d.mkd=false) {n:Nat} {y:D} (hy:Lit n y):Lit (n+1) (FQ y):=Lit.list (by simp only [List.mem_cons,List.not_mem_nil,or_false,forall_eq_or_imp,forall_eq];exact⟨(Lit.sym (by decide) (by decide)).le (by omega),hy⟩) (by simp)
theorem PQ {d x:D} (hd:Lit 0 d) (hx:Lit 0 x) (hm:d.mkd=false):∃c,qW (FQ d)=(c,0)∧Mean c d:=by
 obtain⟨c,h1,h2⟩:=sR _ d (Nat.lt_succ_self _) hd.pl hd.ok hm
 exact⟨c,wO ((pF hd hx hm hd).le (by omega)) h1,h2⟩
theorem PR {d x:D} (hd:Lit 0 d) (hx:Lit 0 x) (hm:d.mkd=false):∃c,qW (FQ (aE [d,uI x,d]))=(c,0)∧Mean c (aE [d,x,d]):=by
 obtain⟨c,h1,h2⟩:=sR _ d (Nat.lt_succ_self _) hd.pl hd.ok hm
 obtain⟨q1,q2,q3⟩:=yP hm
 have q4:=(yQ hd.pl.two hm).2.2
 have hl:=VM hd hx hm
 have k:=hl.pl
 simp only [cJ,lJ] at k
 have o:∀{a b:D},(bW a b).Ok→b.Ok:=fun h=>h.l.2.1
 have e1:quK (aE [d])=(kH c (bT cH),0):=by
  rw [cJ,vU (lJ.2 k.2.2).two (o (o hl.ok)) q1 q3 q4,h1,show aE []=cH from rfl,FP qA.two gH (by decide) (by decide)];rfl
 have e2:quK (uI x)=(bT x,0):=by
  rw [uI,WW (yR hd hx hm).pl.two (yR hd hx hm).ok,JM (FR hd hx hm).pl.two (FR hd hx hm).ok]
 have nk:∀s,gY (uI x) s=false:=fun s=>EH (d:=uI x) (show (7:Int)≠6 by decide) s
 have e3:quK (aE [uI x,d])=(kH (bT x) (kH c (bT cH)),0):=by
  have pA:(bW (uI x) (aE [d])).Plain:=(dY (l:=[uI x,d])).2 ⟨(yR hd hx hm).pl,hd.pl,trivial⟩
  rw [cJ,vU pA.two (o hl.ok) (nk _) (nk _) (UU (by decide) _),e1,e2];rfl
 have e4:quK (aE [d,uI x,d])=(kH c (kH (bT x) (kH c (bT cH))),0):=by
  rw [cJ,vU (by rw [←cJ];exact hl.pl.two) (by rw [←cJ];exact hl.ok) q1 q3 q4,e3,h1];rfl
 exact⟨_,wO ((pF hd hx hm hl).le (by omega)) e4,.cons h2 (.cons .const (.cons h2 .const))⟩
theorem JN {d x:D} (hd:Lit 0 d) (hx:Lit 0 x) (hm:d.mkd=false):∃c,qW (FQ (aE [d,yD x d]))=(c,0)∧Mean c (aE [d,x,d]):=by
 obtain⟨c,h1,h2⟩:=sR _ d (Nat.lt_succ_self _) hd.pl hd.ok hm
 obtain⟨q1,q2,q3⟩:=yP hm
 have q4:=(yQ hd.pl.two hm).2.2
 have hl:=VN hd hx hm
 have k:=hl.pl
 simp only [cJ,lJ] at k
 have o:∀{a b:D},(bW a b).Ok→b.Ok:=fun h=>h.l.2.1
 have e3:quK (aE [yD x d])=(fZ [eL jJ,bT (aE [x,d]),bT cH],0):=by
  have pA:(bW (yD x d) (aE [])).Plain:=(dY (l:=[yD x d])).2 ⟨(NC hd hx hm).pl,trivial⟩
  rw [cJ,yD,PN pA.two (o hl.ok),JM (BN hd hx hm).pl.two (BN hd hx hm).ok,show aE []=cH from rfl,FP qA.two gH (by decide) (by decide)];rfl
 have e4:quK (aE [d,yD x d])=(kH c (fZ [eL jJ,bT (aE [x,d]),bT cH]),0):=by
  rw [cJ,vU (by rw [←cJ];exact hl.pl.two) (by rw [←cJ];exact hl.ok) q1 q3 q4,e3,h1];rfl
 exact⟨_,wO ((pF hd hx hm hl).le (by omega)) e4,.cons h2 (.app (by simp) .const .const)⟩
end Go.Proofs.YtaeioidifpebdaaGreatDoor
end
section
namespace Go.Proofs.YtaeioidifpebdaaGreatDoor
open Go Go.RowKit Go.Lib
set_option linter.unusedSimpArgs false
set_option linter.unusedVariables false
set_option maxHeartbeats 4000000
set_option maxRecDepth 100000
theorem PS {l:List D} {i:Nat} (h:i<l.length):nO (l.take (i+1))=(nO (l.take i)||l[i].mkd):=by
 have key:∀(a b:List D),nO (a++b)=(nO a||nO b):=by
  intro a b
  induction a with
  | nil=>simp [nO]
  | cons x a ih=>rw [List.cons_append,nO,nO,ih,Bool.or_assoc]
 rw [List.take_succ_eq_append_getElem h,key];simp [nO]
theorem UW {l:List D} {i:Nat} (h:i<l.length) (hm:l[i].mkd=true):nO l=true:=by
 cases hc:nO l with
 | true=>rfl
 | false=>rw [BK hc (List.getElem_mem h)] at hm;cases hm
def MkI (d:D) (n:Nat) (st:St):Prop:=∃i:Nat,n=d.l.length-i∧i≤d.l.length∧nO (d.l.take i)=false ∧
 st=⟨[(3,.one (.v (.int .i64 i))),(1,.one (.ptr 0 1 0 0))],[some ⟨28,6,[[.v (.int .i64 d.k),.v (.int .i32 d.c),.v (.bool d.neg),.sl 1 (d.mag.map fun n=>[.v (.int .u32 n)]),.v (.string d.t),.sl 6 (d.l.map D.cc)]]⟩]⟩
theorem LZ:∀n (d:D),d.ht≤n→d.Ok→Pure Tryz.prog 25 [.agg d.cc] (.one (.v (.bool d.mkd))):=by
 intro n
 induction n with
 | zero=>intro d h;exact absurd h (by cases d;rw [D.ht];omega)
 | succ n ih =>
  intro d hh hok
  have hlen:d.l.length≤100000000000000:=by cases d;have:=hok.2.2.2.2.1.2;simp only [D.l];omega
  rw [D.mkd_eq,D.cc_eq]
  obtain⟨b6,e6⟩:∃b,decide (d.k=6)=b:=⟨_,rfl⟩
  obtain⟨b1,q1⟩:∃b,eqB d.t lF=b:=⟨_,rfl⟩
  obtain⟨b2,q2⟩:∃b,eqB d.t cW=b:=⟨_,rfl⟩
  obtain⟨b3,q3⟩:∃b,eqB d.t cE=b:=⟨_,rfl⟩
  rw [e6,q1,q2,q3]
  have f6:(d.k == 6)=b6:=e6
  simp only [lF,cW,cE] at q1 q2 q3
  cases b6<;>cases b1<;>cases b2<;>cases b3
  all_goals
   simp only [Bool.true_and,Bool.false_and,Bool.or_true,Bool.true_or,Bool.or_false,Bool.false_or]
   refine fi Tryz.func25 Tryz.ntmps25 Tryz.results25 ?_
   repeat (first|(apply fw;focus ((with_reducible constructor)<;>constructor))|((first|with_reducible refine ga _ rfl fun Y y=>?_|apply ri);simp only [zb,seval,w25,f6,cF,q1,q2,q3];refine fz y ?_;clear y Y))
   first
    | (refine ye (by simp only [zb,seval,w25];rfl) (by simp only [zv];rfl) ?_;rfl)
    | skip
  all_goals
   refine WpA.loop (MkI d) d.l.length ?_ ⟨0,rfl,Nat.zero_le _,rfl,rfl⟩ ?_
   ·exact Le.drop 1 (Nat.zero_le _) rfl (by simp [Sub,find]) rfl (by simp [ObBd,C.bd])
   intro n' st hst
   obtain⟨i,rfl,hi,hm0,rfl⟩:=hst
   have hw2:IntKind.i64.wrap ((i:Int)+1)=((i+1:Nat):Int):=by rw [dA (by omega) (by omega)];omega
   by_cases hlt:i<d.l.length
   ·have hd1:decide ((i:Int)<(d.l.length:Int))=true:=by simp;omega
    have hget:=vF hlt
    have hc:=ih d.l[i] (by have:=D.ht_lt hlt;omega) (by cases d;exact hok.2.2.2.2.2.get i hlt)
    have hsu:=PS hlt
    rw [hm0] at hsu
    have hat:=UW hlt
    rw [D.cc_eq] at hget hc
    cases hm:d.l[i].mkd with
    | true =>
     rw [hm] at hc
     repeat (first|(apply fw;focus ((with_reducible constructor)<;>constructor))|((first|with_reducible refine ga _ rfl fun Y y=>?_|(refine ca ?_;apply Exists.intro;constructor;assumption;intro Y y)|apply ri);simp only [zb,seval,w25,hd1,hget,hw2];refine fz y ?_;clear y Y))
     refine ye (by simp only [zb,seval,w25];rfl) (by simp only [zv];rfl) ?_
     rw [hat hm]
    | false =>
     rw [hm] at hc hsu
     repeat (first|(apply fw;focus ((with_reducible constructor)<;>constructor))|((first|with_reducible refine ga _ rfl fun Y y=>?_|(refine ca ?_;apply Exists.intro;constructor;assumption;intro Y y)|apply ri);simp only [zb,seval,w25,hd1,hget,hw2];refine fz y ?_;clear y Y))
     refine⟨d.l.length-(i+1),_,by omega,?_,i+1,rfl,hlt,by rw [hsu];rfl,rfl⟩
     exact Le.drop 1 (Nat.zero_le _) rfl (by simp [Sub,find]) rfl (by simp [ObBd,C.bd])
   ·have hd0:decide ((i:Int)<(d.l.length:Int))=false:=by simp;omega
    have hii:i=d.l.length:=by omega
    subst hii
    rw [List.take_length] at hm0
    repeat (first|(apply fw;focus ((with_reducible constructor)<;>constructor))|((first|with_reducible refine ga _ rfl fun Y y=>?_|apply ri);simp only [zb,seval,w25,hd0];refine fz y ?_;clear y Y))
    repeat (first|(apply fw;focus ((with_reducible constructor)<;>constructor))|((first|with_reducible refine ga _ rfl fun Y y=>?_|apply ri);simp only [zb,seval,w25,hd0];refine fz y ?_;clear y Y))
    refine ye (by simp only [zb,seval,w25];rfl) (by simp only [zv];rfl) ?_
    rw [hm0]
theorem MA (d:D) (hok:d.Ok):Pure Tryz.prog 25 [.agg d.cc] (.one (.v (.bool d.mkd))):=LZ d.ht d (Nat.le_refl _) hok
theorem MB (d:D):Pure Tryz.prog 26 [.agg (bT d).cc] (.tup [.agg d.cc,.one (.v (.bool true))]):=by
 rw [K.cc_eq]
 show Pure Tryz.prog 26 [.agg [.v (.int .i64 1),.v (.string ⟨#[]⟩),.v (.string ⟨#[]⟩),.sl 1 (dQ []),.v (.int .i64 d.k),.v (.int .i32 d.c),.v (.bool d.neg),.sl 1 (d.mag.map fun n=>[.v (.int .u32 n)]),.v (.string d.t),.sl 6 (d.l.map D.cc),.sl 11 []]] _
 rw [D.cc_eq d]
 refine fi Tryz.func26 Tryz.ntmps26 Tryz.results26 ?_
 repeat (first|(apply fw;focus ((with_reducible constructor)<;>constructor))|((first|with_reducible refine ga _ rfl fun Y y=>?_|apply ri);simp only [zb,seval,w26,kcc];refine fz y ?_;clear y Y))
 refine ye (by simp only [zb,seval,w26,kcc];rfl) (by simp only [zv,kcc];rfl) ?_
 rfl
theorem PT {a b:K} {x y:D} (h1:Pure Tryz.prog 26 [.agg a.cc] (.tup [.agg x.cc,.one (.v (.bool true))])) (h2:Pure Tryz.prog 26 [.agg b.cc] (.tup [.agg y.cc,.one (.v (.bool true))])) :
  Pure Tryz.prog 26 [.agg (kH a b).cc] (.tup [.agg (bW x y).cc,.one (.v (.bool true))]):=by
 have e:(bW x y).cc=[.v (.int .i64 7),.v (.int .i32 0),.v (.bool false),.sl 1 [],.v (.string ⟨#[]⟩),.sl 6 [x.cc,y.cc]]:=D.cc_eq _
 rw [e]
 simp only [kH,rcc,List.map_cons,List.map_nil,zV]
 have q:eqB (⟨#[99,111,110,115]⟩:ByteArray) ⟨#[99,111,110,115]⟩=true:=aY rfl
 have w2:IntKind.i64.wrap 2=2:=by decide
 have w3:IntKind.i64.wrap 3=3:=by decide
 refine fi Tryz.func26 Tryz.ntmps26 Tryz.results26 ?_
 repeat (first|(apply fw;focus ((with_reducible constructor)<;>constructor))|((first|with_reducible refine ga _ rfl fun Y y=>?_|apply ri);simp only [zb,seval,w26,kcc];refine fz y ?_;clear y Y))
 refine WpA.rounds 3 ?_
 repeat (first|(apply fw;focus ((with_reducible constructor)<;>constructor))|((first|with_reducible refine ga _ rfl fun Y y=>?_|(refine ca ?_;apply Exists.intro;constructor;assumption;intro Y y)|apply ri);simp only [zb,seval,w26,kcc,dcc,w2,w3,cF,q];refine fz y ?_;clear y Y))
 refine yl (by simp only [zb,seval,w26,kcc,dcc];rfl) (by simp only [zv,kcc,dcc];rfl) ((by exact ae)) rfl
theorem TB {a:K} {l:List D} (hl:l.length≤1000) (h1:Pure Tryz.prog 26 [.agg a.cc] (.tup [.agg (aE l).cc,.one (.v (.bool true))])) :
  Pure Tryz.prog 26 [.agg (fZ [eL zW,a]).cc] (.tup [.agg (D.mk 8 0 false [] e0 l).cc,.one (.v (.bool true))]):=by
 have e:(D.mk 8 0 false [] e0 l).cc=[.v (.int .i64 8),.v (.int .i32 0),.v (.bool false),.sl 1 [],.v (.string ⟨#[]⟩),.sl 6 (l.map D.cc)]:=D.cc_eq _
 have hi:=xO (aE l) (by rw [fH];omega)
 rw [jL,fH,if_pos rfl] at hi
 simp only [decide_true] at hi
 rw [e]
 simp only [rcc,List.map_cons,List.map_nil,zW]
 have q1:eqB (⟨#[108,105,115,116,45,62,118,101,99,116,111,114]⟩:ByteArray) ⟨#[99,111,110,115]⟩=false:=aA (by decide)
 have q2:eqB (⟨#[108,105,115,116,45,62,118,101,99,116,111,114]⟩:ByteArray) ⟨#[108,105,115,116,45,62,118,101,99,116,111,114]⟩=true:=aY rfl
 have w2:IntKind.i64.wrap 2=2:=by decide
 refine fi Tryz.func26 Tryz.ntmps26 Tryz.results26 ?_
 repeat (first|(apply fw;focus ((with_reducible constructor)<;>constructor))|((first|with_reducible refine ga _ rfl fun Y y=>?_|apply ri);simp only [zb,seval,w26,kcc];refine fz y ?_;clear y Y))
 refine WpA.rounds 2 ?_
 repeat (first|(apply fw;focus ((with_reducible constructor)<;>constructor))|((first|with_reducible refine ga _ rfl fun Y y=>?_|(refine ca ?_;apply Exists.intro;constructor;assumption;intro Y y)|apply ri);simp only [zb,seval,w26,kcc,dcc,w2,cF,q1,q2];refine fz y ?_;clear y Y))
 refine yl (by simp only [zb,seval,w26,kcc,dcc];rfl) (by simp only [zv,kcc,dcc];rfl) ((by exact ae)) rfl
def MaI (l:List D) (y:D) (n:Nat) (st:St):Prop:=n≤l.length ∧
 st=⟨[(13,.one (.v (.int .i64 ((n:Int)-1)))),(10,.one (.sl 6 (l.map D.cc))),(2,.one (.ptr 1 1 0 0)),(12,.one (.ptr 7 1 0 0))],
  [none,some ⟨28,6,[[.v (.int .i64 0),.v (.int .i32 0),.v (.bool false),.v (.slice none 0 0),.v (.string ⟨#[]⟩),.v (.slice none 0 0)]]⟩,none,none,none,none,none,some ⟨28,6,[[.v (.int .i64 ((l.drop n).foldr bW y).k),.v (.int .i32 ((l.drop n).foldr bW y).c),.v (.bool ((l.drop n).foldr bW y).neg),.sl 1 (((l.drop n).foldr bW y).mag.map fun n=>[.v (.int .u32 n)]),.v (.string ((l.drop n).foldr bW y).t),.sl 6 (((l.drop n).foldr bW y).l.map D.cc)]]⟩]⟩
theorem TC {a b:K} {l:List D} {y:D} (hlen:l.length≤1000) (h1:Pure Tryz.prog 26 [.agg a.cc] (.tup [.agg (aE l).cc,.one (.v (.bool true))])) (h2:Pure Tryz.prog 26 [.agg b.cc] (.tup [.agg y.cc,.one (.v (.bool true))])) :
  Pure Tryz.prog 26 [.agg (fZ [eL jJ,a,b]).cc] (.tup [.agg (l.foldr bW y).cc,.one (.v (.bool true))]):=by
 have hi:=xO (aE l) (by rw [fH];omega)
 rw [jL,fH,if_pos rfl] at hi
 simp only [decide_true] at hi
 rw [D.cc_eq (l.foldr bW y)]
 simp only [rcc,List.map_cons,List.map_nil,jJ]
 have q1:eqB (⟨#[97,112,112,101,110,100]⟩:ByteArray) ⟨#[99,111,110,115]⟩=false:=aA (by decide)
 have q2:eqB (⟨#[97,112,112,101,110,100]⟩:ByteArray) ⟨#[108,105,115,116,45,62,118,101,99,116,111,114]⟩=false:=aA (by decide)
 have q3:eqB (⟨#[97,112,112,101,110,100]⟩:ByteArray) ⟨#[97,112,112,101,110,100]⟩=true:=aY rfl
 have w2:IntKind.i64.wrap 2=2:=by decide
 have w3:IntKind.i64.wrap 3=3:=by decide
 have hml:(l.map D.cc).length=l.length:=List.length_map ..
 have hw0:IntKind.i64.wrap ((l.length:Int)-1)=(l.length:Int)-1:=dA (by omega) (by omega)
 rw [D.cc_eq y] at h2
 refine fi Tryz.func26 Tryz.ntmps26 Tryz.results26 ?_
 repeat (first|(apply fw;focus ((with_reducible constructor)<;>constructor))|((first|with_reducible refine ga _ rfl fun Y y=>?_|apply ri);simp only [zb,seval,w26,kcc];refine fz y ?_;clear y Y))
 refine WpA.rounds 3 ?_
 repeat (first|(apply fw;focus ((with_reducible constructor)<;>constructor))|((first|with_reducible refine ga _ rfl fun Y y=>?_|(refine ca ?_;apply Exists.intro;constructor;assumption;intro Y y)|apply ri);simp only [zb,seval,w26,kcc,dcc,w2,w3,cF,q1,q2,q3,hml,hw0];refine fz y ?_;clear y Y))
 refine WpA.loop (MaI l y) l.length ?_ ⟨Nat.le_refl _,rfl⟩ ?_
 ·refine Le.freeze (fun _=>false) (Frz.ofL ?_) ?_
  ·rw [List.drop_length]
   simp only [FrzL,FzR,FzCs,List.foldr_nil]
   repeat' first|exact FzC.same _ _ _|exact FzC.nil|exact FzCs.same _ _ _|exact rfl|exact trivial|refine And.intro ?_ ?_|(intro hz;exact absurd hz (by decide))
  ·simp only [SubZ]
   repeat' first|exact⟨_,rfl,FzA.same _ _ _⟩|exact trivial|refine And.intro ?_ ?_
 intro n st hI
 obtain⟨hn,rfl⟩:=hI
 rcases n with _|n
 ·have hz:((0:Nat):Int)-1 = -1:=rfl
  rw [hz]
  have hf:decide ((0:Int)≤-1)=false:=rfl
  repeat (first|(apply fw;focus ((with_reducible constructor)<;>constructor))|((first|with_reducible refine ga _ rfl fun Y y=>?_|apply ri);simp only [zb,seval,w26,hf];refine fz y ?_;clear y Y))
  repeat (first|(apply fw;focus ((with_reducible constructor)<;>constructor))|((first|with_reducible refine ga _ rfl fun Y y=>?_|apply ri);simp only [zb,seval,w26,hf];refine fz y ?_;clear y Y))
  refine ye (by simp only [zb,seval,w26];rfl) (by simp only [zv];rfl) ?_
  rfl
 have hge:((n+1:Nat):Int)-1=(n:Int):=by omega
 have hw2:IntKind.i64.wrap ((n:Int)-1)=(n:Int)-1:=dA (by omega) (by omega)
 have hlt:n<l.length:=by omega
 have hget:=vF hlt
 rw [D.cc_eq] at hget
 have hg0:decide ((n:Int) ≥ 0)=true:=by simp
 have hg1:decide (0≤(n:Int))=true:=by simp
 rw [hge]
 repeat (first|(apply fw;focus ((with_reducible constructor)<;>constructor))|((first|with_reducible refine ga _ rfl fun Y y=>?_|apply ri);simp only [zb,seval,w26,hg0,hg1];refine fz y ?_;clear y Y))
 (refine WpA.draw1 7 [5] ([none,some ⟨28,6,[[.v (.int .i64 0),.v (.int .i32 0),.v (.bool false),.v (.slice none 0 0),.v (.string ⟨#[]⟩),.v (.slice none 0 0)]]⟩,none,none,none,none,none,some ⟨28,6,[[.v (.int .i64 ((l.drop (n+1)).foldr bW y).k),.v (.int .i32 ((l.drop (n+1)).foldr bW y).c),.v (.bool ((l.drop (n+1)).foldr bW y).neg),.sl 1 (((l.drop (n+1)).foldr bW y).mag.map fun n=>[.v (.int .u32 n)]),.v (.string ((l.drop (n+1)).foldr bW y).t),.sl 6 (((l.drop (n+1)).foldr bW y).l.map D.cc)]]⟩]) [_,?_] _ _ _ _ rfl rfl rfl (by kernel_rfl) (by kernel_rfl) (by kernel_rfl) (by kernel_rfl) rfl rfl rfl rfl (by decide) fun K8 hK8=>?_);rotate_left 1;simp only [zz] at hK8 ⊢;(refine Draw1.go fun K7 k=>?_);simp only [zb,seval,w26,hget];(refine qz (k _ _ (by rfl) ?_));clear k K7;(simp only [zz,Nat.reduceAdd,Nat.reduceSub]);(try ((refine nz (hK8 _ ?_));clear hK8 K8;(refine WpL.go _ rfl fun Y y=>?_);repeat (first|(apply fw;focus ((with_reducible constructor)<;>constructor))|((first|with_reducible refine ga _ rfl fun Y y=>?_|apply ri);simp only [zb,seval,w26,hget];refine fz y ?_;clear y Y))))
 refine Draw1.eff 0 rfl rfl rfl (OpS.eff [(119,_),(120,_)] rfl (by rfl) ⟨rfl,rfl,trivial⟩ (by simp only [zb,seval,w26,hw2];rfl) (by first|(simp;done)|omega|(simp;omega))) ?_;(try simp only [bH]);(try ((refine Draw1.go fun K7 k=>?_);simp only [zb,seval,w26,hw2];(refine qz (k _ _ (by rfl) ?_));clear k K7;(simp only [zz,Nat.reduceAdd,Nat.reduceSub]);(try ((refine nz (hK8 _ ?_));clear hK8 K8;(refine WpL.go _ rfl fun Y y=>?_);repeat (first|(apply fw;focus ((with_reducible constructor)<;>constructor))|((first|with_reducible refine ga _ rfl fun Y y=>?_|apply ri);simp only [zb,seval,w26,hw2];refine fz y ?_;clear y Y))))))
 refine⟨n,_,by omega,?_,by omega,rfl⟩
 have hdl:(l.drop n).foldr bW y=.mk 7 0 false [] ⟨#[]⟩ [l[n],(l.drop (n+1)).foldr bW y]:=by rw [List.drop_eq_getElem_cons hlt];rfl
 refine Le.trans (Le.freeze (S':=[none,some ⟨28,6,[[.v (.int .i64 0),.v (.int .i32 0),.v (.bool false),.v (.slice none 0 0),.v (.string ⟨#[]⟩),.v (.slice none 0 0)]]⟩,none,none,none,none,none,some ⟨28,6,[D.co ((l.drop n).foldr bW y)]⟩,none]) (e':=[(13,.one (.v (.int .i64 ((n:Int)-1)))),(10,.one (.sl 6 (l.map D.cc))),(2,.one (.ptr 1 1 0 0)),(12,.one (.ptr 7 1 0 0))]) (fun i=>i == 8) (Frz.ofL ?_) (by simp [SubZ,find,FzA,FzC])) (Le.drop 8 (Nat.zero_le _) rfl (by simp [Sub,find]) rfl (by simp [ObBd,C.bd]))
 simp only [FrzL]
 refine⟨fun h=>(by cases h),rfl,trivial,trivial,FzR.same _ _ _,fun h=>(by cases h),fun h=>(by cases h),fun h=>(by cases h),fun h=>(by cases h),fun h=>(by cases h),rfl,trivial,trivial,?_,fun _ ob ho=>(by simp only [Option.some.injEq] at ho;subst ho;simp [ksh]),trivial⟩
 rw [hdl]
 refine⟨⟨.inl rfl,.inl rfl,.inl rfl,FzC.nil,.inl rfl,?_,trivial⟩,trivial⟩
 simp only [D.l,List.map_cons,List.map_nil]
 rw [D.cc_eq l[n],D.cc_eq ((l.drop (n+1)).foldr bW y)]
 exact FzC.ms rfl rfl rfl
theorem wP {c:K} {d:D} (h:Mean c d):Pure Tryz.prog 26 [.agg c.cc] (.tup [.agg d.cc,.one (.v (.bool true))]):=by
 induction h with
 | const=>exact MB _
 | cons _ _ h1 h2=>exact PT h1 h2
 | vec hl _ h1=>exact TB hl h1
 | app hl _ _ h1 h2=>exact TC hl h1 h2
theorem BO (a b:D):Pure Tryz.prog 27 [.agg a.cc,.agg b.cc] (.one (.v (.bool (eqB a b)))):=by
 refine fB rfl fun w vs hg hv=>?_
 obtain⟨v,u,rfl,hv1,hu1⟩:=hv.two
 exact OO a b w v u hv1.isD hu1.isD
end Go.Proofs.YtaeioidifpebdaaGreatDoor
end
section
namespace Go.Proofs.YtaeioidifpebdaaGreatDoor
open Go Go.RowKit Go.Lib
set_option linter.unusedSimpArgs false
set_option linter.unusedVariables false
set_option maxHeartbeats 8000000
set_option maxRecDepth 100000
theorem FS {n:Nat} {d:D} {c:K} (h:Lit n d) (hn:n≤6) (e:qW d=(c,0)):Pure Tryz.prog 17 [.agg d.cc] (.tup [.agg c.cc,.one (.v (.int .i64 0))]):=by
 have:=FC d h.ok (h.le hn).cnt (h.le hn).msr
 rw [e] at this
 exact this
theorem CD (d x:D) (hd:d.Ok) (hx:x.Ok):Pure Tryz.prog 6 [.agg d.cc,.agg x.cc] (.one (.v (.bool true))):=by
 have aw:=LM
 obtain⟨b1,h1,w1⟩:=XX hd
 obtain⟨b2,h2,w2⟩:=XX hx
 rcases orT (b:=b1) (orT (b:=b2) trivial) with rfl|⟨rfl,rfl|⟨rfl,-⟩⟩
 iterate 2
  focus
   refine fi Tryz.func6 Tryz.ntmps6 Tryz.results6 ?_
   (refine WpA.seq ?_);(refine WpA.region ?_);(refine WpL.go _ rfl fun Y y=>?_);simp only [zb,seval,w6];(refine RunTo.fn y (by first|(simp;done)|omega|(simp;omega)) ?_);clear y Y;(refine WpL.nil ?_);(refine uX ?_)
   refine WpA.frzP 2 0 rfl rfl (D.cc_shut _) ?_
   simp only [zz]
   refine WpA.frzP 3 1 rfl rfl (D.cc_shut _) ?_
   simp only [zz]
   repeat (first|(apply fw;focus ((with_reducible constructor)<;>constructor))|((first|with_reducible refine ga _ rfl fun Y y=>?_|(refine ca ?_;apply Exists.intro;constructor;assumption;intro Y y)|apply ri);simp only [zb,seval,w6,kcc];refine fz y ?_;clear y Y))
   refine ye (by simp only [zb,seval,w6];rfl) (by simp only [zv];rfl) ?_
   rfl
 have w1:=w1 rfl
 have w2:=w2 rfl
 have mk:=MA d hd
 have d1:=XY hd w1
 have d2:=XY hx w2
 have m1:=XZ hd w1
 have m2:=XZ hx w2
 obtain⟨b4,g4⟩:∃b,d.mkd=b:=⟨_,rfl⟩
 rw [g4] at mk
 obtain⟨b5,g5⟩:∃b,decide ((50:Int)<(d.depth:Int))=b:=⟨_,rfl⟩
 obtain⟨b6,g6⟩:∃b,decide ((50:Int)<(x.depth:Int))=b:=⟨_,rfl⟩
 have n1:oD d=true→b5=false→Lit 0 d:=fun h e=>YA hd w1 (by subst e;simp at g5;omega) h
 have n2:oD x=true→b6=false→Lit 0 x:=fun h e=>YA hx w2 (by subst e;simp at g6;omega) h
 generalize oD d=c1 at *
 generalize oD x=c2 at *
 rcases orT (b:=b4) (orT (b:=b5) (orT (b:=b6) (orF (b:=c1) (orF (b:=c2) trivial)))) with rfl|⟨rfl,rfl|⟨rfl,rfl|⟨rfl,rfl|⟨rfl,rfl|⟨rfl,-⟩⟩⟩⟩⟩
 iterate 5
  focus
   refine fi Tryz.func6 Tryz.ntmps6 Tryz.results6 ?_
   (refine WpA.seq ?_);(refine WpA.region ?_);(refine WpL.go _ rfl fun Y y=>?_);simp only [zb,seval,w6];(refine RunTo.fn y (by first|(simp;done)|omega|(simp;omega)) ?_);clear y Y;(refine WpL.nil ?_);(refine uX ?_)
   refine WpA.frzP 2 0 rfl rfl (D.cc_shut _) ?_
   simp only [zz]
   refine WpA.frzP 3 1 rfl rfl (D.cc_shut _) ?_
   simp only [zz]
   repeat (first|(apply fw;focus ((with_reducible constructor)<;>constructor))|((first|with_reducible refine ga _ rfl fun Y y=>?_|(refine ca ?_;apply Exists.intro;constructor;assumption;intro Y y)|apply ri);simp only [zb,seval,w6,kcc,g5,g6];refine fz y ?_;clear y Y))
   refine ye (by simp only [zb,seval,w6];rfl) (by simp only [zv];rfl) ?_
   rfl
 have hd:=n1 rfl rfl
 have hx:=n2 rfl rfl
 obtain⟨k1,q1,r1⟩:=PQ hd hx g4
 obtain⟨k2,q2,r2⟩:=PR hd hx g4
 obtain⟨k3,q3,r3⟩:=JN hd hx g4
 have o1:=FS (pF hd hx g4 hd) (by decide) q1
 have o2:=FS (pF hd hx g4 (VM hd hx g4)) (by decide) q2
 have o3:=FS (pF hd hx g4 (VN hd hx g4)) (by decide) q3
 have e1:=wP r1
 have e2:=wP r2
 have e3:=wP r3
 have s1:=BO d d
 have s2:=BO (aE [d,x,d]) (aE [d,x,d])
 have s3:=s2
 rw [aY rfl] at s1 s2 s3
 have SQ:=jX cE
 have SU:=jX lF
 have SO:=jX dN
 have SS:=jX cW
 have L1:=dE [bJ cE,d] (by simp)
 have L2:=dE [bJ dN,x] (by simp)
 have L3:=dE [bJ lF,aE [bJ dN,x]] (by simp)
 have L4:=dE [d,uI x,d] (by simp)
 have L5:=dE [bJ cE,aE [d,uI x,d]] (by simp)
 have L6:=dE [d,x,d] (by simp)
 have L7:=dE [x,d] (by simp)
 have L8:=dE [bJ dN,aE [x,d]] (by simp)
 have L9:=dE [bJ cW,aE [bJ dN,aE [x,d]]] (by simp)
 have LA:=dE [d,yD x d] (by simp)
 have LB:=dE [bJ cE,aE [d,yD x d]] (by simp)
 simp only [List.map_cons,List.map_nil] at L1 L2 L3 L4 L5 L6 L7 L8 L9 LA LB
 refine fi Tryz.func6 Tryz.ntmps6 Tryz.results6 ?_
 (refine WpA.seq ?_);(refine WpA.region ?_);(refine WpL.go _ rfl fun Y y=>?_);simp only [zb,seval,w6];(refine RunTo.fn y (by first|(simp;done)|omega|(simp;omega)) ?_);clear y Y;(refine WpL.nil ?_);(refine uX ?_)
 refine WpA.frzP 2 0 rfl rfl (D.cc_shut _) ?_
 simp only [zz]
 refine WpA.frzP 3 1 rfl rfl (D.cc_shut _) ?_
 simp only [zz]
 repeat (first|(apply fw;focus ((with_reducible constructor)<;>constructor))|((first|with_reducible refine ga _ rfl fun Y y=>?_|(refine ca ?_;apply Exists.intro;constructor;assumption;intro Y y)|apply ri);simp only [zb,seval,w6,kcc,g5,g6];refine fz y ?_;clear y Y))
 (refine WpA.draw1c 10 [8,9] [_,?_,?_] _ _ _ _ rfl rfl rfl (by kernel_rfl) (by kernel_rfl) (by kernel_rfl) (by kernel_rfl) rfl rfl rfl rfl (by decide) fun K8 hK8=>?_);rotate_left 2;simp only [zz] at hK8 ⊢;(refine Draw1.go fun K7 k=>?_);simp only [zb,seval,w6,kcc,dcc];(refine qz (k _ _ (by rfl) ?_));clear k K7;(simp only [zz,Nat.reduceAdd,Nat.reduceSub])
 refine Draw1.step (by rfl) (fun s9 _=>oz (SQ)) ?_
 (refine Draw1.go fun K7 k=>?_);simp only [zb,seval,w6,kcc,dcc];(refine qz (k _ _ (by rfl) ?_));clear k K7;(simp only [zz,Nat.reduceAdd,Nat.reduceSub])
 refine Draw1.step (by rfl) (fun s9 _=>OpS.frozen (n:=2) (wd:=6) (ty:=28) (rows:=[(bJ cE).cc,d.cc]) (OpS.eff [(51,_),(52,_)] rfl (by rfl) ⟨rfl,rfl,trivial⟩ (by simp only [zb,seval,w6,kcc,dcc];rfl) (by simp)) rfl (by simp [ksh])) ?_;simp only [bH]
 refine Draw1.step (by rfl) (fun s9 _=>oz (L1)) ?_
 (refine Draw1.go fun K7 k=>?_);simp only [zb,seval,w6,kcc,dcc];(refine qz (k _ _ (by rfl) ?_));clear k K7;(simp only [zz,Nat.reduceAdd,Nat.reduceSub])
 refine Draw1.step (by rfl) (fun s9 _=>oz (o1)) ?_
 (refine Draw1.go fun K7 k=>?_);simp only [zb,seval,w6,kcc,dcc];(refine qz (k _ _ (by rfl) ?_));clear k K7;(simp only [zz,Nat.reduceAdd,Nat.reduceSub])
 refine Draw1.eff 0 rfl rfl rfl (OpS.eff [] rfl (by rfl) trivial (by simp only [zb,seval,w6,kcc,dcc];rfl) (by first|(simp;done)|omega|(simp;omega))) ?_;(try simp only [bH]);(try ((refine Draw1.go fun K7 k=>?_);simp only [zb,seval,w6,kcc,dcc];(refine qz (k _ _ (by rfl) ?_));clear k K7;(simp only [zz,Nat.reduceAdd,Nat.reduceSub]);(try ((refine nz (hK8 _ ?_));clear hK8 K8;(refine WpL.go _ rfl fun Y y=>?_);repeat (first|(apply fw;focus ((with_reducible constructor)<;>constructor))|((first|with_reducible refine ga _ rfl fun Y y=>?_|apply ri);simp only [zb,seval,w6,kcc,dcc];refine fz y ?_;clear y Y))))))
 refine Draw1.eff 1 rfl rfl rfl (OpS.eff [(5,_),(56,_)] rfl (by rfl) ⟨rfl,rfl,trivial⟩ (by simp only [zb,seval,w6,kcc,dcc];rfl) (by first|(simp;done)|omega|(simp;omega))) ?_;(try simp only [bH]);(try ((refine Draw1.go fun K7 k=>?_);simp only [zb,seval,w6,kcc,dcc];(refine qz (k _ _ (by rfl) ?_));clear k K7;(simp only [zz,Nat.reduceAdd,Nat.reduceSub]);(try ((refine nz (hK8 _ ?_));clear hK8 K8;(refine WpL.go _ rfl fun Y y=>?_);repeat (first|(apply fw;focus ((with_reducible constructor)<;>constructor))|((first|with_reducible refine ga _ rfl fun Y y=>?_|apply ri);simp only [zb,seval,w6,kcc,dcc];refine fz y ?_;clear y Y))))))
 repeat (first|(apply fw;focus ((with_reducible constructor)<;>constructor))|((first|with_reducible refine ga _ rfl fun Y y=>?_|(refine ca ?_;apply Exists.intro;constructor;assumption;intro Y y)|apply ri);simp only [zb,seval,w6,kcc,dcc];refine fz y ?_;clear y Y))
 refine WpA.frzP 5 2 rfl rfl (K.cc_shut _) ?_
 simp only [zz]
 refine WpA.frzP 7 3 rfl rfl (D.cc_shut _) ?_
 simp only [zz]
 (refine WpA.draw1c 9 [7,8] [_,?_,?_] _ _ _ _ rfl rfl rfl (by kernel_rfl) (by kernel_rfl) (by kernel_rfl) (by kernel_rfl) rfl rfl rfl rfl (by decide) fun K8 hK8=>?_);rotate_left 2;simp only [zz] at hK8 ⊢;(refine Draw1.go fun K7 k=>?_);simp only [zb,seval,w6,kcc,dcc];(refine qz (k _ _ (by rfl) ?_));clear k K7;(simp only [zz,Nat.reduceAdd,Nat.reduceSub])
 refine Draw1.step (by rfl) (fun s9 _=>oz (SU)) ?_
 (refine Draw1.go fun K7 k=>?_);simp only [zb,seval,w6,kcc,dcc];(refine qz (k _ _ (by rfl) ?_));clear k K7;(simp only [zz,Nat.reduceAdd,Nat.reduceSub])
 refine Draw1.step (by rfl) (fun s9 _=>oz (SO)) ?_
 (refine Draw1.go fun K7 k=>?_);simp only [zb,seval,w6,kcc,dcc];(refine qz (k _ _ (by rfl) ?_));clear k K7;(simp only [zz,Nat.reduceAdd,Nat.reduceSub])
 refine Draw1.step (by rfl) (fun s9 _=>OpS.frozen (n:=2) (wd:=6) (ty:=28) (rows:=[(bJ dN).cc,x.cc]) (OpS.eff [(76,_),(77,_)] rfl (by rfl) ⟨rfl,rfl,trivial⟩ (by simp only [zb,seval,w6,kcc,dcc];rfl) (by simp)) rfl (by simp [ksh])) ?_;simp only [bH]
 refine Draw1.step (by rfl) (fun s9 _=>oz (L2)) ?_
 (refine Draw1.go fun K7 k=>?_);simp only [zb,seval,w6,kcc,dcc];(refine qz (k _ _ (by rfl) ?_));clear k K7;(simp only [zz,Nat.reduceAdd,Nat.reduceSub])
 refine Draw1.step (by rfl) (fun s9 _=>OpS.frozen (n:=2) (wd:=6) (ty:=28) (rows:=[(bJ lF).cc,(aE [bJ dN,x]).cc]) (OpS.eff [(75,_),(79,_)] rfl (by rfl) ⟨rfl,rfl,trivial⟩ (by simp only [zb,seval,w6,kcc,dcc];rfl) (by simp)) rfl (by simp [ksh])) ?_;simp only [bH]
 refine Draw1.step (by rfl) (fun s9 _=>oz (L3)) ?_
 (refine Draw1.go fun K7 k=>?_);simp only [zb,seval,w6,kcc,dcc];(refine qz (k _ _ (by rfl) ?_));clear k K7;(simp only [zz,Nat.reduceAdd,Nat.reduceSub])
 refine Draw1.eff 0 rfl rfl rfl (OpS.eff [] rfl (by rfl) trivial (by simp only [zb,seval,w6,kcc,dcc];rfl) (by first|(simp;done)|omega|(simp;omega))) ?_;(try simp only [bH]);(try ((refine Draw1.go fun K7 k=>?_);simp only [zb,seval,w6,kcc,dcc];(refine qz (k _ _ (by rfl) ?_));clear k K7;(simp only [zz,Nat.reduceAdd,Nat.reduceSub]);(try ((refine nz (hK8 _ ?_));clear hK8 K8;(refine WpL.go _ rfl fun Y y=>?_);repeat (first|(apply fw;focus ((with_reducible constructor)<;>constructor))|((first|with_reducible refine ga _ rfl fun Y y=>?_|apply ri);simp only [zb,seval,w6,kcc,dcc];refine fz y ?_;clear y Y))))))
 refine Draw1.eff 1 rfl rfl rfl (OpS.eff [(9,_),(81,_)] rfl (by rfl) ⟨rfl,rfl,trivial⟩ (by simp only [zb,seval,w6,kcc,dcc];rfl) (by first|(simp;done)|omega|(simp;omega))) ?_;(try simp only [bH]);(try ((refine Draw1.go fun K7 k=>?_);simp only [zb,seval,w6,kcc,dcc];(refine qz (k _ _ (by rfl) ?_));clear k K7;(simp only [zz,Nat.reduceAdd,Nat.reduceSub]);(try ((refine nz (hK8 _ ?_));clear hK8 K8;(refine WpL.go _ rfl fun Y y=>?_);repeat (first|(apply fw;focus ((with_reducible constructor)<;>constructor))|((first|with_reducible refine ga _ rfl fun Y y=>?_|apply ri);simp only [zb,seval,w6,kcc,dcc];refine fz y ?_;clear y Y))))))
 refine WpA.frzP 9 4 rfl rfl (D.cc_shut _) ?_
 simp only [zz]
 (refine WpA.draw1c 14 [12,13] [_,?_,?_] _ _ _ _ rfl rfl rfl (by kernel_rfl) (by kernel_rfl) (by kernel_rfl) (by kernel_rfl) rfl rfl rfl rfl (by decide) fun K8 hK8=>?_);rotate_left 2;simp only [zz] at hK8 ⊢;(refine Draw1.go fun K7 k=>?_);simp only [zb,seval,w6,kcc,dcc];(refine qz (k _ _ (by rfl) ?_));clear k K7;(simp only [zz,Nat.reduceAdd,Nat.reduceSub])
 refine Draw1.step (by rfl) (fun s9 _=>oz (SQ)) ?_
 (refine Draw1.go fun K7 k=>?_);simp only [zb,seval,w6,kcc,dcc];(refine qz (k _ _ (by rfl) ?_));clear k K7;(simp only [zz,Nat.reduceAdd,Nat.reduceSub])
 refine Draw1.step (by rfl) (fun s9 _=>OpS.frozen (n:=3) (wd:=6) (ty:=28) (rows:=[d.cc,(uI x).cc,d.cc]) (OpS.eff [(84,_),(85,_),(86,_)] rfl (by rfl) ⟨rfl,rfl,rfl,trivial⟩ (by simp only [zb,seval,w6,kcc,dcc];rfl) (by simp)) rfl (by simp [ksh])) ?_;simp only [bH]
 refine Draw1.step (by rfl) (fun s9 _=>oz (L4)) ?_
 (refine Draw1.go fun K7 k=>?_);simp only [zb,seval,w6,kcc,dcc];(refine qz (k _ _ (by rfl) ?_));clear k K7;(simp only [zz,Nat.reduceAdd,Nat.reduceSub])
 refine Draw1.step (by rfl) (fun s9 _=>OpS.frozen (n:=2) (wd:=6) (ty:=28) (rows:=[(bJ cE).cc,(aE [d,uI x,d]).cc]) (OpS.eff [(83,_),(88,_)] rfl (by rfl) ⟨rfl,rfl,trivial⟩ (by simp only [zb,seval,w6,kcc,dcc];rfl) (by simp)) rfl (by simp [ksh])) ?_;simp only [bH]
 refine Draw1.step (by rfl) (fun s9 _=>oz (L5)) ?_
 (refine Draw1.go fun K7 k=>?_);simp only [zb,seval,w6,kcc,dcc];(refine qz (k _ _ (by rfl) ?_));clear k K7;(simp only [zz,Nat.reduceAdd,Nat.reduceSub])
 refine Draw1.step (by rfl) (fun s9 _=>oz (o2)) ?_
 (refine Draw1.go fun K7 k=>?_);simp only [zb,seval,w6,kcc,dcc];(refine qz (k _ _ (by rfl) ?_));clear k K7;(simp only [zz,Nat.reduceAdd,Nat.reduceSub])
 refine Draw1.eff 0 rfl rfl rfl (OpS.eff [] rfl (by rfl) trivial (by simp only [zb,seval,w6,kcc,dcc];rfl) (by first|(simp;done)|omega|(simp;omega))) ?_;(try simp only [bH]);(try ((refine Draw1.go fun K7 k=>?_);simp only [zb,seval,w6,kcc,dcc];(refine qz (k _ _ (by rfl) ?_));clear k K7;(simp only [zz,Nat.reduceAdd,Nat.reduceSub]);(try ((refine nz (hK8 _ ?_));clear hK8 K8;(refine WpL.go _ rfl fun Y y=>?_);repeat (first|(apply fw;focus ((with_reducible constructor)<;>constructor))|((first|with_reducible refine ga _ rfl fun Y y=>?_|apply ri);simp only [zb,seval,w6,kcc,dcc];refine fz y ?_;clear y Y))))))
 refine Draw1.eff 1 rfl rfl rfl (OpS.eff [(10,_),(92,_)] rfl (by rfl) ⟨rfl,rfl,trivial⟩ (by simp only [zb,seval,w6,kcc,dcc];rfl) (by first|(simp;done)|omega|(simp;omega))) ?_;(try simp only [bH]);(try ((refine Draw1.go fun K7 k=>?_);simp only [zb,seval,w6,kcc,dcc];(refine qz (k _ _ (by rfl) ?_));clear k K7;(simp only [zz,Nat.reduceAdd,Nat.reduceSub]);(try ((refine nz (hK8 _ ?_));clear hK8 K8;(refine WpL.go _ rfl fun Y y=>?_);repeat (first|(apply fw;focus ((with_reducible constructor)<;>constructor))|((first|with_reducible refine ga _ rfl fun Y y=>?_|apply ri);simp only [zb,seval,w6,kcc,dcc];refine fz y ?_;clear y Y))))))
 refine cz (e2) ?_
 (refine WpL.go _ rfl fun Y y=>?_);repeat (first|(apply fw;focus ((with_reducible constructor)<;>constructor))|((first|with_reducible refine ga _ rfl fun Y y=>?_|apply ri);simp only [zb,seval,w6,kcc,dcc];refine fz y ?_;clear y Y))
 refine WpA.frzP 10 5 rfl rfl (K.cc_shut _) ?_
 simp only [zz]
 refine WpA.frzP 12 6 rfl rfl (D.cc_shut _) ?_
 simp only [zz]
 (refine WpA.draw0 16 _ _ _ rfl rfl rfl (by kernel_rfl) (by kernel_rfl) (by kernel_rfl) fun K8 hK8=>?_);simp only [zz] at hK8 ⊢;(refine Draw0.go fun K7 k=>?_);simp only [zb,seval,w6,kcc,dcc];(refine qz (k _ _ ?_));clear k K7
 refine Draw0.step (OpS.frozen (n:=3) (wd:=6) (ty:=28) (rows:=[d.cc,x.cc,d.cc]) (OpS.eff [(107,_),(108,_),(109,_)] rfl (by rfl) ⟨rfl,rfl,rfl,trivial⟩ (by simp only [zb,seval,w6,kcc,dcc];rfl) (by simp)) rfl (by simp [ksh])) ?_;simp only [bH]
 refine Draw0.step (oz (L6)) ?_
 (refine Draw0.go fun K7 k=>?_);simp only [zb,seval,w6,kcc,dcc];(refine qz (k _ _ ?_));clear k K7
 refine Draw0.step (oz (s2)) ?_
 (refine Draw0.go fun K7 k=>?_);simp only [zb,seval,w6,kcc,dcc];(refine qz (k _ _ ?_));clear k K7;(try ((refine Draw0.nil (hK8 _ ?_));clear hK8 K8;(refine WpL.go _ rfl fun Y y=>?_);repeat (first|(apply fw;focus ((with_reducible constructor)<;>constructor))|((first|with_reducible refine ga _ rfl fun Y y=>?_|apply ri);simp only [zb,seval,w6,kcc,dcc];refine fz y ?_;clear y Y))))
 (refine WpA.draw1c 12 [10,11] [_,?_,?_] _ _ _ _ rfl rfl rfl (by kernel_rfl) (by kernel_rfl) (by kernel_rfl) (by kernel_rfl) rfl rfl rfl rfl (by decide) fun K8 hK8=>?_);rotate_left 2;simp only [zz] at hK8 ⊢;(refine Draw1.go fun K7 k=>?_);simp only [zb,seval,w6,kcc,dcc];(refine qz (k _ _ (by rfl) ?_));clear k K7;(simp only [zz,Nat.reduceAdd,Nat.reduceSub])
 refine Draw1.step (by rfl) (fun s9 _=>oz (SS)) ?_
 (refine Draw1.go fun K7 k=>?_);simp only [zb,seval,w6,kcc,dcc];(refine qz (k _ _ (by rfl) ?_));clear k K7;(simp only [zz,Nat.reduceAdd,Nat.reduceSub])
 refine Draw1.step (by rfl) (fun s9 _=>oz (SO)) ?_
 (refine Draw1.go fun K7 k=>?_);simp only [zb,seval,w6,kcc,dcc];(refine qz (k _ _ (by rfl) ?_));clear k K7;(simp only [zz,Nat.reduceAdd,Nat.reduceSub])
 refine Draw1.step (by rfl) (fun s9 _=>OpS.frozen (n:=2) (wd:=6) (ty:=28) (rows:=[x.cc,d.cc]) (OpS.eff [(117,_),(118,_)] rfl (by rfl) ⟨rfl,rfl,trivial⟩ (by simp only [zb,seval,w6,kcc,dcc];rfl) (by simp)) rfl (by simp [ksh])) ?_;simp only [bH]
 refine Draw1.step (by rfl) (fun s9 _=>oz (L7)) ?_
 (refine Draw1.go fun K7 k=>?_);simp only [zb,seval,w6,kcc,dcc];(refine qz (k _ _ (by rfl) ?_));clear k K7;(simp only [zz,Nat.reduceAdd,Nat.reduceSub])
 refine Draw1.step (by rfl) (fun s9 _=>OpS.frozen (n:=2) (wd:=6) (ty:=28) (rows:=[(bJ dN).cc,(aE [x,d]).cc]) (OpS.eff [(116,_),(120,_)] rfl (by rfl) ⟨rfl,rfl,trivial⟩ (by simp only [zb,seval,w6,kcc,dcc];rfl) (by simp)) rfl (by simp [ksh])) ?_;simp only [bH]
 refine Draw1.step (by rfl) (fun s9 _=>oz (L8)) ?_
 (refine Draw1.go fun K7 k=>?_);simp only [zb,seval,w6,kcc,dcc];(refine qz (k _ _ (by rfl) ?_));clear k K7;(simp only [zz,Nat.reduceAdd,Nat.reduceSub])
 refine Draw1.step (by rfl) (fun s9 _=>OpS.frozen (n:=2) (wd:=6) (ty:=28) (rows:=[(bJ cW).cc,(aE [bJ dN,aE [x,d]]).cc]) (OpS.eff [(115,_),(122,_)] rfl (by rfl) ⟨rfl,rfl,trivial⟩ (by simp only [zb,seval,w6,kcc,dcc];rfl) (by simp)) rfl (by simp [ksh])) ?_;simp only [bH]
 refine Draw1.step (by rfl) (fun s9 _=>oz (L9)) ?_
 (refine Draw1.go fun K7 k=>?_);simp only [zb,seval,w6,kcc,dcc];(refine qz (k _ _ (by rfl) ?_));clear k K7;(simp only [zz,Nat.reduceAdd,Nat.reduceSub])
 refine Draw1.eff 0 rfl rfl rfl (OpS.eff [] rfl (by rfl) trivial (by simp only [zb,seval,w6,kcc,dcc];rfl) (by first|(simp;done)|omega|(simp;omega))) ?_;(try simp only [bH]);(try ((refine Draw1.go fun K7 k=>?_);simp only [zb,seval,w6,kcc,dcc];(refine qz (k _ _ (by rfl) ?_));clear k K7;(simp only [zz,Nat.reduceAdd,Nat.reduceSub]);(try ((refine nz (hK8 _ ?_));clear hK8 K8;(refine WpL.go _ rfl fun Y y=>?_);repeat (first|(apply fw;focus ((with_reducible constructor)<;>constructor))|((first|with_reducible refine ga _ rfl fun Y y=>?_|apply ri);simp only [zb,seval,w6,kcc,dcc];refine fz y ?_;clear y Y))))))
 refine Draw1.eff 1 rfl rfl rfl (OpS.eff [(14,_),(124,_)] rfl (by rfl) ⟨rfl,rfl,trivial⟩ (by simp only [zb,seval,w6,kcc,dcc];rfl) (by first|(simp;done)|omega|(simp;omega))) ?_;(try simp only [bH]);(try ((refine Draw1.go fun K7 k=>?_);simp only [zb,seval,w6,kcc,dcc];(refine qz (k _ _ (by rfl) ?_));clear k K7;(simp only [zz,Nat.reduceAdd,Nat.reduceSub]);(try ((refine nz (hK8 _ ?_));clear hK8 K8;(refine WpL.go _ rfl fun Y y=>?_);repeat (first|(apply fw;focus ((with_reducible constructor)<;>constructor))|((first|with_reducible refine ga _ rfl fun Y y=>?_|apply ri);simp only [zb,seval,w6,kcc,dcc];refine fz y ?_;clear y Y))))))
 refine WpA.frzP 14 7 rfl rfl (D.cc_shut _) ?_
 simp only [zz]
 (refine WpA.draw1c 13 [11,12] [_,?_,?_] _ _ _ _ rfl rfl rfl (by kernel_rfl) (by kernel_rfl) (by kernel_rfl) (by kernel_rfl) rfl rfl rfl rfl (by decide) fun K8 hK8=>?_);rotate_left 2;simp only [zz] at hK8 ⊢;(refine Draw1.go fun K7 k=>?_);simp only [zb,seval,w6,kcc,dcc];(refine qz (k _ _ (by rfl) ?_));clear k K7;(simp only [zz,Nat.reduceAdd,Nat.reduceSub])
 refine Draw1.step (by rfl) (fun s9 _=>oz (SQ)) ?_
 (refine Draw1.go fun K7 k=>?_);simp only [zb,seval,w6,kcc,dcc];(refine qz (k _ _ (by rfl) ?_));clear k K7;(simp only [zz,Nat.reduceAdd,Nat.reduceSub])
 refine Draw1.step (by rfl) (fun s9 _=>OpS.frozen (n:=2) (wd:=6) (ty:=28) (rows:=[d.cc,(yD x d).cc]) (OpS.eff [(127,_),(128,_)] rfl (by rfl) ⟨rfl,rfl,trivial⟩ (by simp only [zb,seval,w6,kcc,dcc];rfl) (by simp)) rfl (by simp [ksh])) ?_;simp only [bH]
 refine Draw1.step (by rfl) (fun s9 _=>oz (LA)) ?_
 (refine Draw1.go fun K7 k=>?_);simp only [zb,seval,w6,kcc,dcc];(refine qz (k _ _ (by rfl) ?_));clear k K7;(simp only [zz,Nat.reduceAdd,Nat.reduceSub])
 refine Draw1.step (by rfl) (fun s9 _=>OpS.frozen (n:=2) (wd:=6) (ty:=28) (rows:=[(bJ cE).cc,(aE [d,yD x d]).cc]) (OpS.eff [(126,_),(130,_)] rfl (by rfl) ⟨rfl,rfl,trivial⟩ (by simp only [zb,seval,w6,kcc,dcc];rfl) (by simp)) rfl (by simp [ksh])) ?_;simp only [bH]
 refine Draw1.step (by rfl) (fun s9 _=>oz (LB)) ?_
 (refine Draw1.go fun K7 k=>?_);simp only [zb,seval,w6,kcc,dcc];(refine qz (k _ _ (by rfl) ?_));clear k K7;(simp only [zz,Nat.reduceAdd,Nat.reduceSub])
 refine Draw1.step (by rfl) (fun s9 _=>oz (o3)) ?_
 (refine Draw1.go fun K7 k=>?_);simp only [zb,seval,w6,kcc,dcc];(refine qz (k _ _ (by rfl) ?_));clear k K7;(simp only [zz,Nat.reduceAdd,Nat.reduceSub])
 refine Draw1.eff 0 rfl rfl rfl (OpS.eff [] rfl (by rfl) trivial (by simp only [zb,seval,w6,kcc,dcc];rfl) (by first|(simp;done)|omega|(simp;omega))) ?_;(try simp only [bH]);(try ((refine Draw1.go fun K7 k=>?_);simp only [zb,seval,w6,kcc,dcc];(refine qz (k _ _ (by rfl) ?_));clear k K7;(simp only [zz,Nat.reduceAdd,Nat.reduceSub]);(try ((refine nz (hK8 _ ?_));clear hK8 K8;(refine WpL.go _ rfl fun Y y=>?_);repeat (first|(apply fw;focus ((with_reducible constructor)<;>constructor))|((first|with_reducible refine ga _ rfl fun Y y=>?_|apply ri);simp only [zb,seval,w6,kcc,dcc];refine fz y ?_;clear y Y))))))
 refine Draw1.eff 1 rfl rfl rfl (OpS.eff [(15,_),(134,_)] rfl (by rfl) ⟨rfl,rfl,trivial⟩ (by simp only [zb,seval,w6,kcc,dcc];rfl) (by first|(simp;done)|omega|(simp;omega))) ?_;(try simp only [bH]);(try ((refine Draw1.go fun K7 k=>?_);simp only [zb,seval,w6,kcc,dcc];(refine qz (k _ _ (by rfl) ?_));clear k K7;(simp only [zz,Nat.reduceAdd,Nat.reduceSub]);(try ((refine nz (hK8 _ ?_));clear hK8 K8;(refine WpL.go _ rfl fun Y y=>?_);repeat (first|(apply fw;focus ((with_reducible constructor)<;>constructor))|((first|with_reducible refine ga _ rfl fun Y y=>?_|apply ri);simp only [zb,seval,w6,kcc,dcc];refine fz y ?_;clear y Y))))))
 refine cz (e3) ?_
 (refine WpL.go _ rfl fun Y y=>?_);repeat (first|(apply fw;focus ((with_reducible constructor)<;>constructor))|((first|with_reducible refine ga _ rfl fun Y y=>?_|apply ri);simp only [zb,seval,w6,kcc,dcc];refine fz y ?_;clear y Y))
 refine WpA.frzP 15 8 rfl rfl (K.cc_shut _) ?_
 simp only [zz]
 refine WpA.frzP 17 9 rfl rfl (D.cc_shut _) ?_
 simp only [zz]
 (refine WpA.draw0 17 _ _ _ rfl rfl rfl (by kernel_rfl) (by kernel_rfl) (by kernel_rfl) fun K8 hK8=>?_);simp only [zz] at hK8 ⊢;(refine Draw0.go fun K7 k=>?_);simp only [zb,seval,w6,kcc,dcc];(refine qz (k _ _ ?_));clear k K7
 refine Draw0.step (OpS.frozen (n:=3) (wd:=6) (ty:=28) (rows:=[d.cc,x.cc,d.cc]) (OpS.eff [(148,_),(149,_),(150,_)] rfl (by rfl) ⟨rfl,rfl,rfl,trivial⟩ (by simp only [zb,seval,w6,kcc,dcc];rfl) (by simp)) rfl (by simp [ksh])) ?_;simp only [bH]
 refine Draw0.step (oz (L6)) ?_
 (refine Draw0.go fun K7 k=>?_);simp only [zb,seval,w6,kcc,dcc];(refine qz (k _ _ ?_));clear k K7
 refine Draw0.step (oz (s3)) ?_
 (refine Draw0.go fun K7 k=>?_);simp only [zb,seval,w6,kcc,dcc];(refine qz (k _ _ ?_));clear k K7
 refine Draw0.step (oz (aw)) ?_
 (refine Draw0.go fun K7 k=>?_);simp only [zb,seval,w6,kcc,dcc];(refine qz (k _ _ ?_));clear k K7;(try ((refine Draw0.nil (hK8 _ ?_));clear hK8 K8;(refine WpL.go _ rfl fun Y y=>?_);repeat (first|(apply fw;focus ((with_reducible constructor)<;>constructor))|((first|with_reducible refine ga _ rfl fun Y y=>?_|apply ri);simp only [zb,seval,w6,kcc,dcc];refine fz y ?_;clear y Y))))
 refine ye (by simp only [zb,seval,w6];rfl) (by simp only [zv];rfl) ?_
 rfl
end Go.Proofs.YtaeioidifpebdaaGreatDoor
end
