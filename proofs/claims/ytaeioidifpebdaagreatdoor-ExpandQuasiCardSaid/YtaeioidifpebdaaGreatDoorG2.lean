/-
 Laid together: Abs7, Abs8, AbsD, AbsE, Abs9, Fw.
-/
import Derived.Test.YtaeioidifpebdaaGreatDoorG1
import Derived.Test.YtaeioidifpebdaaGreatDoorPhiG
section
namespace Go.Proofs.YtaeioidifpebdaaGreatDoor
open Go Go.RowKit
set_option linter.unusedSimpArgs false
set_option linter.unusedVariables false
def C.shut:C→Bool
 | .any=>true
 | .v _=>true
 | .sl _ _=>true
 | .pf _=>true
 | .gv _=>true
 | .er _=>true
 | _=>false
theorem Cc.shut {r r':World} {m m':List Lo} (hk:Keeps r r'):∀{c:C} {u:Value},c.shut=true→Cc ⟨r,m⟩ c u→Cc ⟨r',m'⟩ c u
 | .any,u,_,h=>by simpa only [Cc] using h
 | .v x,u,_,h=>by simpa only [Cc] using h
 | .sl wd es,u,_,h=>by
  have:=Cc.keep (X:=⟨r,[]⟩) (X':=⟨r',[]⟩) hk (Up.refl _) (c:=.sl wd es) (u:=u) (by simpa only [Cc] using h)
  simpa only [Cc] using this
 | .pf cs,u,_,h=>by
  have:=Cc.keep (X:=⟨r,[]⟩) (X':=⟨r',[]⟩) hk (Up.refl _) (c:=.pf cs) (u:=u) (by simpa only [Cc] using h)
  simpa only [Cc] using this
 | .gv g,u,_,h=>by
  have:=Cc.keep (X:=⟨r,[]⟩) (X':=⟨r',[]⟩) hk (Up.refl _) (c:=.gv g) (u:=u) (by simpa only [Cc] using h)
  simpa only [Cc] using this
 | .er n,u,_,h=>by
  have:=Cc.keep (X:=⟨r,[]⟩) (X':=⟨r',[]⟩) hk (Up.refl _) (c:=.er n) (u:=u) (by simpa only [Cc] using h)
  simpa only [Cc] using this
 | .ms _ _,u,h,_=>by simp [C.shut] at h
 | .ptr _ _ _ _,u,h,_=>by simp [C.shut] at h
 | .fn _ _,u,h,_=>by simp [C.shut] at h
theorem Ccs.shut {r r':World} {m m':List Lo} (hk:Keeps r r'):∀{cs:List C} {us:List Value},(∀c∈cs,c.shut=true)→Ccs ⟨r,m⟩ cs us→Ccs ⟨r',m'⟩ cs us
 | [],us,_,h=>by simpa only [Ccs] using h
 | c::cs,us,hs,h=>by
  simp only [Ccs] at h ⊢
  obtain⟨u,q,e,h1,h2⟩:=h
  exact⟨u,q,e,h1.shut hk (hs c (by simp)),Ccs.shut hk (fun c hc=>hs c (by simp [hc])) h2⟩
mutual
def cY (s:List (Option Ob)):C→Option (Prop × C)
 | .any=>some (True,.any)
 | .v x=>some (True,.v x)
 | .sl wd es=>some (True,.sl wd es)
 | .pf cs=>some (True,.pf cs)
 | .gv g=>some (True,.gv g)
 | .er n=>some (True,.er n)
 | .ms loc n=>match s[loc]? with
  | some (some ob)=>some (n=ob.es.length∧∀e∈ob.es,∀c∈e,C.shut c=true,.sl ob.wd ob.es)
  | _=>none
 | .ptr loc n i off=>match s[loc]? with
  | some (some ob)=>match ob.es[i]? with
   | some e=>some (n=ob.es.length∧off≤e.length∧∀c∈e.drop off,C.shut c=true,.pf (e.drop off))
   | none=>none
  | _=>none
 | .fn f caps=>match iA s caps with
  | some (p,cs)=>some (p,.fn f cs)
  | none=>none
def iA (s:List (Option Ob)):List C→Option (Prop × List C)
 | []=>some (True,[])
 | c::cs=>match cY s c with
  | some (p,d)=>match iA s cs with
   | some (q,ds)=>some (p∧q,d::ds)
   | none=>none
  | none=>none
end
theorem mA (H:Nat→Bool) (s:List (Option Ob)) (m:List Lo) (w:World):Keeps (vis H s m w) (vis H [] [] w):=Keeps.only fun b hp _=>by
 simp only [Bool.and_eq_true,Bool.not_eq_true'] at hp ⊢
 exact⟨⟨hp.1,by first|rfl|trivial⟩,by first|rfl|trivial⟩
theorem Crow.of {X:Cx} {b wd:Nat}:∀{es:List (List C)} {vs:List Value} {o:Nat},(∀e∈es,e.length=wd)→CellsAt X.r b o vs→Ccs X es.flatten vs→Crow X es b o
 | [],_,_,_,_,_=>by simp only [Crow]
 | e::es,vs,o,hw,hc,h=>by
  rw [List.flatten_cons] at h
  obtain⟨u1,u2,rfl,h1,h2⟩:=Ccs.append.1 h
  obtain⟨c1,c2⟩:=CellsAt.append.1 hc
  simp only [Crow]
  exact⟨u1,c1,h1,Crow.of (fun e he=>hw e (by simp [he])) c2 h2⟩
section
variable {H:Nat→Bool} {s:List (Option Ob)} {m:List Lo} {w:World}
mutual
theorem xD (hs:StoOk H s m w):∀{c c':C} {p:Prop} {u:Value},cY s c=some (p,c')→p→Cc ⟨vis H s m w,m⟩ c u→Cc ⟨vis H [] [] w,[]⟩ c' u
 | .any,c',p,u,h,hp,hc=>by simp only [cY,Option.some.injEq,Prod.mk.injEq] at h;obtain⟨-,rfl⟩:=h;exact hc.shut (mA _ _ _ _) rfl
 | .v x,c',p,u,h,hp,hc=>by simp only [cY,Option.some.injEq,Prod.mk.injEq] at h;obtain⟨-,rfl⟩:=h;exact hc.shut (mA _ _ _ _) rfl
 | .sl wd es,c',p,u,h,hp,hc=>by simp only [cY,Option.some.injEq,Prod.mk.injEq] at h;obtain⟨-,rfl⟩:=h;exact hc.shut (mA _ _ _ _) rfl
 | .pf cs,c',p,u,h,hp,hc=>by simp only [cY,Option.some.injEq,Prod.mk.injEq] at h;obtain⟨-,rfl⟩:=h;exact hc.shut (mA _ _ _ _) rfl
 | .gv g,c',p,u,h,hp,hc=>by simp only [cY,Option.some.injEq,Prod.mk.injEq] at h;obtain⟨-,rfl⟩:=h;exact hc.shut (mA _ _ _ _) rfl
 | .er n,c',p,u,h,hp,hc=>by simp only [cY,Option.some.injEq,Prod.mk.injEq] at h;obtain⟨-,rfl⟩:=h;exact hc.shut (mA _ _ _ _) rfl
 | .ms loc n,c',p,u,h,hp,hc=>by
  simp only [cY] at h
  split at h
  case h_2=>cases h
  rename_i ob ho
  simp only [Option.some.injEq,Prod.mk.injEq] at h
  obtain⟨rfl,rfl⟩:=h
  obtain⟨hn,hsh⟩:=hp
  simp only [Cc] at hc
  obtain⟨-,l,hl,-,he⟩:=hc
  have hob:=hs.ok loc ob l ho hl
  have he:=he (by rw [hob.n];exact hn)
  obtain⟨a1,a2,a3,a4,a5,vs,rest,a6,a7,a8⟩:=hob
  have hH:=hs.nh loc ob l ho hl
  have hcells:CellsAt (vis H [] [] w) l.b 0 vs:=CellsAt.of fun j v hj=>by
   unfold vis
   rw [eX,if_pos (by simp [hH,bZ]),cG a6]
   simp only [Nat.zero_add,List.getElem?_toArray]
   rw [List.getElem?_append_left (List.getElem?_eq_some_iff.1 hj).1];exact hj
  have h8:Ccs ⟨vis H [] [] w,[]⟩ ob.es.flatten vs:=a8.shut (mA _ _ _ _) (fun c hc=>by
   obtain⟨e,he,hce⟩:=List.mem_flatten.1 hc
   exact hsh e he c hce)
  simp only [Cc]
  refine⟨a3,.inr ⟨l.b,0,l.cap,by rw [he,hn],a4,a5,Crow.of (X:=⟨vis H [] [] w,[]⟩) a3 hcells h8⟩⟩
 | .ptr loc n i off,c',p,u,h,hp,hc=>by
  simp only [cY] at h
  split at h
  case h_2=>cases h
  rename_i ob ho
  split at h
  case h_2=>cases h
  rename_i e hei
  simp only [Option.some.injEq,Prod.mk.injEq] at h
  obtain⟨rfl,rfl⟩:=h
  obtain⟨hn,hoff,hsh⟩:=hp
  simp only [Cc] at hc
  obtain⟨-,l,hl,-,he⟩:=hc
  have he:=he (by rw [(hs.ok loc ob l ho hl).n];exact hn)
  obtain⟨vs,h2,h3⟩:=hs.cells ho hl hei hoff
  have hH:=hs.nh loc ob l ho hl
  simp only [Cc]
  refine⟨l.b,_,vs,he,CellsAt.of fun j v hj=>?_,h3.shut (mA _ _ _ _) hsh⟩
  unfold vis
  rw [eX,if_pos (by simp [hH,bZ])]
  exact h2.at j v hj
 | .fn f caps,c',p,u,h,hp,hc=>by
  simp only [cY] at h
  split at h
  case h_2=>cases h
  rename_i q cs hcs
  simp only [Option.some.injEq,Prod.mk.injEq] at h
  obtain⟨rfl,rfl⟩:=h
  simp only [Cc] at hc ⊢
  obtain⟨vs,e,hv⟩:=hc
  exact⟨vs,e,pQ hs hcs hp hv⟩
theorem pQ (hs:StoOk H s m w):∀{cs cs':List C} {p:Prop} {us:List Value},iA s cs=some (p,cs')→p→Ccs ⟨vis H s m w,m⟩ cs us→Ccs ⟨vis H [] [] w,[]⟩ cs' us
 | [],cs',p,us,h,hp,hc=>by simp only [iA,Option.some.injEq,Prod.mk.injEq] at h;obtain⟨-,rfl⟩:=h;simpa only [Ccs] using hc
 | c::cs,cs',p,us,h,hp,hc=>by
  simp only [iA] at h
  split at h
  case h_2=>cases h
  rename_i p1 d hd
  split at h
  case h_2=>cases h
  rename_i q ds hds
  simp only [Option.some.injEq,Prod.mk.injEq] at h
  obtain⟨rfl,rfl⟩:=h
  simp only [Ccs] at hc ⊢
  obtain⟨u,r,e,h1,h2⟩:=hc
  exact⟨u,r,e,xD hs hd hp.1 h1,pQ hs hds hp.2 h2⟩
end
end
mutual
def gW (s:List (Option Ob)):A→Option (Prop × A)
 | .any=>some (True,.any)
 | .one c=>match cY s c with
  | some (p,d)=>some (p,.one d)
  | none=>none
 | .agg cs=>match iA s cs with
  | some (p,ds)=>some (p,.agg ds)
  | none=>none
 | .tup l=>match gO s l with
  | some (p,r)=>some (p,.tup r)
  | none=>none
def gO (s:List (Option Ob)):List A→Option (Prop × List A)
 | []=>some (True,[])
 | a::l=>match gW s a with
  | some (p,b)=>match gO s l with
   | some (q,r)=>some (p∧q,b::r)
   | none=>none
  | none=>none
end
mutual
theorem xE {H:Nat→Bool} {s:List (Option Ob)} {m:List Lo} {w:World} (hs:StoOk H s m w):∀{a a':A} {p:Prop} {u:Value},gW s a=some (p,a')→p→Ca ⟨vis H s m w,m⟩ a u→Ca ⟨vis H [] [] w,[]⟩ a' u
 | .any,a',p,u,h,hp,hc=>by simp only [gW,Option.some.injEq,Prod.mk.injEq] at h;obtain⟨-,rfl⟩:=h;simp only [Ca]
 | .one c,a',p,u,h,hp,hc=>by
  simp only [gW] at h
  split at h
  case h_2=>cases h
  rename_i q d hd
  simp only [Option.some.injEq,Prod.mk.injEq] at h
  obtain⟨rfl,rfl⟩:=h
  simp only [Ca] at hc ⊢
  exact xD hs hd hp hc
 | .agg cs,a',p,u,h,hp,hc=>by
  simp only [gW] at h
  split at h
  case h_2=>cases h
  rename_i q d hd
  simp only [Option.some.injEq,Prod.mk.injEq] at h
  obtain⟨rfl,rfl⟩:=h
  simp only [Ca] at hc ⊢
  obtain⟨us,e,hc⟩:=hc
  exact⟨us,e,pQ hs hd hp hc⟩
 | .tup l,a',p,u,h,hp,hc=>by
  simp only [gW] at h
  split at h
  case h_2=>cases h
  rename_i q d hd
  simp only [Option.some.injEq,Prod.mk.injEq] at h
  obtain⟨rfl,rfl⟩:=h
  simp only [Ca] at hc ⊢
  obtain⟨us,e,hc⟩:=hc
  exact⟨us,e,mB hs hd hp hc⟩
theorem mB {H:Nat→Bool} {s:List (Option Ob)} {m:List Lo} {w:World} (hs:StoOk H s m w):∀{l l':List A} {p:Prop} {us:List Value},gO s l=some (p,l')→p→Cas ⟨vis H s m w,m⟩ l us→Cas ⟨vis H [] [] w,[]⟩ l' us
 | [],l',p,us,h,hp,hc=>by simp only [gO,Option.some.injEq,Prod.mk.injEq] at h;obtain⟨-,rfl⟩:=h;simpa only [Cas] using hc
 | a::l,l',p,us,h,hp,hc=>by
  simp only [gO] at h
  split at h
  case h_2=>cases h
  rename_i p1 d hd
  split at h
  case h_2=>cases h
  rename_i q ds hds
  simp only [Option.some.injEq,Prod.mk.injEq] at h
  obtain⟨rfl,rfl⟩:=h
  simp only [Cas] at hc ⊢
  obtain⟨u,r,e,h1,h2⟩:=hc
  exact⟨u,r,e,xE hs hd hp.1 h1,mB hs hds hp.2 h2⟩
end
def Fn (P:Program) (f:FuncId) (args:List A) (s:List (Option Ob)) (R:A→List (Option Ob)→Prop):Prop:=∀(H:Nat→Bool) (m:List Lo) (w:World) (vs:List Value),StoOk H s m w→Cas ⟨vis H s m w,m⟩ args vs →
 Calls P f vs.toArray w fun e w'=>∃v m' r s',e=.returned v∧R r s'∧StoOk H s' m' w'∧Ca ⟨vis H s' m' w',m'⟩ r v∧Fr (bZ s m) w w'∧Up m m'∧∀(i:Nat) (ob:Ob) (l:Lo),s'[i]?=some (some ob)→m'[i]?=some l→bZ s m l.b=true∨w.heap.size≤l.b
def Pure (P:Program) (f:FuncId) (args:List A) (r:A):Prop:=Fn P f args [] fun x s=>x=r∧s=[]
theorem Fn.mono {P:Program} {f:FuncId} {args:List A} {s:List (Option Ob)} {R R':A→List (Option Ob)→Prop} (h:Fn P f args s R) (hr:∀x s,R x s→R' x s):Fn P f args s R':=fun H m w vs hs hc =>
 (h H m w vs hs hc).mono fun e w' ⟨v,m',r,s',h1,h2,h3⟩=>⟨v,m',r,s',h1,hr _ _ h2,h3⟩
def eC (P:Program) (f:FuncId):Bool:=match P.funcs[f]? with|some fn=>fn.body.isSome&&fn.name != "runtime.NumGoroutine" | none=>false
theorem pR {P:Program} {f:FuncId} {args:Array Value} {w:World} (h:eC P f=true):(callFunc f args).run P w=.ok (.enter f args) w:=by
 unfold eC at h
 split at h
 case h_2=>cases h
 rename_i fn hf
 simp only [Bool.and_eq_true,bne_iff_ne,ne_eq] at h
 have h1:(fn.name == "runtime.NumGoroutine")=false:=by simpa using h.2
 have h2:fn.body.isNone=false:=by cases hb:fn.body<;>simp_all
 simp only [callFunc,program,bind,Sem.bind,Sem.run,hf,h1,h2,Bool.false_eq_true,if_false,pure]
section
variable {P:Program} {nt:Cf} {ops:Array Oper} {Q:St→Prop} {st:St} {rest:List Oper}
def kM (e:List (Nat × A)):List Operand→Option (List A)
 | []=>some []
 | x::r=>match rdA e x with
  | some a=>match kM e r with
   | some l=>some (a::l)
   | none=>none
  | none=>none
theorem Sim.rds {H:Nat→Bool} {w0:World} {S0:Nat→Bool} {m0:List Lo} {m:List Lo} {a:Act} {w:World} (h:Sim H w0 S0 m0 nt st m a w):∀{xs:List Operand} {l:List A},kM st.e xs=some l→Cas ⟨vis H st.s m w,m⟩ l (xs.map a.eval)
 | [],l,hx=>by simp only [kM,Option.some.injEq] at hx;subst hx;simp [Cas]
 | x::xs,l,hx=>by
  simp only [kM] at hx
  split at hx
  case h_2=>cases hx
  rename_i y hy
  split at hx
  case h_2=>cases hx
  rename_i l' hl
  cases hx
  simp only [List.map_cons,Cas]
  exact⟨_,_,rfl,h.rd hy,h.rds hl⟩
theorem Cas.append {X:Cx}:∀{l k:List A} {us vs:List Value},Cas X l us→Cas X k vs→Cas X (l++k) (us++vs)
 | [],k,us,vs,h,hk=>by simp only [Cas] at h;subst h;simpa using hk
 | a::l,k,us,vs,h,hk=>by
  simp only [Cas] at h
  obtain⟨u,r,rfl,h1,h2⟩:=h
  simp only [List.cons_append,Cas]
  exact⟨u,r++vs,rfl,h1,Cas.append h2 hk⟩
theorem Cas.ones {X:Cx}:∀{cs:List C} {us:List Value},Ccs X cs us→Cas X (cs.map .one) us
 | [],us,h=>by simp only [Ccs] at h;subst h;simp [Cas]
 | c::cs,us,h=>by
  simp only [Ccs] at h
  obtain⟨u,r,rfl,h1,h2⟩:=h
  simp only [List.map_cons,Cas]
  exact⟨u,r,rfl,by simp only [Ca];exact h1,Cas.ones h2⟩
theorem Sim.ext {H:Nat→Bool} {w0:World} {S0:Nat→Bool} {m0:List Lo} {m:List Lo} {a:Act} {w w':World} (h:Sim H w0 S0 m0 nt st m a w) (hx:Fr (fun _=>false) w w'):Sim H w0 S0 m0 nt st m a w'∧Goes st.s m w st.s m w':=by
 have hg:Goes st.s m w st.s m w':=⟨Up.refl _,hx.os,hx.tape,hx.output,hx.size,fun b hb hh=>⟨hh,hx.block b hb rfl⟩⟩
 refine⟨h.goes hg ⟨h.sto.len,fun i ob l h1 h2=>(h.sto.ok i ob l h1 h2).carry hg.keeps hg.up (hx.block _ (h.sto.lt h1 h2) rfl),h.sto.uniq,h.sto.nh,fun b hb=>Nat.lt_of_lt_of_le (h.sto.hlt b hb) hx.size,hg.gb h.sto.gb,hg.gl h.sto.gb h.sto.gl⟩ h.own,hg⟩
theorem GN (H:Nat→Bool) (s:List (Option Ob)) (m:List Lo) (w:World):vis (fun b=>H b||bZ s m b) [] [] w=vis H s m w:=by
 unfold vis
 congr 1
 funext b
 have:bZ [] [] b=false:=rfl
 simp only [this]
 cases H b<;>cases bZ s m b<;>rfl
def CallA (P:Program) (nt:Cf) (fo:Operand) (args:List Operand) (st:St) (K:A→Prop):Prop:=∃f caps xs,rdA st.e fo=some (.one (.fn f caps))∧kM st.e args=some xs∧eC P f=true ∧
 ∀H w0 S0 m0 m a w,Sim H w0 S0 m0 nt st m a w→∀vs,Cas ⟨vis H st.s m w,m⟩ (xs++caps.map .one) vs→Calls P f vs.toArray w fun e w'=>∃v r,e=.returned v∧K r∧Fr (fun _=>false) w w'∧Ca ⟨vis H st.s m w',m⟩ r v
theorem zN {H:Nat→Bool} {w0:World} {S0:Nat→Bool} {m0:List Lo} {m:List Lo} {a:Act} {w:World} {fo:Operand} {args:List Operand} {tys:Array TypeId} {ty:TypeId} {f:FuncId} {caps:List C} {xs:List A} (hs:Sim H w0 S0 m0 nt st m a w)
  (hf:rdA st.e fo=some (.one (.fn f caps))) (ha:kM st.e args=some xs) (hc:eC P f=true) :
  ∃vs:List Value,(execOp a.eval ⟨none,.call { callee:=.value fo,args:=args.toArray,argTypes:=tys },ty,"",#[],none⟩).run P w=.ok (.enter f vs.toArray) w∧Cas ⟨vis H st.s m w,m⟩ (xs++caps.map .one) vs:=by
 have h1:=hs.rd hf
 simp only [Ca,Cc] at h1
 obtain⟨us,e,hu⟩:=h1
 refine⟨args.map a.eval++us,?_,(hs.rds ha).append (Cas.ones hu)⟩
 simp only [execOp,resolve,e,Deferred.ofValue,Sem.run_bind,Sem.run_pure,Result.andThen_ok,invoke,List.map_toArray]
 have:((#[]:Array Value)++(args.map a.eval).toArray++us.toArray)=(args.map a.eval++us).toArray:=by simp
 rw [this,pR hc]
theorem WpL.call {d:Option Tmp} {fo:Operand} {args:List Operand} {tys:Array TypeId} {ty:TypeId} {pos:String} {aft:Array Edge} {g:Option (Nat × Bool)} (hd:nL nt d=true)
  (hg:∀H w0 S0 m0 m a w,Sim H w0 S0 m0 nt st m a w→Region.wanted ⟨d,.call { callee:=.value fo,args:=args.toArray,argTypes:=tys },ty,pos,aft,g⟩ (yielded ops a.tmps)=true)
  (h:CallA P nt fo args st fun r=>WpL P nt ops Q rest (st.put d r)):WpL P nt ops Q (⟨d,.call { callee:=.value fo,args:=args.toArray,argTypes:=tys },ty,pos,aft,g⟩::rest) st:=fun H w0 S0 m0 m a w hs Q' hQ=>by
 obtain⟨f,caps,xs,hf,ha,hc,h⟩:=h
 obtain⟨vs,hrun,hv⟩:=zN (tys:=tys) (ty:=ty) hs hf ha hc
 unfold wpList
 rw [if_pos (hg H w0 S0 m0 m a w hs)]
 refine .inl ?_
 unfold Oper.wp
 rw [gZ,hrun]
 refine (h H w0 S0 m0 m a w hs vs hv).mono fun e w' ⟨v,r,he,hK,hx,hr⟩=>?_
 subst he
 exact hK H w0 S0 m0 m _ w' ((hs.ext hx).1.put hd hr) Q' hQ
mutual
def A.shut:A→Bool
 | .any=>true
 | .one c=>c.shut
 | .agg cs=>cs.all C.shut
 | .tup l=>dF l
def dF:List A→Bool
 | []=>true
 | a::l=>a.shut&&dF l
end
mutual
theorem Ca.shut {r:World} {m m':List Lo}:∀{a:A} {u:Value},a.shut=true→Ca ⟨r,m⟩ a u→Ca ⟨r,m'⟩ a u
 | .any,u,_,h=>by simp only [Ca]
 | .one c,u,hf,h=>by simp only [Ca] at h ⊢;exact h.shut (Keeps.refl _) (by simpa [A.shut] using hf)
 | .agg cs,u,hf,h=>by
  simp only [Ca] at h ⊢
  obtain⟨us,e,h⟩:=h
  exact⟨us,e,h.shut (Keeps.refl _) (by simpa [A.shut] using hf)⟩
 | .tup l,u,hf,h=>by
  simp only [Ca] at h ⊢
  obtain⟨us,e,h⟩:=h
  exact⟨us,e,Cas.shut (by simpa [A.shut] using hf) h⟩
theorem Cas.shut {r:World} {m m':List Lo}:∀{l:List A} {us:List Value},dF l=true→Cas ⟨r,m⟩ l us→Cas ⟨r,m'⟩ l us
 | [],us,_,h=>by simpa only [Cas] using h
 | a::l,us,hf,h=>by
  simp only [dF,Bool.and_eq_true] at hf
  simp only [Cas] at h ⊢
  obtain⟨u,q,e,h1,h2⟩:=h
  exact⟨u,q,e,Ca.shut hf.1 h1,Cas.shut hf.2 h2⟩
end
def ALe (x y:A):Prop:=∀X u,Ca X x u→Ca X y u
def ALes (l k:List A):Prop:=∀X us,Cas X l us→Cas X k us
def CLes (l k:List C):Prop:=∀X us,Ccs X l us→Ccs X k us
theorem ALe.refl (x:A):ALe x x:=fun _ _ h=>h
theorem ALes.refl (l:List A):ALes l l:=fun _ _ h=>h
theorem CLes.refl (l:List C):CLes l l:=fun _ _ h=>h
theorem ALes.cons {x y:A} {l k:List A} (h:ALe x y) (hl:ALes l k):ALes (x::l) (y::k):=fun X us hu=>by
 simp only [Cas] at hu ⊢
 obtain⟨u,r,e,h1,h2⟩:=hu
 exact⟨u,r,e,h X u h1,hl X r h2⟩
theorem CLes.cons {x:C} {l k:List C} (hl:CLes l k):CLes (x::l) (x::k):=fun X us hu=>by
 simp only [Ccs] at hu ⊢
 obtain⟨u,r,e,h1,h2⟩:=hu
 exact⟨u,r,e,h1,hl X r h2⟩
theorem CLes.nil {wd:Nat} {l k:List C} (hl:CLes l k):CLes (.v (.slice none 0 0)::l) (.sl wd []::k):=fun X us hu=>by
 simp only [Ccs] at hu ⊢
 obtain⟨u,r,e,h1,h2⟩:=hu
 refine⟨u,r,e,?_,hl X r h2⟩
 simp only [Cc] at h1 ⊢
 exact⟨by simp,.inl ⟨trivial,.inl h1.1⟩⟩
theorem ALe.agg {l k:List C} (h:CLes l k):ALe (.agg l) (.agg k):=fun X u hu=>by
 simp only [Ca] at hu ⊢
 obtain⟨us,e,h1⟩:=hu
 exact⟨us,e,h X us h1⟩
theorem ALe.tup {l k:List A} (h:ALes l k):ALe (.tup l) (.tup k):=fun X u hu=>by
 simp only [Ca] at hu ⊢
 obtain⟨us,e,h1⟩:=hu
 exact⟨us,e,h X us h1⟩
theorem ALe.nil {wd:Nat}:ALe (.one (.v (.slice none 0 0))) (.one (.sl wd [])):=fun X u hu=>by
 simp only [Ca,Cc] at hu ⊢
 exact⟨by simp,.inl ⟨trivial,.inl hu.1⟩⟩
theorem zO {f:FuncId} {xs:List A} {r:A} {H:Nat→Bool} {s:List (Option Ob)} {m:List Lo} {w:World} (hsh:dF xs=true) (hfn:Pure P f xs r) (hs:StoOk H s m w) (vs:List Value) (hvs:Cas ⟨vis H s m w,m⟩ xs vs) :
  Calls P f vs.toArray w fun e w'=>∃v,e=.returned v∧Fr (fun _=>false) w w'∧Ca ⟨vis H s m w',m⟩ r v:=by
 replace hvs:=Cas.shut (m':=[]) hsh hvs
 have h0:StoOk (fun b=>H b||bZ s m b) [] [] w:=⟨rfl,by simp,by simp,by simp,fun b hb=>by
  simp only [Bool.or_eq_true] at hb
  rcases hb with hb|hb
  ·exact hs.hlt b hb
  ·obtain⟨i,ob,l,h1,h2,rfl⟩:=aN.1 hb
   exact StoOk.lt (st:=⟨[],s⟩) hs h1 h2,fun b hb=>⟨by simp only [(hs.gb b hb).1,(hs.gb b hb).2.1,Bool.or_self],rfl,(hs.gb b hb).2.2⟩,hs.gl⟩
 refine (hfn _ [] w vs h0 (by rw [GN];exact hvs)).mono fun e w' ⟨v,m',r',s',he,⟨hr1,hr2⟩,hso,hca,hfr,_,_⟩=>?_
 subst hr1 hr2
 have hm':m'=[]:=by have:=hso.len;simp at this;exact List.eq_nil_of_length_eq_zero (by omega)
 subst hm'
 refine⟨v,he,⟨hfr.os,hfr.tape,hfr.output,hfr.size,fun b hb _=>hfr.block b hb rfl⟩,?_⟩
 rw [GN] at hca
 exact Ca.more hca
theorem CallA.shut {fo:Operand} {args:List Operand} {f:FuncId} {caps:List C} {xs xs':List A} {K:A→Prop} {r:A} (hf:rdA st.e fo=some (.one (.fn f caps))) (ha:kM st.e args=some xs) (hc:eC P f=true)
  (hv:ALes (xs++caps.map .one) xs') (hsh:dF xs'=true) (hfn:Pure P f xs' r) (hK:K r):CallA P nt fo args st K:=by
 refine⟨f,caps,xs,hf,ha,hc,fun H w0 S0 m0 m a w hs vs hvs=>?_⟩
 replace hvs:=hv _ _ hvs
 exact (zO hsh hfn hs.sto vs hvs).mono fun e w' ⟨v,he,h1,h2⟩=>⟨v,r,he,hK,h1,h2⟩
mutual
def A.flat:A→Bool
 | .any=>true
 | .one (.v _)=>true
 | .agg cs=>cs.all fun c=>match c with|.v _=>true|_=>false
 | .tup l=>MF l
 | _=>false
def MF:List A→Bool
 | []=>true
 | a::l=>a.flat&&MF l
end
theorem Ccs.flat {X X':Cx}:∀{cs:List C} {us:List Value},(cs.all fun c=>match c with|.v _=>true|_=>false)=true→Ccs X cs us→Ccs X' cs us
 | [],us,_,h=>by simpa only [Ccs] using h
 | c::cs,us,hf,h=>by
  simp only [List.all_cons,Bool.and_eq_true] at hf
  simp only [Ccs] at h ⊢
  obtain⟨u,r,e,h1,h2⟩:=h
  refine⟨u,r,e,?_,Ccs.flat hf.2 h2⟩
  cases c with
  | v x=>simpa only [Cc] using h1
  | _=>simp at hf
mutual
theorem Ca.flat {X X':Cx}:∀{a:A} {u:Value},a.flat=true→Ca X a u→Ca X' a u
 | .any,u,_,h=>by simp only [Ca]
 | .one c,u,hf,h=>by
  cases c with
  | v x=>simpa only [Ca,Cc] using h
  | _=>simp [A.flat] at hf
 | .agg cs,u,hf,h=>by
  simp only [Ca] at h ⊢
  obtain⟨us,e,h⟩:=h
  exact⟨us,e,Ccs.flat (by simpa [A.flat] using hf) h⟩
 | .tup l,u,hf,h=>by
  simp only [Ca] at h ⊢
  obtain⟨us,e,h⟩:=h
  exact⟨us,e,Cas.flat (by simpa [A.flat] using hf) h⟩
theorem Cas.flat {X X':Cx}:∀{l:List A} {us:List Value},MF l=true→Cas X l us→Cas X' l us
 | [],us,_,h=>by simpa only [Cas] using h
 | a::l,us,hf,h=>by
  simp only [MF,Bool.and_eq_true] at hf
  simp only [Cas] at h ⊢
  obtain⟨u,r,e,h1,h2⟩:=h
  exact⟨u,r,e,Ca.flat hf.1 h1,Cas.flat hf.2 h2⟩
end
theorem zP {f:FuncId} {xs xs':List A} {p:Prop} {r:A} {H:Nat→Bool} {s:List (Option Ob)} {m:List Lo} {w:World} (hv:gO s xs=some (p,xs')) (hp:p) (hfl:r.flat=true) (hfn:Pure P f xs' r) (hs:StoOk H s m w) (vs:List Value) (hvs:Cas ⟨vis H s m w,m⟩ xs vs) :
  Calls P f vs.toArray w fun e w'=>∃v,e=.returned v∧Fr (fun _=>false) w w'∧Ca ⟨vis H s m w',m⟩ r v:=by
 have h0:StoOk H [] [] w:=⟨rfl,by simp,by simp,by simp,hs.hlt,fun b hb=>⟨(hs.gb b hb).1,rfl,(hs.gb b hb).2.2⟩,hs.gl⟩
 refine (hfn _ [] w vs h0 (mB hs hv hp hvs)).mono fun e w' ⟨v,m',r',s',he,⟨hr1,hr2⟩,hso,hca,hfr,_,_⟩=>?_
 subst hr1 hr2
 exact⟨v,he,⟨hfr.os,hfr.tape,hfr.output,hfr.size,fun b hb _=>hfr.block b hb rfl⟩,hca.flat hfl⟩
theorem CallA.lend {fo:Operand} {args:List Operand} {f:FuncId} {caps:List C} {xs xs':List A} {K:A→Prop} {p:Prop} {r:A} (hf:rdA st.e fo=some (.one (.fn f caps))) (ha:kM st.e args=some xs) (hc:eC P f=true)
  (hv:gO st.s (xs++caps.map .one)=some (p,xs')) (hp:p) (hfl:r.flat=true) (hfn:Pure P f xs' r) (hK:K r):CallA P nt fo args st K :=
 ⟨f,caps,xs,hf,ha,hc,fun H w0 S0 m0 m a w hs vs hvs=>(zP hv hp hfl hfn hs.sto vs hvs).mono fun e w' ⟨v,he,h1,h2⟩=>⟨v,r,he,hK,h1,h2⟩⟩
end
def oJ:Nat→List A→List (Nat × A)
 | _,[]=>[]
 | k,a::l=>(k,a)::oJ (k+1) l
theorem tR:∀(l:List A) (k i:Nat) (x:A),find (oJ k l) i=some x→k≤i∧l[i-k]?=some x
 | [],_,_,_,h=>by simp [oJ,find] at h
 | a::l,k,i,x,h=>by
  simp only [oJ,find] at h
  split at h
  ·rename_i e
   subst e
   cases h
   exact⟨Nat.le_refl _,by simp⟩
  ·rename_i e
   obtain⟨h1,h2⟩:=tR l (k+1) i x h
   refine⟨by omega,?_⟩
   rw [show i-k=(i-(k+1))+1 by omega]
   simpa using h2
def rH (P:Program) (s:List (Option Ob)) (e:List (Nat × A)):List ResultVar→Option (Prop × List A)
 | []=>some (True,[])
 | .tmp t::r=>match find e t with
  | some a=>match rH P s e r with
   | some (p,l)=>some (p,a::l)
   | none=>none
  | none=>none
 | .cell t ty::r=>match find e t with
  | some (.one c)=>match sW P s ty c with
   | some (q,a)=>match rH P s e r with
    | some (p,l)=>some (q∧p,a::l)
    | none=>none
   | none=>none
  | _=>none
def qS:List A→A
 | [a]=>a
 | l=>.tup l
theorem Sim.res {P:Program} {H:Nat→Bool} {w0:World} {S0:Nat→Bool} {m0:List Lo} {nt:Cf} {st:St} {m:List Lo} {a:Act} {w:World} (h:Sim H w0 S0 m0 nt st m a w):∀{rs:List ResultVar} {l:List A} {p:Prop},rH P st.s st.e rs=some (p,l)→p →
  ∀(g:ResultVar→Sem Value),(∀t,g (.tmp t)=pure (a.tmps.getD t undef))→(∀t ty,g (.cell t ty)=(do loadVar ty (←asAddr (a.tmps.getD t undef))))→∃us,(rs.mapM g).run P w=.ok us w∧Cas ⟨vis H st.s m w,m⟩ l us
 | [],l,p,hr,hp,g,hg,hg2=>by simp only [rH,Option.some.injEq,Prod.mk.injEq] at hr;obtain⟨-,rfl⟩:=hr;exact⟨[],by simp,by simp [Cas]⟩
 | .tmp t::rs,l,p,hr,hp,g,hg,hg2=>by
  simp only [rH] at hr
  split at hr
  case h_2=>cases hr
  rename_i x hx
  split at hr<;>simp only [Option.some.injEq,Prod.mk.injEq,reduceCtorEq] at hr
  rename_i q l' hl
  obtain⟨rfl,rfl⟩:=hr
  obtain⟨us,h1,h2⟩:=h.res hl hp g hg hg2
  obtain⟨u,hu,hc⟩:=h.env t x hx
  refine⟨u::us,?_,by simp only [Cas];exact⟨u,us,rfl,hc,h2⟩⟩
  rw [List.mapM_cons]
  simp only [hg,Sem.run_bind,Sem.run_pure,Result.andThen_ok,Array.getD_eq_getD_getElem?,hu,Option.getD_some]
  rw [h1];rfl
 | .cell t ty::rs,l,p,hr,hp,g,hg,hg2=>by
  simp only [rH] at hr
  split at hr
  case h_2=>cases hr
  rename_i c hx
  split at hr
  case h_2=>cases hr
  rename_i q' y hy
  split at hr<;>simp only [Option.some.injEq,Prod.mk.injEq,reduceCtorEq] at hr
  rename_i q l' hl
  obtain⟨rfl,rfl⟩:=hr
  obtain⟨us,h1,h2⟩:=h.res hl hp.2 g hg hg2
  obtain⟨u,hu,hc⟩:=h.env t _ hx
  simp only [Ca] at hc
  obtain⟨ad,v,e,hrv,hcv⟩:=zB h.sto hy hp.1 hc
  subst e
  refine⟨v::us,?_,by simp only [Cas];exact⟨v,us,rfl,hcv,h2⟩⟩
  rw [List.mapM_cons]
  simp only [hg2,Sem.run_bind,Sem.run_pure,Result.andThen_ok,Array.getD_eq_getD_getElem?,hu,Option.getD_some,asAddr,hrv]
  rw [h1];rfl
theorem Sim.results {P:Program} {H:Nat→Bool} {w0:World} {S0:Nat→Bool} {m0:List Lo} {nt:Cf} {st:St} {m:List Lo} {a:Act} {w:World} (h:Sim H w0 S0 m0 nt st m a w) {fn:Func} {l:List A} {p:Prop} (hr:rH P st.s st.e fn.results.toList=some (p,l)) (hp:p) :
  ∃u,(Go.results fn a.tmps).run P w=.ok u w∧Ca ⟨vis H st.s m w,m⟩ (qS l) u:=by
 have key:∀g:ResultVar→Sem Value,(∀t,g (.tmp t)=pure (a.tmps.getD t undef))→(∀t ty,g (.cell t ty)=(do loadVar ty (←asAddr (a.tmps.getD t undef))))→∃u,(do let vs ←fn.results.mapM g;pure (if h:vs.size=1 then vs[0] else .tuple vs):Sem Value).run P w=.ok u w∧Ca ⟨vis H st.s m w,m⟩ (qS l) u:=by
  intro g hg hg2
  obtain⟨us,h1,h2⟩:=h.res (P:=P) hr hp g hg hg2
  rw [Array.mapM_eq_mapM_toList,map_eq_pure_bind]
  simp only [Sem.run_bind,Sem.run_pure]
  rw [h1]
  simp only [Result.andThen_ok]
  match l,us,h2 with
  | [],us,h2=>simp only [Cas] at h2;subst h2;exact⟨_,rfl,by simp only [qS,Ca];exact⟨[],rfl,by simp [Cas]⟩⟩
  | [x],us,h2 =>
   simp only [Cas] at h2
   obtain⟨u,r,rfl,h3,rfl⟩:=h2
   exact⟨_,rfl,by simpa [qS] using h3⟩
  | x::y::l,us,h2 =>
   have hl:=h2.len
   refine⟨.tuple us.toArray,?_,by simp only [qS,Ca];exact⟨us,rfl,h2⟩⟩
   rw [dif_neg (by simp at hl ⊢;omega)]
 unfold Go.results
 exact key _ (fun t=>rfl) (fun t ty=>rfl)
def TK (P:Program) (rs:List ResultVar) (R:A→Prop):Exit→St→Prop:=fun e st=>(e=.ret∨e=.normal)∧∃q l p r,rH P st.s st.e rs=some (q,l)∧q∧gW st.s (qS l)=some (p,r)∧p∧∃r',ALe r r'∧R r'
theorem Fn.intro {P:Program} {f:FuncId} {fn:Func} {c:Code} {args:List A} {R:A→Prop} {nt:Nat} {rs:List ResultVar} (hf:P.funcs[f]?=some fn) (hb:fn.body=some c) (hnt:fn.ntmps=nt) (hrs:fn.results=rs.toArray) (hn:args.length≤nt) (h:WpA P ⟨nt,0⟩ c (TK P rs R) ⟨oJ 0 args,[]⟩) :
  Fn P f args [] fun r s=>R r∧s=[]:=by
 subst hnt
 intro H m w vs hs hv
 have hm:m=[]:=by have:=hs.len;simp at this;exact List.eq_nil_of_length_eq_zero (by omega)
 subst hm
 refine calls_of_wp hf hb ?_
 have hl:=hv.len
 have hsim:Sim H w (fun _=>false) [] ⟨fn.ntmps,0⟩ ⟨oJ 0 args,[]⟩ [] { tmps:=vs.toArray++Array.replicate (fn.ntmps-vs.toArray.size) undef,defers:=[] } w:=by
  refine⟨fun i x hx=>?_,by simp;omega,rfl,hs,Fr.refl _ _,by simp,Up.refl _,rfl⟩
  obtain⟨-,h2⟩:=tR args 0 i x hx
  obtain⟨u,hu,hc⟩:=hv.at h2
  refine⟨u,?_,hc⟩
  simp only [Nat.sub_zero] at hu
  rw [Array.getElem?_append_left (by simpa using (List.getElem?_eq_some_iff.1 hu).1)]
  simpa using hu
 refine wp_mono (h H w _ [] [] _ w hsim) fun e a' w' ⟨st',m',⟨he,q,l,p,r,hr,hq,hvw,hp,r',hle,hR⟩,hs'⟩=>?_
 obtain⟨u,hu,hc⟩:=hs'.results (P:=P) (fn:=fn) (by rw [hrs];exact hr) hq
 have hfin:∃v m' r s',Ending.returned u=.returned v∧(R r∧s'=[])∧StoOk H s' m' w'∧Ca ⟨vis H s' m' w',m'⟩ r v∧Fr (bZ [] []) w w'∧Up [] m'∧∀(i:Nat) (ob:Ob) (l:Lo),s'[i]?=some (some ob)→m'[i]?=some l→bZ [] [] l.b=true∨w.heap.size≤l.b :=
  ⟨u,[],r',[],rfl,⟨hR,rfl⟩,⟨rfl,by simp,by simp,by simp,hs'.sto.hlt,fun b hb=>⟨(hs'.sto.gb b hb).1,rfl,(hs'.sto.gb b hb).2.2⟩,hs'.sto.gl⟩,hle _ _ (xE hs'.sto hvw hp hc),⟨hs'.fr.os,hs'.fr.tape,hs'.fr.output,hs'.fr.size,fun b hb _=>hs'.fr.block b hb rfl⟩,Up.refl _,by simp⟩
 rcases he with rfl|rfl<;>exact⟨hs'.df,u,hu,hfin⟩
def qop (P:Program) (s:List (Option Ob)) (ρ:Operand→Option A):Op→Option (Prop × A)
 | .move x=>match ρ x with|some a=>some (True,a)|none=>none
 | .assign x=>match ρ x with|some a=>some (True,a)|none=>none
 | .pick c x y=>match ρ c with
  | some (.one (.v (.bool b)))=>match b with
   | true=>match ρ x with|some a=>some (True,a)|none=>none
   | false=>match ρ y with|some a=>some (True,a)|none=>none
  | _=>none
 | .binOp op t x y _=>match ρ x with
  | some (.one (.v u))=>match ρ y with
   | some (.one (.v v))=>match qR P op t u v with
    | some (p,r)=>some (p,.one (.v r))
    | none=>match u,v with
     | .pointer none,.pointer none=>match tQ op true with
      | some r=>some (NL P t=true,.one (.v r))
      | none=>none
     | _,_=>none
   | _=>none
  | some (.one c)=>match ρ y with
   | some (.one (.v (.pointer none)))=>match tQ op false with
    | some r=>match mO s c with
     | some p=>some (NL P t=true∧p,.one (.v r))
     | none=>none
    | none=>none
   | _=>none
  | _=>none
 | .nilCheck x=>match ρ x with
  | some (.one c)=>match mO s c with
   | some p=>some (p,.one c)
   | none=>none
  | _=>none
 | .makeFunc fn first caps=>match fn with
  | .func f=>match first.toList with
   | []=>match sY ρ caps.toList with
    | some cs=>some (True,.one (.fn f cs))
    | none=>none
   | _=>none
  | _=>none
 | .slice t x lo hi mx=>match mx with
  | none=>match ρ x with
   | some (.one (.v (.string b)))=>match uU ρ 0 lo with
    | some l=>match uU ρ b.size hi with
     | some h=>some (DM P t=true∧0≤l∧l≤h∧h≤b.size,.one (.v (.string (b.extract l.toNat h.toNat))))
     | none=>none
    | none=>none
   | some (.one (.sl wd es))=>match lN P t with
    | some (_,sz)=>match uU ρ 0 lo with
     | some l=>match uU ρ es.length hi with
      | some h=>some (wd=sz∧0≤l∧l≤h∧h≤es.length,.one (.sl wd ((es.take h.toNat).drop l.toNat)))
      | none=>none
     | none=>none
    | none=>none
   | _=>none
  | some _=>none
 | .unOp op _ x=>match ρ x with
  | some (.one (.v u))=>match unV op u with
   | some r=>some (True,.one (.v r))
   | none=>none
  | _=>none
 | .convert src dst x=>match ρ x with
  | some (.one (.v (.int _ n)))=>match PY P dst with
   | some k=>some (PZ P src=true,.one (.v (.int k (k.wrap n))))
   | none=>none
  | some (.one (.v (.string b)))=>some (DM P dst=true∧PZ P src=true,.one (.v (.string b)))
  | _=>none
 | .load t x=>match ρ x with
  | some (.one c)=>sW P s t c
  | _=>none
 | .fieldAddr t x f=>match ρ x with
  | some (.one c)=>match nM P t f with
   | some (o,_)=>match pN c o with
    | some (p,c')=>match c with
     | .ptr loc k _ _=>match s[loc]? with
      | some (some ob)=>some (p∧k=ob.es.length,.one c')
      | _=>none
     | _=>some (p,.one c')
    | none=>none
   | none=>none
  | _=>none
 | .field t x f=>match ρ x with
  | some (.agg cs)=>match nM P t f with
   | some (o,ft)=>match tyI P ft with
    | some (b,n)=>kO b n (cs.drop o)
    | none=>none
   | none=>none
  | _=>none
 | .indexAddr t x y=>match ρ x with
  | some (.one c)=>match ρ y with
   | some (.one (.v (.int _ n)))=>match lN P t with
    | some (_,sz)=>match lO s c sz n with
     | some (p,c')=>some (p,.one c')
     | none=>none
    | none=>none
   | _=>none
  | _=>none
 | .index t x y=>match ρ x with
  | some (.one (.v (.string b)))=>match ρ y with
   | some (.one (.v (.int _ n)))=>match b[n.toNat]? with
    | some z=>some (DM P t=true∧0≤n,.one (.v (.int .u8 z.toNat)))
    | none=>none
   | _=>none
  | _=>none
 | .extract x i=>match ρ x with
  | some (.tup l)=>match l[i]? with
   | some a=>some (True,a)
   | none=>none
  | _=>none
 | .build t parts=>match lP ρ parts.toList with
  | some pl=>match lC P t with
   | some zs=>match mN (hZ P t) (zs.map .v) pl with
    | some cs=>some (CG P t=true,.agg cs)
    | none=>none
   | none=>none
  | none=>none
 | .call c=>match c.callee with
  | .builtin .len=>match c.args.toList,c.argTypes.toList with
   | [x],[t]=>match ρ x with
    | some (.one y)=>match vZ P t with
     | some e=>match rE s e y with
      | some (p,n)=>some (p,.one (.v (.int .i64 n)))
      | none=>none
     | none=>none
    | _=>none
   | _,_=>none
  | .builtin .max=>match c.args.toList with
   | [x,y]=>match ρ x with
    | some (.one (.v (.int k a)))=>match ρ y with
     | some (.one (.v (.int k' b)))=>some (k=k',.one (.v (.int k (if b > a then b else a))))
     | _=>none
    | _=>none
   | _=>none
  | .builtin .min=>match c.args.toList with
   | [x,y]=>match ρ x with
    | some (.one (.v (.int k a)))=>match ρ y with
     | some (.one (.v (.int k' b)))=>some (k=k',.one (.v (.int k (if b<a then b else a))))
     | _=>none
    | _=>none
   | _=>none
  | _=>none
 | _=>none
theorem XD {α:Type} {a:Array α} {x:α} (h:a.toList=[x]):a=#[x]:=by cases a;simp_all
theorem NS {α:Type} {a:Array α} {x y:α} (h:a.toList=[x,y]):a=#[x,y]:=by cases a;simp_all
theorem sC {P:Program} {s:List (Option Ob)} {ρ:Operand→Option A} {op:Op} {ty:TypeId} {p:Prop} {x:A} (h:qop P s ρ op=some (p,x)) (hp:p):Quiet P op ty s ρ x:=by
 cases op
 case move=>simp only [qop] at h;split at h<;>simp only [Option.some.injEq,Prod.mk.injEq,reduceCtorEq] at h;obtain⟨-,rfl⟩:=h;exact JU (by assumption)
 case assign=>simp only [qop] at h;split at h<;>simp only [Option.some.injEq,Prod.mk.injEq,reduceCtorEq] at h;obtain⟨-,rfl⟩:=h;exact DN (by assumption)
 case pick c a b =>
  simp only [qop] at h
  split at h
  case h_2=>cases h
  rename_i bb hc
  split at h
  ·split at h<;>simp only [Option.some.injEq,Prod.mk.injEq,reduceCtorEq] at h
   obtain⟨-,rfl⟩:=h
   exact zD hc (by assumption)
  ·split at h<;>simp only [Option.some.injEq,Prod.mk.injEq,reduceCtorEq] at h
   obtain⟨-,rfl⟩:=h
   exact zD hc (by assumption)
 case binOp op t a b t' =>
  simp only [qop] at h
  split at h
  ·rename_i u hu
   split at h
   case h_2=>cases h
   rename_i v hv
   split at h
   ·rename_i q r hr
    simp only [Option.some.injEq,Prod.mk.injEq] at h
    obtain⟨rfl,rfl⟩:=h
    exact NN hu hv hr hp
   ·split at h
    ·split at h<;>simp only [Option.some.injEq,Prod.mk.injEq,reduceCtorEq] at h
     rename_i r hr
     obtain⟨rfl,rfl⟩:=h
     exact BU hu hv hp hr
    ·cases h
  ·rename_i c hne hc
   split at h
   case h_2=>cases h
   rename_i hy
   split at h
   case h_2=>cases h
   rename_i r hr
   split at h<;>simp only [Option.some.injEq,Prod.mk.injEq,reduceCtorEq] at h
   rename_i q hq
   obtain⟨rfl,rfl⟩:=h
   exact NR hc hy hp.1 hr hq hp.2
  ·cases h
 case nilCheck a =>
  simp only [qop] at h
  split at h
  case h_2=>cases h
  rename_i c hc
  split at h<;>simp only [Option.some.injEq,Prod.mk.injEq,reduceCtorEq] at h
  rename_i q hq
  obtain⟨rfl,rfl⟩:=h
  exact zL hc hq hp
 case makeFunc fn first caps =>
  simp only [qop] at h
  split at h
  case h_2=>cases h
  rename_i f
  split at h
  case h_2=>cases h
  rename_i hfirst
  split at h<;>simp only [Option.some.injEq,Prod.mk.injEq,reduceCtorEq] at h
  rename_i cs hcs
  obtain⟨-,rfl⟩:=h
  have h0:first=#[]:=by cases first;simp_all
  subst h0
  have:=zM (P:=P) (ty:=ty) (s:=s) (f:=f) hcs
  simpa using this
 case slice t a lo hi mx =>
  simp only [qop] at h
  split at h
  case h_2=>cases h
  split at h
  ·rename_i b hb
   split at h
   case h_2=>cases h
   rename_i l hl
   split at h<;>simp only [Option.some.injEq,Prod.mk.injEq,reduceCtorEq] at h
   rename_i hh hhi
   obtain⟨rfl,rfl⟩:=h
   exact xX hb hp.1 hl hhi hp.2.1 hp.2.2.1 hp.2.2.2
  ·rename_i wd es hes
   split at h
   case h_2=>cases h
   rename_i e sz he
   split at h
   case h_2=>cases h
   rename_i l hl
   split at h<;>simp only [Option.some.injEq,Prod.mk.injEq,reduceCtorEq] at h
   rename_i hh hhi
   obtain⟨rfl,rfl⟩:=h
   exact zK hes he hp.1 hl hhi hp.2.1 hp.2.2.1 hp.2.2.2
  ·cases h
 case unOp op t a =>
  simp only [qop] at h
  split at h
  case h_2=>cases h
  rename_i u hu
  split at h<;>simp only [Option.some.injEq,Prod.mk.injEq,reduceCtorEq] at h
  rename_i r hr
  obtain⟨-,rfl⟩:=h
  exact QC hu hr
 case convert src dst a =>
  simp only [qop] at h
  split at h
  ·rename_i k n hu
   split at h<;>simp only [Option.some.injEq,Prod.mk.injEq,reduceCtorEq] at h
   rename_i k' hk
   obtain⟨rfl,rfl⟩:=h
   exact JV hu hk hp
  ·rename_i b hu
   simp only [Option.some.injEq,Prod.mk.injEq] at h
   obtain⟨rfl,rfl⟩:=h
   exact zE hu hp.1 hp.2
  ·cases h
 case load t a =>
  simp only [qop] at h
  split at h
  case h_2=>cases h
  rename_i c hc
  exact JT hc h hp
 case fieldAddr t a f =>
  simp only [qop] at h
  split at h
  case h_2=>cases h
  rename_i c hc
  split at h
  case h_2=>cases h
  rename_i o ft hf
  split at h
  case h_2=>cases h
  rename_i q c' hfa
  split at h
  ·rename_i loc k i off
   split at h
   case h_2=>cases h
   rename_i ob ho
   simp only [Option.some.injEq,Prod.mk.injEq] at h
   obtain⟨rfl,rfl⟩:=h
   exact qN hc hf hfa hp.1 (fun loc k i off e=>by cases e;exact⟨ob,ho,hp.2⟩)
  ·rename_i hne
   simp only [Option.some.injEq,Prod.mk.injEq] at h
   obtain⟨rfl,rfl⟩:=h
   exact qN hc hf hfa hp (fun loc k i off e=>absurd e (hne loc k i off))
 case field t a f =>
  simp only [qop] at h
  split at h
  case h_2=>cases h
  rename_i cs hc
  split at h
  case h_2=>cases h
  rename_i o ft hf
  split at h
  case h_2=>cases h
  rename_i b n ht
  exact GG hc hf ht h hp
 case indexAddr t a b =>
  simp only [qop] at h
  split at h
  case h_2=>cases h
  rename_i c hc
  split at h
  case h_2=>cases h
  rename_i k n hn
  split at h
  case h_2=>cases h
  rename_i e sz he
  split at h<;>simp only [Option.some.injEq,Prod.mk.injEq,reduceCtorEq] at h
  rename_i q c' hi
  obtain⟨rfl,rfl⟩:=h
  exact xV hc hn he hi hp
 case index t a b =>
  simp only [qop] at h
  split at h
  case h_2=>cases h
  rename_i c hc
  split at h
  case h_2=>cases h
  rename_i k n hn
  split at h<;>simp only [Option.some.injEq,Prod.mk.injEq,reduceCtorEq] at h
  rename_i z hz
  obtain⟨rfl,rfl⟩:=h
  exact xW hc hn hp.1 hp.2 hz
 case extract a i =>
  simp only [qop] at h
  split at h
  case h_2=>cases h
  rename_i l hl
  split at h<;>simp only [Option.some.injEq,Prod.mk.injEq,reduceCtorEq] at h
  obtain⟨-,rfl⟩:=h
  exact BT hl (by assumption)
 case build t parts =>
  simp only [qop] at h
  split at h
  case h_2=>cases h
  rename_i pl hpl
  split at h
  case h_2=>cases h
  rename_i zs hz
  split at h<;>simp only [Option.some.injEq,Prod.mk.injEq,reduceCtorEq] at h
  rename_i cs hcs
  obtain⟨rfl,rfl⟩:=h
  have:=GH (ty:=ty) (s:=s) hpl hz hp hcs
  simpa using this
 case call c =>
  obtain⟨callee,args,tys⟩:=c
  simp only [qop] at h
  split at h
  ·split at h
   case h_2=>cases h
   rename_i a t ha ht
   rw [XD ha,XD ht]
   split at h
   case h_2=>cases h
   rename_i y hy
   split at h
   case h_2=>cases h
   rename_i e he
   split at h<;>simp only [Option.some.injEq,Prod.mk.injEq,reduceCtorEq] at h
   rename_i q n hn
   obtain⟨rfl,rfl⟩:=h
   exact NO hy he hn hp
  ·split at h
   case h_2=>cases h
   rename_i a b ha
   rw [NS ha]
   split at h
   case h_2=>cases h
   rename_i k n hn
   split at h
   case h_2=>cases h
   rename_i k' n' hn'
   simp only [Option.some.injEq,Prod.mk.injEq] at h
   obtain⟨rfl,rfl⟩:=h
   subst hp
   exact NP hn hn'
  ·split at h
   case h_2=>cases h
   rename_i a b ha
   rw [NS ha]
   split at h
   case h_2=>cases h
   rename_i k n hn
   split at h
   case h_2=>cases h
   rename_i k' n' hn'
   simp only [Option.some.injEq,Prod.mk.injEq] at h
   obtain⟨rfl,rfl⟩:=h
   subst hp
   exact NQ hn hn'
  ·cases h
 all_goals (simp [qop] at h)
def VR (P:Program) (t:TypeId):Bool:=match P.underlying t with|some (.interface _)=>true|_=>false
def wD (P:Program) (st:St) (op:Op):Option (Prop × A × St) :=
 match op with
 | .binOp op t x y _=>match y with
  | .const v=>match v with
   | .nilIface=>match rdA st.e x with
    | some (.one (.er n))=>match tQ op (n == 0) with
     | some r=>some (VR P t=true,.one (.v r),st)
     | none=>none
    | _=>none
   | _=>none
  | _=>none
 | .load t x=>match x with
  | .global g=>some ((g=0∨g=1)∧tyI P t=some (false,1),.one (.gv g),st)
  | _=>none
 | _=>none
theorem GO {P:Program} {w:World} {t:TypeId} {ms:Array (String × TypeId)} (h:P.underlying t=some (.interface ms)) {r:World} {n:Nat} {u:Value} (hu:erV r n u):(Op.equal t u .nilIface).run P w=.ok (n == 0) w:=by
 have hun:(underlying t).run P w=.ok (.interface ms) w:=by simp [underlying,program,bind,Sem.bind,Sem.run,h,pure]
 cases n with
 | zero =>
  cases hu
  unfold Op.equal Op.maxDepth
  rw [Op.equalIn]
  simp only [Sem.run_bind,hun,Result.andThen_ok,Sem.run_pure]
  rfl
 | succ n =>
  obtain⟨b,o,s,e,rfl,-⟩:=hu
  unfold Op.equal Op.maxDepth
  rw [Op.equalIn]
  simp only [Sem.run_bind,hun,Result.andThen_ok,Sem.run_pure]
  rfl
theorem JW {P:Program} {nt:Cf} {st st':St} {op:Op} {ty:TypeId} {p:Prop} {x:A} (h:wD P st op=some (p,x,st')) (hp:p):OpA P nt op ty st x st':=by
 unfold wD at h
 split at h
 ·rename_i op t x y _
  split at h
  case h_2=>cases h
  split at h
  case h_2=>cases h
  split at h
  case h_2=>cases h
  rename_i n hx
  split at h
  case h_2=>cases h
  rename_i r hr
  simp only [Option.some.injEq,Prod.mk.injEq] at h
  obtain⟨rfl,rfl,rfl⟩:=h
  intro H w0 S0 m0 m a w hs
  have h1:=hs.rd hx
  simp only [Ca,Cc] at h1
  obtain⟨ms,ht⟩:∃ms,P.underlying t=some (.interface ms):=by
   unfold VR at hp;split at hp
   ·exact⟨_,by assumption⟩
   ·cases hp
  have he:=GO (P:=P) (w:=w) ht h1
  have e2:a.eval (.const .nilIface)=.nilIface:=rfl
  have hg:(eqGuard op t x (.const .nilIface) (a.eval x) .nilIface).run P w=.ok () w:=by
   cases n with
   | zero=>rw [show a.eval x=.nilIface from h1];cases op<;>simp [eqGuard]
   | succ n=>obtain⟨b,o,s,e,eu,-⟩:=h1;rw [eu];cases op<;>simp [eqGuard]
  refine⟨r,w,m,.inl ?_,hs,Goes.refl _ _ _,?_⟩
  ·generalize hu:a.eval x=u at h1 he hg
   unfold tQ at hr
   cases n with
   | zero =>
    obtain rfl:u=.nilIface:=h1
    split at hr<;>cases hr
    all_goals simp only [execOp,hu,e2,Sem.run_bind,hg,Result.andThen_ok,binOp,he,Sem.run_pure]
   | succ n =>
    obtain⟨b,o,s,e,rfl,-⟩:=h1
    split at hr<;>cases hr
    all_goals simp only [execOp,hu,e2,Sem.run_bind,hg,Result.andThen_ok,binOp,he,Sem.run_pure]
  ·unfold tQ at hr
   split at hr<;>cases hr<;>exact caV rfl
 ·rename_i t x
  split at h
  case h_2=>cases h
  rename_i g
  simp only [Option.some.injEq,Prod.mk.injEq] at h
  obtain⟨rfl,rfl,rfl⟩:=h
  obtain⟨hgg,ht⟩:=hp
  intro H w0 S0 m0 m a w hs
  obtain⟨u,hu,h1⟩:=hs.sto.gl.err g hgg
  have hgb:GBw w g:=.inl (by rcases hgg with rfl|rfl<;>simp [GB,erG])
  obtain⟨k1,k2,-⟩:=hs.sto.gb g hgb
  have hc:CellsAt (vis H st.s m w) g 0 [u]:=CellsAt.of fun j v hj=>by
   unfold vis
   rw [eX,if_pos (by simp [k1,k2])]
   exact h1.at j v hj
  obtain⟨v,hr,hx⟩:=rD (P:=P) (X:=⟨vis H st.s m w,m⟩) (cs:=[.gv g]) ht rfl trivial h1 (by simp only [Ccs,Cc];exact⟨u,_,rfl,⟨hu,hc⟩,rfl⟩)
  refine⟨v,w,m,.inl ?_,hs,Goes.refl _ _ _,hx⟩
  have e:a.eval (.global g)=.pointer (some ⟨g,0,none⟩):=rfl
  simp only [execOp,Instr.loadAt,Instr.sureAddr,e,Sem.run_bind,Sem.run_pure,Result.andThen_ok,hr]
 ·cases h
def aop (P:Program) (st:St) (op:Op):Option (Prop × A × St) :=
 match op with
 | .box t x=>match rdA st.e x with
  | some y=>match y.cs with
   | some cs=>some (True,.one (.ptr st.s.length 1 0 0),⟨st.e,st.s++[some ⟨t,cs.length,[cs]⟩]⟩)
   | none=>none
  | none=>none
 | .alloc t=>match lC P t with
  | some zs=>some (True,.one (.ptr st.s.length 1 0 0),⟨st.e,st.s++[some ⟨t,zs.length,[zs.map .v]⟩]⟩)
  | none=>none
 | .store t x y=>match rdA st.e x with
  | some (.one (.ptr loc k i off))=>match rdA st.e y with
   | some v=>match v.cs with
    | some ds=>match tyI P t with
     | some (_,n)=>match st.s[loc]? with
      | some (some ob)=>match ob.es[i]? with
       | some e=>some (ds.length=n∧k=ob.es.length∧off+ds.length≤e.length,.any,⟨st.e,st.s.set loc (some ⟨ob.ty,ob.wd,ob.es.set i (over e off ds)⟩)⟩)
       | none=>none
      | _=>none
     | none=>none
    | none=>none
   | none=>none
  | _=>none
 | .buildSlice t len parts=>match lN P t with
  | some (et,sz)=>match lC P et with
   | some zs=>match lP (rdA st.e) parts.toList with
    | some pl=>match mN (fun i=>some (i*sz,sz)) ((List.replicate len (zs.map .v)).flatten) pl with
     | some cs=>some (len*sz≤16777216∧len≤16777216,.one (.ms st.s.length len),⟨st.e,st.s++[some ⟨et,sz,lU sz len cs⟩]⟩)
     | none=>none
    | none=>none
   | none=>none
  | none=>none
 | .call c=>match c.callee with
  | .builtin .append=>match c.args.toList with
   | [x,y]=>match c.argTypes.toList with
    | [t,t']=>match lN P t with
     | some (et,sz)=>match sS P t with
      | some by_=>match lC P et with
       | some zs=>match rdA st.e y with
        | some (.one cy)=>match sT st.s sz cy with
         | some (p,xs)=>match rdA st.e x with
          | some (.one (.ms loc k))=>match st.s[loc]? with
           | some (some ob)=>some (t'=t∧p∧k=ob.es.length∧ob.ty=et∧ob.wd=sz∧0<sz∧(ob.es.length+xs.length)*by_≤140737488355328∧ob.es.length+xs.length≤140737488355328,.one (.ms loc (ob.es.length+xs.length)),⟨st.e,st.s.set loc (some ⟨ob.ty,ob.wd,ob.es++xs⟩)⟩)
           | _=>none
          | some (.one (.v (.slice none 0 0)))=>some (t'=t∧p∧0<xs.length∧xs.length*by_≤140737488355328∧xs.length≤140737488355328,.one (.ms st.s.length xs.length),⟨st.e,st.s++[some ⟨et,sz,xs⟩]⟩)
          | _=>none
         | none=>none
        | _=>none
       | none=>none
      | none=>none
     | none=>none
    | _=>none
   | _=>none
  | _=>match qop P st.s (rdA st.e) (.call c) with
   | some (p,x)=>some (p,x,st)
   | none=>none
 | op=>match qop P st.s (rdA st.e) op with
  | some (p,x)=>some (p,x,st)
  | none=>wD P st op
theorem aH {P:Program} {nt:Cf} {st st':St} {op:Op} {ty:TypeId} {p:Prop} {x:A} (h:aop P st op=some (p,x,st')) (hp:p):OpA P nt op ty st x st':=by
 unfold aop at h
 split at h
 ·rename_i t a
  split at h
  case h_2=>cases h
  rename_i y hy
  split at h<;>simp only [Option.some.injEq,Prod.mk.injEq,reduceCtorEq] at h
  obtain⟨-,rfl,rfl⟩:=h
  exact OpA.box hy (by assumption)
 ·split at h<;>simp only [Option.some.injEq,Prod.mk.injEq,reduceCtorEq] at h
  obtain⟨-,rfl,rfl⟩:=h
  exact OpA.alloc (by assumption)
 ·split at h
  case h_2=>cases h
  rename_i loc k i off hx
  split at h
  case h_2=>cases h
  rename_i v hv
  split at h
  case h_2=>cases h
  rename_i ds hd
  split at h
  case h_2=>cases h
  rename_i b n ht
  split at h
  case h_2=>cases h
  rename_i ob ho
  split at h<;>simp only [Option.some.injEq,Prod.mk.injEq,reduceCtorEq] at h
  rename_i e he
  obtain⟨rfl,rfl,rfl⟩:=h
  exact OpA.store hx hv hd ht hp.1 ho he hp.2.1 hp.2.2
 ·rename_i t len parts
  split at h
  case h_2=>cases h
  rename_i et sz he
  split at h
  case h_2=>cases h
  rename_i zs hz
  split at h
  case h_2=>cases h
  rename_i pl hpl
  split at h<;>simp only [Option.some.injEq,Prod.mk.injEq,reduceCtorEq] at h
  rename_i cs hcs
  obtain⟨rfl,rfl,rfl⟩:=h
  have:=OpA.buildSlice (nt:=nt) (ty:=ty) he hz hpl hp.1 hp.2 hcs
  simpa using this
 ·rename_i c
  obtain⟨callee,args,tys⟩:=c
  split at h
  ·rename_i hcal
   simp only at hcal
   subst hcal
   split at h
   case h_2=>cases h
   rename_i x y ha
   simp only at ha
   split at h
   case h_2=>cases h
   rename_i t t' hts
   simp only at hts
   split at h
   case h_2=>cases h
   rename_i et sz he
   split at h
   case h_2=>cases h
   rename_i by_ hb
   split at h
   case h_2=>cases h
   rename_i zs hz
   split at h
   case h_2=>cases h
   rename_i cy hy
   split at h
   case h_2=>cases h
   rename_i q xs hsrc
   split at h
   ·rename_i loc k hx
    split at h
    case h_2=>cases h
    rename_i ob ho
    simp only [Option.some.injEq,Prod.mk.injEq] at h
    obtain⟨rfl,rfl,rfl⟩:=h
    obtain⟨p0,p1,p2,p3,p4,p5,p6,p7⟩:=hp
    subst p0
    rw [NS ha,NS hts]
    exact OpA.append he hb hz hx hy hsrc p1 ho p2 p3 p4 p5 p6 p7
   ·rename_i hx
    simp only [Option.some.injEq,Prod.mk.injEq] at h
    obtain⟨rfl,rfl,rfl⟩:=h
    obtain⟨p0,p1,p2,p3,p4⟩:=hp
    subst p0
    rw [NS ha,NS hts]
    exact OpA.append_nil he hb hz hx hy hsrc p1 p2 p3 p4
   ·cases h
  ·split at h<;>simp only [Option.some.injEq,Prod.mk.injEq,reduceCtorEq] at h
   rename_i q y hq
   obtain⟨rfl,rfl,rfl⟩:=h
   exact OpA.quiet (sC hq hp)
 ·split at h
  ·rename_i q y hq
   simp only [Option.some.injEq,Prod.mk.injEq] at h
   obtain⟨rfl,rfl,rfl⟩:=h
   exact OpA.quiet (sC hq hp)
  ·exact JW h hp
def eP (ds:List (Option Tmp)) (e:List (Nat × A)):Option (Nat × Bool)→Option Bool
 | none=>some true
 | some (j,want)=>match ds[j]? with
  | some (some d)=>match find e d with
   | some (.one (.v (.bool b)))=>some (b == want)
   | some (.tup _)=>some false
   | _=>none
  | _=>none
def uV (P:Program) (nt:Cf) (ds:List (Option Tmp)):List Oper→St→Prop × List Oper × St
 | [],st=>(True,[],st)
 | o::rest,st=>match eP ds st.e o.guard with
  | some true=>match aop P st o.op with
   | some (p,x,st')=>match uV P nt ds rest (st'.put o.dst x) with
    | (q,l,st'')=>((nL nt o.dst=true∧p)∧q,l,st'')
   | none=>(True,o::rest,st)
  | some false=>match uV P nt ds rest (st.put o.dst (.tup [])) with
   | (q,l,st'')=>(nL nt o.dst=true∧q,l,st'')
  | none=>(True,o::rest,st)
theorem aB {P:Program} {nt:Cf} {l0:List Oper} {st:St} {d:Option Tmp} {op:Op} {ty:TypeId} {pos:String} {aft:Array Edge} {g:Option (Nat × Bool)} {b:Bool} (h:eP (l0.map (·.dst)) st.e g=some b) :
  ∀H w0 S0 m0 m a w,Sim H w0 S0 m0 nt st m a w→Region.wanted ⟨d,op,ty,pos,aft,g⟩ (yielded l0.toArray a.tmps)=b:=by
 unfold eP at h
 split at h
 ·cases h;exact rC
 ·rename_i j want
  split at h
  case h_2=>cases h
  rename_i t ht
  have hj:(l0.toArray[j]?).bind (·.dst)=some t:=by
   rw [List.getElem?_map,Option.map_eq_some_iff] at ht
   obtain⟨o,h1,h2⟩:=ht
   simp [h1,h2]
  split at h
  ·rename_i bb hb
   cases h
   exact GD hj hb
  ·rename_i l hb
   cases h
   exact JS hj hb
  ·cases h
theorem WpL.run {P:Program} {nt:Cf} {l0:List Oper} {Q:St→Prop} (ds:List (Option Tmp)) (hds:l0.map (·.dst)=ds):∀{l:List Oper} {st:St} {p:Prop} {l':List Oper} {st':St},uV P nt ds l st=(p,l',st')→p→WpL P nt l0.toArray Q l' st'→WpL P nt l0.toArray Q l st
 | [],st,p,l',st',h,hp,hr=>by
  simp only [uV,Prod.mk.injEq] at h
  obtain⟨-,rfl,rfl⟩:=h
  exact hr
 | o::rest,st,p,l',st',h,hp,hr=>by
  subst hds
  obtain⟨d,op,ty,pos,aft,g⟩:=o
  simp only [uV] at h
  split at h
  ·rename_i hg
   split at h
   ·rename_i q x st1 ha
    generalize hrun:uV P nt _ rest _=rr at h
    obtain⟨q2,l2,st2⟩:=rr
    simp only [Prod.mk.injEq] at h
    obtain⟨rfl,rfl,rfl⟩:=h
    exact WpL.op hp.1.1 (aB (P:=P) hg) (aH ha hp.1.2) (WpL.run _ rfl hrun hp.2 hr)
   ·simp only [Prod.mk.injEq] at h
    obtain⟨-,rfl,rfl⟩:=h
    exact hr
  ·rename_i hg
   generalize hrun:uV P nt _ rest _=rr at h
   obtain⟨q2,l2,st2⟩:=rr
   simp only [Prod.mk.injEq] at h
   obtain⟨rfl,rfl,rfl⟩:=h
   exact WpL.pass hp.1 (aB (P:=P) hg) (WpL.run _ rfl hrun hp.2 hr)
  ·simp only [Prod.mk.injEq] at h
   obtain⟨-,rfl,rfl⟩:=h
   exact hr
section
variable {P:Program} {nt:Cf} {Q:Exit→St→Prop} {st:St}
theorem uX {K:St→Prop} (h:K st):qM K Q .normal st:=h
theorem TL {K:St→Prop} (h:Q .ret st):qM K Q .ret st:=h
theorem TM {K:St→Prop} {i:Nat} (h:Q (.exit i) st):qM K Q (.exit i) st:=h
theorem JX {i:Nat} (h:Q .normal st):gL i Q .normal st:=h
theorem JY {i:Nat} (h:Q .ret st):gL i Q .ret st:=h
theorem JZ {i:Nat} (h:Q .normal st):gL i Q (.exit i) st:=by simpa [gL] using h
theorem KA {i j:Nat} (hne:(j == i)=false) (h:Q (.exit j) st):gL i Q (.exit j) st:=by
 have:¬j=i:=by simpa using hne
 simpa [gL,this] using h
theorem WpA.cond_t {t:Tmp} {x y:Code} (hc:find st.e t=some (.one (.v (.bool true)))) (h:WpA P nt x Q st):WpA P nt (.cond (.tmp t) x y) Q st:=WpA.cond hc (fun _=>h) (fun e=>by cases e)
theorem WpA.cond_f {t:Tmp} {x y:Code} (hc:find st.e t=some (.one (.v (.bool false)))) (h:WpA P nt y Q st):WpA P nt (.cond (.tmp t) x y) Q st:=WpA.cond hc (fun e=>by cases e) (fun _=>h)
def nT (P:Program) (nt:Cf) (c:Code) (Q:Exit→St→Prop):Nat→St→Prop
 | 0,_=>False
 | n+1,st=>WpA P nt c (qM (nT P nt c Q n) Q) st
theorem CI {c:Code} {n:Nat} (h:WpA P nt c (qM (nT P nt c Q n) Q) st):nT P nt c Q (n+1) st:=h
theorem WpA.rounds {c:Code} (n:Nat) (h:nT P nt c Q n st):WpA P nt (.loop c) Q st:=fun H w0 S0 m0 m a w hs=>by
 refine wW (fun k a w=>∃st m,nT P nt c Q k st∧Sim H w0 S0 m0 nt st m a w) n ⟨st,m,h,hs⟩ fun k a' w' ⟨st1,m1,hr,hs1⟩=>?_
 cases k with
 | zero=>exact absurd hr (by simp [nT])
 | succ k =>
  refine wp_mono (hr H w0 S0 m0 m1 a' w' hs1) fun e a2 w2 ⟨st2,m2,hq,hs2⟩=>?_
  cases e with
  | normal=>exact⟨k,Nat.lt_succ_self _,st2,m2,hq,hs2⟩
  | _=>exact⟨st2,m2,hq,hs2⟩
def Sub (e:List (Nat × A)):List (Nat × A)→Prop
 | []=>True
 | (i,x)::r=>find e i=some x∧Sub e r
theorem Sub.find {e:List (Nat × A)}:∀{e':List (Nat × A)},Sub e e'→∀{i:Nat} {x:A},Proofs.YtaeioidifpebdaaGreatDoor.find e' i=some x→Proofs.YtaeioidifpebdaaGreatDoor.find e i=some x
 | [],_,i,x,h=>by simp [Proofs.YtaeioidifpebdaaGreatDoor.find] at h
 | (j,y)::r,hs,i,x,h=>by
  simp only [Proofs.YtaeioidifpebdaaGreatDoor.find] at h
  split at h
  ·rename_i hi;subst hi;cases h;exact hs.1
  ·exact Sub.find hs.2 h
mutual
def C.bd (k:Nat):C→Bool
 | .ms loc _=>decide (loc<k)
 | .ptr loc _ _ _=>decide (loc<k)
 | .fn _ caps=>C.bds k caps
 | _=>true
def C.bds (k:Nat):List C→Bool
 | []=>true
 | c::cs=>C.bd k c&&C.bds k cs
end
mutual
def A.bd (k:Nat):A→Bool
 | .one c=>C.bd k c
 | .agg cs=>C.bds k cs
 | .tup l=>A.bds k l
 | .any=>true
def A.bds (k:Nat):List A→Bool
 | []=>true
 | a::l=>A.bd k a&&A.bds k l
end
theorem GP {k loc:Nat} {m:List Lo} (h:loc<k):(m.take k)[loc]?=m[loc]?:=by rw [List.getElem?_take,if_pos h]
mutual
theorem Cc.take {r r':World} {m:List Lo} {k:Nat} (hk:Keeps r r'):∀{c:C} {u:Value},C.bd k c=true→Cc ⟨r,m⟩ c u→Cc ⟨r',m.take k⟩ c u
 | .any,u,_,h=>h.shut hk rfl
 | .v x,u,_,h=>h.shut hk rfl
 | .sl wd es,u,_,h=>h.shut hk rfl
 | .pf cs,u,_,h=>h.shut hk rfl
 | .gv g,u,_,h=>h.shut hk rfl
 | .er n,u,_,h=>h.shut hk rfl
 | .ms loc n,u,hb,h=>by
  simp only [C.bd,decide_eq_true_eq] at hb
  simp only [Cc,GP hb] at h ⊢;exact h
 | .ptr loc n i off,u,hb,h=>by
  simp only [C.bd,decide_eq_true_eq] at hb
  simp only [Cc,GP hb] at h ⊢;exact h
 | .fn f caps,u,hb,h=>by
  simp only [Cc] at h ⊢
  obtain⟨vs,e,h⟩:=h
  exact⟨vs,e,Ccs.takes hk (by simpa [C.bd] using hb) h⟩
theorem Ccs.takes {r r':World} {m:List Lo} {k:Nat} (hk:Keeps r r'):∀{cs:List C} {us:List Value},C.bds k cs=true→Ccs ⟨r,m⟩ cs us→Ccs ⟨r',m.take k⟩ cs us
 | [],us,_,h=>by simpa only [Ccs] using h
 | c::cs,us,hb,h=>by
  simp only [C.bds,Bool.and_eq_true] at hb
  simp only [Ccs] at h ⊢
  obtain⟨u,q,e,h1,h2⟩:=h
  exact⟨u,q,e,Cc.take hk hb.1 h1,Ccs.takes hk hb.2 h2⟩
end
mutual
theorem Ca.take {r r':World} {m:List Lo} {k:Nat} (hk:Keeps r r'):∀{a:A} {u:Value},A.bd k a=true→Ca ⟨r,m⟩ a u→Ca ⟨r',m.take k⟩ a u
 | .any,u,_,h=>by simp only [Ca]
 | .one c,u,hb,h=>by simp only [Ca] at h ⊢;exact Cc.take hk (by simpa [A.bd] using hb) h
 | .agg cs,u,hb,h=>by
  simp only [Ca] at h ⊢
  obtain⟨us,e,h⟩:=h
  exact⟨us,e,Ccs.takes hk (by simpa [A.bd] using hb) h⟩
 | .tup l,u,hb,h=>by
  simp only [Ca] at h ⊢
  obtain⟨us,e,h⟩:=h
  exact⟨us,e,Cas.takes hk (by simpa [A.bd] using hb) h⟩
theorem Cas.takes {r r':World} {m:List Lo} {k:Nat} (hk:Keeps r r'):∀{l:List A} {us:List Value},A.bds k l=true→Cas ⟨r,m⟩ l us→Cas ⟨r',m.take k⟩ l us
 | [],us,_,h=>by simpa only [Cas] using h
 | a::l,us,hb,h=>by
  simp only [A.bds,Bool.and_eq_true] at hb
  simp only [Cas] at h ⊢
  obtain⟨u,q,e,h1,h2⟩:=h
  exact⟨u,q,e,Ca.take hk hb.1 h1,Cas.takes hk hb.2 h2⟩
end
def GQ (k:Nat):List (Nat × A)→Bool
 | []=>true
 | (_,x)::r=>A.bd k x&&GQ k r
theorem zQ {k:Nat}:∀{e:List (Nat × A)} {i:Nat} {x:A},GQ k e=true→find e i=some x→A.bd k x=true
 | [],_,_,_,h=>by simp [find] at h
 | (j,y)::r,i,x,hb,h=>by
  simp only [GQ,Bool.and_eq_true] at hb
  simp only [find] at h
  split at h
  ·cases h;exact hb.1
  ·exact zQ hb.2 h
def ObBd (k:Nat):List (Option Ob)→Prop
 | []=>True
 | none::r=>ObBd k r
 | some ob::r=>(∀e∈ob.es,∀c∈e,C.bd k c=true)∧ObBd k r
theorem ObBd.get {k:Nat}:∀{s:List (Option Ob)} {i:Nat} {ob:Ob},ObBd k s→s[i]?=some (some ob)→∀c∈ob.es.flatten,C.bd k c=true
 | none::r,i+1,ob,h,hi=>ObBd.get (s:=r) h (by simpa using hi)
 | some ob'::r,0,ob,h,hi=>by
  simp at hi;subst hi
  intro c hc
  obtain⟨e,he,hce⟩:=List.mem_flatten.1 hc
  exact h.1 e he c hce
 | some ob'::r,i+1,ob,h,hi=>ObBd.get (s:=r) h.2 (by simpa using hi)
theorem KB {k:Nat}:∀{cs:List C},(∀c∈cs,C.bd k c=true)→C.bds k cs=true
 | [],_=>rfl
 | c::cs,h=>by simp only [C.bds,Bool.and_eq_true];exact⟨h c (by simp),KB (fun c hc=>h c (by simp [hc]))⟩
theorem Le.drop {e e':List (Nat × A)} {s s':List (Option Ob)} (k:Nat) (hk:nt.n0≤k) (hs:s.take k=s') (he:Sub e e') (hb:GQ k e'=true) (hob:ObBd k s'):Le nt ⟨e,s⟩ ⟨e',s'⟩:=fun H w0 S0 m0 m a w h=>by
 subst hs
 refine⟨m.take k,?_⟩
 have hlt:∀(i:Nat) (ob:Ob),(s.take k)[i]?=some (some ob)→i<k∧s[i]?=some (some ob):=fun i ob hi=>by
  rw [List.getElem?_take] at hi
  split at hi
  ·exact⟨by assumption,hi⟩
  ·cases hi
 have hlm:∀(i:Nat) (l:Lo),(m.take k)[i]?=some l→m[i]?=some l:=fun i l hi=>by
  rw [List.getElem?_take] at hi
  split at hi
  ·exact hi
  ·cases hi
 have hsub:∀b,bZ s m b=false→bZ (s.take k) (m.take k) b=false:=fun b hp=>by
  cases hc:bZ (s.take k) (m.take k) b with
  | false=>rfl
  | true =>
   obtain⟨i,ob,l,h1,h2,h3⟩:=aN.1 hc
   rw [aN.2 ⟨i,ob,l,(hlt i ob h1).2,hlm i l h2,h3⟩] at hp
   exact hp
 have hvis:Keeps (vis H s m w) (vis H (s.take k) (m.take k) w):=Keeps.only fun b hp _=>by
  simp only [Bool.and_eq_true,Bool.not_eq_true'] at hp ⊢
  exact⟨⟨hp.1,hsub b hp.2⟩,trivial⟩
 refine⟨fun i x hx=>?_,h.nts,h.df,⟨by simp [h.sto.len],fun i ob l h1 h2=>?_,fun i j oi oj li lj h1 h2 h3 h4 e=>h.sto.uniq i j oi oj li lj (hlt i oi h1).2 (hlt j oj h2).2 (hlm i li h3) (hlm j lj h4) e,fun i ob l h1 h2=>h.sto.nh i ob l (hlt i ob h1).2 (hlm i l h2),h.sto.hlt,fun b hb=>⟨(h.sto.gb b hb).1,hsub b (h.sto.gb b hb).2.1,(h.sto.gb b hb).2.2⟩,h.sto.gl⟩,h.fr,fun i ob l h1 h2=>h.own i ob l (hlt i ob h1).2 (hlm i l h2),fun i l hl=>?_,h.n0⟩
 ·obtain⟨u,hu,hc⟩:=h.env i x (he.find hx)
  exact⟨u,hu,Ca.take hvis (zQ hb hx) hc⟩
 ·obtain⟨a1,a2,a3,a4,a5,vs,rest,a6,a7,a8⟩:=h.sto.ok i ob l (hlt i ob h1).2 (hlm i l h2)
  exact⟨a1,a2,a3,a4,a5,vs,rest,a6,a7,Ccs.takes hvis (KB (hob.get h1)) a8⟩
 ·obtain⟨l',h1,h2⟩:=h.up i l hl
  have:i<k:=by have:=(List.getElem?_eq_some_iff.1 hl).1;rw [h.n0] at this;omega
  exact⟨l',by rw [List.getElem?_take,if_pos this];exact h1,h2⟩
end
def RunTo (r:Prop × List Oper × St) (K:List Oper→St→Prop):Prop:=r.1∧K r.2.1 r.2.2
theorem RunTo.mk {p:Prop} {l:List Oper} {st:St} {K:List Oper→St→Prop} (hp:p) (h:K l st):RunTo (p,l,st) K:=⟨hp,h⟩
theorem WpL.go {P:Program} {nt:Cf} {l0:List Oper} {Q:St→Prop} (ds:List (Option Tmp)) (hds:l0.map (·.dst)=ds) {l:List Oper} {st:St} (h:∀K:List Oper→St→Prop,(∀l' st',WpL P nt l0.toArray Q l' st'→K l' st')→RunTo (uV P nt ds l st) K):WpL P nt l0.toArray Q l st:=by
 have:=h (fun l' st'=>WpL P nt l0.toArray Q l' st') (fun _ _ h=>h)
 exact WpL.run ds hds rfl this.1 this.2
def OpTo (P:Program) (o:Oper) (ρ:Operand→Value) (w:World) (Ψ:Value→World→Prop):Prop :=
 match (execOp ρ o).run P w with
 | .ok (.value v) w'=>Ψ v w'
 | .ok .skip w'=>Ψ undef w'
 | .ok (.enter f args) w'=>Calls P f args w' (fun e w''=>∃v,e=.returned v∧Ψ v w'')
 | _=>False
theorem MG {P:Program} {ops:Array Oper} {Q:Exit→Act→World→Prop} {i:Nat} {o:Oper} {Ψ:Value→World→Prop} {a:Act} {w:World} {K:Act→World→Prop} (ho:ops[i]?=some o) (hgo:if uM ops a.eval o then OpTo P o a.eval w Ψ else Ψ undef w)
  (hnext:∀v w',Ψ v w'→K (a.put o.dst v) w'):wpOp P ops Q i K a w:=by
 unfold wpOp
 simp only [ho]
 rw [yY]
 split
 ·rename_i hw
  rw [if_pos hw] at hgo
  refine .inl ?_
  unfold OpTo at hgo
  unfold Oper.wp
  generalize (execOp a.eval o).run P w=r at *
  cases r with
  | ok n w' =>
   cases n<;>simp only at hgo<;>simp only [Oper.upon]
   case value u=>exact hnext _ _ hgo
   case skip=>exact hnext _ _ hgo
   case enter f args=>exact hgo.mono fun e w'' ⟨v,he,hv⟩=>by subst he;exact hnext _ _ hv
  | halt x w'=>simp only at hgo
 ·rename_i hw
  rw [if_neg hw] at hgo
  exact hnext _ _ hgo
def oA (e:List (Nat × A)):List (Option Tmp × A)→List (Nat × A)
 | []=>e
 | (some d,x)::r=>oA ((d,x)::e) r
 | (none,_)::r=>oA e r
theorem mG {t:Nat} {y:A}:∀{Γ:List (Option Tmp × A)} {e:List (Nat × A)},find (oA e Γ) t=some y→(∃k:Nat,Γ[k]?=some (some t,y))∨(find e t=some y∧∀(k:Nat) (x:A),Γ[k]?≠some (some t,x))
 | [],e,h=>.inr ⟨h,by simp⟩
 | (none,x)::r,e,h=>by
  rcases mG (Γ:=r) h with ⟨k,hk⟩|⟨h1,h2⟩
  ·exact .inl ⟨k+1,by simpa using hk⟩
  ·refine .inr ⟨h1,fun k x=>?_⟩
   cases k with
   | zero=>simp
   | succ k=>simpa using h2 k x
 | (some d,x)::r,e,h=>by
  rcases mG (Γ:=r) h with ⟨k,hk⟩|⟨h1,h2⟩
  ·exact .inl ⟨k+1,by simpa using hk⟩
  ·simp only [find] at h1
   split at h1
   ·rename_i ht;subst ht;cases h1;exact .inl ⟨0,rfl⟩
   ·rename_i ht
    refine .inr ⟨h1,fun k z=>?_⟩
    cases k with
    | zero=>simp;intro h;exact absurd h.symm ht
    | succ k=>simpa using h2 k z
def OpS (P:Program) (nt:Cf) (ds:List (Option Tmp)) (o:Oper) (e:List (Nat × A)) (s:List (Option Ob)) (x:A) (s':List (Option Ob)):Prop:=∀H w0 S0 m0 mm a w,Sim H w0 S0 m0 nt ⟨[],s⟩ mm a w→(∀t∈looks ds o.op.operands.toList o.guard,∀y,find e t=some y→Ca ⟨vis H s mm w,mm⟩ y (a.eval (.tmp t))) →
 if wanted ds a.eval o.guard then OpTo P o a.eval w (fun v w'=>∃mm',Sim H w0 S0 m0 nt ⟨[],s'⟩ mm' a w'∧Goes s mm w s' mm' w'∧Ca ⟨vis H s' mm' w',mm'⟩ x v) else s'=s∧x=.tup []
structure DInv (H:Nat→Bool) (w0:World) (S0:Nat→Bool) (m0:List Lo) (nt:Cf) (l:List Oper) (n:Nat) (E:List Nat) (ss:List (List (Option Ob))) (xs:List A) (e0:List (Nat × A)) (listed:Array Bool) (j:Nat) (s:List (Option Ob)) (mm:List Lo) (a:Act) (w:World):Prop where
 head:HeadInv .any l.toArray n listed
 cnt:∀(q i:Nat),E[q]?=some i→(listed.getD i false=true↔q<j)
 le:j≤E.length
 at_:ss[j]?=some s
 sim:Sim H w0 S0 m0 nt ⟨[],s⟩ mm a w
 old:∀t x,find e0 t=some x→(∀(i:Nat) (o:Oper),i<n→l[i]?=some o→listed.getD i false=true→o.dst≠some t)→∃u,a.tmps[t]?=some u∧Ca ⟨vis H s mm w,mm⟩ x u
 new:∀(i:Nat) (o:Oper) (d:Tmp) (x:A),i<n→l[i]?=some o→listed.getD i false=true→o.dst=some d→xs[i]?=some x→∃u,a.tmps[d]?=some u∧Ca ⟨vis H s mm w,mm⟩ x u
theorem DInv.next {H:Nat→Bool} {w0:World} {S0:Nat→Bool} {m0:List Lo} {nt:Cf} {l:List Oper} {n:Nat} {E:List Nat} {ss:List (List (Option Ob))} {xs:List A} {e0:List (Nat × A)} {listed:Array Bool} {j j':Nat} {s s':List (Option Ob)} {mm mm':List Lo} {a:Act} {w w':World}
  (h:DInv H w0 S0 m0 nt l n E ss xs e0 listed j s mm a w) (hl:PhiLook l.toArray n nt.nt) {i:Nat} {o:Oper} {x:A} (ho:l[i]?=some o) (him:i<n) (hr:i∈Region.ready .any l.toArray listed) (hx:xs[i]?=some x) {v:Value}
  (hs:Sim H w0 S0 m0 nt ⟨[],s'⟩ mm' a w') (hg:Goes s mm w s' mm' w') (hv:Ca ⟨vis H s' mm' w',mm'⟩ x v) (hj:j'≤E.length) (hat:ss[j']?=some s') (hcnt:∀(q k:Nat),E[q]?=some k→((listed.setIfInBounds i true).getD k false=true↔q<j')) :
  DInv H w0 S0 m0 nt l n E ss xs e0 (listed.setIfInBounds i true) j' s' mm' (a.put o.dst v) w':=by
 have hoA:l.toArray[i]?=some o:=by simpa using ho
 have hlist:∀k,k≠i→(listed.setIfInBounds i true).getD k false=listed.getD k false:=fun k hk=>getD_set_ne false (Ne.symm hk)
 have hti:(listed.setIfInBounds i true).getD i false=true:=by
  have:i<listed.size:=by rw [h.head.size];simpa using (List.getElem?_eq_some_iff.1 ho).1
  simp [Array.getD_eq_getD_getElem?,this]
 have hfit:nL nt o.dst=true:=by
  cases hd:o.dst with
  | none=>rfl
  | some d=>simp only [nL,decide_eq_true_eq];exact hl.bound i o d him hoA hd
 have hput:=hs.put hfit (x:=.any) (u:=v) (by simp only [Ca])
 have hsim:Sim H w0 S0 m0 nt ⟨[],s'⟩ mm' (a.put o.dst v) w':=⟨fun t y hy=>by simp [find] at hy,hput.nts,hput.df,hs.sto,hs.fr,hs.own,hs.up,hs.n0⟩
 refine⟨h.head.set hr him,hcnt,hj,hat,hsim,fun t y hy hno=>?_,fun k ok d y hk hok hlk hd hy=>?_⟩
 ·have hti':=hno i o him ho hti
  obtain⟨u,h1,h2⟩:=h.old t y hy fun k ok hk hok hlk=>by
   by_cases hki:k=i
   ·subst hki;rw [ho] at hok;cases hok;exact hti'
   ·exact hno k ok hk hok (by rw [hlist k hki];exact hlk)
  exact⟨u,by rw [gD hti'];exact h1,hg.ca h2⟩
 ·by_cases hki:k=i
  ·subst hki
   rw [ho] at hok;cases hok
   rw [hx] at hy;cases hy
   refine⟨v,?_,hv⟩
   rw [hd]
   exact kQ (by rw [h.sim.nts];exact hl.bound k o d him hoA hd)
  ·rw [hlist k hki] at hlk
   obtain⟨u,h1,h2⟩:=h.new k ok d y hk hok hlk hd hy
   exact⟨u,by rw [gD (hl.unlike i k o ok d him hk hki hoA (by simpa using hok) hd)];exact h1,hg.ca h2⟩
def chE (ops:Array Oper):List Nat→Bool
 | a::b::r=>Region.waitsFor .any ops b a&&decide (a<b)&&chE ops (b::r)
 | _=>true
theorem GR {ops:Array Oper}:∀{E:List Nat},chE ops E=true→(∀(q a b:Nat),E[q]?=some a→E[q+1]?=some b→Region.waitsFor .any ops b a=true)∧∀(p q a b:Nat),p<q→E[p]?=some a→E[q]?=some b→a<b
 | [],_=>⟨by simp,by simp⟩
 | [x],_=>by
  refine⟨fun q a b h1 h2=>?_,fun p q a b hpq h1 h2=>?_⟩
  ·simp at h2
  ·cases q with
   | zero=>omega
   | succ q=>simp at h2
 | x::y::r,h=>by
  simp only [chE,Bool.and_eq_true,decide_eq_true_eq] at h
  obtain⟨⟨h1,h2⟩,h3⟩:=h
  obtain⟨g1,g2⟩:=GR h3
  refine⟨fun q a b ha hb=>?_,fun p q a b hpq ha hb=>?_⟩
  ·cases q with
   | zero=>simp at ha hb;subst ha hb;exact h1
   | succ q=>exact g1 q a b (by simpa using ha) (by simpa using hb)
  ·cases p with
   | zero =>
    simp at ha;subst ha
    cases q with
    | zero=>omega
    | succ q =>
     cases q with
     | zero=>simp at hb;subst hb;exact h2
     | succ q=>exact Nat.lt_trans h2 (g2 0 (q+1) y b (by omega) (by simp) (by simpa using hb))
   | succ p =>
    cases q with
    | zero=>omega
    | succ q=>exact g2 p q a b (by omega) (by simpa using ha) (by simpa using hb)
def QF (P:Program) (nt:Cf) (ds:List (Option Tmp)) (E:List Nat) (ss:List (List (Option Ob))) (i:Nat) (e:List (Nat × A)) (o:Oper) (x:A):Prop :=
 (∀q,E[q]?=some i→∃s s',ss[q]?=some s∧ss[q+1]?=some s'∧OpS P nt ds o e s x s')∧(i∉E→∀s∈ss,OpS P nt ds o e s x s)
theorem WpA.draw {P:Program} {nt:Cf} {Q:Exit→St→Prop} {st:St} {id:Nat} {l:List Oper} (n:Nat) (E:List Nat) (ss:List (List (Option Ob))) (xs:List A) (hm:P.follows .mixedOrders=true) (hB:uN l.toArray n nt.nt=true) (hT:lB l.toArray n=true) (hE:chE l.toArray E=true)
  (hEn:∀i∈E,i<n) (hss:ss.length=E.length+1) (h0:ss[0]?=some st.s) (hxl:xs.length=n)
  (hop:∀(i:Nat) (o:Oper) (x:A),i<n→l[i]?=some o→xs[i]?=some x→QF P nt (l.map (·.dst)) E ss i (oA st.e (((l.map (·.dst)).zip xs).take i)) o x)
  (hend:∀s,ss[E.length]?=some s→WpL P nt l.toArray (Q .normal) (l.drop n) ⟨oA st.e (((l.map (·.dst)).zip xs).take n),s⟩):WpA P nt (.region id l.toArray true) Q st:=fun H w0 S0 m0 m a w hs=>by
 have hl:PhiLook l.toArray n nt.nt:=oH hB
 have hT':=hT
 simp only [lB,Bool.and_eq_true,Bool.or_eq_true,decide_eq_true_eq] at hT
 obtain⟨⟨t1,t2⟩,t3⟩:=hT
 have hml:n≤l.length:=by simpa using hl.le
 obtain⟨hE1,hE2⟩:=GR hE
 have hlA:PhiLook l.toArray n a.tmps.size:=by rw [hs.nts];exact hl
 have hzip:∀(i k:Nat) (t:Tmp) (y:A),(((l.map (·.dst)).zip xs).take i)[k]?=some (some t,y)→k<i∧∃o,l[k]?=some o∧o.dst=some t∧xs[k]?=some y:=fun i k t y hk=>by
  rw [List.getElem?_take] at hk
  split at hk
  ·rename_i hki
   rw [List.getElem?_zip_eq_some] at hk
   obtain⟨h1,h2⟩:=hk
   rw [List.getElem?_map,Option.map_eq_some_iff] at h1
   obtain⟨o,ho,hd⟩:=h1
   exact⟨hki,o,ho,hd,h2⟩
  ·cases hk
 have hzip':∀(i k:Nat) (o:Oper) (t:Tmp),k<i→k<n→l[k]?=some o→o.dst=some t→∃y,(((l.map (·.dst)).zip xs).take i)[k]?=some (some t,y):=fun i k o t hki hkn ho hd=>by
  have hkx:k<xs.length:=by omega
  refine⟨xs[k],?_⟩
  rw [List.getElem?_take,if_pos hki,List.getElem?_zip_eq_some]
  refine⟨?_,List.getElem?_eq_getElem hkx⟩
  rw [List.getElem?_map,ho];simp [hd]
 refine wp_region_any hm (yH _ _ _ _ ?_)
 have hno:∀i,(Array.replicate l.toArray.size false).getD i false=true→False:=fun i hi=>by rw [getD_replicate_false] at hi;cases hi
 have hdr:Fr (fun _=>false) w { w with drawn:=w.drawn+1 }:=⟨rfl,rfl,rfl,Nat.le_refl _,fun _ _ _=>rfl⟩
 obtain⟨hs1,hg1⟩:=hs.ext hdr
 have inv0:DInv H w0 S0 m0 nt l n E ss xs st.e (Array.replicate l.toArray.size false) 0 st.s m a { w with drawn:=w.drawn+1 } :=
  ⟨⟨by simp,fun j oj _ hl=>(hno j hl).elim,fun t _ ht=>getD_in (by simpa using ht) (getD_replicate_false _ _)⟩,fun q i _=>⟨fun h=>(hno i h).elim,fun h=>by omega⟩,Nat.zero_le _,h0,⟨fun t y hy=>by simp [find] at hy,hs1.nts,hs1.df,hs1.sto,hs1.fr,hs1.own,hs1.up,hs1.n0⟩,fun t x hx _=>hs1.env t x hx,fun i o d x _ _ h _ _=>(hno i h).elim⟩
 refine GM (a0:=a) (I:=fun listed a' w'=>∃j s mm,DInv H w0 S0 m0 nt l n E ss xs st.e listed j s mm a' w') (g:=l.toArray.size-n) hlA (fun _ _ _ ⟨_,_,_,h⟩=>h.head) ?_ (fun hlt=>by rcases t1 with t1|t1;exact absurd t1 (by omega);exact t1) (fun a' w' ⟨j,s,mm,inv⟩=>?_) t3.symm _ _ _ _ ?_ ⟨_,_,_,inv0⟩
 ·intro listed a' w' ⟨j,s,mm,inv⟩ i him hr K hK
  obtain⟨hun,o,hoA,hall⟩:=mem_ready.1 hr
  have ho:l[i]?=some o:=by simpa using hoA
  have hunf:listed.getD i false=false:=getD_both hun
  obtain⟨x,hx⟩:∃x,xs[i]?=some x:=⟨_,List.getElem?_eq_getElem (by omega)⟩
  obtain⟨st1,st2⟩:=hop i o x him ho hx
  have hknow:∀t∈looks (l.map (·.dst)) o.op.operands.toList o.guard,∀y,find (oA st.e (((l.map (·.dst)).zip xs).take i)) t=some y→Ca ⟨vis H s mm w',mm⟩ y (a'.eval (.tmp t)):=fun t ht y hy=>by
   rw [←uP] at ht
   rcases mG hy with ⟨k,hk⟩|⟨h1,h2⟩
   ·obtain⟨hki,ok,hok,hd,hxk⟩:=hzip i k t y hk
    have hwait:=hl.early i k o ok t him hki hoA (by simpa using hok) hd ht
    obtain⟨o',ho',e,he,hb,hon⟩:=Region.waitsFor_spec hwait
    rw [hoA] at ho';cases ho'
    have hlk:=hall e he hb
    rw [hon] at hlk
    obtain⟨u,hu,hc⟩:=inv.new k ok t y (by omega) hok hlk hd hxk
    rw [jP hu];exact hc
   ·obtain⟨u,hu,hc⟩:=inv.old t y h1 fun k ok hk hok hlk hd=>by
     rcases Nat.lt_trichotomy k i with h|h|h
     ·obtain⟨z,hz⟩:=hzip' i k ok t h hk hok hd
      exact h2 k z hz
     ·subst h;rw [hunf] at hlk;cases hlk
     ·have hwait:=hl.late i k o ok t him hk h hoA (by simpa using hok) hd ht
      obtain⟨o',ho',e,he,hb,hon⟩:=Region.waitsFor_spec hwait
      have hoj' : o' = ok := by have : l.toArray[k]? = some ok := by simpa using hok
                                rw [this] at ho'; exact (Option.some.inj ho').symm
      subst hoj'
      have:=inv.head.closed k o' (by simpa using hok) hlk e he hb
      rw [hon,hunf] at this
      cases this
    rw [jP hu];exact hc
  have hfin:∀(j':Nat) (s':List (Option Ob)),OpS P nt (l.map (·.dst)) o (oA st.e (((l.map (·.dst)).zip xs).take i)) s x s'→j'≤E.length→ss[j']?=some s'→(∀(q k:Nat),E[q]?=some k→((listed.setIfInBounds i true).getD k false=true↔q<j'))→wpOp P l.toArray (wV H w0 S0 m0 nt Q) i K a' w':=by
   intro j' s' hS hj' hat hcnt
   have hgo:=hS H w0 S0 m0 mm a' w' inv.sim hknow
   refine MG (Ψ:=fun v w2=>∃mm',Sim H w0 S0 m0 nt ⟨[],s'⟩ mm' a' w2∧Goes s mm w' s' mm' w2∧Ca ⟨vis H s' mm' w2,mm'⟩ x v) hoA ?_ fun v w2 ⟨mm',h1,h2,h3⟩=>hK _ _ ⟨j',s',mm',inv.next hl ho him hr hx h1 h2 h3 hj' hat hcnt⟩
   rw [sA]
   split
   ·rename_i hw;rw [if_pos hw] at hgo;exact hgo
   ·rename_i hw
    rw [if_neg hw] at hgo
    obtain⟨rfl,rfl⟩:=hgo
    exact⟨mm,inv.sim,Goes.refl _ _ _,by simp only [Ca];exact⟨[],rfl,by simp [Cas]⟩⟩
  have hset:∀k,(listed.setIfInBounds i true).getD k false=true↔k=i∨listed.getD k false=true:=fun k=>by
   by_cases hk:k=i
   ·subst hk
    have:k<listed.size:=by rw [inv.head.size];simpa using (List.getElem?_eq_some_iff.1 ho).1
    simp [Array.getD_eq_getD_getElem?,this]
   ·rw [getD_set_ne false (Ne.symm hk)];simp [hk]
  by_cases hiE:i∈E
  ·obtain⟨q,hq⟩:=List.mem_iff_getElem?.1 hiE
   have hqj:¬q<j:=fun h=>by have:=(inv.cnt q i hq).2 h;rw [hunf] at this;cases this
   have hqj2:q=j:=by
    cases q with
    | zero=>omega
    | succ q =>
     obtain⟨b,hb⟩:∃b,E[q]?=some b:=⟨_,List.getElem?_eq_getElem (by have:=(List.getElem?_eq_some_iff.1 hq).1;omega)⟩
     have hwait:=hE1 q b i hb hq
     obtain⟨o',ho',e,he,hbb,hon⟩:=Region.waitsFor_spec hwait
     rw [hoA] at ho';cases ho'
     have:=hall e he hbb
     rw [hon] at this
     have:=(inv.cnt q b hb).1 this
     omega
   subst hqj2
   obtain⟨s1,s2,g1,g2,hS⟩:=st1 q hq
   have:s1=s:=by rw [inv.at_] at g1;exact (Option.some.inj g1).symm
   subst this
   have hqlt:=(List.getElem?_eq_some_iff.1 hq).1
   refine hfin (q+1) s2 hS (by omega) g2 fun p k hp=>?_
   rw [hset k]
   constructor
   ·rintro (rfl|h)
    ·rcases Nat.lt_trichotomy p q with h'|h'|h'
     ·omega
     ·omega
     ·exact absurd (hE2 q p k k h' hq hp) (Nat.lt_irrefl _)
    ·have:=(inv.cnt p k hp).1 h;omega
   ·intro h
    rcases Nat.lt_or_ge p q with h'|h'
    ·exact .inr ((inv.cnt p k hp).2 h')
    ·have:p=q:=by omega
     subst this;rw [hq] at hp;cases hp;exact .inl rfl
  ·refine hfin j s (st2 hiE s (List.mem_of_getElem? inv.at_)) inv.le inv.at_ fun p k hp=>?_
   rw [hset k]
   constructor
   ·rintro (rfl|h)
    ·exact absurd (List.mem_of_getElem? hp) hiE
    ·exact (inv.cnt p k hp).1 h
   ·exact fun h=>.inr ((inv.cnt p k hp).2 h)
 ·have hall:∀i,i<n→(eH l.toArray.size n).getD i false=true:=fun i hi=>by
   have hi':i<l.length:=by omega
   simp [eH,hi',hi]
  have hj:j=E.length:=by
   rcases Nat.lt_or_ge j E.length with h|h
   ·obtain⟨b,hb⟩:∃b,E[j]?=some b:=⟨_,List.getElem?_eq_getElem h⟩
    have:=(inv.cnt j b hb).1 (hall b (hEn b (List.mem_of_getElem? hb)))
    omega
   ·exact Nat.le_antisymm inv.le h
  subst hj
  refine yI _ _ _ _ ?_
  have hdl:(l.drop n).length=l.toArray.size-n:=by simp
  have hsim:Sim H w0 S0 m0 nt ⟨oA st.e (((l.map (·.dst)).zip xs).take n),s⟩ mm a' w':=by
   refine⟨fun t y hy=>?_,inv.sim.nts,inv.sim.df,inv.sim.sto,inv.sim.fr,inv.sim.own,inv.sim.up,inv.sim.n0⟩
   rcases mG hy with ⟨k,hk⟩|⟨h1,h2⟩
   ·obtain⟨hki,ok,hok,hd,hxk⟩:=hzip n k t y hk
    exact inv.new k ok t y hki hok (hall k hki) hd hxk
   ·exact inv.old t y h1 fun k ok hk hok _ hd=>by
     obtain⟨z,hz⟩:=hzip' n k ok t hk hk hok hd
     exact h2 k z hz
  have hwl:=hend s inv.at_ H w0 S0 m0 mm a' w' hsim (wV H w0 S0 m0 nt Q) (fun a2 w2 ⟨st2,m2,hq,hs2⟩=>⟨st2,m2,hq,hs2⟩)
  have:=wpAny_of_seq (md:=.any) (Q':=wV H w0 S0 m0 nt Q) (l.drop n) n (eH l.toArray.size n) a' w' (fun j=>by simp [List.getElem?_drop]) (by rw [hdl];exact t2) hwl
  rwa [hdl] at this
 ·simp [iG]
def bH (e:List (Nat × A)) (d:Option Tmp) (x:A):List (Nat × A):=match d with|some d=>(d,x)::e|none=>e
theorem sD (d:Option Tmp) (x:A):∀(Γ:List (Option Tmp × A)) (e:List (Nat × A)),oA e (Γ++[(d,x)])=bH (oA e Γ) d x
 | [],e=>by cases d<;>rfl
 | (some _,_)::r,e=>sD d x r _
 | (none,_)::r,e=>sD d x r _
section
variable {P:Program} {nt:Cf} {ds:List (Option Tmp)} {E:List Nat} {ss:List (List (Option Ob))}
def DrawE (P:Program) (nt:Cf) (ds:List (Option Tmp)) (E:List Nat) (ss:List (List (Option Ob))) (K:List (Nat × A)→Prop):Nat→List (Nat × A)→List Oper→Prop
 | _,e,[]=>K e
 | i,e,o::l=>∃x,QF P nt ds E ss i e o x∧DrawE P nt ds E ss K (i+1) (bH e o.dst x) l
theorem DrawE.parts {K:List (Nat × A)→Prop} {e0:List (Nat × A)}:∀(l:List Oper) (i:Nat) (Γ:List (Option Tmp × A)),DrawE P nt ds E ss K i (oA e0 Γ) l →
  ∃xs:List A,xs.length=l.length∧(∀(k:Nat) (o:Oper) (x:A),l[k]?=some o→xs[k]?=some x→QF P nt ds E ss (i+k) (oA e0 (Γ++((l.map (·.dst)).zip xs).take k)) o x)∧K (oA e0 (Γ++(l.map (·.dst)).zip xs))
 | [],i,Γ,h=>⟨[],rfl,by simp,by simp only [DrawE] at h;simpa using h⟩
 | o::l,i,Γ,h=>by
  obtain⟨x,h1,h2⟩:=h
  rw [←sD] at h2
  obtain⟨xs,g1,g2,g3⟩:=DrawE.parts l (i+1) (Γ++[(o.dst,x)]) h2
  refine⟨x::xs,by simp [g1],fun k o' y hk hy=>?_,by simpa using g3⟩
  cases k with
  | zero=>simp at hk hy;subst hk hy;simpa using h1
  | succ k =>
   have:=g2 k o' y (by simpa using hk) (by simpa using hy)
   rw [show i+(k+1)=i+1+k by omega]
   simpa using this
theorem jB {α β:Type}:∀(a:List α) (b:List β) (n:Nat),b.length≤n→(a.take n).zip b=a.zip b
 | [],b,n,_=>by simp
 | x::a,[],n,_=>by simp
 | x::a,y::b,0,h=>by simp at h
 | x::a,y::b,n+1,h=>by simp only [List.take_succ_cons,List.zip_cons_cons];rw [jB a b n (by simpa using h)]
theorem WpA.drawE {Q:Exit→St→Prop} {st:St} {id:Nat} {l:List Oper} (n:Nat) (E:List Nat) (ss:List (List (Option Ob))) (hds:l.map (·.dst)=ds) (hm:P.follows .mixedOrders=true) (hB:uN l.toArray n nt.nt=true) (hT:lB l.toArray n=true) (hE:chE l.toArray E=true)
  (hEn:(E.all fun i=>decide (i<n))=true) (hss:ss.length=E.length+1) (h0:ss[0]?=some st.s)
  (h:∀K:List (Nat × A)→Prop,(∀e,(∀s,ss[E.length]?=some s→WpL P nt l.toArray (Q .normal) (l.drop n) ⟨e,s⟩)→K e)→DrawE P nt ds E ss K 0 st.e (l.take n)):WpA P nt (.region id l.toArray true) Q st:=by
 subst hds
 have hml:n≤l.length:=by simpa using (oH hB).le
 obtain⟨xs,g1,g2,g3⟩:=DrawE.parts (e0:=st.e) (l.take n) 0 [] (h _ fun e he=>he)
 have hlen:xs.length=n:=by rw [g1,List.length_take];omega
 have hz:∀i,i≤n→(((l.take n).map (·.dst)).zip xs).take i=((l.map (·.dst)).zip xs).take i:=fun i hi=>by
  rw [List.map_take,jB _ _ _ (by omega)]
 refine WpA.draw n E ss xs hm hB hT hE (fun i hi=>by simpa using List.all_eq_true.1 hEn i hi) hss h0 hlen (fun i o x hi ho hx=>?_) (fun s hs=>?_)
 ·have:=g2 i o x (by rw [List.getElem?_take,if_pos hi];exact ho) hx
  rw [Nat.zero_add,List.nil_append,hz i (by omega)] at this
  exact this
 ·have:=g3 s hs
  rw [List.nil_append] at this
  have e:((l.take n).map (·.dst)).zip xs=((l.map (·.dst)).zip xs).take n:=by
   rw [List.map_take,jB _ _ _ (by omega),List.take_of_length_le (by rw [List.length_zip];omega)]
  rw [e] at this
  exact this
theorem yL {e:List (Nat × A)} {op:Op} {g:Option (Nat × Bool)} {X:Cx} {a:Act} (h:∀t∈looks ds op.operands.toList g,∀y,find e t=some y→Ca X y (a.eval (.tmp t))) {o:Operand} (ho:o∈op.operands) {y:A} (hy:rdA e o=some y):Ca X y (a.eval o):=by
 unfold rdA at hy
 split at hy
 ·rename_i t
  refine h t ?_ y hy
  unfold looks
  refine List.mem_append_left _ (List.mem_filterMap.2 ⟨.tmp t,by simpa using ho,rfl⟩)
 ·cases hy
  simp only [Ca,Cc]
  rfl
 ·split at hy
  ·rename_i h1
   cases hy
   exact caV h1
  ·exact CH hy
 ·cases hy
  simp only [Ca,Cc]
  exact⟨[],rfl,by simp [Ccs]⟩
 ·cases hy
theorem tU {e:List (Nat × A)} {xs:List Operand} {g:Option (Nat × Bool)} {X:Cx} {a:Act} {b:Bool} (h:∀t∈looks ds xs g,∀y,find e t=some y→Ca X y (a.eval (.tmp t))) (hg:eP ds e g=some b):wanted ds a.eval g=b:=by
 unfold eP at hg
 split at hg
 ·cases hg;rfl
 ·rename_i j want
  split at hg
  case h_2=>cases hg
  rename_i d hd
  split at hg
  ·rename_i bb hb
   cases hg
   have:=h d (by unfold looks;simp [hd]) _ hb
   simp only [Ca,Cc] at this
   simp only [wanted,hd,this.1]
  ·rename_i l hb
   cases hg
   have:=h d (by unfold looks;simp [hd]) _ hb
   simp only [Ca] at this
   obtain⟨us,e,-⟩:=this
   simp only [wanted,hd,e]
  ·cases hg
variable {d:Option Tmp} {op:Op} {ty:TypeId} {pos:String} {aft:Array Edge} {g:Option (Nat × Bool)} {e:List (Nat × A)} {s:List (Option Ob)}
theorem OpS.quiet {x:A} {p:Prop} (hg:eP ds e g=some true) (hq:qop P s (rdA e) op=some (p,x)) (hp:p):OpS P nt ds ⟨d,op,ty,pos,aft,g⟩ e s x s:=fun H w0 S0 m0 mm a w hs hk=>by
 rw [tU hk hg,if_pos rfl]
 obtain⟨u,hr,hc⟩:=sC (ty:=ty) hq hp H mm w a.eval hs.sto (fun o ho y hy=>yL hk ho hy)
 unfold OpTo
 rw [gZ,hr]
 exact⟨mm,hs,Goes.refl _ _ _,hc⟩
theorem OpS.pass (hg:eP ds e g=some false):OpS P nt ds ⟨d,op,ty,pos,aft,g⟩ e s (.tup []) s:=fun H w0 S0 m0 mm a w hs hk=>by
 rw [tU hk hg]
 exact⟨rfl,rfl⟩
def lQ (P:Program) (ds:List (Option Tmp)) (s:List (Option Ob)):List Oper→List (Nat × A)→Prop × List Oper × List (Nat × A)
 | [],e=>(True,[],e)
 | o::rest,e=>match eP ds e o.guard with
  | some true=>match qop P s (rdA e) o.op with
   | some (p,x)=>match lQ P ds s rest (bH e o.dst x) with
    | (q,l,e')=>(p∧q,l,e')
   | none=>(True,o::rest,e)
  | some false=>lQ P ds s rest (bH e o.dst (.tup []))
  | none=>(True,o::rest,e)
def Draw0 (P:Program) (nt:Cf) (ds:List (Option Tmp)) (s:List (Option Ob)) (K:List (Nat × A)→Prop) (e:List (Nat × A)) (l:List Oper):Prop:=∀i,DrawE P nt ds [] [s] K i e l
theorem Draw0.step {K:List (Nat × A)→Prop} {o:Oper} {l:List Oper} {x:A} (h:OpS P nt ds o e s x s) (hr:Draw0 P nt ds s K (bH e o.dst x) l):Draw0 P nt ds s K e (o::l):=fun i =>
 ⟨x,⟨fun q hq=>by simp at hq,fun _ s' hs'=>by simp at hs';subst hs';exact h⟩,hr (i+1)⟩
theorem Draw0.run {K:List (Nat × A)→Prop}:∀{l:List Oper} {e:List (Nat × A)} {p:Prop} {l':List Oper} {e':List (Nat × A)},lQ P ds s l e=(p,l',e')→p→Draw0 P nt ds s K e' l'→Draw0 P nt ds s K e l
 | [],e,p,l',e',h,hp,hr=>by
  simp only [lQ,Prod.mk.injEq] at h
  obtain⟨-,rfl,rfl⟩:=h
  exact hr
 | o::rest,e,p,l',e',h,hp,hr=>by
  obtain⟨d,op,ty,pos,aft,g⟩:=o
  simp only [lQ] at h
  split at h
  ·rename_i hg
   split at h
   ·rename_i q x hq
    generalize hrun:lQ P ds s rest _=rr at h
    obtain⟨q2,l2,e2⟩:=rr
    simp only [Prod.mk.injEq] at h
    obtain⟨rfl,rfl,rfl⟩:=h
    exact Draw0.step (OpS.quiet hg hq hp.1) (Draw0.run hrun hp.2 hr)
   ·simp only [Prod.mk.injEq] at h
    obtain⟨-,rfl,rfl⟩:=h
    exact hr
  ·rename_i hg
   exact Draw0.step (OpS.pass hg) (Draw0.run h hp hr)
  ·simp only [Prod.mk.injEq] at h
   obtain⟨-,rfl,rfl⟩:=h
   exact hr
def RunQ (r:Prop × List Oper × List (Nat × A)) (K:List Oper→List (Nat × A)→Prop):Prop:=r.1∧K r.2.1 r.2.2
theorem RunQ.mk {p:Prop} {l:List Oper} {e:List (Nat × A)} {K:List Oper→List (Nat × A)→Prop} (hp:p) (h:K l e):RunQ (p,l,e) K:=⟨hp,h⟩
theorem Draw0.go {K:List (Nat × A)→Prop} {l:List Oper} (h:∀K':List Oper→List (Nat × A)→Prop,(∀l' e',Draw0 P nt ds s K e' l'→K' l' e')→RunQ (lQ P ds s l e) K'):Draw0 P nt ds s K e l:=by
 have:=h (fun l' e'=>Draw0 P nt ds s K e' l') (fun _ _ h=>h)
 exact Draw0.run rfl this.1 this.2
theorem Draw0.nil {K:List (Nat × A)→Prop} (h:K e):Draw0 P nt ds s K e []:=fun _=>h
theorem WpA.draw0 {Q:Exit→St→Prop} {st:St} {id:Nat} {l:List Oper} (n:Nat) (ds:List (Option Tmp)) (l1 l2:List Oper) (hds:l.map (·.dst)=ds) (h1:l.take n=l1) (h2:l.drop n=l2) (hm:P.follows .mixedOrders=true) (hB:uN l.toArray n nt.nt=true) (hT:lB l.toArray n=true)
  (h:∀K:List (Nat × A)→Prop,(∀e,WpL P nt l.toArray (Q .normal) l2 ⟨e,st.s⟩→K e)→Draw0 P nt ds st.s K st.e l1):WpA P nt (.region id l.toArray true) Q st:=by
 subst h1 h2
 exact WpA.drawE n [] [st.s] hds hm hB hT rfl rfl rfl rfl fun K hK=>h K (fun e he=>hK e fun s hs=>by simp at hs;subst hs;exact he) 0
theorem zR {xs0:List Operand} {X:Cx} {a:Act} (h:∀o∈xs0,∀y,rdA e o=some y→Ca X y (a.eval o)):∀{xs:List Operand} {l:List A},(∀o∈xs,o∈xs0)→kM e xs=some l→Cas X l (xs.map a.eval)
 | [],l,_,hx=>by simp only [kM,Option.some.injEq] at hx;subst hx;simp [Cas]
 | x::xs,l,hm,hx=>by
  simp only [kM] at hx
  split at hx
  case h_2=>cases hx
  rename_i y hy
  split at hx
  case h_2=>cases hx
  rename_i l' hl
  cases hx
  simp only [List.map_cons,Cas]
  exact⟨_,_,rfl,h x (hm x (by simp)) y hy,zR h (fun o ho=>hm o (by simp [ho])) hl⟩
theorem OpS.call {fo:Operand} {args:List Operand} {tys:Array TypeId} {f:FuncId} {caps:List C} {xs:List A} {r:A} (hg:eP ds e g=some true) (hf:rdA e fo=some (.one (.fn f caps))) (ha:kM e args=some xs) (hc:eC P f=true)
  (h:∀H w0 S0 m0 mm a w,Sim H w0 S0 m0 nt ⟨[],s⟩ mm a w→∀vs,Cas ⟨vis H s mm w,mm⟩ (xs++caps.map .one) vs→Calls P f vs.toArray w fun e w'=>∃v,e=.returned v∧Fr (fun _=>false) w w'∧Ca ⟨vis H s mm w',mm⟩ r v) :
  OpS P nt ds ⟨d,.call { callee:=.value fo,args:=args.toArray,argTypes:=tys },ty,pos,aft,g⟩ e s r s:=fun H w0 S0 m0 mm a w hs hk=>by
 rw [tU hk hg,if_pos rfl]
 have hrd:∀o∈fo::args,∀y,rdA e o=some y→Ca ⟨vis H s mm w,mm⟩ y (a.eval o):=fun o ho y hy=>yL hk (by simp [Op.operands,Call.operands];rcases List.mem_cons.1 ho with h|h;exact .inl h;exact .inr h) hy
 have h1:=hrd fo (by simp) _ hf
 simp only [Ca,Cc] at h1
 obtain⟨us,ef,hu⟩:=h1
 have hv:=(zR hrd (fun o ho=>by simp [ho]) ha).append (Cas.ones hu)
 have hrun:(execOp a.eval ⟨none,.call { callee:=.value fo,args:=args.toArray,argTypes:=tys },ty,"",#[],none⟩).run P w=.ok (.enter f (args.map a.eval++us).toArray) w:=by
  simp only [execOp,resolve,ef,Deferred.ofValue,Sem.run_bind,Sem.run_pure,Result.andThen_ok,invoke,List.map_toArray]
  have:((#[]:Array Value)++(args.map a.eval).toArray++us.toArray)=(args.map a.eval++us).toArray:=by simp
  rw [this,pR hc]
 unfold OpTo
 rw [gZ,hrun]
 refine (h H w0 S0 m0 mm a w hs _ hv).mono fun e' w' ⟨v,he,hx,hr⟩=>⟨v,he,mm,(hs.ext hx).1,(hs.ext hx).2,hr⟩
theorem OpS.shut {fo:Operand} {args:List Operand} {tys:Array TypeId} {f:FuncId} {caps:List C} {xs xs':List A} {r:A} (hg:eP ds e g=some true) (hf:rdA e fo=some (.one (.fn f caps))) (ha:kM e args=some xs) (hc:eC P f=true)
  (hv:ALes (xs++caps.map .one) xs') (hsh:dF xs'=true) (hfn:Pure P f xs' r):OpS P nt ds ⟨d,.call { callee:=.value fo,args:=args.toArray,argTypes:=tys },ty,pos,aft,g⟩ e s r s:=by
 refine OpS.call hg hf ha hc fun H w0 S0 m0 mm a w hs vs hvs=>?_
 exact zO hsh hfn hs.sto vs (hv _ _ hvs)
theorem OpS.lend {fo:Operand} {args:List Operand} {tys:Array TypeId} {f:FuncId} {caps:List C} {xs xs':List A} {p:Prop} {r:A} (hg:eP ds e g=some true) (hf:rdA e fo=some (.one (.fn f caps))) (ha:kM e args=some xs) (hc:eC P f=true)
  (hv:gO s (xs++caps.map .one)=some (p,xs')) (hp:p) (hfl:r.flat=true) (hfn:Pure P f xs' r):OpS P nt ds ⟨d,.call { callee:=.value fo,args:=args.toArray,argTypes:=tys },ty,pos,aft,g⟩ e s r s :=
 OpS.call hg hf ha hc fun H w0 S0 m0 mm a w hs vs hvs=>zP hv hp hfl hfn hs.sto vs hvs
end
theorem dA {n:Int} (h1 : -9223372036854775808≤n) (h2:n≤9223372036854775807):IntKind.i64.wrap n=n:=by
 simp only [IntKind.wrap,IntKind.bits,IntKind.signed,Bool.true_and,decide_eq_true_eq,ge_iff_le]
 split<;>omega
theorem TN {n:Int} (h1:0≤n) (h2:n≤4294967295):IntKind.u32.wrap n=n:=by
 simp only [IntKind.wrap,IntKind.bits,IntKind.signed,Bool.false_and,Bool.false_eq_true,if_false]
 omega
theorem VS {n:Int} (h1 : -2147483648≤n) (h2:n≤2147483647):IntKind.i32.wrap n=n:=by
 simp only [IntKind.wrap,IntKind.bits,IntKind.signed,Bool.true_and,decide_eq_true_eq,ge_iff_le]
 split<;>omega
inductive Pk:Option A→Code→Code→Code→Prop
 | t {x y:Code}:Pk (some (.one (.v (.bool true)))) x y x
 | f {x y:Code}:Pk (some (.one (.v (.bool false)))) x y y
theorem WpA.cd {P:Program} {nt:Cf} {Q:Exit→St→Prop} {st:St} {t:Tmp} {x y z:Code} (h:Pk (find st.e t) x y z) (hw:WpA P nt z Q st):WpA P nt (.cond (.tmp t) x y) Q st:=by
 generalize hf:find st.e t=o at h
 cases h with
 | t=>exact WpA.cond_t hf hw
 | f=>exact WpA.cond_f hf hw
inductive Fw:Prop→Prop→Prop
 | r1 {P:Program} {nt:Cf} {Q:Exit→St→Prop} {st:St} {c:Code} {n:Nat}:Fw (WpA P nt c (qM (nT P nt c Q n) Q) st) (nT P nt c Q (n+1) st)
 | t1 {Q:Exit→St→Prop} {st:St} {K:St→Prop}:Fw (K st) (qM K Q .normal st)
 | t2 {Q:Exit→St→Prop} {st:St} {K:St→Prop}:Fw (Q .ret st) (qM K Q .ret st)
 | t3 {Q:Exit→St→Prop} {st:St} {K:St→Prop} {i:Nat}:Fw (Q (.exit i) st) (qM K Q (.exit i) st)
 | b1 {Q:Exit→St→Prop} {st:St} {i:Nat}:Fw (Q .normal st) (gL i Q .normal st)
 | b2 {Q:Exit→St→Prop} {st:St} {i:Nat}:Fw (Q .ret st) (gL i Q .ret st)
 | b3 {Q:Exit→St→Prop} {st:St} {i:Nat}:Fw (Q .normal st) (gL i Q (.exit i) st)
 | b4 {Q:Exit→St→Prop} {st:St} {i j:Nat} (h:(j == i)=false):Fw (Q (.exit j) st) (gL i Q (.exit j) st)
 | c1 {P:Program} {nt:Cf} {Q:Exit→St→Prop} {st:St} {x y:Code}:Fw (WpA P nt x (qM (WpA P nt y Q) Q) st) (WpA P nt (.seq x y) Q st)
 | c2 {P:Program} {nt:Cf} {Q:Exit→St→Prop} {st:St} {i:Nat} {x:Code}:Fw (WpA P nt x (gL i Q) st) (WpA P nt (.block i x) Q st)
 | c3 {P:Program} {nt:Cf} {Q:Exit→St→Prop} {st:St}:Fw (Q .normal st) (WpA P nt .skip Q st)
 | c4 {P:Program} {nt:Cf} {Q:Exit→St→Prop} {st:St}:Fw (Q .ret st) (WpA P nt .ret Q st)
 | c5 {P:Program} {nt:Cf} {Q:Exit→St→Prop} {st:St} {i:Nat}:Fw (Q (.exit i) st) (WpA P nt (.exit i) Q st)
 | k1 {P:Program} {nt:Cf} {Q:Exit→St→Prop} {st:St} {t:Tmp} {x y z:Code} (h:Pk (find st.e t) x y z):Fw (WpA P nt z Q st) (WpA P nt (.cond (.tmp t) x y) Q st)
 | l1 {P:Program} {nt:Cf} {ops:Array Oper} {Q:St→Prop} {st:St}:Fw (Q st) (WpL P nt ops Q [] st)
theorem fw {p q:Prop} (h:Fw p q) (hp:p):q:=by
 cases h with
 | r1=>exact CI hp
 | t1=>exact uX hp
 | t2=>exact TL hp
 | t3=>exact TM hp
 | b1=>exact JX hp
 | b2=>exact JY hp
 | b3=>exact JZ hp
 | b4 h=>exact KA h hp
 | c1=>exact WpA.seq hp
 | c2=>exact WpA.block hp
 | c3=>exact WpA.skip hp
 | c4=>exact WpA.ret hp
 | c5=>exact WpA.exit hp
 | k1 h=>exact WpA.cd h hp
 | l1=>exact WpL.nil hp
theorem ri {r:Prop × List Oper × St} {K:List Oper→St→Prop} (h:RunTo r K):RunTo r K:=h
theorem RunTo.fn {P:Program} {nt:Cf} {ops:Array Oper} {Q:St→Prop} {p:Prop} {l:List Oper} {st:St} {K:List Oper→St→Prop} (hK:∀l' st',WpL P nt ops Q l' st'→K l' st') (hp:p) (h:WpL P nt ops Q l st):RunTo (p,l,st) K:=⟨hp,hK _ _ h⟩
theorem ga {P:Program} {nt:Cf} {Q:Exit→St→Prop} {id:Nat} {l0:List Oper} {st:St} (ds:List (Option Tmp)) (hds:l0.map (·.dst)=ds) (h:∀K:List Oper→St→Prop,(∀l' st',WpL P nt l0.toArray (Q .normal) l' st'→K l' st')→RunTo (uV P nt ds l0 st) K):WpA P nt (.region id l0.toArray false) Q st :=
 WpA.region (WpL.go ds hds h)
theorem zz:(∀{α:Type},([]:List α).length=0)∧(∀{α:Type} (a:α) (l:List α),(a::l).length=l.length+1)∧(∀{α:Type} (l:List α),[]++l=l)∧(∀{α:Type} (a:α) (l k:List α),(a::l)++k=a::(l++k))∧(∀{α:Type} (l:List α),l++[]=l)∧(∀{α:Type} (a:α) (l:List α),(a::l)[0]?=some a)∧(∀{α:Type} (a:α) (l:List α) (n:Nat),(a::l)[n+1]?=l[n]?)∧(∀{α:Type} (n:Nat),([]:List α)[n]?=none)∧(∀{α:Type} (a:α) (l:List α) (n:Nat),(a::l).drop (n+1)=l.drop n)∧(∀{α:Type} (l:List α),l.drop 0=l)∧(∀{α:Type} (n:Nat),([]:List α).drop n=[])∧(∀{α:Type} (a:α) (l:List α) (n:Nat),(a::l).take (n+1)=a::l.take n)∧(∀{α:Type} (l:List α),l.take 0=[])∧(∀{α:Type} (n:Nat),([]:List α).take n=[])∧(∀{α:Type} (a b:α) (l:List α),(a::l).set 0 b=b::l)∧(∀{α:Type} (a b:α) (l:List α) (n:Nat),(a::l).set (n+1) b=a::l.set n b)∧(∀{α β:Type} (f:α→β) (a:α) (l:List α),(a::l).map f=f a::l.map f)∧(∀{α β:Type} (f:α→β),([]:List α).map f=[])∧(∀{α:Type} (a b c:List α),a++b++c=a++(b++c))∧(∀{α β:Type} (f:α→β) (l:List α),(l.map f).length=l.length)∧(∀{α:Type} (l:List α),l.toArray.toList=l)∧(∀{α:Type} (a:α),List.replicate 0 a=[])∧(∀{α:Type} (a:α) (n:Nat),List.replicate (n+1) a=a::List.replicate n a)∧(∀{α:Type} (a:List α) (l:List (List α)),(a::l).flatten=a++l.flatten)∧(∀{α:Type},([]:List (List α)).flatten=[])∧(∀{α:Type} (p:α→Bool) (a:α) (l:List α),(a::l).all p=(p a&&l.all p))∧(∀{α:Type} (p:α→Bool),([]:List α).all p=true):=by
 refine⟨?_,?_,?_,?_,?_,?_,?_,?_,?_,?_,?_,?_,?_,?_,?_,?_,?_,?_,?_,?_,?_,?_,?_,?_,?_,?_,?_⟩<;>intros<;>simp [List.replicate_succ]
theorem zy:(∀n:Nat,n.succ=n+1)∧(∀n:Nat,0+n=n)∧(∀n:Nat,n+0=n)∧(∀n:Nat,(n≤n)=True)∧(∀(p:Prop) [Decidable p],(decide p=true)=p)∧(∀(h:Decidable True),decide True=true)∧(∀(h:Decidable False),decide False=false)∧(∀p:Prop,(True∧p)=p)∧(∀p:Prop,(p∧True)=p)∧(∀p:Prop,(p∧p)=p)∧(∀{α:Type} [BEq α] [ReflBEq α] (a:α),(a == a)=true)∧(∀{α:Type} [BEq α] [LawfulBEq α] (a:α),(a != a)=false)∧((!true)=false)∧((!false)=true)∧(∀b:Bool,(true == b)=b)∧(∀b:Bool,(false == b)=!b)∧(∀n:Nat,((n:Int)).toNat=n)∧(∀{α:Type} (a b:α),(a≠b)=¬(a=b))∧((¬False)=True)∧((false=true)=False):=by
 refine⟨?_,?_,?_,?_,?_,?_,?_,?_,?_,?_,?_,?_,?_,?_,?_,?_,?_,?_,?_,?_⟩<;>intros<;>first|rfl|(simp;done)|exact decide_true _|exact decide_false _|exact eq_true (Nat.le_refl _)
theorem zbO:type_of% (And.intro (And.intro (And.intro (And.intro (And.intro (And.intro (And.intro zz zy) (And.intro @tP.eq_1 @tP.eq_2)) (And.intro (And.intro @uV.eq_1 @uV.eq_2) (And.intro @eP.eq_1 (And.intro @eP.eq_2 @sT.eq_1)))) (And.intro (And.intro (And.intro @sT.eq_2 @sT.eq_3) (And.intro @sT.eq_4 @lU.eq_1)) (And.intro (And.intro @lU.eq_2 @tQ.eq_1) (And.intro @tQ.eq_2 (And.intro @tQ.eq_3 @mO.eq_1))))) (And.intro (And.intro (And.intro (And.intro @mO.eq_2 @mO.eq_3) (And.intro @sY.eq_1 @sY.eq_2)) (And.intro (And.intro @uU.eq_1 @uU.eq_2) (And.intro @aop.eq_1 (And.intro @aop.eq_2 @aop.eq_3)))) (And.intro (And.intro (And.intro @aop.eq_4 @aop.eq_5) (And.intro @aop.eq_6 (And.intro @qop.eq_1 @qop.eq_2))) (And.intro (And.intro @qop.eq_3 @qop.eq_4) (And.intro @qop.eq_5 (And.intro @qop.eq_6 @qop.eq_7)))))) (And.intro (And.intro (And.intro (And.intro (And.intro @qop.eq_8 @qop.eq_9) (And.intro @qop.eq_10 @qop.eq_11)) (And.intro (And.intro @qop.eq_12 @qop.eq_13) (And.intro @qop.eq_14 (And.intro @qop.eq_15 @qop.eq_16)))) (And.intro (And.intro (And.intro @qop.eq_17 @qop.eq_18) (And.intro @qop.eq_19 @qop.eq_20)) (And.intro (And.intro @rdA.eq_1 @rdA.eq_2) (And.intro @rdA.eq_3 (And.intro @rdA.eq_4 @kM.eq_1))))) (And.intro (And.intro (And.intro (And.intro @kM.eq_2 @find.eq_1) (And.intro @find.eq_2 @A.cs.eq_1)) (And.intro (And.intro @A.cs.eq_2 @A.cs.eq_3) (And.intro @St.put.eq_1 (And.intro @St.put.eq_2 @nL.eq_1)))) (And.intro (And.intro (And.intro @nL.eq_2 @sW.eq_1) (And.intro @kO.eq_1 (And.intro @kO.eq_2 @kO.eq_3))) (And.intro (And.intro @pN.eq_1 @pN.eq_2) (And.intro @pN.eq_3 (And.intro @lO.eq_1 @lO.eq_2))))))) (And.intro (And.intro (And.intro (And.intro (And.intro (And.intro @lO.eq_3 @rE.eq_1) (And.intro @rE.eq_2 @rE.eq_3)) (And.intro (And.intro @rE.eq_4 @rE.eq_5) (And.intro @qR.eq_1 (And.intro @qR.eq_2 @qR.eq_3)))) (And.intro (And.intro (And.intro @qR.eq_4 @qR.eq_5) (And.intro @qR.eq_6 @hO.eq_1)) (And.intro (And.intro @hO.eq_2 @hO.eq_3) (And.intro @hO.eq_4 (And.intro @hO.eq_5 @hO.eq_6))))) (And.intro (And.intro (And.intro (And.intro @hO.eq_7 @hO.eq_8) (And.intro @hO.eq_9 @hO.eq_10)) (And.intro (And.intro @hO.eq_11 @hO.eq_12) (And.intro @hO.eq_13 (And.intro @hO.eq_14 @hO.eq_15)))) (And.intro (And.intro (And.intro @hO.eq_16 @hO.eq_17) (And.intro @pM.eq_1 (And.intro @pM.eq_2 @pM.eq_3))) (And.intro (And.intro @pM.eq_4 @pM.eq_5) (And.intro @pM.eq_6 (And.intro @pM.eq_7 @pM.eq_8)))))) (And.intro (And.intro (And.intro (And.intro (And.intro @unV.eq_1 @unV.eq_2) (And.intro @unV.eq_3 @over.eq_1)) (And.intro (And.intro @lP.eq_1 @lP.eq_2) (And.intro @mN.eq_1 (And.intro @mN.eq_2 @rH.eq_1)))) (And.intro (And.intro (And.intro @rH.eq_2 @rH.eq_3) (And.intro @qS.eq_1 @qS.eq_2)) (And.intro (And.intro @gW.eq_1 @gW.eq_2) (And.intro @gW.eq_3 (And.intro @gW.eq_4 @cY.eq_1))))) (And.intro (And.intro (And.intro (And.intro @cY.eq_2 @cY.eq_3) (And.intro @cY.eq_4 @cY.eq_5)) (And.intro (And.intro @cY.eq_6 @cY.eq_7) (And.intro @iA.eq_1 (And.intro @iA.eq_2 @gO.eq_1)))) (And.intro (And.intro (And.intro @gO.eq_2 @Value.oneCell'.eq_1) (And.intro @Value.oneCell'.eq_2 (And.intro @Value.oneCell'.eq_3 @lQ.eq_1))) (And.intro (And.intro @lQ.eq_2 @bH.eq_1) (And.intro @bH.eq_2 (And.intro @oJ.eq_1 @oJ.eq_2)))))))):=And.intro (And.intro (And.intro (And.intro (And.intro (And.intro (And.intro zz zy) (And.intro @tP.eq_1 @tP.eq_2)) (And.intro (And.intro @uV.eq_1 @uV.eq_2) (And.intro @eP.eq_1 (And.intro @eP.eq_2 @sT.eq_1)))) (And.intro (And.intro (And.intro @sT.eq_2 @sT.eq_3) (And.intro @sT.eq_4 @lU.eq_1)) (And.intro (And.intro @lU.eq_2 @tQ.eq_1) (And.intro @tQ.eq_2 (And.intro @tQ.eq_3 @mO.eq_1))))) (And.intro (And.intro (And.intro (And.intro @mO.eq_2 @mO.eq_3) (And.intro @sY.eq_1 @sY.eq_2)) (And.intro (And.intro @uU.eq_1 @uU.eq_2) (And.intro @aop.eq_1 (And.intro @aop.eq_2 @aop.eq_3)))) (And.intro (And.intro (And.intro @aop.eq_4 @aop.eq_5) (And.intro @aop.eq_6 (And.intro @qop.eq_1 @qop.eq_2))) (And.intro (And.intro @qop.eq_3 @qop.eq_4) (And.intro @qop.eq_5 (And.intro @qop.eq_6 @qop.eq_7)))))) (And.intro (And.intro (And.intro (And.intro (And.intro @qop.eq_8 @qop.eq_9) (And.intro @qop.eq_10 @qop.eq_11)) (And.intro (And.intro @qop.eq_12 @qop.eq_13) (And.intro @qop.eq_14 (And.intro @qop.eq_15 @qop.eq_16)))) (And.intro (And.intro (And.intro @qop.eq_17 @qop.eq_18) (And.intro @qop.eq_19 @qop.eq_20)) (And.intro (And.intro @rdA.eq_1 @rdA.eq_2) (And.intro @rdA.eq_3 (And.intro @rdA.eq_4 @kM.eq_1))))) (And.intro (And.intro (And.intro (And.intro @kM.eq_2 @find.eq_1) (And.intro @find.eq_2 @A.cs.eq_1)) (And.intro (And.intro @A.cs.eq_2 @A.cs.eq_3) (And.intro @St.put.eq_1 (And.intro @St.put.eq_2 @nL.eq_1)))) (And.intro (And.intro (And.intro @nL.eq_2 @sW.eq_1) (And.intro @kO.eq_1 (And.intro @kO.eq_2 @kO.eq_3))) (And.intro (And.intro @pN.eq_1 @pN.eq_2) (And.intro @pN.eq_3 (And.intro @lO.eq_1 @lO.eq_2))))))) (And.intro (And.intro (And.intro (And.intro (And.intro (And.intro @lO.eq_3 @rE.eq_1) (And.intro @rE.eq_2 @rE.eq_3)) (And.intro (And.intro @rE.eq_4 @rE.eq_5) (And.intro @qR.eq_1 (And.intro @qR.eq_2 @qR.eq_3)))) (And.intro (And.intro (And.intro @qR.eq_4 @qR.eq_5) (And.intro @qR.eq_6 @hO.eq_1)) (And.intro (And.intro @hO.eq_2 @hO.eq_3) (And.intro @hO.eq_4 (And.intro @hO.eq_5 @hO.eq_6))))) (And.intro (And.intro (And.intro (And.intro @hO.eq_7 @hO.eq_8) (And.intro @hO.eq_9 @hO.eq_10)) (And.intro (And.intro @hO.eq_11 @hO.eq_12) (And.intro @hO.eq_13 (And.intro @hO.eq_14 @hO.eq_15)))) (And.intro (And.intro (And.intro @hO.eq_16 @hO.eq_17) (And.intro @pM.eq_1 (And.intro @pM.eq_2 @pM.eq_3))) (And.intro (And.intro @pM.eq_4 @pM.eq_5) (And.intro @pM.eq_6 (And.intro @pM.eq_7 @pM.eq_8)))))) (And.intro (And.intro (And.intro (And.intro (And.intro @unV.eq_1 @unV.eq_2) (And.intro @unV.eq_3 @over.eq_1)) (And.intro (And.intro @lP.eq_1 @lP.eq_2) (And.intro @mN.eq_1 (And.intro @mN.eq_2 @rH.eq_1)))) (And.intro (And.intro (And.intro @rH.eq_2 @rH.eq_3) (And.intro @qS.eq_1 @qS.eq_2)) (And.intro (And.intro @gW.eq_1 @gW.eq_2) (And.intro @gW.eq_3 (And.intro @gW.eq_4 @cY.eq_1))))) (And.intro (And.intro (And.intro (And.intro @cY.eq_2 @cY.eq_3) (And.intro @cY.eq_4 @cY.eq_5)) (And.intro (And.intro @cY.eq_6 @cY.eq_7) (And.intro @iA.eq_1 (And.intro @iA.eq_2 @gO.eq_1)))) (And.intro (And.intro (And.intro @gO.eq_2 @Value.oneCell'.eq_1) (And.intro @Value.oneCell'.eq_2 (And.intro @Value.oneCell'.eq_3 @lQ.eq_1))) (And.intro (And.intro @lQ.eq_2 @bH.eq_1) (And.intro @bH.eq_2 (And.intro @oJ.eq_1 @oJ.eq_2)))))))
theorem zb:type_of% (And.intro zbO (And.intro @wD.eq_1 (And.intro @wD.eq_2 (And.intro @wD.eq_3 (And.intro (And.intro @wD.eq_4 @wD.eq_5) (And.intro @rdA.eq_5 (And.intro @cY.eq_8 (And.intro @cY.eq_9 @erG.eq_1)))))))):=And.intro zbO (And.intro @wD.eq_1 (And.intro @wD.eq_2 (And.intro @wD.eq_3 (And.intro (And.intro @wD.eq_4 @wD.eq_5) (And.intro @rdA.eq_5 (And.intro @cY.eq_8 (And.intro @cY.eq_9 @erG.eq_1)))))))
theorem zvO:type_of% (And.intro (And.intro (And.intro (And.intro zz @qS.eq_1) (And.intro @qS.eq_2 @gW.eq_1)) (And.intro (And.intro @gW.eq_2 @gW.eq_3) (And.intro @gW.eq_4 (And.intro @cY.eq_1 @cY.eq_2)))) (And.intro (And.intro (And.intro @cY.eq_3 @cY.eq_4) (And.intro @cY.eq_5 @cY.eq_6)) (And.intro (And.intro @cY.eq_7 @iA.eq_1) (And.intro @iA.eq_2 (And.intro @gO.eq_1 @gO.eq_2))))):=And.intro (And.intro (And.intro (And.intro zz @qS.eq_1) (And.intro @qS.eq_2 @gW.eq_1)) (And.intro (And.intro @gW.eq_2 @gW.eq_3) (And.intro @gW.eq_4 (And.intro @cY.eq_1 @cY.eq_2)))) (And.intro (And.intro (And.intro @cY.eq_3 @cY.eq_4) (And.intro @cY.eq_5 @cY.eq_6)) (And.intro (And.intro @cY.eq_7 @iA.eq_1) (And.intro @iA.eq_2 (And.intro @gO.eq_1 @gO.eq_2))))
theorem zv:type_of% (And.intro zvO (And.intro @cY.eq_8 @cY.eq_9)):=And.intro zvO (And.intro @cY.eq_8 @cY.eq_9)
end Go.Proofs.YtaeioidifpebdaaGreatDoor
end
