/- Part Y08 of the proof. -/
import Derived.Test.YtjmkjicckobojaaGreatDoorY07
set_option linter.all false
namespace Go.Abs
open Go.RowKit
structure MapTab where
 T:Nat
 kd:IntKind
 mi:Nat
 tm:Nat
 tab:List (Nat×Int×Nat×Nat)
 cp:List (Nat×Nat)
def isMapOp(o:Oper):Bool:=match o.op with| .makeMap .. =>true| .insert .. =>true|_=>false
def clsB(ops:Array Oper)(m:MapTab)(j:Nat)(o:Oper):Bool:=
 cond (Nat.beq j m.mi) (match o.op,o.dst,o.guard with| .makeMap T none,some d,none=>Nat.beq T m.T && Nat.beq d m.tm|_,_,_=>false)
 (match m.tab.find? λq=>Nat.beq q.1 j with
 |some q=>(match o.op,o.dst,o.guard with| .insert T (.tmp t) (.const (.int kd k)) (.tmp s),none,none=>Nat.beq T m.T && Nat.beq t m.tm && decide (kd=m.kd) && decide (k=q.2.1) && Nat.beq s q.2.2.1 && od ops m.mi j && od ops q.2.2.2 j|_,_,_=>false)
 |none=>match m.cp.find? λc=>Nat.beq c.1 j with
  |some c=>(match o.op,o.dst,o.guard with| .move (.tmp s),some d,none=>Nat.beq d c.2 && od ops m.mi j && (Nat.beq s m.tm||m.cp.any λe=>Nat.beq e.2 s && od ops e.1 j)| .assign (.tmp s),some d,none=>Nat.beq d c.2 && od ops m.mi j && (Nat.beq s m.tm||m.cp.any λe=>Nat.beq e.2 s && od ops e.1 j)|_,_,_=>false)
  |none=>!isMapOp o && (match o.dst with|none=>true|some d=>!Nat.beq d m.tm && (m.cp.all λc=>!Nat.beq c.2 d) && m.tab.all λq=>!Nat.beq q.2.2.1 d||Nat.beq q.2.2.2 j))
def xy(ops:Array Oper)(m:MapTab):Bool:=
 (ops.toList.zipIdx.all λp=>clsB ops m p.2 p.1) && (m.tab.all λq=>!Nat.beq q.2.2.1 m.tm && m.cp.all λc=>!Nat.beq c.2 q.2.2.1) && (m.cp.all λc=>!Nat.beq c.2 m.tm) && decide ((m.cp.map (·.2)).Nodup) && decide ((m.tab.map (·.2.1)).Nodup) && decide ((m.tab.map (·.1)).Nodup)
def H6(m:MapTab)(j:Nat):Option (Int×Nat):=(m.tab.find? λq=>Nat.beq q.1 j).map λq=>(q.2.1,q.2.2.1)
structure XM (m:MapTab)(M00:Nat->Prop)(w00:Base)(σ:Ln)(M0:Nat->Prop)(w0:Base)(a:Act)(w:World):Prop where
 kept:w00.Kept w
 m00:∀b,M00 b->w00.K b/\b≠GT
 pin:w0.pin=w00.pin
 dep:∀q∈m.tab,q.1∈σ->m.mi∈σ/\q.2.2.2∈σ
 dep2:∀c∈m.cp,c.1∈σ->m.mi∈σ
 no:m.mi∉σ->(∀b,M0 b↔M00 b)/\(∀b,w0.K b↔w00.K b)
 yes:m.mi∈σ->∃r ens ck,a.tmps.getD m.tm undef= .map (some r)/\w.heap[r]?=some (.map ens ck)/\w00.w.heap.size<=r/\(∀b,M0 b↔M00 b\/b=r)/\(∀b,w0.K b↔w00.K b\/b=r)/\
  (ens.toList.map λe=>(e.key,e.val))=(σ.filterMap (H6 m)).map (λq=>(Value.int m.kd q.1,a.tmps.getD q.2 undef))/\∀c∈m.cp,c.1∈σ->a.tmps.getD c.2 undef= .map (some r)
theorem qn{a:Act}{d t:Nat}{y:Value}(h:t≠d):(a.put (some d) y).tmps.getD t undef=a.tmps.getD t undef:=by
 simp only[Act.put,oj];grind
theorem vS{a:Act}{d:Nat}{y:Value}(h:d< a.tmps.size):(a.put (some d) y).tmps.getD d undef=y:=by
 simp[Act.put,h]
theorem GA{a b:Nat}(h:(!Nat.beq a b)=true):a≠b:=HY h
theorem wg{a b:Nat}(h:Nat.beq a b=true):a=b:=by simp_all
section
variable {P:Program}{ops:Array Oper}{m:MapTab}{j:Nat}{o:Oper}
theorem chk_cls(h:xy ops m=true)(ho:ops[j]?=some o):clsB ops m j o=true:=by
 unfold xy at h;simp only[sj,pZ] at h;exact h.1.1.1.1.1 (o,j) φ
theorem chk_tab(h:xy ops m=true){q:Nat×Int×Nat×Nat}(hq:q∈m.tab):q.2.2.1≠m.tm/\∀c∈m.cp,c.2≠q.2.2.1:=by
 unfold xy at h;simp only[sj,pZ] at h;have:=h.1.1.1.1.2 q hq;exact⟨GA this.1,λc a=>GA (this.2 c a)⟩
theorem chk_cp(h:xy ops m=true){c:Nat×Nat}(hc:c∈m.cp):c.2≠m.tm:=by
 unfold xy at h;simp only[sj,pZ] at h;exact GA (h.1.1.1.2 c hc)
theorem sC{α γ:Type}{f:α->γ}:∀{l:List α},(l.map f).Nodup->∀{x y:α},x∈l->y∈l->f x=f y->x=y
 |[],_,_,_,hx,_,_=>by grind
 |a::l,h,x,y,hx,hy,e=>by
  rw[zo,NN] at h;rcases pY.1 hx with h1|h1 <;> rcases pY.1 hy with b|b
  rw[h1,b];rw[h1] at e;exact absurd (e▸Oa (f:=f) b) h.1;rw[b] at e;exact absurd (e▸Oa (f:=f) h1) h.1;exact sC h.2 h1 b e
theorem chk_nd(h:xy ops m=true):(m.cp.map (·.2)).Nodup/\(m.tab.map (·.2.1)).Nodup/\(m.tab.map (·.1)).Nodup:=by
 unfold xy at h;grind
theorem H5{j:Nat}{q:Int×Nat}(h:H6 m j=some q):∃x∈m.tab,x.1=j/\q=(x.2.1,x.2.2.1):=by
 obtain⟨x,a,rfl⟩:=M5.1 h;exact⟨x,Oo a,wg φ,rfl⟩
theorem yg{j:Nat}(h:∀x∈m.tab,x.1≠j):H6 m j=none:=by
 unfold H6;rw[OV.2 λx a hb=>h x a (wg φ)];rfl
end
section
variable {P:Program}{ops:Array Oper}{m:MapTab}{j n nx:Nat}{o:Oper}{M00 M0:Nat->Prop}{w00 w0:Base}{σ:Ln}{β β':Bq}{hp hp':Hq}{a:Act}{w w':World}{u:Upd}{y:Value}
theorem jG{i:Nat}(h:i∈σ++[j])(hne:i≠j):i∈σ:=φ
theorem XM.make(hc:xy ops m=true)(ho:ops[m.mi]?=some o)(hop:o.op= .makeMap m.T none)(hdst:o.dst=some m.tm)(hn:m.tm< a.tmps.size)(hj:m.mi∉σ)(hti:∀q∈m.tab,q.1≠m.mi)(htc:∀c∈m.cp,c.1≠m.mi)(hX:XM m M00 w00 σ M0 w0 a w)(mem:Mem M0 w0 β hp w):
    ∃y w' M0' w0',((execOp a.eval o).run P w= .ok (.value y) w')/\Mem M0' w0' β hp w'/\w0'.gh=w0.gh/\RV (MM M0' β hp) β w' .any y/\StabC (MM M0 β hp) (MM M0' β hp) β β w w'/\(∀ds,DefOK ds w0 w->DefOK ds w0' w')/\
     XM m M00 w00 (σ++[m.mi]) M0' w0' (a.put o.dst y) w':=by
 obtain⟨J,z⟩:=hX.no hj;obtain⟨w',g⟩:∃w',w'=w.alloc (.map #[] 0):=⟨_,rfl⟩;have d:∀b,b< w.heap.size->w'.heap[b]?=w.heap[b]?:=λb hb=>by rw[g];exact Below.heap_alloc _ _ _ hb
 have n:w'.heap[w.heap.size]?=some (.map #[] 0):=by rw[g];exact heap_alloc_new' _ _
 have F:w'.heap.size=w.heap.size+1:=by simp_all
 have E:∀b,w0.K b->b< w.heap.size:=λb hb=>ns (w0.lt b hb) mem.below.size
 let M0':Nat->Prop:=λb=>M0 b\/b=w.heap.size
 let w0':Base:=⟨w',λb=>w0.K b\/b=w.heap.size,λb hb=>by grind,w0.pin,w0.gh,.inl w0.kt,mem.tab.congr (d GT mem.tab.lt)⟩
 have st:StabC (MM M0 β hp) (MM M0' β hp) β β w w':=by
  refine⟨λb N hb _=>d b (cy hb),λb N hb r=>?_,λ_ _ h=>h,λb N hb=>(eW (d b (cy hb))).trans hb⟩;rcases r with(r|rfl)|r
  exact .inl r;have:=cy hb;omega;exact .inr r
 refine⟨.map (some w.heap.size),w',M0',w0',?_,⟨⟨rfl,rfl,rfl,ir _,λ_ _=>rfl,λ_ _ h=>h⟩,λb hb=>⟨hb.imp (λh=>(mem.m0 b h).1) id,λe=>by
  rcases hb with hb|hb
  exact(mem.m0 b hb).2 e;have:=mem.tab.lt;omega⟩,λi b s f=>⟨λl=>?_,?_⟩,mem.pin,λi B f=>?_,mem.inj⟩,rfl,trivial,st,λds v=>?_,?_⟩
 rw[g];simp[execOp,hop,Instr.makeMap];rcases l with l|rfl
 exact(mem.rng i b s f).1 l;have:=(mem.rng i _ s f).2;omega;have:=(mem.rng i b s f).2;omega;obtain⟨b,e1,e2⟩:=mem.blk i B f;exact⟨b,e1,e2.stab st (d b (mem.rng i b _ e1).2)⟩;obtain⟨H,d1,d2,A⟩:=v;refine⟨H,d1,d2,λD C=>?_⟩;obtain⟨e1,e2⟩:=A D C;have u:=(sk.1 e1).1;refine⟨by rw[d D u];exact e1,λl=>?_⟩;rcases l with l|rfl
 exact e2 l;omega;have p:∀q∈m.tab,q.1∉σ++[m.mi]:=λq t f=>hj (hX.dep q t (jG f (hti q t))).1;refine⟨⟨by rw[g];exact hX.kept.os,by rw[g];exact hX.kept.tape,by rw[g];exact hX.kept.output,by have:=hX.kept.size;omega,λb hb=>(d b (E b ((z b).2 hb))).trans (hX.kept.block b hb),λb k hb=>st.sz b k (hX.kept.sizes b k hb)⟩,hX.m00,hX.pin,λq t f=>absurd f (p q t),λc j f=>tE _ (hX.dep2 c j (jG f (htc c j))),λhn=>absurd ψ hn,λ_=>⟨w.heap.size, #[],0,?_,n,hX.kept.size,λb=>or_congr (J b) No,λb=>or_congr (z b) No,?_,λc j f=>absurd (hX.dep2 c j (jG f (htc c j))) hj⟩⟩;rw[hdst];exact vS hn
 have:(σ++[m.mi]).filterMap (H6 m)=[]:=by
  rw[List.filterMap_eq_nil_iff];intro i f;exact yg λx G e=>p x G (e▸f)
 grind
theorem XM.copy (hc:xy ops m=true) {d s:Nat} (hcp:(j,d)∈m.cp) (hop:o.op= .move (.tmp s)\/o.op= .assign (.tmp s)) (hdst:o.dst=some d) (hn:d< a.tmps.size) (hj:j∉σ) (hmi:m.mi∈σ) (hs:s=m.tm\/∃c∈m.cp,c.2=s/\c.1∈σ) (hmq:j≠m.mi) (hti:∀q∈m.tab,q.1≠j) (hcd:(m.cp.map (·.1)).Nodup)
    (hX:XM m M00 w00 σ M0 w0 a w):∃y,((execOp a.eval o).run P w= .ok (.value y) w)/\XM m M00 w00 (σ++[j]) M0 w0 (a.put o.dst y) w:=by
 obtain⟨r,n,C,p,G,A,J,B,D,z⟩:=hX.yes hmi
 have f:a.eval (.tmp s)= .map (some r):=by
  rcases hs with rfl|⟨c,t,rfl,E⟩
  exact p;exact z c t E
 refine⟨.map (some r),?_,hX.kept,hX.m00,hX.pin,λq g h=>?_,λc b h=>tE _ hmi,λhn=>absurd (tE _ hmi) hn,λ_=>?_⟩;rcases hop with hop|hop <;> simp[execOp,hop,f]
 obtain⟨H,F⟩:=hX.dep q g (jG h (hti q g));exact⟨tE _ H,tE _ F⟩;refine⟨r,n,C,?_,G,A,J,B,?_,λc b h=>?_⟩;rw[hdst,qn (Nz (chk_cp hc hcp))];exact p;rw[List.filterMap_append,show [j].filterMap (H6 m)=[] by simp[yg hti],Ng,D];refine Nn λq g=>?_;obtain⟨i,h,l⟩:=List.mem_filterMap.1 g;obtain⟨x,k,u,rfl⟩:=H5 l;rw[hdst,qn (Nz ((chk_tab hc k).2 (j,d) hcp))];by_cases hcj:c=(j,d);subst hcj;rw[hdst];exact vS hn;have t:c.1≠j:=λe=>hcj (sC hcd b hcp e);have v:c.2≠d:=λe=>hcj (sC (chk_nd hc).1 b hcp e);rw[hdst,qn v];grind
end
def RunX(P:Program)(ops:Array Oper)(sp:Nat->Bool)(nx:Nat):Nat->List Oper->AState->List (Upd×Ln)->AState->Prop
 |_,[],st,us,st'=>us=[]/\st'=st
 |j,o::rest,st,us,st'=> ∃u rd us',us=(u,rd)::us'/\(sp j=true->u=⟨.any,[]⟩/\rd=[])/\(sp j=false->AStep P ops (nx+j) (look st.fr) (ap st.hp) o u rd)/\(∀d,o.dst=some d->d< st.n)/\RunX P ops sp nx (j+1) rest (st.step o.dst u) us' st'
def AX(P:Program)(ops:Array Oper)(sp:Nat->Bool)(nx n j:Nat)(rest:List Oper)(fr:Fr)(hp:Hp)(K:Fps->Fr->Hp->Prop):Prop:=
 ∃us st',RunX P ops sp nx j rest ⟨fr,hp,nx,n⟩ us st'/\K (us.map fp) st'.fr st'.hp
section
variable {P:Program}{ops:Array Oper}{spf:Nat->Bool}{nx n j:Nat}{rest:List Oper}{fr:Fr}{hp:Hp}{K:Fps->Fr->Hp->Prop}
variable {d:Nat}{op:Op}{ty:Nat}{pos:String}{after:Array Edge}{a:AV}{p q:Nat×Option ABlk}{rd:Ln}
theorem AX.nil(h:K [] fr hp):AX P ops spf nx n j [] fr hp K:=⟨[],_,⟨rfl,rfl⟩,h⟩
theorem AX.cons {dst:Option Nat} {guard:Option (Nat×Bool)} {u:Upd} {rd:Ln}
    (hs1:spf j=true->u=⟨.any,[]⟩/\rd=[]) (hs2:spf j=false->AStep P ops (nx+j) (look fr) (ap hp) ⟨dst,op,ty,pos,after,guard⟩ u rd) (hd:(match dst with|some d=>Nat.blt d n|none=>true)=true)
    (h:AX P ops spf nx n (j+1) rest (JV fr dst u.val) (u.blk.reverse++hp) λfps f h=>K ((u.blk.map (·.1),rd)::fps) f h):AX P ops spf nx n j (⟨dst,op,ty,pos,after,guard⟩::rest) fr hp K:=by
 obtain⟨us,b,e,c⟩:=h;refine⟨(u,rd)::us,b,⟨u,rd,us,rfl,hs1,hs2,λd a=>?_,e⟩,c⟩;subst a;simp_all
theorem AX.op0 (hs:AEval P (nx+j) (evF (look fr)) (ap hp) op ⟨a,[]⟩ rd) (hnd:ct op=true) (hd:Nat.blt d n=true)
    (h:AX P ops spf nx n (j+1) rest ((d,a)::fr) hp λfps f h=>K (([],rd)::fps) f h) (hsp:spf j=false:=by rfl):AX P ops spf nx n j (⟨some d,op,ty,pos,after,none⟩::rest) fr hp K:=
 AX.cons (λe=>φ) (λ_=>⟨bH hnd,hs⟩) hd h
theorem AX.op1 (hs:AEval P (nx+j) (evF (look fr)) (ap hp) op ⟨a,[p]⟩ rd) (hnd:ct op=true) (hd:Nat.blt d n=true)
    (h:AX P ops spf nx n (j+1) rest ((d,a)::fr) (p::hp) λfps f h=>K (([p.1],rd)::fps) f h) (hsp:spf j=false:=by rfl):AX P ops spf nx n j (⟨some d,op,ty,pos,after,none⟩::rest) fr hp K:=
 AX.cons (λe=>φ) (λ_=>⟨bH hnd,hs⟩) hd h
theorem AX.sp(hd:Nat.blt d n=true)(hsp:spf j=true)(h:AX P ops spf nx n (j+1) rest ((d,.any)::fr) hp λfps f h=>K (([],[])::fps) f h):AX P ops spf nx n j (⟨some d,op,ty,pos,after,none⟩::rest) fr hp K:=
 AX.cons (u:=⟨.any,[]⟩) (rd:=[]) (λ_=>⟨rfl,rfl⟩) (λe=>by rw[hsp] at e;cases e) hd h
end
def CvS(fr:Fr)(hp:Hp):List (Nat×Int×Nat×Nat)->La->Prop
 |[],vs=>vs=[]
 |q::l,vs=> ∃x v vs',vs=v::vs'/\look fr q.2.2.1=some x/\Cv (Ren.id 0) (ap hp) (λ_=>none) x v/\CvS fr hp l vs'
theorem CvS.nil{fr:Fr}{hp:Hp}:CvS fr hp [] []:=rfl
theorem CvS.cons{fr:Fr}{hp:Hp}{q:Nat×Int×Nat×Nat}{l:List (Nat×Int×Nat×Nat)}{x v:AV}{vs:La}(h1:look fr q.2.2.1=some x)(h2:Cv (Ren.id 0) (ap hp) (λ_=>none) x v)(h3:CvS fr hp l vs):CvS fr hp (q::l) (v::vs):=⟨x,v,vs,rfl,h1,h2,h3⟩
section
variable {P:Program}{ops:Array Oper}{m:MapTab}{j:Nat}{o:Oper}
end
def idAt2(fr:Fr)(t:Nat):Nat:=cond (Nat.blt t 100000) (idAt fr t) (t- 100000)
def kO(fr:Fr)(l:List (Nat×Nat))(n:Nat):Ren:=⟨n,λi=>match look l i with|some t=>idAt2 fr t|none=>i⟩
theorem SEnt.to2 {fr fr':Fr} {hp hp':Hp} {nx nx' n:Nat} (l:List (Nat×Nat)) (hk:Nat.blt 0 nx'=true) (h0:(kO fr l nx').s 0=0) (hinj:nN (kO fr l nx') (hp'.map (·.1))=true) (hS:ShrL (kO fr l nx') (ap hp) hp')
    (hF:Shr (kO fr l nx') (ap hp) (ap hp')->CvF (kO fr l nx') (ap hp) (ap hp') fr fr')
    (hH:Shr (kO fr l nx') (ap hp) (ap hp')->CvH (kO fr l nx') (ap hp) (ap hp') hp'):SEnt ⟨fr,hp,nx,n⟩ ⟨fr',hp',nx',n⟩:=
 SEnt.intro (st:=⟨fr,hp,nx,n⟩) (st':=⟨fr',hp',nx',n⟩) (kO fr l nx') rfl (r9 hk) h0 hinj rfl (hF hS.shr) (hH hS.shr)
theorem SEntT.to2 {fr fr':Fr} {hp hp':Hp} {nx nx' n:Nat} (l:List (Nat×Nat)) (hk:Nat.blt 0 nx'=true) (h0:(kO fr l nx').s 0=0) (hinj:nN (kO fr l nx') (hp'.map (·.1))=true) (hS:ShrL (kO fr l nx') (ap hp) hp')
    (hF:Shr (kO fr l nx') (ap hp) (ap hp')->CvF (kO fr l nx') (ap hp) (ap hp') fr fr')
    (hH:Shr (kO fr l nx') (ap hp) (ap hp')->CvH (kO fr l nx') (ap hp) (ap hp') hp'):SEntT ⟨fr,hp,nx,n⟩ ⟨fr',hp',nx',n⟩:=
 SEntT.intro (st:=⟨fr,hp,nx,n⟩) (st':=⟨fr',hp',nx',n⟩) (kO fr l nx') rfl (r9 hk) h0 hinj rfl (hF hS.shr) (hH hS.shr)
section
variable {r:Ren}{hp hp':Hq}{i i' j j':Nat}{s:List UInt8}
theorem CvLL.bld(hi:Nat.blt i' r.n=true)(hs:r.s i'=i)(hl:(hp' i').isSome=true)(hj:Nat.blt j' r.n=true)(hs2:r.s j'=j)(hl2:(hp' j').isSome=true):CvLL r hp hp' [fe i j (some s)] [fe i' j' (some s)]:=
 aB (ai (Cv.ptr hi hs hl) (ai (Cv.sl hj hs2 hl2) av))
theorem CvLL.bld0(h:Shr r hp hp'):CvLL r hp hp' [fe i j none] [fe i' j' none]:=
 aB (ai (ao h (ah _)) (ai (ao h dy) av))
end
end Go.Abs
namespace Go.Abs
section
variable {p:Prop}
theorem aZ(h:p:=by first|exact ao hs (ah _)|exact Cv.ptr rfl rfl rfl|exact Cv.sl rfl rfl rfl|exact Cv.slN rfl rfl rfl|exact ao hs dy|(refine ao hs ?_;first|assumption|exact dr _|exact cz _|exact ah _|exact dy|exact aw _|exact fw _|exact oV _|exact dl _|exact aU _|exact closed_mA _|exact ca _ _|exact aX af af|exact b9 _|exact cO _|exact kx _|exact iD _|exact dH _ _|exact dY _ _|exact closed_bF|exact mq _|exact fJ _|(refine aX af ?_;first|assumption|exact ac (b9 _) af|exact ac (cO _) af|exact ac (dY _ _) af))|(refine Cv.boxp hs rfl (aR rfl) rfl ?_;first|exact bi _|exact bh _ _|exact gL _|exact gO _|(refine ac ?_ af;first|assumption|exact dr _|exact cz _|exact ah _|exact dy|exact aw _|exact fw _|exact oV _|exact dl _|exact aU _|exact closed_mA _|exact ca _ _|exact aX af af|exact b9 _|exact cO _|exact kx _|exact iD _|exact dH _ _|exact dY _ _|exact closed_bF|exact mq _|exact fJ _|(refine aX af ?_;first|assumption|exact ac (b9 _) af|exact ac (cO _) af|exact ac (dY _ _) af)))|(refine Cv.loE hs ?_ (ah _);first|rfl|(simp[i64,u64,u32,bln];done)|(simp[i64,u64,u32,bln]<;> omega))|(refine Cv.slE rfl rfl rfl ?_ ?_ ?_ <;> first|rfl|omega|(congr 1;omega)|(simp;done)|(simp <;> omega))|exact Cv.emp _):p:=h
theorem bG(h:p:=by(first|(first|exact CvLL.bld rfl rfl rfl rfl rfl rfl|exact CvLL.bld0 hs|exact bv hs (yH _)|exact bv hs (cf _)|(refine aM hs ?_ (cf _);first|(simp[iT,mj,iU];done)|(simp[dE,u32,ofV];done))|exact bv hs (aK _)|exact bv hs (dU _)|(refine aM hs ?_ (dU _);first|(simp[px,oG,j7];done)|(simp[iE,i64,ofV];done))|(refine aM hs ?_ (aK _);first|(simp[jg,ki];done)|(simp[pE,ofV];done))|(refine aB ?_;repeat' (first|exact av|exact CvL.clo hs (bi _)|refine ai ?_ ?_))))<;> exact aZ):p:=h
theorem FG(h:p:=by repeat' (first|exact ShrL.nil|refine ShrL.cons rfl rfl rfl rfl (by first|rfl|(simp;done)|(simp <;> omega)) ?_)):p:=h
theorem dJ(h:p:=by repeat' (first|exact aV|refine aA rfl ?_ ?_|exact aZ)):p:=h
theorem lG(h:p:=by repeat' (first|exact aF|refine rY rfl rfl rfl rfl ?_ ?_|exact bG)):p:=h
section
variable {P:Program}{ops:Array Oper}{nx n j:Nat}{rest:List Oper}{fr:Fr}{hp:Hp}{K:Fps->Fr->Hp->Prop}
variable {d:Nat}{op:Op}{ty:Nat}{pos:String}{after:Array Edge}{a:AV}{p q s:Nat×Option ABlk}{rd:Ln}
theorem o_0(hs:AEval P (nx+j) (evF (look fr)) (ap hp) op ⟨a,[]⟩ rd)(h:AR P ops nx n (j+1) rest ((d,a)::fr) hp λfps f h=>K (([],rd)::fps) f h)(hnd:ct op=true:=by exact rfl)(hd:Nat.blt d n=true:=by exact rfl):AR P ops nx n j (⟨some d,op,ty,pos,after,none⟩::rest) fr hp K:=bZ hs hnd hd h
theorem o_1(hs:AEval P (nx+j) (evF (look fr)) (ap hp) op ⟨a,[p]⟩ rd)(h:AR P ops nx n (j+1) rest ((d,a)::fr) (p::hp) λfps f h=>K (([p.1],rd)::fps) f h)(hnd:ct op=true:=by exact rfl)(hd:Nat.blt d n=true:=by exact rfl):AR P ops nx n j (⟨some d,op,ty,pos,after,none⟩::rest) fr hp K:=AR.op1 hs hnd hd h
theorem o_2(hs:AEval P (nx+j) (evF (look fr)) (ap hp) op ⟨a,[p,q]⟩ rd)(h:AR P ops nx n (j+1) rest ((d,a)::fr) (q::p::hp) λfps f h=>K (([p.1,q.1],rd)::fps) f h)(hnd:ct op=true:=by exact rfl)(hd:Nat.blt d n=true:=by exact rfl):AR P ops nx n j (⟨some d,op,ty,pos,after,none⟩::rest) fr hp K:=AR.op2 hs hnd hd h
theorem o_3(hs:AEval P (nx+j) (evF (look fr)) (ap hp) op ⟨a,[p,q,s]⟩ rd)(h:AR P ops nx n (j+1) rest ((d,a)::fr) (s::q::p::hp) λfps f h=>K (([p.1,q.1,s.1],rd)::fps) f h)(hnd:ct op=true:=by exact rfl)(hd:Nat.blt d n=true:=by exact rfl):AR P ops nx n j (⟨some d,op,ty,pos,after,none⟩::rest) fr hp K:=AR.op3 hs hnd hd h
theorem eK(hs:AEval P (nx+j) (evF (look fr)) (ap hp) op ⟨a,[p]⟩ rd)(h:AR P ops nx n (j+1) rest fr (p::hp) λfps f h=>K (([p.1],rd)::fps) f h)(hnd:ct op=true:=by exact rfl):AR P ops nx n j (⟨none,op,ty,pos,after,none⟩::rest) fr hp K:=AR.op1n hs hnd h
theorem s_r{ρ:Option Nat}{Q:Exit->AState->Prop}{id:Nat}{y:Code}(m:Nat)(h:AR P ops nx n 0 ops.toList fr hp λ_ f h=>jF (AWp ρ P y Q) Q .normal ⟨f,h,nx+m,n⟩)(hsz:ops.size=m:=by exact rfl):AWp ρ P (.seq (.region id ops false) y) Q ⟨fr,hp,nx,n⟩:=ae (HE hsz h)
end
theorem s_e {fr fr':Fr} {hp hp':Hp} {nx nx' n:Nat} (l:List (Nat×Nat)) (hS:ShrL (rnm fr l nx') (ap hp) hp':=by exact FG)
    (hF:Shr (rnm fr l nx') (ap hp) (ap hp')->CvF (rnm fr l nx') (ap hp) (ap hp') fr fr':=by exact λhs=>dJ)
    (hH:Shr (rnm fr l nx') (ap hp) (ap hp')->CvH (rnm fr l nx') (ap hp) (ap hp') hp':=by exact λhs=>lG)
    (hk:Nat.blt 0 nx'=true:=by exact rfl) (h0:(rnm fr l nx').s 0=0:=by exact rfl) (hinj:nN (rnm fr l nx') (hp'.map (·.1))=true:=by exact rfl):SEnt ⟨fr,hp,nx,n⟩ ⟨fr',hp',nx',n⟩:=
 Bb l hk h0 hinj hS hF hH
end
section
variable {T yt:Nat}{x y:Operand}{p q:Prop}
class TZ (P:Program) (t:Nat) (v:outParam (List Value)):Prop where h:gR P t=some v
class TS (P:Program) (t:Nat) (v:outParam Nat):Prop where h:jU P t=some v
class TG (P:Program) (t:Nat) (v:outParam Bool):Prop where h:fT P t=some v
class TB (P:Program) (t:Nat) (v:outParam Nat):Prop where h:uv P t=some v
class TE (P:Program) (t:Nat) (v:outParam (Nat×Nat)):Prop where h:eQ P t=some v
class TU (P:Program) (t:Nat) (v:outParam TypeDesc):Prop where h:P.underlying t=some v
class TP (P:Program) (t:Nat) (v:outParam (List (Nat×Nat))):Prop where h:vW P t=some v
class TF (P:Program) (t i:Nat) (v:outParam (Nat×Nat)):Prop where h:ng P t i=some v
class TA (P:Program) (t i:Nat) (v:outParam Bool):Prop where h:nX P t i=some v
structure Hid (q:Prop):Prop where h:q
section
variable {P:Program}{ops:Array Oper}{nx n j:Nat}{rest:List Oper}{fr:Fr}{hp:Hp}{K:Fps->Fr->Hp->Prop}{dst:Option Nat}{ty:Nat}{pos:String}{after:Array Edge}
theorem k_load(h:AR P ops nx n j (⟨dst,.load T x,ty,pos,after,none⟩::rest) fr hp K):AR P ops nx n j (⟨dst,.load T x,ty,pos,after,none⟩::rest) fr hp K:=h
theorem B8{f:Nat}(h:AR P ops nx n j (⟨dst,.fieldAddr T x f,ty,pos,after,none⟩::rest) fr hp K):AR P ops nx n j (⟨dst,.fieldAddr T x f,ty,pos,after,none⟩::rest) fr hp K:=h
theorem KF{b:BinOp}(h:AR P ops nx n j (⟨dst,.binOp b T x y yt,ty,pos,after,none⟩::rest) fr hp K):AR P ops nx n j (⟨dst,.binOp b T x y yt,ty,pos,after,none⟩::rest) fr hp K:=h
theorem k_call{c:Call}(h:AR P ops nx n j (⟨dst,.call c,ty,pos,after,none⟩::rest) fr hp K):AR P ops nx n j (⟨dst,.call c,ty,pos,after,none⟩::rest) fr hp K:=h
theorem k_move(h:AR P ops nx n j (⟨dst,.move x,ty,pos,after,none⟩::rest) fr hp K):AR P ops nx n j (⟨dst,.move x,ty,pos,after,none⟩::rest) fr hp K:=h
theorem k_index(h:AR P ops nx n j (⟨dst,.indexAddr T x y,ty,pos,after,none⟩::rest) fr hp K):AR P ops nx n j (⟨dst,.indexAddr T x y,ty,pos,after,none⟩::rest) fr hp K:=h
theorem KH(h:AR P ops nx n j (⟨dst,.assign x,ty,pos,after,none⟩::rest) fr hp K):AR P ops nx n j (⟨dst,.assign x,ty,pos,after,none⟩::rest) fr hp K:=h
theorem k_store(h:AR P ops nx n j (⟨dst,.store T x y,ty,pos,after,none⟩::rest) fr hp K):AR P ops nx n j (⟨dst,.store T x y,ty,pos,after,none⟩::rest) fr hp K:=h
theorem H2{i:Nat}(h:AR P ops nx n j (⟨dst,.extract x i,ty,pos,after,none⟩::rest) fr hp K):AR P ops nx n j (⟨dst,.extract x i,ty,pos,after,none⟩::rest) fr hp K:=h
theorem k_box(h:AR P ops nx n j (⟨dst,.box T x,ty,pos,after,none⟩::rest) fr hp K):AR P ops nx n j (⟨dst,.box T x,ty,pos,after,none⟩::rest) fr hp K:=h
theorem k_alloc(h:AR P ops nx n j (⟨dst,.alloc T,ty,pos,after,none⟩::rest) fr hp K):AR P ops nx n j (⟨dst,.alloc T,ty,pos,after,none⟩::rest) fr hp K:=h
theorem k_conv{S D:Nat}(h:AR P ops nx n j (⟨dst,.convert S D x,ty,pos,after,none⟩::rest) fr hp K):AR P ops nx n j (⟨dst,.convert S D x,ty,pos,after,none⟩::rest) fr hp K:=h
theorem k_field{f:Nat}(h:AR P ops nx n j (⟨dst,.field T x f,ty,pos,after,none⟩::rest) fr hp K):AR P ops nx n j (⟨dst,.field T x f,ty,pos,after,none⟩::rest) fr hp K:=h
theorem k_nilc(h:AR P ops nx n j (⟨dst,.nilCheck x,ty,pos,after,none⟩::rest) fr hp K):AR P ops nx n j (⟨dst,.nilCheck x,ty,pos,after,none⟩::rest) fr hp K:=h
theorem k_pick{z:Operand}(h:AR P ops nx n j (⟨dst,.pick x y z,ty,pos,after,none⟩::rest) fr hp K):AR P ops nx n j (⟨dst,.pick x y z,ty,pos,after,none⟩::rest) fr hp K:=h
theorem k_un{b:UnOp}(h:AR P ops nx n j (⟨dst,.unOp b T x,ty,pos,after,none⟩::rest) fr hp K):AR P ops nx n j (⟨dst,.unOp b T x,ty,pos,after,none⟩::rest) fr hp K:=h
theorem k_build{ps:Array (Nat×Operand)}(h:AR P ops nx n j (⟨dst,.build T ps,ty,pos,after,none⟩::rest) fr hp K):AR P ops nx n j (⟨dst,.build T ps,ty,pos,after,none⟩::rest) fr hp K:=h
theorem k_eql(h:AR P ops nx n j (⟨dst,.binOp .eql T x y yt,ty,pos,after,none⟩::rest) fr hp K):AR P ops nx n j (⟨dst,.binOp .eql T x y yt,ty,pos,after,none⟩::rest) fr hp K:=h
theorem k_neq(h:AR P ops nx n j (⟨dst,.binOp .neq T x y yt,ty,pos,after,none⟩::rest) fr hp K):AR P ops nx n j (⟨dst,.binOp .neq T x y yt,ty,pos,after,none⟩::rest) fr hp K:=h
theorem k_lss(h:AR P ops nx n j (⟨dst,.binOp .lss T x y yt,ty,pos,after,none⟩::rest) fr hp K):AR P ops nx n j (⟨dst,.binOp .lss T x y yt,ty,pos,after,none⟩::rest) fr hp K:=h
theorem k_leq(h:AR P ops nx n j (⟨dst,.binOp .leq T x y yt,ty,pos,after,none⟩::rest) fr hp K):AR P ops nx n j (⟨dst,.binOp .leq T x y yt,ty,pos,after,none⟩::rest) fr hp K:=h
theorem k_gtr(h:AR P ops nx n j (⟨dst,.binOp .gtr T x y yt,ty,pos,after,none⟩::rest) fr hp K):AR P ops nx n j (⟨dst,.binOp .gtr T x y yt,ty,pos,after,none⟩::rest) fr hp K:=h
theorem k_geq(h:AR P ops nx n j (⟨dst,.binOp .geq T x y yt,ty,pos,after,none⟩::rest) fr hp K):AR P ops nx n j (⟨dst,.binOp .geq T x y yt,ty,pos,after,none⟩::rest) fr hp K:=h
theorem k_add(h:AR P ops nx n j (⟨dst,.binOp .add T x y yt,ty,pos,after,none⟩::rest) fr hp K):AR P ops nx n j (⟨dst,.binOp .add T x y yt,ty,pos,after,none⟩::rest) fr hp K:=h
theorem k_sub(h:AR P ops nx n j (⟨dst,.binOp .sub T x y yt,ty,pos,after,none⟩::rest) fr hp K):AR P ops nx n j (⟨dst,.binOp .sub T x y yt,ty,pos,after,none⟩::rest) fr hp K:=h
theorem k_mul(h:AR P ops nx n j (⟨dst,.binOp .mul T x y yt,ty,pos,after,none⟩::rest) fr hp K):AR P ops nx n j (⟨dst,.binOp .mul T x y yt,ty,pos,after,none⟩::rest) fr hp K:=h
theorem k_quo(h:AR P ops nx n j (⟨dst,.binOp .quo T x y yt,ty,pos,after,none⟩::rest) fr hp K):AR P ops nx n j (⟨dst,.binOp .quo T x y yt,ty,pos,after,none⟩::rest) fr hp K:=h
theorem k_rem(h:AR P ops nx n j (⟨dst,.binOp .rem T x y yt,ty,pos,after,none⟩::rest) fr hp K):AR P ops nx n j (⟨dst,.binOp .rem T x y yt,ty,pos,after,none⟩::rest) fr hp K:=h
theorem k_len{aa:Array Operand}{tt:Array Nat}(h:AR P ops nx n j (⟨dst,.call ⟨.builtin .len,aa,tt⟩,ty,pos,after,none⟩::rest) fr hp K):AR P ops nx n j (⟨dst,.call ⟨.builtin .len,aa,tt⟩,ty,pos,after,none⟩::rest) fr hp K:=h
theorem KI{aa:Array Operand}{tt:Array Nat}(h:AR P ops nx n j (⟨dst,.call ⟨.builtin .append,aa,tt⟩,ty,pos,after,none⟩::rest) fr hp K):AR P ops nx n j (⟨dst,.call ⟨.builtin .append,aa,tt⟩,ty,pos,after,none⟩::rest) fr hp K:=h
end
section
variable {P:Program}{ops:Array Oper}{nx n j:Nat}{rest:List Oper}{fr:Fr}{hp:Hp}{K:Fps->Fr->Hp->Prop}{dst:Option Nat}{op:Op}{ty:Nat}{pos:String}{after:Array Edge}{g t d:Nat}{want b:Bool}
theorem g_y(ht:(ops[g]?).bind (·.dst)=some t)(hx:evF (look fr) (.tmp t)=some (.v (.bool want)))(h:AR P ops nx n j (⟨dst,op,ty,pos,after,none⟩::rest) fr hp K):AR P ops nx n j (⟨dst,op,ty,pos,after,some (g,want)⟩::rest) fr hp K:=by
 obtain⟨us,a,⟨u,rd,b,e,⟨i,f⟩,c,k⟩,d⟩:=h;exact⟨us,a,⟨u,rd,b,e,⟨i,t,.bool want,ht,hx,.inl ⟨rfl,f⟩⟩,c,k⟩,d⟩
theorem g_n(ht:(ops[g]?).bind (·.dst)=some t)(hx:evF (look fr) (.tmp t)=some (.v (.bool b)))(hb:(b==want)=false)(hnd:ct op=true)(hd:Nat.blt d n=true)(h:AR P ops nx n (j+1) rest ((d,.v undef)::fr) hp λfps f h=>K (([],[])::fps) f h):AR P ops nx n j (⟨some d,op,ty,pos,after,some (g,want)⟩::rest) fr hp K:=
 FO ht hx (gn (by cases b <;> cases want <;> first|rfl|grind)) hnd hd h
theorem g_nn(ht:(ops[g]?).bind (·.dst)=some t)(hx:evF (look fr) (.tmp t)=some (.v (.bool b)))(hb:(b==want)=false)(hnd:ct op=true)(h:AR P ops nx n (j+1) rest fr hp λfps f h=>K (([],[])::fps) f h):AR P ops nx n j (⟨none,op,ty,pos,after,some (g,want)⟩::rest) fr hp K:=
 AR.opNn ht hx (gn (by cases b <;> cases want <;> first|rfl|grind)) hnd h
theorem vT{P:Program}{p:Bool}{f:Sem Value}(h:∀w,f.run P w= .ok (.bool p) w)(e:p=true):∀w,f.run P w= .ok (.bool true) w:=e▸h
theorem vF{P:Program}{p:Bool}{f:Sem Value}(h:∀w,f.run P w= .ok (.bool p) w)(e:p=false):∀w,f.run P w= .ok (.bool false) w:=e▸h
end
theorem μ{p:Prop}(h:p:=by first|(simp[maxLen];done)|(simp[maxLen];omega)):p:=h
theorem κ{p:Prop}(h:p:=by first|omega|(simp;done)|(simp;omega)):p:=h
theorem θ{p:Prop}(h:p:=by first|rfl|exact fV _|exact fU _|exact eR _|exact fW _|exact fR _|simp):p:=h
theorem ι{p:Prop}(h:p:=by unfold maxLen;first|omega|(simp;done)|(simp;omega)):p:=h
theorem υ{p:Prop}(h:p:=by first|(simp;done)|(simp[cL,ofV];done)|rfl):p:=h
theorem a_1 (h:q) (f:Hid q->p:=by
 intro h0
 first
 |(apply k_load;first|exact o_0 (.load_l1 rfl rfl rfl TG.h rfl) h0.h|exact o_0 (.load_l rfl rfl rfl TG.h TS.h (nle rfl)) h0.h|exact o_0 (.load_a1 rfl rfl TG.h rfl) h0.h|exact o_0 (.load_a rfl rfl TG.h TS.h (nle rfl)) h0.h|exact o_0 (.load_l rfl rfl (by assumption) TG.h TS.h (by exact nle rfl)) h0.h|exact o_0 (.load_l1 rfl rfl (by assumption) TG.h (by exact rfl)) h0.h|exact o_0 (.load_a rfl (by assumption) TG.h TS.h (by exact nle rfl)) h0.h|exact o_0 (.load_a1 rfl (by assumption) TG.h (by exact rfl)) h0.h)
 |(apply k_move;exact o_0 (.move rfl) h0.h)
 |(apply B8;first|exact o_0 (.fieldAddr_l rfl TF.h δ) h0.h|exact o_0 (.fieldAddr_a rfl TF.h δ) h0.h)
 |(apply KF;first|(apply k_eql;first|exact o_0 (.bin rfl rfl cK) h0.h|exact o_0 (.bin rfl rfl (Mo TU.h)) h0.h|exact o_0 (.bin rfl rfl Dj) h0.h|exact o_0 (.nilq_v rfl rfl TE.h) h0.h|exact o_0 (.nilq_arr rfl (by assumption) rfl TE.h) h0.h)|(apply k_neq;first|exact o_0 (.bin rfl rfl cx) h0.h|exact o_0 (.bin rfl rfl (Mn TU.h)) h0.h|exact o_0 (.bin rfl rfl Dh) h0.h)|(apply k_lss;exact o_0 (.bin rfl rfl fz) h0.h)|(apply k_leq;exact o_0 (.bin rfl rfl iX) h0.h)|(apply k_gtr;exact o_0 (.bin rfl rfl my) h0.h)|(apply k_geq;exact o_0 (.bin rfl rfl ig) h0.h)|(apply k_add;first|exact o_0 (.bin rfl rfl (Dr ω)) h0.h|exact o_0 (.bin rfl rfl (Mz ω)) h0.h|exact o_0 (.bin rfl rfl (MD ω)) h0.h|exact o_0 (.bin rfl rfl (bU8_add ω)) h0.h)|(apply k_sub;first|exact o_0 (.bin rfl rfl (rV ω)) h0.h|exact o_0 (.bin rfl rfl (Mu ω)) h0.h|exact o_0 (.bin rfl rfl (MA ω)) h0.h|exact o_0 (.bin rfl rfl (bU8_sub ω)) h0.h)|(apply k_mul;first|exact o_0 (.bin rfl rfl (rW ω)) h0.h|exact o_0 (.bin rfl rfl (My ω)) h0.h)|(apply k_quo;first|exact o_0 (.bin rfl rfl (MF ω)) h0.h|exact o_0 (.bin rfl rfl (Dp ω)) h0.h|exact o_0 (.bin rfl rfl (Dq ω)) h0.h)|(apply k_rem;first|exact o_0 (.bin rfl rfl (ME ω)) h0.h|exact o_0 (.bin rfl rfl (Mw ω)) h0.h|exact o_0 (.bin rfl rfl (MC ω)) h0.h|exact o_0 (.bin rfl rfl (bU8_rem ω)) h0.h))
 |(apply k_call;first|(apply k_len;first|exact o_0 (.lenD rfl rfl rfl rfl TE.h) h0.h|exact o_0 (.lenI rfl rfl rfl rfl TE.h) h0.h|exact o_0 (.lenP rfl rfl rfl rfl TE.h) h0.h|exact o_0 (.lenC rfl rfl rfl rfl TE.h) h0.h|exact o_0 (.lenR rfl rfl rfl rfl TE.h) h0.h|exact o_0 (.len rfl rfl rfl rfl rfl TE.h) h0.h)|(apply KI;first|exact o_1 (.append_e rfl rfl rfl TE.h rfl rfl rfl (.lsl rfl (nle rfl)) (by first|assumption|(simp;done)) TZ.h rfl TB.h (by first|rfl|assumption|(simp;done)|(simp;omega)|omega) μ) h0.h|exact o_2 (.append_l rfl rfl rfl TE.h rfl rfl rfl rfl rfl (by first|rfl|assumption|(simp;done)|(simp;omega)|omega) (by first|exact fV _|exact fU _|exact eR _|exact fW _|exact fR _|rfl|simp) θ rfl (.lsl rfl (nle rfl)) TZ.h rfl TB.h (by first|rfl|assumption|(simp;done)|(simp;omega)|omega) μ) h0.h)|exact o_0 (.builtinV (vs:=[_,_]) rfl rfl bmin) h0.h|exact o_0 (.builtinV (vs:=[_,_]) rfl rfl bmax) h0.h)
 |(apply k_index;first|exact o_0 (.index_l rfl rfl ω ω TE.h) h0.h|exact o_0 (.index_a rfl rfl ω rfl rfl TE.h) h0.h|exact o_0 (.index_a rfl rfl ω (by assumption) (by rfl) TE.h) h0.h)
 |(apply KH;exact o_0 (.assign rfl) h0.h)
 |(apply k_store;exact eK (.store rfl rfl rfl rfl rfl rfl TS.h (nle rfl)) h0.h)
 |(apply H2;exact o_0 (.extract rfl rfl) h0.h)
 |(apply k_box;exact o_1 (.box rfl rfl) h0.h)
 |(apply k_alloc;exact o_1 (.alloc TZ.h) h0.h)
 |(apply k_conv;first|exact o_0 (.conv rfl (cI64 ω TU.h TU.h)) h0.h|exact o_0 (.conv rfl (cU64 ω TU.h TU.h)) h0.h|exact o_0 (.conv rfl (cU32 ω TU.h TU.h)) h0.h|exact o_0 (.conv rfl (cU8 ω TU.h TU.h)) h0.h)
 |(apply k_field;first|exact o_0 (.field1 rfl TF.h TA.h rfl) h0.h|exact o_0 (.field rfl TF.h TA.h (nle rfl)) h0.h)
 |(apply k_nilc;exact o_0 (.nilCheck rfl rfl) h0.h)
 |(apply k_pick;first|exact o_0 (.pick rfl (λ_=>rfl) (λ_=>rfl)) h0.h|exact o_0 (.pick rfl (λ_=>rfl) (λh=>absurd h δ)) h0.h|exact o_0 (.pick rfl (λh=>absurd h δ) (λ_=>rfl)) h0.h)
 |(apply k_un;first|exact o_0 (.un rfl nq) h0.h|exact o_0 (.un rfl (Je ω)) h0.h)
 |(apply k_build;exact o_0 (.build TZ.h TP.h rfl rfl) h0.h)
 |exact o_0 (.makeFunc rfl rfl) h0.h
 |exact o_1 (.buildSlice TE.h TZ.h rfl δ rfl rfl rfl υ) h0.h
 |exact o_1 (.makeSlice rfl rfl TE.h TZ.h rfl TB.h κ κ ι) h0.h
 |exact o_0 (.lookup rfl rfl TU.h TU.h rfl rfl rfl) h0.h
 |exact g_y rfl rfl h0.h
 |exact g_n rfl rfl rfl rfl rfl h0.h
 |exact g_nn rfl rfl rfl rfl h0.h):p:=f ⟨h⟩
theorem a_2(h:q)(f:Hid q->p:=by intro h0;(iterate 2 (refine a_1 ?_));exact h0.h):p:=f ⟨h⟩
theorem a_3(h:q)(f:Hid q->p:=by intro h0;(iterate 3 (refine a_1 ?_));exact h0.h):p:=f ⟨h⟩
theorem a_4(h:q)(f:Hid q->p:=by intro h0;(iterate 4 (refine a_1 ?_));exact h0.h):p:=f ⟨h⟩
theorem a_5(h:q)(f:Hid q->p:=by intro h0;(iterate 5 (refine a_1 ?_));exact h0.h):p:=f ⟨h⟩
theorem a_6(h:q)(f:Hid q->p:=by intro h0;(iterate 6 (refine a_1 ?_));exact h0.h):p:=f ⟨h⟩
theorem a_7(h:q)(f:Hid q->p:=by intro h0;(iterate 7 (refine a_1 ?_));exact h0.h):p:=f ⟨h⟩
theorem a_8(h:q)(f:Hid q->p:=by intro h0;(iterate 8 (refine a_1 ?_));exact h0.h):p:=f ⟨h⟩
theorem a_z(h:q)(f:Hid q->p:=by intro h0;(repeat (refine a_1 ?_));exact aq h0.h):p:=f ⟨h⟩
theorem c_s{A:Prop}(c:A)(h:q)(f:A->Hid q->p:=by intro c0 h0;(repeat (refine a_1 ?_));first|exact bZ (.call rfl rfl rfl c0) rfl rfl h0.h|exact AR.op0n (.call rfl rfl rfl c0) rfl h0.h):p:=f c ⟨h⟩
section
variable {P:Program}{ops:Array Oper}{nx n:Nat}{fr:Fr}{hp:Hp}
theorem r_z{ρ:Option Nat}{Q:Exit->AState->Prop}{id:Nat}{y:Code}(m:Nat)(h:q)(f:Hid q->AR P ops nx n 0 ops.toList fr hp λ_ f h=>jF (AWp ρ P y Q) Q .normal ⟨f,h,nx+m,n⟩:=by intro h0;(repeat (refine a_1 ?_));exact aq h0.h)(hsz:ops.size=m:=by exact rfl):AWp ρ P (.seq (.region id ops false) y) Q ⟨fr,hp,nx,n⟩:=s_r m (f ⟨h⟩) hsz
theorem r_c{A:Prop}(m:Nat)(c:A){ρ:Option Nat}{Q:Exit->AState->Prop}{id:Nat}{y:Code}(h:q)(f:A->Hid q->AR P ops nx n 0 ops.toList fr hp λ_ f h=>jF (AWp ρ P y Q) Q .normal ⟨f,h,nx+m,n⟩:=by intro c0 h0;(repeat (refine a_1 ?_));first|exact bZ (.call rfl rfl rfl c0) rfl rfl h0.h|exact AR.op0n (.call rfl rfl rfl c0) rfl h0.h)(hsz:ops.size=m:=by exact rfl):AWp ρ P (.seq (.region id ops false) y) Q ⟨fr,hp,nx,n⟩:=s_r m (f c ⟨h⟩) hsz
end
end
section
variable {p q:Prop}
section
variable {P:Program}{ops:Array Oper}{nx n j:Nat}{rest:List Oper}{fr:Fr}{hp:Hp}{K:Fps->Fr->Hp->Prop}{dst:Option Nat}{op:Op}{ty:Nat}{pos:String}{after:Array Edge}{g t d:Nat}{want b:Bool}
theorem g_u(ht:(ops[g]?).bind (·.dst)=some t)(hx:evF (look fr) (.tmp t)=some (.v undef))(hnd:ct op=true)(hd:Nat.blt d n=true)(h:AR P ops nx n (j+1) rest ((d,.v undef)::fr) hp λfps f h=>K (([],[])::fps) f h):AR P ops nx n j (⟨some d,op,ty,pos,after,some (g,want)⟩::rest) fr hp K:=
 FO ht hx nofun hnd hd h
end
theorem w_1 (h:q) (f:Hid q->p:=by
 intro h0
 first
 |(apply k_lss;first|exact o_0 (.bin rfl rfl (vT fz (decide_eq_true ω))) h0.h|exact o_0 (.bin rfl rfl (vF fz (decide_eq_false ω))) h0.h)
 |(apply k_gtr;first|exact o_0 (.bin rfl rfl (vT my (decide_eq_true ω))) h0.h|exact o_0 (.bin rfl rfl (vF my (decide_eq_false ω))) h0.h)
 |(apply k_leq;first|exact o_0 (.bin rfl rfl (vT iX (decide_eq_true ω))) h0.h|exact o_0 (.bin rfl rfl (vF iX (decide_eq_false ω))) h0.h)
 |(apply k_geq;first|exact o_0 (.bin rfl rfl (vT ig (decide_eq_true ω))) h0.h|exact o_0 (.bin rfl rfl (vF ig (decide_eq_false ω))) h0.h)
 |(apply k_eql;first|exact o_0 (.bin rfl rfl (vT cK (decide_eq_true ω))) h0.h|exact o_0 (.bin rfl rfl (vF cK (decide_eq_false ω))) h0.h)):p:=f ⟨h⟩
theorem m_1 (h:q) (f:Hid q->p:=by
 intro h0
 first
 |(apply KF;exact w_1 h0.h)
 |exact g_n rfl rfl rfl rfl rfl h0.h
 |exact g_nn rfl rfl rfl rfl h0.h
 |exact g_u rfl rfl rfl rfl h0.h
 |(refine g_y rfl rfl ?_;first|(apply KF;exact w_1 h0.h)|exact a_1 h0.h)
 |exact a_1 h0.h):p:=f ⟨h⟩
theorem d_2(h:q)(f:Hid q->p:=by intro h0;(iterate 2 (refine m_1 ?_));exact h0.h):p:=f ⟨h⟩
theorem d_3(h:q)(f:Hid q->p:=by intro h0;(iterate 3 (refine m_1 ?_));exact h0.h):p:=f ⟨h⟩
theorem d_4(h:q)(f:Hid q->p:=by intro h0;(iterate 4 (refine m_1 ?_));exact h0.h):p:=f ⟨h⟩
theorem d_5(h:q)(f:Hid q->p:=by intro h0;(iterate 5 (refine m_1 ?_));exact h0.h):p:=f ⟨h⟩
theorem d_6(h:q)(f:Hid q->p:=by intro h0;(iterate 6 (refine m_1 ?_));exact h0.h):p:=f ⟨h⟩
theorem d_7(h:q)(f:Hid q->p:=by intro h0;(iterate 7 (refine m_1 ?_));exact h0.h):p:=f ⟨h⟩
theorem d_8(h:q)(f:Hid q->p:=by intro h0;(iterate 8 (refine m_1 ?_));exact h0.h):p:=f ⟨h⟩
theorem d_z(h:q)(f:Hid q->p:=by intro h0;(repeat (refine m_1 ?_));exact aq h0.h):p:=f ⟨h⟩
theorem e_s{A:Prop}(c:A)(h:q)(f:A->Hid q->p:=by intro c0 h0;(repeat (refine m_1 ?_));first|exact bZ (.call rfl rfl rfl c0) rfl rfl h0.h|exact g_y rfl rfl (bZ (.call rfl rfl rfl c0) rfl rfl h0.h)|exact AR.op0n (.call rfl rfl rfl c0) rfl h0.h):p:=f c ⟨h⟩
section
variable {P:Program}{ops:Array Oper}{nx n:Nat}{fr:Fr}{hp:Hp}
theorem q_z{ρ:Option Nat}{Q:Exit->AState->Prop}{id:Nat}{y:Code}(m:Nat)(h:q)(f:Hid q->AR P ops nx n 0 ops.toList fr hp λ_ f h=>jF (AWp ρ P y Q) Q .normal ⟨f,h,nx+m,n⟩:=by intro h0;(repeat (refine m_1 ?_));exact aq h0.h)(hsz:ops.size=m:=by exact rfl):AWp ρ P (.seq (.region id ops false) y) Q ⟨fr,hp,nx,n⟩:=s_r m (f ⟨h⟩) hsz
theorem q_c{A:Prop}(m:Nat)(c:A){ρ:Option Nat}{Q:Exit->AState->Prop}{id:Nat}{y:Code}(h:q)(f:A->Hid q->AR P ops nx n 0 ops.toList fr hp λ_ f h=>jF (AWp ρ P y Q) Q .normal ⟨f,h,nx+m,n⟩:=by intro c0 h0;(repeat (refine m_1 ?_));first|exact bZ (.call rfl rfl rfl c0) rfl rfl h0.h|exact g_y rfl rfl (bZ (.call rfl rfl rfl c0) rfl rfl h0.h)|exact AR.op0n (.call rfl rfl rfl c0) rfl h0.h)(hsz:ops.size=m:=by exact rfl):AWp ρ P (.seq (.region id ops false) y) Q ⟨fr,hp,nx,n⟩:=s_r m (f c ⟨h⟩) hsz
end
end
end Go.Abs
