/- Part W35 of the proof. -/
import Derived.Test.YtjmkjicckobojaaGreatDoorW34
set_option linter.all false
namespace Go.Proofs.YtjmkjicckobojaaGreatDoor
open Go.Abs
set_option maxRecDepth 20000
set_option maxHeartbeats 4000000
structure TmK (k:Ke):Prop where
 l:k.length<=3
 n:∀p∈k,p.1.length<=4/\p.2.length<=4
 b:∀p∈k,bdL p.1 20/\bdL p.2 20
theorem uF{p:Lq}{x:Rat}{n:Nat}(hl:p.length<=n)(hb:bdL p 20)(hx:qs x<=20):qs (an p x)<=n* 41+1:=by
 have a:=iW hx hb;have b:p.length* (20+20+1)<=n* 41:=Nat.mul_le_mul_right _ hl;omega
theorem ok_ev{p:Lq}{x:Rat}(hl:p.length<=40)(hb:bdL p 20)(hx:qs x<=20):fM p x:=by
 have a:mxL p<=20:=mxL_le hb ω;have b:p.length* (mxL p+qs x+1)<=40* 41:=Nat.mul_le_mul hl ω;exact⟨ω,ω⟩
theorem G8{k:Ke}(h:TmK k){x y:Rat}(hx:qs x<=20)(hy:qs y<=20):∀i,i<=k.length->qs (atS k x y i)<=332* i+1
 |0,_=>by rw[LG];exact(by decide:qs 0<=332* 0+1)
 |i+1,hi=>by
  obtain⟨p,hp⟩:∃p,k[i]?=some p:=⟨_,List.getElem?_eq_getElem ω⟩;have a:=List.mem_of_getElem? hp;have e:=G8 h hx hy i ω;have c:=uF (h.n p a).1 (h.b p a).1 hx;have g:=uF (h.n p a).2 (h.b p a).2 hy;have d:=cx (an p.1 x) (an p.2 y);have f:=e9 (atS k x y i) (an p.1 x* an p.2 y);rw[LF hp];omega
theorem atK_bd{k:Ke}(h:TmK k){x y:Rat}(hx:qs x<=20)(hy:qs y<=20):qs (atK k x y)<=997:=by
 have a:=G8 h hx hy k.length (Nat.le_refl _);have b:=h.l;show qs (atS k x y k.length)<=997;omega
def rkS(k:Ke)(x y:Rat):Nat->AState
 |i=>⟨[(0,.arr (keR k)),(4,bRq x),(5,bRq y),(6,.lptr 1 0 0),(7,.lptr 2 0 0),(8,i64 i)],[(1,some ⟨47,4,[zR4]⟩),(2,some ⟨47,4,[rC (rq (atS k x y i))]⟩)],3,34⟩
theorem fs_rAt(k:Ke)(x y:Rat)(h:TmK k)(hx:qs x<=20)(hy:qs y<=20):FS 19 [.arr (keR k),.agg (rC (rq x)),.agg (rC (rq y))] (.agg (rC (rq (atK k x y)))):=by
 have f:(keR k).length=k.length:=ii k;have g:=h.l;have e:FS 59 [i64 0] (.agg (rC (rq 0))):=ek 0 δ;refine f_n Tryz.func19 ?_ ?_;exact ae (aY k) (ae (c9 _) (ae (c9 _) af));refine r_z 3 ?_;refine r_c 3 (e) ?_;refine a_z ?_;refine ac (r_z 1 ?_);refine aC (λ_:Unit=>⟨[(6,.lptr 1 0 0),(7,.lptr 2 0 0)],[(1,some ⟨47,4,[zR4]⟩),(2,some ⟨47,4,[rC (rq (atK k x y))]⟩)],3,34⟩) (λ_=>True) ?_ ?_;refine ah (ay (rkS k x y) (λi=>k.length- i) (λi=>i<=k.length) 0 (Nat.zero_le _) ?_ ?_);rw[rkS.eq_1,LG];refine s_x [(1,6),(2,7)] (λhs=>?_) (λhs=>?_)
 ·repeat' (first|exact aL|refine az rfl ?_ ?_|exact ao hs (aY k)|exact Cv.boxp hs rfl (aG rfl) rfl (cK _)|exact aW)
 ·repeat' (first|exact aB|refine h_c ?_ ?_|exact bG|refine aA ?_|exact av|refine am ?_ ?_|exact ao hs (aY k)|exact Cv.boxp hs rfl (aG rfl) rfl (cK _)|exact aW)
 intro i r;rw[rkS.eq_1];by_cases hlt:i< k.length;obtain⟨p,hp⟩:∃p,k[i]?=some p:=⟨_,List.getElem?_eq_getElem hlt⟩;have c:(keR k)[((i:Nat):Int).toNat]?=some (pkR p):=iR hp _ ψ;have a:=List.mem_of_getElem? hp;have e1:=od (rP p.1) (rq x) 20 20 (dh _) (bK _) (by rw[b5];exact(h.b p a).1) ω hx (by have:=(h.n p a).1;simp[rP];omega) (by have:=(h.n p a).1;simp[rP];omega);have e2:=od (rP p.2) (rq y) 20 20 (dh _) (bK _) (by rw[b5];exact(h.b p a).2) ω hy (by have:=(h.n p a).2;simp[rP];omega) (by have:=(h.n p a).2;simp[rP];omega);rw[b5] at e1 e2;have o:=G8 h hx hy i ω;have j:=uF (h.n p a).1 (h.b p a).1 hx;have q:=uF (h.n p a).2 (h.b p a).2 hy;have m:=cx (an p.1 x) (an p.2 y);have m1:=lA (rq (an p.1 x)) (rq (an p.2 y)) (bK _) (bK _) (by show qs (an p.1 x)+qs (an p.2 y)<=_;omega);have m2:=iS (rq (atS k x y i)) (rq (an p.1 x* an p.2 y)) (bK _) (bK _) (by show qs (atS k x y i)+qs (an p.1 x* an p.2 y)<=_;omega);refine ac (q_z 4 ?_);refine cT (aj (ac (ah (r_d aX 18 ?_))));refine a_3 ?_;refine i_x c ?_;refine a_1 ?_;refine l_1 c ?_;refine c_s (e1) ?_;refine a_2 ?_;refine i_x c ?_;refine a_1 ?_;refine l_1 c ?_;refine c_s (e2) ?_;refine c_s (m1) ?_;refine c_s (m2) ?_;refine a_1 ?_;refine aq (n_k ?_);refine r_m 3 ?_;refine a_z ?_;refine⟨i+1,ω,ω,?_⟩;rw[rkS.eq_1,LF hp];refine s_x [(1,6),(2,7)] (λhs=>?_) (λhs=>?_)
 ·repeat' (first|exact aL|refine az rfl ?_ ?_|exact ao hs (aY k)|exact ao hs (ew _)|exact aW)
 ·repeat' (first|exact aB|refine h_c ?_ ?_|exact bG|refine aA ?_|exact av|refine am ?_ ?_|exact ao hs (aY k)|exact ao hs (ew _)|exact aW)
 have d:i=k.length:=ω
 refine ac (q_z 4 ?_);refine cF (ax ⟨(),trivial,?_⟩);rw[d];exact s_e [(1,6),(2,7)];rintro _ _;refine r_z 2 ?_;exact ai (c_e (c9 _))

theorem Eh(a b:Rat)(ha:qs a<=20)(hb:qs b<=20):FS 21 [.agg (rC (rq a)++rC (rq b))] (bln (decide (a<=b))):=by
 have hc:=Ap (rq a) (rq b) (bK _) (bK _) (by show qs a+qs b<=_;omega);have d:∀c∈rC (rq a)++rC (rq b),Closed c:=λc hc=>(List.mem_append.1 hc).elim (cK _ c) (cK _ c)
 have e:(decide (fb a b<=0))=decide (a<=b):=by
  unfold fb;by_cases h1:a< b;rw[if_pos h1,decide_eq_true (show a<=b by grind)];rfl;rw[if_neg h1];by_cases h2:a=b;rw[if_pos h2,decide_eq_true (show a<=b by grind)];rfl;rw[if_neg h2,decide_eq_false (show¬a<=b by grind)];rfl
 rw[<-e];refine f_c Tryz.func21 ?_;refine r_z 2 ?_;refine r_c 7 (hc) ?_;refine a_z ?_;exact ai (t_e (ak _))









theorem GM{r p q:Lq}{c:Rat}(h:∀i,coP r i=coP p i- c* coP q i)(x:Rat):an r x=an p x- c* an q x:=by
 have:=iy (p:=r) (q:=dQ p (aR q c)) (λi=>by rw[pf,cJ,h];grind) x;rw[cP,bH] at this;grind
theorem wK{B r p q:Lq}{c:Rat}(h:∀i,coP r i=coP p i- c* coP q i)(a b:Rat):inQ (aT B r) a b=inQ (aT B p) a b- c* inQ (aT B q) a b:=by
 have f:ap (aT B r)=ap (dQ (aT B p) (aR (aT B q) c)):=iV λx=>by
  rw[a8,cP,bH,a8,a8,GM h];grind
 have e:∀i,coP (aT B r) i=coP (aT B p) i- c* coP (aT B q) i:=λi=>by
  rw[<-cj (aT B r),f,cj,pf,cJ];grind
 have d:∀y,an (aM (aT B r)) y=an (aM (aT B p)) y- c* an (aM (aT B q)) y:=λy=>GM (λi=>by
  rw[ja,ja,ja];split;grind;rw[e,Rat.div_def,Rat.div_def,Rat.div_def];grind) y
 unfold inQ;rw[d,d];grind
theorem yi{α:Type}{f g h:α->Rat}{c:Rat}(H:∀p,f p=g p- c* h p):∀k:List α,nD f k=nD g k- c* nD h k
 |[]=>by rw[nD,nD,nD];grind
 |p::k=>by rw[nD,nD,nD,H p,yi H k];grind
theorem sQ_sh(f:Nat->Rat):∀n,sQ f (n+1)=f 0+sQ (λi=>f (i+1)) n
 |0=>by rw[sQ,sQ,sQ];grind
 |n+1=>by rw[sQ,sQ_sh f n,sQ];grind
theorem zw{α:Type}(f:α->Rat)(d:α):∀k:List α,nD f k=sQ (λj=>f (k.getD j d)) k.length
 |[]=>rfl
 |p::k=>by
  rw[nD,zw f d k,List.length_cons,sQ_sh];rfl
theorem Bm{α:Type}(F:α->Rat)(d:α)(k:List α)(c:Lq)(hc:c.length=k.length):nD (λz=>F z.1* z.2) (k.zip c)=sQ (λj=>F (k.getD j d) * coP c j) k.length:=by
 rw[zw _ (d,0),List.length_zip,hc,Nat.min_self];refine qP _ λj e=>?_;have b:k[j]?=some k[j]:=List.getElem?_eq_getElem e;have a:c[j]?=some c[j]:=List.getElem?_eq_getElem ω;unfold coP;have f:(k.zip c)[j]?=some (k[j],c[j]):=by rw[List.getElem?_zip_eq_some];exact⟨b,a⟩
 rw[List.getD_eq_getElem?_getD,f,List.getD_eq_getElem?_getD,b,List.getD_eq_getElem?_getD,a];rfl
theorem Gq{p u:Lq}{a b:Rat}{t:Nat}(hp:p.length<=4)(bp:bdL p 20)(hu:u.length<=6)(bu:bdL u t)(ht:1<=t)(ht2:t<=100000000)(qa:qs a<=20)(qb:qs b<=20):ls p u/\OkIn (aT p u) a b/\qs (inQ (aT p u) a b)<=80* t+2600:=by
 have m1:=uY bp bu ω ht;have l1:=yz p u;have e1:p.length* (20+t+1)<=4* (20+t+1):=Nat.mul_le_mul_right _ hp;have m2:=bdL_mono' (b:=4* t+85) m1 ω;have i1:=n8 m2 ω ω;have m:=gS (aT p u);have q:=mxL_le bp ω;have o:=mxL_le bu ht;have l:p.length* (mxL p+mxL u+1)<=4* (20+t+1):=Nat.mul_le_mul hp ω
 have ev:∀y:Rat,qs y<=20->fM (aM (aT p u)) y/\qs (an (aM (aT p u)) y)<=40* t+1271:=λy f=>by
  have k:=iW f i1;have i:=mxL_le i1 ω;have n:(aM (aT p u)).length* (4* t+85+21+20+1)<=10* (4* t+85+21+20+1):=Nat.mul_le_mul_right _ ω;have j:(aM (aT p u)).length* (mxL (aM (aT p u))+qs y+1)<=10* (4* t+127):=Nat.mul_le_mul ω ω;exact⟨⟨ω,ω⟩,ω⟩
 obtain⟨g,e⟩:=ev a qa;obtain⟨d,c⟩:=ev b qb;refine⟨⟨ω,ω,ω,ω⟩,⟨io m2 ω,ω,d,g,ω⟩,?_⟩;have h:=lK (an (aM (aT p u)) b) (an (aM (aT p u)) a);unfold inQ;omega
section
variable {k:Ke}{l a b:Rat}{g:Lq}
end
theorem eO(a b:Rat):∀c∈rC (rq a)++rC (rq b),Closed c:=λc hc=>(List.mem_append.1 hc).elim (cK _ c) (cK _ c)
section
variable {k:Ke}{a b l:Rat}{i j:Nat}
def rmM(k:Ke)(a b l:Rat):Mx:=svM (maK k a b) l (λ_=>0) k.length
theorem Jg(h:i< k.length): -(l* maK k a b i i)+1=rmM k a b l i i:=by
 unfold rmM svM;rw[if_neg ω,if_pos rfl];grind
theorem FU(h:j< k.length)(hij:i≠j): -(l* maK k a b i j)=rmM k a b l i j:=by
 unfold rmM svM;rw[if_neg ω,if_neg (λe=>hij e.symm)];grind
theorem ma_qs(hk:TmK k)(qa:qs a<=20)(qb:qs b<=20)(hi:i< k.length)(hj:j< k.length):qs (maK k a b i j)<=4200:=by
 have m1:k.getD i ([],[])∈k:=by rw[List.getD_eq_getElem?_getD,List.getElem?_eq_getElem hi];exact List.getElem_mem hi
 have m2:k.getD j ([],[])∈k:=by rw[List.getD_eq_getElem?_getD,List.getElem?_eq_getElem hj];exact List.getElem_mem hj
 have:=(Gq (t:=20) (a:=a) (b:=b) (hk.n _ m1).2 (hk.b _ m1).2 (Nat.le_trans (hk.n _ m2).1 δ) (hk.b _ m2).1 δ δ qa qb).2.2;unfold maK;exact Nat.le_trans this δ
theorem rm_qs(hk:TmK k)(qa:qs a<=20)(qb:qs b<=20)(ql:qs l<=20)(hi:i< k.length)(hj:j< k.length):qs (rmM k a b l i j)<=4222:=by
 have d:=ma_qs hk qa qb hi hj;have f:=cx l (maK k a b i j);by_cases e:i=j;subst e;have c:=e9 (-(l* maK k a b i i)) 1;have g:qs 1<=1:=δ
 rw[dJ] at c;rw[<-Jg hi];omega;rw[<-FU hj e,dJ];omega
def moS(k:Ke)(a b l:Rat):Nat->AState
 |0=>⟨[(0,.arr (keR k)),(4,.aptr [rC (rq a)++rC (rq b)] 0 0),(5,bRq l),(7,.emp),(8,i64 0)],[],1,55⟩
 |i+1=>⟨[(0,.arr (keR k)),(4,.aptr [rC (rq a)++rC (rq b)] 0 0),(5,bRq l),(7,.lsl 1 0 (i+1) none 1),(8,i64 ((i+1:Nat):Int))],[(1,some ⟨77,1,svC (rmM k a b l) k.length (i+1)⟩)],2,55⟩
def miS(k:Ke)(a b l:Rat):Nat->AState
 |0=>⟨[(0,.arr (keR k)),(4,.aptr [rC (rq a)++rC (rq b)] 0 0),(5,bRq l),(7,.emp),(8,i64 0),(9,.emp),(10,i64 0)],[],1,55⟩
 |j+1=>⟨[(0,.arr (keR k)),(4,.aptr [rC (rq a)++rC (rq b)] 0 0),(5,bRq l),(7,.emp),(8,i64 0),(9,.lsl 1 0 (j+1) none 4),(10,i64 ((j+1:Nat):Int))],[(1,some ⟨47,4,rE (rP (aN (j+1) ((rmM k a b l) 0)))⟩)],2,55⟩
def mjS(k:Ke)(a b l:Rat)(i:Nat):Nat->AState
 |0=>⟨[(0,.arr (keR k)),(4,.aptr [rC (rq a)++rC (rq b)] 0 0),(5,bRq l),(7,.lsl 1 0 (i+1) none 1),(8,i64 ((i+1:Nat):Int)),(9,.emp),(10,i64 0)],[(1,some ⟨77,1,svC (rmM k a b l) k.length (i+1)⟩)],2,55⟩
 |j+1=>⟨[(0,.arr (keR k)),(4,.aptr [rC (rq a)++rC (rq b)] 0 0),(5,bRq l),(7,.lsl 1 0 (i+1) none 1),(8,i64 ((i+1:Nat):Int)),(9,.lsl 2 0 (j+1) none 4),(10,i64 ((j+1:Nat):Int))],[(1,some ⟨77,1,svC (rmM k a b l) k.length (i+1)⟩),(2,some ⟨47,4,rE (rP (aN (j+1) ((rmM k a b l) (i+1))))⟩)],3,55⟩
theorem Ef(k:Ke)(a b l:Rat)(hk:TmK k)(qa:qs a<=20)(qb:qs b<=20)(ql:qs l<=20):
    FS 66 [.arr (keR k),.agg (rC (rq a)++rC (rq b)),.agg (rC (rq l))] (.arr (svC (rmM k a b l) k.length k.length)):=by
 have H:=hk.l;have B:(keR k).length=k.length:=ii k;have cB:Closed (.aptr [rC (rq a)++rC (rq b)] 0 0):=bi (eO a b);have D:FS 59 [i64 1] (.agg (rC (rq 1))):=ek 1 δ
 have v:∀i j (p q:Lq×Lq),k[i]?=some p->k[j]?=some q->
     FS 153 [.arr (rE (rP p.2)),.arr (rE (rP q.1))] (.arr (rE (rP (aT p.2 q.1))))/\
     FS 152 [.arr (rE (rP (aT p.2 q.1))),.agg (rC (rq a)++rC (rq b))] (.agg (rC (rq (maK k a b i j))))/\
     FS 49 [.agg (rC (rq l)),.agg (rC (rq (maK k a b i j)))] (.agg (rC (rq (l* maK k a b i j))))/\
     FS 151 [.agg (rC (rq (l* maK k a b i j)))] (.agg (rC (rq (-(l* maK k a b i j)))))/\
     FS 60 [.agg (rC (rq (-(l* maK k a b i j)))),.agg (rC (rq 1))] (.agg (rC (rq (-(l* maK k a b i j)+1)))):=λi j p q hp f=>by
  have G:=List.mem_of_getElem? hp;have C:=List.mem_of_getElem? f;have N:=(hk.n p G).2;have A:=(hk.b p G).2;have S:=(hk.n q C).1;have w:=(hk.b q C).1;have m1:=uY A w δ δ;have R:=yz p.2 q.1;have e1:p.2.length* (20+20+1)<=4* (20+20+1):=Nat.mul_le_mul_right _ N;have m2:=bdL_mono' (b:=200) m1 ω
  have g:=wO (rP p.2) (rP q.1) 20 20 400 (dh _) (dh _) (by rw[b5];exact A) (by rw[b5];exact w) δ (λn M=>by
   rw[b5,b5];rw[b7] at M;have e:n* (20+20+1)<=4* (20+20+1):=Nat.mul_le_mul_right _ ω;exact bdL_mono' (JP A w δ δ n) ω) δ χ χ
  rw[b5,b5] at g;have m:=Kl (rP (aT p.2 q.1)) a b 200 (dh _) (by rw[b5];exact m2) δ χ ω ω δ;rw[b5] at m
  have J:maK k a b i j=inQ (aT p.2 q.1) a b:=by
   unfold maK;rw[List.getD_eq_getElem?_getD,List.getD_eq_getElem?_getD,hp,f];rfl
  have E:i< k.length:=(List.getElem?_eq_some_iff.1 hp).1;have t:j< k.length:=(List.getElem?_eq_some_iff.1 f).1;have f:=ma_qs hk qa qb E t;have O:=cx l (maK k a b i j);refine⟨g,by rw[J];exact m,lA (rq l) (rq _) (bK _) (bK _) (by show qs l+qs (maK k a b i j)<=_;omega),rN (rq _) (bK _),iS (rq _) (rq 1) (bK _) (bK _) ?_⟩;have Q:qs 1<=1:=δ
  show qs (-(l* maK k a b i j))+qs 1<=_;rw[dJ];omega
 refine f_n Tryz.func66 ?_ ?_;exact ae (aY k) (ae (aE (eO a b)) (ae (c9 _) af));refine r_z 3 ?_;refine r_z 1 ?_;refine ac (r_z 1 ?_);refine aC (λ_:Unit=>⟨[(7,.arr (svC (rmM k a b l) k.length k.length))],[],1,55⟩) (λ_=>True) ?_ ?_;refine ah (ay (moS k a b l) (λi=>k.length- i) (λi=>i<=k.length) 0 (Nat.zero_le _) ?_ ?_);rw[moS.eq_1];refine s_x [] (λhs=>?_) (λhs=>?_)
 ·repeat' (first|exact aL|refine az rfl ?_ ?_|exact ao hs (aY k)|exact Cv.boxp hs rfl (aG rfl) rfl (eO a b)|exact Cv.boxp hs rfl (aG rfl) rfl (cK _)|exact aW)
 ·repeat' (first|exact aB|refine h_c ?_ ?_|exact bG|refine aA ?_|exact av|refine am ?_ ?_|exact ao hs (aY k)|exact Cv.boxp hs rfl (aG rfl) rfl (eO a b)|exact Cv.boxp hs rfl (aG rfl) rfl (cK _)|exact aW)
 intro i E;by_cases hin:i< k.length
 ·obtain⟨p,hp⟩:∃p,k[i]?=some p:=⟨_,List.getElem?_eq_getElem hin⟩
  have K:=FC (rmM k a b l) k.length i;cases i with
  |zero=>
   have d:(keR k)[((0:Int)).toNat]?=some (pkR p):=iR hp _ ψ;rw[moS.eq_1];refine ac (q_z 4 ?_);refine cT (aj (ac (ah (r_z 1 ?_))));refine ac (r_z 1 ?_);refine aC (miS k a b l) (λj=>j=k.length) ?_ ?_;refine ah (ay (miS k a b l) (λj=>k.length- j) (λj=>j<=k.length) 0 (Nat.zero_le _) ?_ ?_);rw[miS.eq_1];refine s_x [] (λhs=>e_2) (λhs=>?_)
   ·repeat' (first|exact aB|refine h_c ?_ ?_|exact bG|refine aA ?_|exact av|refine am ?_ ?_|exact ao hs (aY k)|exact ao hs cB|exact ao hs (ew _)|exact aW)
   intro j t;by_cases hjn:j< k.length;obtain⟨q,f⟩:∃q,k[j]?=some q:=⟨_,List.getElem?_eq_getElem hjn⟩;cases j with
   |zero=>
    have c:(keR k)[((0:Int)).toNat]?=some (pkR q):=iR f _ ψ;obtain⟨g,m,s,r,u⟩:=v 0 0 p q hp f;rw[miS.eq_1];refine ac (q_z 4 ?_);refine cT (aj (ac (ah (ac (r_d aX 18 ?_)))));refine a_3 ?_;refine i_x d ?_;refine bm (.fieldAddr_a rfl TF.h δ) rfl rfl ?_;refine l_1 d ?_;refine a_2 ?_;refine i_x c ?_;refine bm (.fieldAddr_a rfl TF.h δ) rfl rfl ?_;refine l_1 c ?_;refine c_s (g) ?_;refine c_s (m) ?_;refine c_s (s) ?_;refine c_s (r) ?_;refine a_2 ?_;refine aq (n_k ?_);refine ac (q_z 3 ?_);refine cT (r_d aX 4 ?_);refine c_s (D) ?_;refine c_s (u) ?_;refine a_1 ?_;refine aq (n_k ?_);refine r_m 5 ?_;refine a_z ?_;refine r_m 3 ?_;refine a_z ?_;refine⟨1,ω,hjn,?_⟩;rw[miS.eq_2];refine s_x [(1,9)] (λhs=>e_2) (λhs=>?_)
    ·repeat' (first|exact aB|refine h_c ?_ ?_|exact aJ hs (by rw[<-mJ 0,<-(Jg (k:=k) (a:=a) (b:=b) (l:=l) hjn)];rfl) (cQ _)|exact bG|refine aA ?_|exact av|refine am ?_ ?_|exact ao hs (aY k)|exact ao hs cB|exact ao hs (ew _)|exact aW)
   |succ j=>
    have c:(keR k)[(((j+1):Nat):Int).toNat]?=some (pkR q):=iR f _ ψ;obtain⟨g,m,s,r,u⟩:=v 0 (j+1) p q hp f;rw[miS.eq_2];refine ac (q_z 4 ?_);refine cT (aj (ac (ah (ac (r_d aX 18 ?_)))));refine a_3 ?_;refine i_x d ?_;refine bm (.fieldAddr_a rfl TF.h δ) rfl rfl ?_;refine l_1 d ?_;refine a_2 ?_;refine i_x c ?_;refine bm (.fieldAddr_a rfl TF.h δ) rfl rfl ?_;refine l_1 c ?_;refine c_s (g) ?_;refine c_s (m) ?_;refine c_s (s) ?_;refine c_s (r) ?_;refine a_2 ?_;refine aq (n_k ?_);refine ac (q_z 3 ?_);refine cF (aj (r_m 5 ?_));refine a_z ?_;refine r_m 3 ?_;refine a_z ?_;refine⟨j+2,ω,hjn,?_⟩;rw[miS.eq_2];refine s_x [(1,9)] (λhs=>e_2) (λhs=>?_)
    ·repeat' (first|exact aB|refine h_c ?_ ?_|exact aJ hs (by rw[<-mJ (j+1),<-(FU (k:=k) (a:=a) (b:=b) (l:=l) (i:=0) hjn ω)];rfl) (cQ _)|exact bG|refine aA ?_|exact av|refine am ?_ ?_|exact ao hs (aY k)|exact ao hs cB|exact ao hs (ew _)|exact aW)
   obtain⟨j,rfl⟩:∃o,j=o+1:=⟨j- 1,ω⟩;rw[miS.eq_2];refine ac (q_z 4 ?_);refine cF (ax ⟨j+1,ω,?_⟩);rw[miS.eq_2];exact s_x [(1,9)] (λhs=>e_2) (λhs=>e_24);rintro j t;obtain⟨j,rfl⟩:∃o,j=o+1:=⟨j- 1,ω⟩;rw[miS.eq_2];refine r_m 5 ?_;refine a_z ?_;refine r_m 3 ?_;refine a_z ?_;refine⟨1,ω,hin,?_⟩;rw[moS.eq_2];refine s_x [(1,7)] (λhs=>e_2) (λhs=>?_)
   ·repeat' (first|exact aB|refine h_c ?_ ?_|exact aA (y:=[.arr (rE (rP (aN k.length (rmM k a b l 0))))]) (am (Cv.trans_eq (fK (L:=rP (aN (j+1) (rmM k a b l 0))) hs rfl (aG rfl) rfl (by simp[rP])) (by rw[t])) av)|exact bG|refine aA ?_|exact av|refine am ?_ ?_|exact ao hs (aY k)|exact ao hs cB|exact ao hs (ew _)|exact aW)
  |succ i=>
   have d:(keR k)[(((i+1):Nat):Int).toNat]?=some (pkR p):=iR hp _ ψ;rw[moS.eq_2];refine ac (q_z 4 ?_);refine cT (aj (ac (ah (r_z 1 ?_))));refine ac (r_z 1 ?_);refine aC (mjS k a b l i) (λj=>j=k.length) ?_ ?_;refine ah (ay (mjS k a b l i) (λj=>k.length- j) (λj=>j<=k.length) 0 (Nat.zero_le _) ?_ ?_);rw[mjS.eq_1];exact s_x [(1,7)] (λhs=>e_2) (λhs=>e_24);intro j t;by_cases hjn:j< k.length;obtain⟨q,f⟩:∃q,k[j]?=some q:=⟨_,List.getElem?_eq_getElem hjn⟩;cases j with
   |zero=>
    have c:(keR k)[((0:Int)).toNat]?=some (pkR q):=iR f _ ψ;obtain⟨g,m,s,r,u⟩:=v (i+1) 0 p q hp f;rw[mjS.eq_1];refine ac (q_z 4 ?_);refine cT (aj (ac (ah (ac (r_d aX 18 ?_)))));refine a_3 ?_;refine i_x d ?_;refine bm (.fieldAddr_a rfl TF.h δ) rfl rfl ?_;refine l_1 d ?_;refine a_2 ?_;refine i_x c ?_;refine bm (.fieldAddr_a rfl TF.h δ) rfl rfl ?_;refine l_1 c ?_;refine c_s (g) ?_;refine c_s (m) ?_;refine c_s (s) ?_;refine c_s (r) ?_;refine a_2 ?_;refine aq (n_k ?_);refine ac (q_z 3 ?_);refine cF (aj (r_m 5 ?_));refine a_z ?_;refine r_m 3 ?_;refine a_z ?_;refine⟨1,ω,hjn,?_⟩;rw[mjS.eq_2];refine s_x [(1,7),(2,9)] (λhs=>e_2) (λhs=>?_)
    ·repeat' (first|exact aB|refine h_c ?_ ?_|exact aJ hs (by rw[<-mJ 0,<-(FU (k:=k) (a:=a) (b:=b) (l:=l) (i:=(i+1)) hjn ω)];rfl) (cQ _)|exact ba hs (dX _ _ _)|exact ba hs (cQ _)|exact bG|refine aA ?_|exact av|refine am ?_ ?_|exact ao hs (aY k)|exact ao hs cB|exact ao hs (ew _)|exact aW)
   |succ j=>
    have c:(keR k)[(((j+1):Nat):Int).toNat]?=some (pkR q):=iR f _ ψ;obtain⟨g,m,s,r,u⟩:=v (i+1) (j+1) p q hp f;rw[mjS.eq_2];refine ac (q_z 4 ?_);refine cT (aj (ac (ah (ac (r_d aX 18 ?_)))));refine a_3 ?_;refine i_x d ?_;refine bm (.fieldAddr_a rfl TF.h δ) rfl rfl ?_;refine l_1 d ?_;refine a_2 ?_;refine i_x c ?_;refine bm (.fieldAddr_a rfl TF.h δ) rfl rfl ?_;refine l_1 c ?_;refine c_s (g) ?_;refine c_s (m) ?_;refine c_s (s) ?_;refine c_s (r) ?_;refine a_2 ?_;refine aq (n_k ?_);by_cases hij:i=j;subst hij;refine ac (q_z 3 ?_);refine cT (r_d aX 4 ?_);refine c_s (D) ?_;refine c_s (u) ?_;refine a_1 ?_;refine aq (n_k ?_);refine r_m 5 ?_;refine a_z ?_;refine r_m 3 ?_;refine a_z ?_;refine⟨i+2,ω,hjn,?_⟩;rw[mjS.eq_2];refine s_x [(1,7),(2,9)] (λhs=>e_2) (λhs=>?_)
    ·repeat' (first|exact aB|refine h_c ?_ ?_|exact aJ hs (by rw[<-mJ (i+1),<-(Jg (k:=k) (a:=a) (b:=b) (l:=l) hjn)];rfl) (cQ _)|exact ba hs (dX _ _ _)|exact ba hs (cQ _)|exact bG|refine aA ?_|exact av|refine am ?_ ?_|exact ao hs (aY k)|exact ao hs cB|exact ao hs (ew _)|exact aW)
    refine ac (q_z 3 ?_);refine cF (aj (r_m 5 ?_));refine a_z ?_;refine r_m 3 ?_;refine a_z ?_;refine⟨j+2,ω,hjn,?_⟩;rw[mjS.eq_2];refine s_x [(1,7),(2,9)] (λhs=>e_2) (λhs=>?_)
    ·repeat' (first|exact aB|refine h_c ?_ ?_|exact aJ hs (by rw[<-mJ (j+1),<-(FU (k:=k) (a:=a) (b:=b) (l:=l) (i:=(i+1)) hjn ω)];rfl) (cQ _)|exact ba hs (dX _ _ _)|exact ba hs (cQ _)|exact bG|refine aA ?_|exact av|refine am ?_ ?_|exact ao hs (aY k)|exact ao hs cB|exact ao hs (ew _)|exact aW)
   obtain⟨j,rfl⟩:∃o,j=o+1:=⟨j- 1,ω⟩;rw[mjS.eq_2];refine ac (q_z 4 ?_);refine cF (ax ⟨j+1,ω,?_⟩);rw[mjS.eq_2];exact s_x [(1,7),(2,9)] (λhs=>e_2) (λhs=>e_24);rintro j t;obtain⟨j,rfl⟩:∃o,j=o+1:=⟨j- 1,ω⟩;rw[mjS.eq_2];refine r_m 5 ?_;refine o_0 (.move rfl) ?_;refine o_0 (.move rfl) ?_;refine o_1 (.buildSlice te_141.h TZ.h rfl δ rfl rfl rfl ν) ?_;refine o_2 (.append_l rfl rfl rfl te_141.h rfl rfl rfl rfl rfl d_o η ξ rfl (.lsl rfl (nle rfl)) TZ.h rfl TB.h d_o μ) ?_;refine o_0 (.assign rfl) ?_;refine aq ?_;refine r_m 3 ?_;refine a_z ?_;refine⟨i+2,ω,hin,?_⟩;rw[moS.eq_2];refine s_x [(1,7)] (λhs=>e_2) (λhs=>?_)
   ·repeat' (first|exact aB|refine h_c ?_ ?_|exact xQ (po (x:=[.lsl 2 0 (j+1) none 4]) (am (Cv.trans_eq (fK (L:=rP (aN (j+1) (rmM k a b l (i+1)))) hs rfl (aG rfl) rfl (by simp[rP])) (by rw[t])) av) (ba hs (dX _ _ _))) (vI _ _ (i+1)).symm|exact bG|refine aA ?_|exact av|refine am ?_ ?_|exact ao hs (aY k)|exact ao hs cB|exact ao hs (ew _)|exact aW)
 cases i with
 |zero=>
  rw[moS.eq_1];refine ac (q_z 4 ?_);refine cF (ax ⟨(),trivial,?_⟩);have z:k.length=0:=ω
  rw[z];exact s_e []
 |succ i=>
  have F:i+1=k.length:=ω
  rw[moS.eq_2];refine ac (q_z 4 ?_);refine cF (ax ⟨(),trivial,?_⟩);refine s_x [] (λhs=>?_) (λhs=>?_)
  ·repeat' (first|exact aL|refine az rfl ?_ ?_|exact Cv.shut hs rfl (aG rfl) ψ (aJ hs (by rw[List.drop_zero,<-F];exact List.take_of_length_le ψ) (dX _ _ _))|exact aW)
  ·repeat' (first|exact aB|refine h_c ?_ ?_|exact bG|refine aA ?_|exact av|refine am ?_ ?_|exact Cv.shut hs rfl (aG rfl) ψ (aJ hs (by rw[List.drop_zero,<-F];exact List.take_of_length_le ψ) (dX _ _ _))|exact aW)
 rintro _ _;refine r_z 2 ?_;exact ai (t_e (aK (dX _ _ _)))
end
theorem sgZ_0{x:Rat}:sgZ (rq x).1.num=0↔x=0:=by
 show sgZ x.num=0↔x=0;rw[<-Rat.num_eq_zero];unfold sgZ;split <;>(try split)<;> omega
theorem row_cut(M:Mx)(n k i:Nat)(hk:k<=n):rE (rP (aN k (M (i+1))))++rE (rP (aN (n- k) λj=>M (i+1) (k+1+j)))=rE (rP (aN n (l7 M k i))):=by
 unfold rE rP aN;rw[<-List.map_append,<-List.map_append];congr 2;refine List.ext_getElem χ λj b a=>?_;simp only[List.getElem_append,List.getElem_map,List.getElem_range,List.length_map,List.length_range,l7];split;rfl;congr 1;omega
theorem Jb(M:Mx)(n k i:Nat)(hk:k<=n):(rE (rP (aN (n+1) (M (i+1))))).take k=rE (rP (aN k (M (i+1)))):=by
 unfold rE rP aN;rw[<-List.map_take,<-List.map_take,<-List.map_take,List.take_range,Nat.min_eq_left ω]
theorem Jc(M:Mx)(n k i:Nat)(hk:k<=n):(rE (rP (aN (n+1) (M (i+1))))).drop (k+1)=rE (rP (aN (n- k) λj=>M (i+1) (k+1+j))):=by
 unfold rE rP aN;rw[<-List.map_drop,<-List.map_drop,<-List.map_drop];congr 2;refine List.ext_getElem ψ λj b a=>?_;simp
theorem zv{M:Mx}{n c i:Nat}(h:i< c):∀e,e=i->(svC M n c)[e]?=some [.arr (rE (rP (aN n (M i))))]:=λe a=>by
 subst a;unfold svC;simp[h]
theorem row_get{n j:Nat}{f:Nat->Rat}(h:j< n):∀e,e=j->(rE (rP (aN n f)))[e]?=some (rC (rq (f j))):=λe a=>by
 subst a;unfold rE rP aN;simp[h]
def odS(M:Mx)(n:Nat)(D:Nat->Rat):Nat->AState
 |k=>⟨[(0,.arr (svC M (n+1) (n+1))),(2,.lptr 1 0 0),(3,.lptr 2 0 0),(4,i64 k)],[(1,some ⟨47,4,[zR4]⟩),(2,some ⟨47,4,[rC (rq (deS M D k))]⟩)],3,69⟩
def idS(M:Mx)(n:Nat)(S:Rat)(k:Nat):Nat->AState
 |0=>⟨[(0,.arr (svC M (n+1) (n+1))),(2,.lptr 1 0 0),(3,.lptr 2 0 0),(4,i64 k),(5,.emp),(6,i64 1)],[(1,some ⟨47,4,[zR4]⟩),(2,some ⟨47,4,[rC (rq S)]⟩)],3,69⟩
 |i+1=>⟨[(0,.arr (svC M (n+1) (n+1))),(2,.lptr 1 0 0),(3,.lptr 2 0 0),(4,i64 k),(5,.lsl 3 0 (i+1) none 1),(6,i64 ((i+2:Nat):Int))],[(1,some ⟨47,4,[zR4]⟩),(2,some ⟨47,4,[rC (rq S)]⟩),(3,some ⟨77,1,svC (l7 M k) n (i+1)⟩)],4,69⟩
theorem Gx{B:Nat}(hB:B<=1000000):∀(n:Nat),n<=3->∀M:Mx,(∀i j,i< n->j< n->qs (M i j)<=B)->FS 65 [.arr (svC M n n)] (.agg (rC (rq (deF n M))))
 |0,_,M,h=>by
  have w:FS 59 [i64 1] (.agg (rC (rq 1))):=ek 1 δ;show FSpec _ _ [.arr []] _;refine f_n Tryz.func65 ?_ ?_;exact ae (aK (λe Y=>by cases Y)) af;refine r_z 1 ?_;refine ac (s_r 3 ?_);refine a_2 ?_;refine o_0 (.bin rfl rfl (vT bJ (decide_eq_true δ))) ?_;refine aq ?_;refine cT (r_c 2 (w) ?_);refine a_z ?_;exact ai (c_e (c9 _))
 |n+1,W,M,hM=>by
  have E:FS 59 [i64 0] (.agg (rC (rq 0))):=ek 0 δ;have X:=Gx hB n ω;have N:∀k,k<=n->∀i j,i< n->j< n->qs (l7 M k i j)<=B:=λk v i j V Q=>hM _ _ ω (by split <;> omega);have J:(svC M (n+1) (n+1)).length=n+1:=Dr _ _ _;have cM:Closed (.arr (svC M (n+1) (n+1))):=aK (dX _ _ _)
  have T:deB B n<=100* B+100:=by
   have:∀n,n<=2->deB B n<=100* B+100:=λn W=>by
    rcases(by omega:n=0\/n=1\/n=2) with rfl|rfl|rfl <;> simp only[deB]<;> omega
   exact this n ω
  obtain⟨D,H⟩:∃D,D=λk=>deF n (l7 M k):=⟨_,rfl⟩;have r:∀k,D k=deF n (l7 M k):=λk=>by rw[H]
  have t:∀k,k< n+1->qs (D k)<=deB B n:=λk v=>by rw[r];exact EU n _ (N k ω)
  have z:∀k,k<=n+1->qs (deS M D k)<=404* B+500:=λk v=>by
   have h1:=ET (B:=B) (λj Q=>hM 0 j ω Q) t k v;have h2:k* (B+deB B n+1)<=3* (B+deB B n+1):=Nat.mul_le_mul_right _ ω;omega
  have O:deF (n+1) M=deS M D (n+1):=by rw[deF,H]
  rw[O];clear O;refine f_c Tryz.func65 ?_;refine r_z 1 ?_;refine ac (q_z 3 ?_);refine cF (aj (r_c 3 (E) ?_));refine a_z ?_;refine ac (r_z 1 ?_);refine aC (λ_:Unit=>⟨[(2,.lptr 1 0 0),(3,.lptr 2 0 0)],[(1,some ⟨47,4,[zR4]⟩),(2,some ⟨47,4,[rC (rq (deS M D (n+1)))]⟩)],3,69⟩) (λ_=>True) ?_ ?_
  ·refine ah (ay (odS M n D) (λk=>n+1- k) (λk=>k<=n+1) 0 (Nat.zero_le _) ?_ ?_)
   rw[odS.eq_1];exact s_f [(1,2),(2,3)];intro k v;rw[odS.eq_1];by_cases hkn:k< n+1;rotate_left;have d:k=n+1:=ω
   refine ac (q_z 4 ?_);refine cF (ax ⟨(),trivial,?_⟩);rw[d];exact s_e [(1,2),(2,3)];have p:(svC M (n+1) (n+1))[((0:Int)).toNat]?=some [.arr (rE (rP (aN (n+1) (M 0))))]:=zv ω _ ψ;have q:(rE (rP (aN (n+1) (M 0))))[((k:Nat):Int).toNat]?=some (rC (rq (M 0 k))):=row_get hkn _ ψ;have u:=rM (rq (M 0 k));refine ac (q_z 4 ?_);refine cT (aj (ac (ah ?_)));by_cases hz:M 0 k=0;have e:deS M D (k+1)=deS M D k:=by rw[deS,if_pos hz]
   refine ac (s_r 8 ?_);refine a_1 ?_;refine i_x p ?_;refine l_1 p ?_;refine a_1 ?_;refine i_x q ?_;refine l_x q ?_;refine c_s (u) ?_;refine o_0 (.bin rfl rfl (vT bJ (decide_eq_true (sgZ_0.2 hz)))) ?_;refine aq ?_;refine cT (ax (r_m 3 ?_));refine a_z ?_;refine⟨k+1,ω,ω,?_⟩;rw[odS.eq_1,e];exact s_f [(1,2),(2,3)];have e:deS M D (k+1)=deS M D k+(if k % 2=1 then -(M 0 k* D k) else M 0 k* D k):=GU M D k;refine ac (s_r 8 ?_);refine a_1 ?_;refine i_x p ?_;refine l_1 p ?_;refine a_1 ?_;refine i_x q ?_;refine l_x q ?_;refine c_s (u) ?_;refine o_0 (.bin rfl rfl (vF bJ (decide_eq_false (λx=>hz (sgZ_0.1 x))))) ?_;refine aq ?_;refine cF (aj (r_z 1 ?_));refine ac (r_z 1 ?_);refine aC (λ_:Unit=>⟨[(0,.arr (svC M (n+1) (n+1))),(2,.lptr 1 0 0),(3,.lptr 2 0 0),(4,i64 k),(5,.arr (svC (l7 M k) n n))],[(1,some ⟨47,4,[zR4]⟩),(2,some ⟨47,4,[rC (rq (deS M D k))]⟩)],3,69⟩) (λ_=>True) ?_ ?_;refine ah (ay (idS M n (deS M D k) k) (λi=>n- i) (λi=>i<=n) 0 (Nat.zero_le _) ?_ ?_);rw[idS.eq_1];exact s_f [(1,2),(2,3)];intro i V;by_cases hin:i< n;have U:=FC (l7 M k) n i;have a:=row_cut M n k i ω;have c:=Jb M n k i ω;have f:=Jc M n k i ω;have S:(rE (rP (aN (n+1) (M (i+1))))).length=n+1:=by simp[rP]
   obtain⟨A,K⟩:∃A,A=rP (aN k (M (i+1))):=⟨_,rfl⟩;obtain⟨C,G⟩:∃C,C=rP (aN (n- k) λj=>M (i+1) (k+1+j)):=⟨_,rfl⟩;have g:A.length=k:=by rw[K];simp[rP]
   have s:C.length=n- k:=by rw[G];simp[rP]
   rw[<-K] at a c;rw[<-G] at a f;cases i with
   |zero=>
    have b:(svC M (n+1) (n+1))[((1:Int)).toNat]?=some [.arr (rE (rP (aN (n+1) (M (0+1)))))]:=zv ω _ ψ;rw[idS.eq_1];refine ac (q_z 4 ?_);refine cT (aj (ac (ah ?_)));by_cases hk0:k=0
    ·subst hk0
     have o:A=[]:=List.eq_nil_of_length_eq_zero g;rw[o] at c a;have m:rE C≠[]:=λx=>by have h:=congrArg List.length x;rw[oO,s,List.length_nil] at h;omega
     refine r_d aX 19 ?_;refine a_3 ?_;refine i_x b ?_;refine l_1 b ?_;refine a_1 ?_;refine o_0 (.sa_hE (h:=0) c rfl rfl rfl ω te_77.h (eQ _)) ?_;refine o_0 (.append0 rfl rfl rfl te_77.h rfl rfl rfl (.arr (es:=[]) ψ)) ?_;refine a_2 ?_;refine i_x b ?_;refine l_1 b ?_;refine a_2 ?_;refine o_0 (.sa_lE (l:=1) f rfl rfl rfl ω te_77.h (eQ _)) ?_;refine o_1 (.append_e rfl rfl rfl te_77.h rfl rfl rfl (.arr (eQ _)) (by first|assumption|(simp;done)) TZ.h rfl TB.h d_o μ) ?_;refine a_3 ?_;refine aq (n_k ?_);refine r_m 3 ?_;refine a_z ?_;refine⟨1,ω,hin,?_⟩;rw[idS.eq_2];refine s_x [(1,2),(2,3),(3,5)] (λhs=>e_17) (λhs=>?_)
     ·repeat' (first|exact aB|refine h_c ?_ ?_|exact aA (y:=[.arr (rE (rP (aN n (l7 M 0 0))))]) (am (fK (L:=rP (aN n (l7 M 0 0))) hs rfl (aG rfl) a (by simp[rP];omega)) av)|exact bG|refine aA ?_|exact av|refine am ?_ ?_|exact ao hs cM|exact aW)
    ·have m:rE A≠[]:=λx=>by have h:=congrArg List.length x;rw[oO,g,List.length_nil] at h;omega
     refine r_d aX 19 ?_;refine a_3 ?_;refine i_x b ?_;refine l_1 b ?_;refine a_1 ?_;refine o_0 (.sa_hE (h:=k) c rfl rfl rfl ω te_77.h (eQ _)) ?_;refine o_1 (.append_e rfl rfl rfl te_77.h rfl rfl rfl (.arr (eQ _)) (by first|assumption|(simp;done)) TZ.h rfl TB.h d_o μ) ?_;refine a_2 ?_;refine i_x b ?_;refine l_1 b ?_;refine a_2 ?_;refine o_0 (.sa_lE (l:=k+1) f rfl rfl ω ω te_77.h (eQ _)) ?_;refine o_2 (.append_l rfl rfl rfl te_77.h rfl rfl rfl rfl rfl d_o η ξ rfl (.arr (eQ _)) TZ.h rfl TB.h d_o μ) ?_;refine a_3 ?_;refine aq (n_k ?_);refine r_m 3 ?_;refine a_z ?_;refine⟨1,ω,hin,?_⟩;rw[idS.eq_2];refine s_x [(1,2),(2,3),(3,5)] (λhs=>e_17) (λhs=>?_)
     ·repeat' (first|exact aB|refine h_c ?_ ?_|exact aA (y:=[.arr (rE (rP (aN n (l7 M k 0))))]) (am (fK (L:=rP (aN n (l7 M k 0))) hs rfl (aG rfl) a (by simp[rP];omega)) av)|exact bG|refine aA ?_|exact av|refine am ?_ ?_|exact ao hs cM|exact aW)
   |succ i=>
    have b:(svC M (n+1) (n+1))[(((i+2:Nat):Int)).toNat]?=some [.arr (rE (rP (aN (n+1) (M (i+1+1)))))]:=zv ω _ ω;rw[idS.eq_2];refine ac (q_z 4 ?_);refine cT (aj (ac (ah ?_)));by_cases hk0:k=0
    ·subst hk0
     have o:A=[]:=List.eq_nil_of_length_eq_zero g;rw[o] at c a;have m:rE C≠[]:=λx=>by have h:=congrArg List.length x;rw[oO,s,List.length_nil] at h;omega
     refine r_d aX 19 ?_;refine a_3 ?_;refine i_x b ?_;refine l_1 b ?_;refine a_1 ?_;refine o_0 (.sa_hE (h:=0) c rfl rfl rfl ω te_77.h (eQ _)) ?_;refine o_0 (.append0 rfl rfl rfl te_77.h rfl rfl rfl (.arr (es:=[]) ψ)) ?_;refine a_2 ?_;refine i_x b ?_;refine l_1 b ?_;refine a_2 ?_;refine o_0 (.sa_lE (l:=1) f rfl rfl rfl ω te_77.h (eQ _)) ?_;refine o_1 (.append_e rfl rfl rfl te_77.h rfl rfl rfl (.arr (eQ _)) (by first|assumption|(simp;done)) TZ.h rfl TB.h d_o μ) ?_;refine o_1 (.buildSlice te_141.h TZ.h rfl δ rfl rfl rfl ν) ?_;refine o_2 (.append_l rfl rfl rfl te_141.h rfl rfl rfl rfl rfl d_o η ξ rfl (.lsl rfl (nle rfl)) TZ.h rfl TB.h d_o μ) ?_;refine o_0 (.assign rfl) ?_;refine aq (n_k ?_);refine r_m 3 ?_;refine a_z ?_;refine⟨i+2,ω,hin,?_⟩;rw[idS.eq_2];refine s_x [(1,2),(2,3),(3,5)] (λhs=>e_17) (λhs=>?_)
     ·repeat' (first|exact aB|refine h_c ?_ ?_|exact xQ (po (am (fK (L:=rP (aN n (l7 M 0 (i+1)))) hs rfl (aG rfl) a (by simp[rP];omega)) av) (ba hs (dX _ _ _))) (vI _ _ (i+1)).symm|exact bG|refine aA ?_|exact av|refine am ?_ ?_|exact ao hs cM|exact aW)
    ·have m:rE A≠[]:=λx=>by have h:=congrArg List.length x;rw[oO,g,List.length_nil] at h;omega
     refine r_d aX 19 ?_;refine a_3 ?_;refine i_x b ?_;refine l_1 b ?_;refine a_1 ?_;refine o_0 (.sa_hE (h:=k) c rfl rfl rfl ω te_77.h (eQ _)) ?_;refine o_1 (.append_e rfl rfl rfl te_77.h rfl rfl rfl (.arr (eQ _)) (by first|assumption|(simp;done)) TZ.h rfl TB.h d_o μ) ?_;refine a_2 ?_;refine i_x b ?_;refine l_1 b ?_;refine a_2 ?_;refine o_0 (.sa_lE (l:=k+1) f rfl rfl ω ω te_77.h (eQ _)) ?_;refine o_2 (.append_l rfl rfl rfl te_77.h rfl rfl rfl rfl rfl d_o η ξ rfl (.arr (eQ _)) TZ.h rfl TB.h d_o μ) ?_;refine o_1 (.buildSlice te_141.h TZ.h rfl δ rfl rfl rfl ν) ?_;refine o_2 (.append_l rfl rfl rfl te_141.h rfl rfl rfl rfl rfl d_o η ξ rfl (.lsl rfl (nle rfl)) TZ.h rfl TB.h d_o μ) ?_;refine o_0 (.assign rfl) ?_;refine aq (n_k ?_);refine r_m 3 ?_;refine a_z ?_;refine⟨i+2,ω,hin,?_⟩;rw[idS.eq_2];refine s_x [(1,2),(2,3),(3,5)] (λhs=>e_17) (λhs=>?_)
     ·repeat' (first|exact aB|refine h_c ?_ ?_|exact xQ (po (am (fK (L:=rP (aN n (l7 M k (i+1)))) hs rfl (aG rfl) a (by simp[rP];omega)) av) (ba hs (dX _ _ _))) (vI _ _ (i+1)).symm|exact bG|refine aA ?_|exact av|refine am ?_ ?_|exact ao hs cM|exact aW)
   have d:i=n:=ω
   cases i with
   |zero=>
    subst d;rw[idS.eq_1];refine ac (q_z 4 ?_);refine cF (ax ⟨(),trivial,?_⟩);exact s_f [(1,2),(2,3)]
   |succ i=>
    rw[idS.eq_2];refine ac (q_z 4 ?_);refine cF (ax ⟨(),trivial,?_⟩);refine s_x [(1,2),(2,3)] (λhs=>?_) (λhs=>?_)
    ·repeat' (first|exact aL|refine az rfl ?_ ?_|exact ao hs cM|exact Cv.shut hs rfl (aG rfl) ψ (aJ hs (by rw[List.drop_zero,<-d];exact List.take_of_length_le ψ) (dX _ _ _))|exact aW)
    ·repeat' (first|exact aB|refine h_c ?_ ?_|exact bG|refine aA ?_|exact av|refine am ?_ ?_|exact ao hs cM|exact Cv.shut hs rfl (aG rfl) ψ (aJ hs (by rw[List.drop_zero,<-d];exact List.take_of_length_le ψ) (dX _ _ _))|exact aW)
   rintro _ _;have F:=X (l7 M k) (N k ω);rw[<-r] at F;have q1:=hM 0 k ω hkn;have q2:=t k hkn;have q3:=cx (M 0 k) (D k);have q4:=z k ω;have m1:=lA (rq (M 0 k)) (rq (D k)) (bK _) (bK _) (by show qs (M 0 k)+qs (D k)<=_;omega);have m2:=rN (rq (M 0 k* D k)) (bK _);have R:=iS (rq (deS M D k)) (rq (M 0 k* D k)) (bK _) (bK _) (by show qs (deS M D k)+qs (M 0 k* D k)<=_;omega);have Z:=iS (rq (deS M D k)) (rq (-(M 0 k* D k))) (bK _) (bK _) (by show qs (deS M D k)+qs (-(M 0 k* D k))<=_;rw[dJ];omega);refine ac (r_d aX 11 ?_);refine a_1 ?_;refine i_x p ?_;refine l_1 p ?_;refine a_1 ?_;refine i_x q ?_;refine l_x q ?_;refine c_s (F) ?_;refine c_s (m1) ?_;refine a_2 ?_;refine aq (n_k ?_);by_cases hp:k % 2=1;rw[if_pos hp] at e;refine ac (q_z 3 ?_);refine cT (r_m 3 ?_);refine c_s (m2) ?_;refine a_z ?_;refine r_m 4 ?_;refine c_s (Z) ?_;refine a_z ?_;refine r_m 3 ?_;refine a_z ?_;refine⟨k+1,ω,ω,?_⟩;rw[odS.eq_1,e];exact s_f [(1,2),(2,3)];rw[if_neg hp] at e;refine ac (q_z 3 ?_);refine cF (aj (r_m 4 ?_));refine c_s (R) ?_;refine a_z ?_;refine r_m 3 ?_;refine a_z ?_;refine⟨k+1,ω,ω,?_⟩;rw[odS.eq_1,e];exact s_f [(1,2),(2,3)]
  rintro _ _;refine r_z 2 ?_;exact ai (c_e (c9 _))
section
variable {k:Ke}{l a b:Rat}{g:Lq}
end
theorem FF(i:Nat):∀(k:Ke) (c o:Lq),c.length=k.length->coP (sS k c o) i=coP o i+nD (λp=>coP p.1.1 i* p.2) (k.zip c)
 |[],[],o,_=>by rw[sS];show _=_+0;grind
 |p::k,[],_,h=>by cases h
 |[],z::c,_,h=>by cases h
 |p::k,z::c,o,h=>by
  rw[sS,List.tail_cons,dC,FF i k c _ (by simpa using h),List.zip_cons_cons,nD];unfold smF;rw[ic,cJ];grind
theorem smK_co(k:Ke)(c:Lq)(hc:c.length=k.length)(i:Nat):coP (smK k c k.length) i=sQ (λj=>coP (k.getD j ([],[])).1 i* coP c j) k.length:=by
 rw[<-Bm (λp:Lq×Lq=>coP p.1 i) ([],[]) k c hc];unfold smK;rw[List.take_length,FF i k c [] hc,show coP [] i=0 from rfl];grind
end Go.Proofs.YtjmkjicckobojaaGreatDoor
