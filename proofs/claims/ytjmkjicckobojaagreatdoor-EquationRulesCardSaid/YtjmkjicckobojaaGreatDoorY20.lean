/- Part Y20 of the proof. -/
import Derived.Test.YtjmkjicckobojaaGreatDoorY19
set_option linter.all false
namespace Go.Proofs.YtjmkjicckobojaaGreatDoor
open Go.Abs
set_option maxRecDepth 20000
set_option maxHeartbeats 1000000
theorem GE{pre s t post:Ln}{x e i:Nat}(he:e=pre.length)(hi:i=s.length):(pre++(s++x::t)++post)[e+i]?=some x:=by
 subst he hi;simp
theorem GD{pre s t post:Ln}{x v e i:Nat}(he:e=pre.length)(hi:i=s.length):(pre++(s++x::t)++post).set (e+i) v=pre++((s++[v])++t)++post:=by
 subst he hi;rw[MT,Nw _ _ ω,MT,show pre.length+s.length- pre.length=s.length by omega,Nw _ _ ω];simp
def suS(V:Ln)(A:Ln)(pre:Ln)(post:Ln)(cap:Option Nat)(t:Nat):Ln×Nat×Nat->AState
 |(s,c,q)=>⟨[(0,.lsl 0 pre.length A.length cap 1),(1,.arr (dE V)),(2,u64 t),(7,u64 c),(8,i64 q),(13,i64 s.length),(12,i64 A.length)],
  [(0,some ⟨260,1,dE (pre++(s++A.drop s.length)++post)⟩)],1,54⟩
structure SubI (V A:Ln)(t:Nat)(x:Ln×Nat×Nat):Prop where
 le:x.1.length<=A.length
 dig:∀d∈x.1,d< MB
 car:x.2.1< MB
 bor:x.2.2<=1
 fin:V.length< x.1.length->x.2.1=0
 val:ofD MB x.1+t* ofD MB (V.take x.1.length)=ofD MB (A.take x.1.length)+MB^ x.1.length* (x.2.2+x.2.1)
theorem ξ{p:Prop}(h:p:=by kernel_rfl):p:=h
theorem CR (pre A post V:Ln) (t D q:Nat) (cap:Option Nat) (hA:∀d∈A,d< MB) (hV:∀d∈V,d< MB) (ht:t< MB) (hlen:V.length< A.length) (hA2:A.length< 17592186044416) (hq:q<=1)
    (hD:D+t* ofD MB V=ofD MB A+MB^ A.length* q) (hD2:D< MB^ A.length):
    ESpec Tryz.prog 244 260 1 (dE (pre++A++post)) (dE (pre++jM MB A.length D++post)) pre.length A.length cap [.arr (dE V),u64 t] (.bool (q !=0)):=by
 have ht1:t< 1000000000:=ht;refine ESpec.enter Tryz.func244 rfl ξ rfl rfl rfl ?_ ?_ ?_ rfl ?_;exact ac (dr _) (ac (ah _) af);exact cf _;exact cf _;refine r_z 1 ?_;refine r_z 2 ?_;refine ae (r_z 3 ?_);refine aJ (suS V A pre post cap t) (λx=>SubI V A t x/\x.1.length=A.length) ?_ ?_;refine aj (aC (suS V A pre post cap t) (λx=>A.length- x.1.length) (SubI V A t) ([],0,0) ⟨ψ,ψ,(show 0< MB by decide),ψ,ψ,by simp[ofD]⟩ ?_ ?_);rw[suS.eq_1];exact s_e [];rintro⟨s,c,β⟩ ⟨hle,hdig,hcar,hbor,hfin,hval⟩;simp only at hle hdig hcar hbor hfin hval;have hc1:c< 1000000000:=hcar;rw[suS.eq_1];refine r_z 1 ?_;refine ae (au rfl (λh=>?_) (λh=>?_));have hlt:s.length< A.length:=by have:=of_decide_eq_true h;omega
 obtain⟨x,hx⟩:∃x,A[s.length]?=some x:=⟨_,eT hlt⟩;have hx1:x< 1000000000:=hA x (mc hx)
 have hg:(dE (pre++(s++A.drop s.length)++post))[pre.length+((s.length:Nat):Int).toNat]?=some [u32 x]:=by
  rw[DH,gI hx];exact ei (GE rfl rfl)
 have hset:∀w:Nat,(dE (pre++(s++A.drop s.length)++post)).set (pre.length+((s.length:Nat):Int).toNat) [u32 w]=dE (pre++((s++[w])++A.drop (s++[w]).length)++post):=by
  intro w;rw[DH,gI hx,iT,GD rfl rfl];simp
 refine an (ae (aj (r_z 2 ?_)));refine ae (r_z 4 ?_)
 refine aJ (λv:Nat=>⟨[(0,.lsl 0 pre.length A.length cap 1),(1,.arr (dE V)),(2,u64 t),(7,u64 v),(8,i64 β),(9,i64 s.length),(13,i64 s.length),(12,i64 A.length)],
  [(0,some ⟨260,1,dE (pre++(s++A.drop s.length)++post)⟩)],1,54⟩)
  (λv=>v=c+t* (V[s.length]?.getD 0)/\v<=999999999+999999999* 999999999/\(V.length<=s.length->v=c)) ?_ ?_
 refine au rfl (λh=>?_) (λh=>?_);have hlt2:s.length< V.length:=by have:=of_decide_eq_true h;simp at this;omega
 obtain⟨y,hy⟩:∃y,V[s.length]?=some y:=⟨_,eT hlt2⟩;have hy1:y< 1000000000:=hV y (mc hy);have hy':(dE V)[((s.length:Nat):Int).toNat]?=some [u32 y]:=ei hy;have hxy0:t* y<=999999999* 999999999:=vj ω ω;have hxyn:0<=(t:Int) * y:=OM ω ω;have hxyi:(t:Int) * y=((t* y:Nat):Int):=(EA _ _).symm;refine r_m 10 ?_;refine a_4 ?_;refine i_x hy' ?_;refine l_1 hy' ?_;refine a_z ?_;refine⟨c+t* y,⟨by rw[hy];rfl,ω,λh=>absurd h ω⟩,?_⟩;have hI:(c:Int)+(t:Int) * y=((c+t* y:Nat):Int):=ω
 have:=(congrArg (λz=>AV.v (.int .u64 z)) hI);exact s_f [];have hlt2:¬s.length< V.length:=by have:=of_decide_eq_false h;simp at this;omega
 refine an ⟨c,⟨by rw[zt ω];simp,ω,λ_=>rfl⟩,?_⟩;exact s_e [];rintro v ⟨hv,hv1,hv2⟩;refine s_r 12 ?_;refine a_2 ?_;refine bZ (.index_l rfl rfl ω ω te_36.h) rfl rfl ?_;refine bZ (.load_l1 rfl rfl hg TG.h rfl) rfl rfl ?_;refine a_z ?_;refine r_z 3 ?_;refine r_z 1 ?_;refine ae (r_z 2 ?_)
 have hnext:∀w q',w+v % 1000000000+β=x+1000000000* q'->w< 1000000000->q'<=1->SubI V A t (s++[w],v/ 1000000000,q'):=by
  intro w q' hw hwb hq';refine⟨χ,?_,?_,hq',?_,?_⟩;intro d hd;rcases n7.1 hd with hd|hd
  exact hdig d hd;simp at hd;subst hd;exact hwb;show v/ 1000000000< 1000000000;omega;intro hl;simp at hl;have:=hv2 ω;simp only;omega;simp only[zq,xb];rw[iM,dh _ hx,fq,D7];have e:MB^ s.length* (w+v % 1000000000+β+1000000000* (v/ 1000000000))=MB^ s.length* (x+MB* q'+MB* (v/ 1000000000)):=by rw[hw]
  have e2:w+v % 1000000000+β+1000000000* (v/ 1000000000)=w+β+(c+t* (V[s.length]?.getD 0)):=by rw[<-hv];have:=MW v 1000000000;omega
  rw[e2] at e;have e3:t* (ofD MB (V.take s.length)+MB^ s.length* (V[s.length]?.getD 0))=t* ofD MB (V.take s.length)+MB^ s.length* (t* (V[s.length]?.getD 0)):=by rw[zM,NQ]
  rw[e3];have e4:MB^ s.length* MB* (q'+v/ 1000000000)=MB^ s.length* (MB* q')+MB^ s.length* (MB* (v/ 1000000000)):=by rw[EB,zM,zM]
  rw[e4];simp only[zM] at e hval⊢;omega
 refine au rfl (λh=>?_) (λh=>?_);have hb:(x:Int)- v % 1000000000- β< 0:=by have:=of_decide_eq_true h;omega
 have hI:(x:Int)- (v:Int) % 1000000000- β+1000000000=((x+1000000000- v % 1000000000- β:Nat):Int):=ω
 refine r_m 4 ?_;refine a_z ?_;refine r_m 6 ?_;refine a_4 ?_;refine bZ (.index_l rfl rfl ω ω te_36.h) rfl rfl ?_;refine eK (.store rfl rfl hg rfl rfl rfl TS.h (nle rfl)) ?_;refine aq ?_;refine r_m 2 ?_;refine a_z ?_;refine⟨(s++[x+1000000000- v % 1000000000- β],v/ 1000000000,1),χ,hnext _ _ ω ω (ir _),?_⟩;rw[suS.eq_1];exact s_x [] (λhs=>dJ) (λhs=>e_19);have hb:¬(x:Int)- v % 1000000000- β< 0:=by have:=of_decide_eq_false h;omega
 have hI:(x:Int)- (v:Int) % 1000000000- β=((x- v % 1000000000- β:Nat):Int):=ω
 refine an (r_m 6 ?_);refine a_3 ?_;refine o_0 (.conv rfl (cU32 ω tu_2.h tu_260.h)) ?_;refine a_1 ?_;refine eK (.store rfl rfl hg rfl rfl rfl TS.h (nle rfl)) ?_;refine aq ?_;refine r_m 2 ?_;refine a_z ?_;refine⟨(s++[x- v % 1000000000- β],v/ 1000000000,0),χ,hnext _ _ ω ω ω,?_⟩;rw[suS.eq_1];exact s_x [] (λhs=>dJ) (λhs=>e_19);have hl:s.length=A.length:=by have:=of_decide_eq_false h;omega
 refine ay ⟨(s,c,β),⟨⟨hle,hdig,hcar,hbor,hfin,hval⟩,hl⟩,?_⟩;rw[suS.eq_1];exact s_e [];rintro⟨s,c,β⟩ ⟨⟨hle,hdig,hcar,hbor,hfin,hval⟩,hl⟩;simp only at hle hdig hcar hbor hfin hval hl;have hc0:=hfin ω;subst hc0;rw[hl,qj,nk ω,M6] at hval;have hs1:=gi hdig;rw[hl] at hs1;have hpos:0< MB^ A.length:=NB δ
 have hqq:β=q/\ofD MB s=D:=by
  rcases Nk.1 hq with rfl|rfl <;> rcases Nk.1 hbor with rfl|rfl <;> constructor <;> omega
 obtain⟨rfl,rfl⟩:=hqq;rw[suS.eq_1];refine r_z 3 ?_;refine ak (FinE.tmp rfl ?_ rfl ?_);congr 2;rw[Nv];simp;rw[hl,DJ,Ng,<-AC hdig hl rfl]
def gbS(V:Ln)(A:Ln)(pre:Ln)(post:Ln)(cap:Option Nat):Ln×Nat->AState
 |(s,c)=>⟨[(0,.lsl 0 pre.length A.length cap 1),(1,.arr (dE V)),(5,u32 c),(10,i64 s.length),(9,i64 A.length)],
  [(0,some ⟨260,1,dE (pre++(s++A.drop s.length)++post)⟩)],1,40⟩
structure GiveI (V A:Ln)(x:Ln×Nat):Prop where
 le:x.1.length<=A.length
 dig:∀d∈x.1,d< MB
 car:x.2<=1
 val:ofD MB x.1+MB^ x.1.length* x.2=ofD MB (A.take x.1.length)+ofD MB (V.take x.1.length)
theorem CS (pre A post V:Ln) (D q:Nat) (cap:Option Nat) (hA:∀d∈A,d< MB) (hV:∀d∈V,d< MB) (hlen:V.length<=A.length) (hA2:A.length< 17592186044416) (hq:q<=1)
    (hD:D+MB^ A.length* q=ofD MB A+ofD MB V) (hD2:D< MB^ A.length):
    ESpec Tryz.prog 245 260 1 (dE (pre++A++post)) (dE (pre++jM MB A.length D++post)) pre.length A.length cap [.arr (dE V)] (.bool (q !=0)):=by
 refine ESpec.enter Tryz.func245 rfl ξ rfl rfl rfl ?_ ?_ ?_ rfl ?_;exact ac (dr _) af;exact cf _;exact cf _;refine r_z 1 ?_;refine r_z 1 ?_;refine ae (r_z 3 ?_);refine aJ (gbS V A pre post cap) (λx=>GiveI V A x/\x.1.length=A.length) ?_ ?_;refine aj (aC (gbS V A pre post cap) (λx=>A.length- x.1.length) (GiveI V A) ([],0) ⟨ψ,ψ,ψ,by simp[ofD]⟩ ?_ ?_);rw[gbS.eq_1];exact s_e [];rintro⟨s,c⟩ ⟨hle,hdig,hcar,hval⟩;simp only at hle hdig hcar hval;rw[gbS.eq_1];refine r_z 1 ?_;refine ae (au rfl (λh=>?_) (λh=>?_));have hlt:s.length< A.length:=by have:=of_decide_eq_true h;omega
 obtain⟨x,hx⟩:∃x,A[s.length]?=some x:=⟨_,eT hlt⟩;have hx1:x< 1000000000:=hA x (mc hx)
 have hg:(dE (pre++(s++A.drop s.length)++post))[pre.length+((s.length:Nat):Int).toNat]?=some [u32 x]:=by
  rw[DH,gI hx];exact ei (GE rfl rfl)
 have hset:∀w:Nat,(dE (pre++(s++A.drop s.length)++post)).set (pre.length+((s.length:Nat):Int).toNat) [u32 w]=dE (pre++((s++[w])++A.drop (s++[w]).length)++post):=by
  intro w;rw[DH,gI hx,iT,GD rfl rfl];simp
 refine an (ae (aj (r_z 2 ?_)));refine s_r 7 ?_;refine a_2 ?_;refine bZ (.index_l rfl rfl ω ω te_36.h) rfl rfl ?_;refine bZ (.load_l1 rfl rfl hg TG.h rfl) rfl rfl ?_;refine a_z ?_;refine ae (r_z 4 ?_)
 refine aJ (λv:Nat=>⟨[(0,.lsl 0 pre.length A.length cap 1),(1,.arr (dE V)),(5,u32 c),(7,u32 v),(6,i64 s.length),(10,i64 s.length),(9,i64 A.length)],
  [(0,some ⟨260,1,dE (pre++(s++A.drop s.length)++post)⟩)],1,40⟩)
  (λv=>v=x+c+(V[s.length]?.getD 0)/\v<=1999999999) ?_ ?_
 refine au rfl (λh=>?_) (λh=>?_);have hlt2:s.length< V.length:=by have:=of_decide_eq_true h;simp at this;omega
 obtain⟨y,hy⟩:∃y,V[s.length]?=some y:=⟨_,eT hlt2⟩;have hy1:y< 1000000000:=hV y (mc hy);have hy':(dE V)[((s.length:Nat):Int).toNat]?=some [u32 y]:=ei hy;refine r_m 7 ?_;refine a_3 ?_;refine i_x hy' ?_;refine l_1 hy' ?_;refine a_z ?_;refine⟨x+c+y,⟨by rw[hy];rfl,ω⟩,?_⟩;exact s_e [];have hlt2:¬s.length< V.length:=by have:=of_decide_eq_false h;simp at this;omega
 refine an ⟨x+c,⟨by rw[zt ω];rfl,ω⟩,?_⟩;exact s_e [];rintro v ⟨hv,hv1⟩;refine r_z 1 ?_;refine ae (r_z 2 ?_)
 have hnext:∀w c',w+1000000000* c'=v->w< 1000000000->c'<=1->GiveI V A (s++[w],c'):=by
  intro w c' hw hwb hc';refine⟨χ,?_,hc',?_⟩;intro d hd;rcases n7.1 hd with hd|hd
  exact hdig d hd;simp at hd;subst hd;exact hwb;simp only[zq,xb];rw[iM,dh _ hx,fq,D7];have e:MB^ s.length* (w+MB* c')=MB^ s.length* (x+c+(V[s.length]?.getD 0)):=by rw[<-hv,<-hw]
  simp only[zM] at e;rw[<-EB] at e;omega
 refine au rfl (λh=>?_) (λh=>?_);have hb:1000000000<=v:=by have:=of_decide_eq_true h;omega
 have hI:(v:Int)- 1000000000=((v- 1000000000:Nat):Int):=ω
 refine r_m 4 ?_;refine a_z ?_;refine r_m 5 ?_;refine a_4 ?_;refine eK (.store rfl rfl hg rfl rfl rfl TS.h (nle rfl)) ?_;refine aq ?_;refine r_m 2 ?_;refine a_z ?_;refine⟨(s++[v- 1000000000],1),χ,hnext _ _ ω ω (ir _),?_⟩;rw[gbS.eq_1];exact s_x [] (λhs=>dJ) (λhs=>e_19);have hb:v< 1000000000:=by have:=of_decide_eq_false h;omega
 refine an (r_m 5 ?_);refine a_4 ?_;refine eK (.store rfl rfl hg rfl rfl rfl TS.h (nle rfl)) ?_;refine aq ?_;refine r_m 2 ?_;refine a_z ?_;refine⟨(s++[v],0),χ,hnext _ _ ω ω ω,?_⟩;rw[gbS.eq_1];exact s_x [] (λhs=>dJ) (λhs=>e_31);have hl:s.length=A.length:=by have:=of_decide_eq_false h;omega
 refine ay ⟨(s,c),⟨⟨hle,hdig,hcar,hval⟩,hl⟩,?_⟩;rw[gbS.eq_1];exact s_e [];rintro⟨s,c⟩ ⟨⟨hle,hdig,hcar,hval⟩,hl⟩;simp only at hle hdig hcar hval hl;rw[hl,qj,nk ω] at hval;have hs1:=gi hdig;rw[hl] at hs1;have hpos:0< MB^ A.length:=NB δ
 have hqq:c=q/\ofD MB s=D:=by
  rcases Nk.1 hq with rfl|rfl <;> rcases Nk.1 hcar with rfl|rfl <;> constructor <;> omega
 obtain⟨rfl,rfl⟩:=hqq;rw[gbS.eq_1];refine r_z 3 ?_;refine ak (FinE.tmp rfl ?_ rfl ?_);congr 2;rw[Nv];simp;rw[hl,DJ,Ng,<-AC hdig hl rfl]
def ovS(s:Nat)(V:Ln)(L:Nat):Ln×Ln×Nat->AState
 |(R,T,k)=>⟨[(4,.lptr 1 0 0),(5,.lptr 2 0 0),(6,.lptr 3 0 0),(7,.arr (dE V)),(8,i64 V.length),(9,.lsl 4 0 L (some L) 1),(10,.lsl 5 0 (L- V.length) (some (L- V.length)) 1),(11,i64 ((k:Int)- 1))],
  [(1,some ⟨38,1,[[.emp]]⟩),(2,some ⟨38,1,[[.emp]]⟩),(3,some ⟨38,1,[[mag s]]⟩),(4,some ⟨260,1,dE R⟩),(5,some ⟨260,1,dE (List.replicate k 0++T)⟩)],6,142⟩
def ovM(s:Nat)(V:Ln)(L:Nat)(T:Ln)(pre:Ln)(post:Ln)(j:Nat)(n:Nat):Ln×Nat×Bool->AState
 |(A,g,made)=>⟨[(4,.lptr 1 0 0),(5,.lptr 2 0 0),(6,.lptr 3 0 0),(7,.arr (dE V)),(8,i64 V.length),(9,.lsl 4 0 L (some L) 1),(10,.lsl 5 0 (L- V.length) (some (L- V.length)) 1),(11,i64 (((j+1:Nat):Int)- 1)),(13,u64 g),(14,.lsl 4 j n (some n) 1),(15,bln made)],
  [(1,some ⟨38,1,[[.emp]]⟩),(2,some ⟨38,1,[[.emp]]⟩),(3,some ⟨38,1,[[mag s]]⟩),(4,some ⟨260,1,dE (pre++A++post)⟩),(5,some ⟨260,1,dE (List.replicate (j+1) 0++T)⟩)],6,142⟩
theorem BO (a b:Nat) (h:bl a+bl b<=8796093022208) (hb:0< b)
    (hrec:2<=(ax MB b).length->∀r s,0< s->s< 1000000000->bl r<=bl b+30->FS 194 [.agg [mag r],.agg [mag s]] (.tup [.agg [mag (r/ s)],.agg [mag (r % s)]])):
    FS 194 [.agg [mag a],.agg [mag b]] (.tup [.agg [mag (a/ b)],.agg [mag (a % b)]]):=by
 have hla:=ci (b:=MB) δ a;have hlb:=ci (b:=MB) δ b;have va:=bO (b:=MB) δ a;have vb:=bO (b:=MB) δ b;refine f_c Tryz.func194 ?_;refine r_z 4 ?_;refine ae (aj (r_c 5 (py a b ω) ?_));refine a_z ?_;refine au rfl (λh=>?_) (λh=>?_)
 have hlt:a< b:=by
  have u:=of_decide_eq_true h;unfold ff at u;split at u;omega;split at u <;> omega
 refine ae (r_d ba 4 ?_);refine a_4 ?_;refine aq (n_k ?_);refine ak ?_;rw[Fw hlt,Fz hlt];refine Fin.many ⟨_,_,rfl,⟨_,_,_,_,_,rfl,rfl,rfl,.inl ⟨TG.h,_,TS.h,nle rfl,rfl⟩⟩,_,_,rfl,⟨_,_,_,_,_,rfl,rfl,rfl,.inl ⟨TG.h,_,TS.h,nle rfl,rfl⟩⟩,rfl⟩ (nle rfl) ?_;refine ai (Cv.agg (ai (Cv.emp _ ?_) av)) (ai (ao aE (aD (ac (cz a) af))) av);unfold mag;rw[c8];rfl
 have hge:b<=a:=by
  have u:=of_decide_eq_false h;refine Ez λhlt=>u ?_;rw[mW ω];decide
 refine r_z 5 ?_;refine au rfl (λh2=>?_) (λh2=>?_);have hl1:(ax MB b).length=1:=by simp at h2;omega
 have hbm:b< 1000000000:=by
  have:=gi (b:=MB) (er δ b);rw[vb,hl1] at this;simpa using this
 have hg:(dE (ax MB b))[(0:Int).toNat]?=some [u32 b]:=by rw[Fi hb hbm];rfl
 refine ae (r_d ba 10 ?_);refine a_3 ?_;refine i_x hg ?_;refine l_1 hg ?_;refine c_s (Ie a b ω hb ω) ?_;refine a_4 ?_;refine aq (n_k ?_);refine ak (Fin.many ⟨_,_,rfl,⟨_,_,_,_,_,rfl,rfl,rfl,.inl ⟨TG.h,_,TS.h,nle rfl,rfl⟩⟩,_,_,rfl,⟨_,_,_,_,_,rfl,rfl,rfl,.inl ⟨TG.h,_,TS.h,nle rfl,rfl⟩⟩,rfl⟩ (nle rfl) ?_);exact ai (ao aE (aD (ac (cz _) af))) (ai (ao aE (aD (ac (cz _) af))) av)
 have hl2:2<=(ax MB b).length:=by
  have u:¬(ax MB b).length=1:=by simp at h2;omega
  have h0:(ax MB b).length≠0:=λe=>by
   rw[vv] at e;have:=(jR (b:=MB) δ).1 e;omega
  omega
 refine an ?_
 -- the leading digit,the factor
 obtain⟨C,H⟩:∃d,(ax MB b)[(ax MB b).length- 1]?=some d:=⟨_,eT ω⟩;have hvt1:C< 1000000000:=da δ H
 have X:1<=C:=by
  have:=tG (b:=MB) δ b;rw[List.getLast?_eq_getElem?,H] at this;simp at this;omega
 have hvt':(dE (ax MB b))[(((ax MB b).length:Int)- 1).toNat]?=some [u32 C]:=by rw[show(((ax MB b).length:Int)- 1).toNat=(ax MB b).length- 1 by omega];exact ei H
 obtain⟨sc1,sc2,y⟩:=HP X hvt1;have hsI:(1000000000:Int) / ((C:Int)+1)=((1000000000/ (C+1):Nat):Int):=by rw[show((C:Int)+1)=((C+1:Nat):Int) by omega];exact(Nq _ _).symm
 have hs9:1000000000/ (C+1)<=500000000:=by
  have:1000000000/ (C+1)<=1000000000/ 2:=OP ω ω;omega
 obtain⟨s,hs⟩:∃s,s=1000000000/ (C+1):=⟨_,rfl⟩;rw[<-hs] at sc1 sc2 y hsI hs9;have hsm:FS 178 [.v (.int .u64 ((1000000000:Int) / ((C:Int)+1)))] (.agg [mag s]):=by rw[hsI];exact gY s ω
 have hbls:bl s<=30:=fx ω;have hbs:=jy b s;have has:=jy a s;refine s_r 14 ?_;refine a_6 ?_;refine i_x hvt' ?_;refine l_1 hvt' ?_;refine a_1 ?_;refine o_0 (.bin rfl rfl (Dq ω)) ?_;refine o_0 (.conv rfl (cU64 (by rw[hsI];omega) tu_260.h tu_246.h)) ?_;refine c_s (hsm) ?_;refine a_z ?_;obtain⟨k,hk⟩:∃k,(ax MB b).length=k+1:=⟨(ax MB b).length- 1,ω⟩;obtain⟨hVl,hb1,hv2,v1,lw,hv1,hvw,hlw,hv500,hv1b⟩:=Ff (s:=s) hk (by rw[hk] at H;exact H) X sc1 sc2;have hv1':(dE (ax MB (b* s)))[(((ax MB (b* s)).length:Int)- 1).toNat]?=some [u32 v1]:=by rw[show(((ax MB (b* s)).length:Int)- 1).toNat=k by omega];exact ei hv1
 have hab:=B6 (b:=MB) δ hge
 have hU1:a* s< MB^ (ax MB a).length* s:=by
  have:=gi (b:=MB) (er δ a);rw[va] at this;exact Od this y
 have hUl:(ax MB (a* s)).length<=(ax MB a).length+1:=by
  refine gw δ ?_;rw[D7];have:MB^ (ax MB a).length* s<=MB^ (ax MB a).length* MB:=sO _ (by show s<=1000000000;omega);omega
 have hcp:fD (List.replicate ((ax MB a).length+1) [ofV (Value.int IntKind.u32 0)]) 0 (List.take (Nat.min (dE (ax MB (a* s))).length ((ax MB a).length+1)) (dE (ax MB (a* s))))=dE (jM MB ((ax MB a).length+1) (a* s)):=by
  rw[nk (by rw[tI];exact Nat.le_min.2 ⟨ir _,hUl⟩),Bx (by rw[tI,OG];exact hUl)];rw[<-AC (l:=ax MB (a* s)++List.replicate ((ax MB a).length+1- (ax MB (a* s)).length) 0) ?_ ?_ ?_];rw[mj,<-iU];simp[u32,ofV];intro d S;rcases n7.1 S with S|S
  exact er δ _ d S;simp at S;rw[S.2];decide;simp;omega;rw[im,sA,bO δ];simp
 refine r_c 5 (gX b s ω) ?_;refine a_z ?_;refine r_z 3 ?_;have hL0:((ax MB a).length:Int)+1=(((ax MB a).length+1:Nat):Int):=ω
 refine s_r 6 ?_;refine a_4 ?_;refine o_1 (.makeSlice (congrArg (λz=>some (AV.v (.int .i64 z))) hL0) (congrArg (λz=>some (AV.v (.int .i64 z))) hL0) te_36.h TZ.h rfl TB.h κ κ ι) ?_;refine a_z ?_;refine r_c 6 (gX a s ω) ?_;refine a_1 ?_;refine o_1 (.copy rfl rfl rfl te_36.h rfl rfl rfl (by first|(simp;done)|(simp;omega)) (by first|exact fV _|exact fU _|exact eR _|exact fW _|exact fR _|rfl|simp) rfl (.arr (AP _))) ?_;refine aq ?_;have hLI:(((ax MB a).length+1:Nat):Int)- ((ax MB (b* s)).length:Nat)=(((ax MB a).length+1- (ax MB (b* s)).length:Nat):Int):=ω
 refine s_r 6 ?_;refine a_4 ?_;refine o_1 (.makeSlice (congrArg (λz=>some (AV.v (.int .i64 z))) hLI) (congrArg (λz=>some (AV.v (.int .i64 z))) hLI) te_36.h TZ.h rfl TB.h κ κ ι) ?_;refine a_z ?_;refine ae (r_z 4 ?_)
 have hst:DivI (a* s) (b* s) (k+1) ((ax MB a).length+1) (jM MB ((ax MB a).length+1) (a* s)) [] ((ax MB a).length+1- (k+1)):=by
  have hUL:a* s< MB^ ((ax MB a).length+1):=by
   rw[D7];have:MB^ (ax MB a).length* s<=MB^ (ax MB a).length* MB:=sO _ (by show s<=1000000000;omega);omega
  exact DivI.start ψ (uE δ _ _) (qz δ hUL) ω (by simpa using hb1) ω rfl (by simpa using hU1)
 refine aJ (ovS s (ax MB (b* s)) ((ax MB a).length+1)) (λx=>DivI (a* s) (b* s) (k+1) ((ax MB a).length+1) x.1 x.2.1 x.2.2/\x.2.2=0) ?_ ?_;refine aj (aC (ovS s (ax MB (b* s)) ((ax MB a).length+1)) (λx=>x.2.2) (λx=>DivI (a* s) (b* s) (k+1) ((ax MB a).length+1) x.1 x.2.1 x.2.2) (jM MB ((ax MB a).length+1) (a* s),[],(ax MB a).length+1- (ax MB (b* s)).length) (by rw[hVl];exact hst) ?_ ?_);rw[ovS.eq_1];exact s_x [(1,4),(2,5),(3,6),(4,9),(5,10)] (λhs=>dJ) (λhs=>e_33) e_32;rintro⟨R,T,j1⟩ c;simp only at c;rw[ovS.eq_1];refine ae (r_z 2 ?_);refine au rfl (λh3=>?_) (λh3=>?_);have hj1:0< j1:=by have:=of_decide_eq_true h3;omega
 obtain⟨j,rfl⟩:∃j,j1=j+1:=⟨j1- 1,ω⟩;have hRl:=c.len;have hkl:=c.k_le;obtain⟨p1,p2,p3,p4,p5⟩:=c.parts hv2;have o:=c.next hv2 (M7 hb y) rfl;obtain⟨A,hA⟩:∃A,A=(R.drop j).take (k+1+1):=⟨_,rfl⟩;obtain⟨n,L⟩:∃x,x=R.take j:=⟨_,rfl⟩;obtain⟨f,M⟩:∃x,x=R.drop (j+(k+1)+1):=⟨_,rfl⟩;obtain⟨p,hp⟩:∃p,p=ofD MB (R.drop j):=⟨_,rfl⟩;have J:n.length=j:=by rw[L];simp;omega
 rw[<-hA,<-hp] at p2;rw[<-hp] at p3 o;rw[<-hA] at p4;rw[<-hA,<-L,<-M] at p5;rw[<-L,<-M] at o;have N:∀d∈A,d< MB:=λd S=>c.dig d (Hc (AG (by rw[hA] at S;exact S)));obtain⟨B,hx0⟩:∃x,A[k]?=some x:=⟨_,eT ω⟩;obtain⟨F,hx1⟩:∃x,A[k+1]?=some x:=⟨_,eT ω⟩;have hx0b:B< 1000000000:=N B (mc hx0);have hx1b:F< 1000000000:=N F (mc hx1);obtain⟨lo,hlo,hlob⟩:=J6 p4 hx0 hx1 N;rw[p2] at hlo;obtain⟨gu1,gu2⟩:=KQ (b:=MB) δ hlo hlob hvw hlw (by show 1000000000<=2* v1;omega) hv1b p3
 have hgR:∀i x,A[i]?=some x->(dE R)[0+(j+i)]?=some [u32 x]:=by
  intro i x hx;rw[vY];refine ei ?_;rw[p5,MT,D2 ω,Bg (by have:=(jY.1 hx).1;omega)];rw[show j+i- n.length=i by omega];exact hx
 have hgN:(dE R)[0+((((j+1:Nat):Int)- 1)+((ax MB (b* s)).length:Nat)).toNat]?=some [u32 F]:=by
  rw[show((((j+1:Nat):Int)- 1)+((ax MB (b* s)).length:Nat)).toNat=j+(k+1) by omega];exact hgR _ _ hx1
 have hgM:(dE R)[0+((((j+1:Nat):Int)- 1)+((ax MB (b* s)).length:Nat)- 1).toNat]?=some [u32 B]:=by
  rw[show((((j+1:Nat):Int)- 1)+((ax MB (b* s)).length:Nat)- 1).toNat=j+k by omega];exact hgR _ _ hx0
 obtain⟨g,hg⟩:∃g,g=min ((F* 1000000000+B) / v1) 999999999:=⟨_,rfl⟩;have U:g<=999999999:=by rw[hg];exact Nat.min_le_right _ _
 have hgI:(if (999999999:Int)< ((F:Int) * 1000000000+B) / (v1:Int) then(999999999:Int) else((F:Int) * 1000000000+B) / (v1:Int))=(g:Int):=by
  have e1:((F:Int) * 1000000000+B) / (v1:Int)=(((F* 1000000000+B) / v1:Nat):Int):=by
   rw[show(F:Int) * 1000000000+B=((F* 1000000000+B:Nat):Int) by omega];exact(Nq _ _).symm
  rw[e1,hg];generalize (F* 1000000000+B) / v1=Q;by_cases hQ:Q<=999999999;rw[if_neg ω,KM hQ];rw[if_pos ω,Nat.min_eq_right ω];rfl
 rw[show MB- 1=999999999 from rfl,<-hg] at gu1 gu2;refine an (ae (aj (ae (r_d ba 18 ?_))));refine a_5 ?_;refine bZ (.load_l1 rfl rfl hgN TG.h rfl) rfl rfl ?_;refine a_8 ?_;refine bZ (.load_l1 rfl rfl hgM TG.h rfl) rfl rfl ?_;refine a_3 ?_;refine aq (n_k ?_);refine s_r 10 ?_;refine a_4 ?_;refine i_x hv1' ?_;refine l_1 hv1' ?_;refine a_z ?_;refine s_r 12 ?_;refine a_8 ?_;refine a_2 ?_;refine o_0 (.sl_lhm rfl rfl (l:=j) ω rfl (h:=j+(k+1)+1) ω rfl (m:=j+(k+1)+1) ω ω te_36.h) ?_;refine a_z ?_
 refine AWp.ent (st':=⟨[(4,.lptr 1 0 0),(5,.lptr 2 0 0),(6,.lptr 3 0 0),(7,.arr (dE (ax MB (b* s)))),(8,i64 (ax MB (b* s)).length),(9,.lsl 4 0 ((ax MB a).length+1) (some ((ax MB a).length+1)) 1),(10,.lsl 5 0 ((ax MB a).length+1- (ax MB (b* s)).length) (some ((ax MB a).length+1- (ax MB (b* s)).length)) 1),(11,i64 (((j+1:Nat):Int)- 1)),(13,u64 g),(14,.lsl 4 j (k+1+1) (some (k+1+1)) 1)],
  [(1,some ⟨38,1,[[.emp]]⟩),(2,some ⟨38,1,[[.emp]]⟩),(3,some ⟨38,1,[[mag s]]⟩),(4,some ⟨260,1,dE (n++A++f)⟩),(5,some ⟨260,1,dE (List.replicate (j+1) 0++T)⟩)],6,142⟩) ?_ ?_
 refine s_x [] (λhs=>?_) (λhs=>?_) ?_
 ·repeat' (first|exact aV|refine aA rfl ?_ ?_|exact Cv.loE hs (congrArg (λz=>AV.v (.int .u64 z)) hgI) (ah _)|exact aZ)
 ·repeat' (first|exact aF|refine h_c ?_ ?_|exact aM hs (congrArg dE p5) (cf _)|exact bG|refine aB ?_|exact av|refine ai ?_ ?_|exact Cv.loE hs (congrArg (λz=>AV.v (.int .u64 z)) hgI) (ah _)|exact aZ)
 ·repeat' (first|exact ShrL.nil|refine ShrL.cons rfl rfl rfl rfl (by first|(simp[<-p5])|rfl|(simp;done)|(simp <;> omega)) ?_)
 have hV:=bO (b:=MB) δ (b* s);have hVd:=er (b:=MB) δ (b* s)
 have E:∀D q,D+g* (b* s)=p+MB^ (k+1+1) * q->D< MB^ (k+1+1)->q<=1->ESpec Tryz.prog 244 260 1 (dE (n++A++f)) (dE (n++jM MB (k+1+1) D++f)) j (k+1+1) (some (k+1+1)) [.arr (dE (ax MB (b* s))),u64 g] (.bool (q !=0)):=by
  intro D q u h2 h3;have:=CR n A f (ax MB (b* s)) g D q (some (k+1+1)) N hVd (G9 U δ) ω ω h3 (by rw[hV,p2,p4];exact u) (by rw[p4];exact h2);rw[J,p4] at this;exact this
 have t:∀D D' q,D'+MB^ (k+1+1) * q=D+b* s->D< MB^ (k+1+1)->D'< MB^ (k+1+1)->q<=1->ESpec Tryz.prog 245 260 1 (dE (n++jM MB (k+1+1) D++f)) (dE (n++jM MB (k+1+1) D'++f)) j (k+1+1) (some (k+1+1)) [.arr (dE (ax MB (b* s)))] (.bool (q !=0)):=by
  intro D D' q u h2 h3 h4;have:=CS n (jM MB (k+1+1) D) f (ax MB (b* s)) D' q (some (k+1+1)) (uE δ _ _) hVd χ χ h4 (by rw[hV,lb,qz δ h2];exact u) (by rw[lb];exact h3);rw[J,lb] at this;exact this
 have O:0< b* s:=M7 hb y;have m1:=MW p (b* s);have m2:=EC p O
 have hBv:MB* (b* s)< MB^ (k+1+1):=by
  rw[D7 MB (k+1),Eg MB];exact Od hv2 δ
 have hgv:g* (b* s)<=MB* (b* s):=mC _ (fo U δ);obtain⟨W,hW⟩:∃W,W=MB^ (k+1+1):=⟨_,rfl⟩;simp only[<-hW] at E t hBv
 have hvW:b* s< W:=by
  have:1* (b* s)<=MB* (b* s):=mC _ δ;omega
 refine bD (λ_:Unit=>⟨[(4,.lptr 1 0 0),(5,.lptr 2 0 0),(6,.lptr 3 0 0),(7,.arr (dE (ax MB (b* s)))),(8,i64 (ax MB (b* s)).length),(9,.lsl 4 0 ((ax MB a).length+1) (some ((ax MB a).length+1)) 1),(10,.lsl 5 0 ((ax MB a).length+1- (ax MB (b* s)).length) (some ((ax MB a).length+1- (ax MB (b* s)).length)) 1),(11,i64 (((j+1:Nat):Int)- 1)),(13,u64 (p/ (b* s):Nat))],
  [(1,some ⟨38,1,[[.emp]]⟩),(2,some ⟨38,1,[[.emp]]⟩),(3,some ⟨38,1,[[mag s]]⟩),(4,some ⟨260,1,dE (n++jM MB (k+1+1) (p % (b* s))++f)⟩),(5,some ⟨260,1,dE (List.replicate (j+1) 0++T)⟩)],6,142⟩) (λ_=>True) ?_ ?_
 by_cases hc:g* (b* s)<=p;have hgq:g=p/ (b* s):=OB ((OD O).2 hc) gu1;have e1:p % (b* s)+g* (b* s)=p+W* 0:=by rw[hgq,Eg (p/ (b* s))];omega
 have hs1:=E (p % (b* s)) 0 e1 ω ω;refine s_r 4 ?_;refine a_3 ?_;refine o_1 (.callE2 rfl rfl rfl rfl rfl rfl (hs1)) ?_;refine aq ?_;refine cF (an ⟨(),trivial,?_⟩);have hgI2:u64 g=u64 (p/ (b* s):Nat):=by rw[<-hgq]
 exact s_f [];have hc1:p< g* (b* s):=ω
 have e1:(p+W- g* (b* s))+g* (b* s)=p+W* 1:=ω
 have hs1:=E (p+W- g* (b* s)) 1 e1 ω ω
 have hgt:p/ (b* s)< g:=by
  rw[DB O];exact hc1
 refine s_r 4 ?_;refine a_3 ?_;refine o_1 (.callE2 rfl rfl rfl rfl rfl rfl (hs1)) ?_;refine aq ?_;refine au rfl (λh4=>?_) (λh4=>?_);refine r_z 1 ?_;refine aj ?_
 refine aC (ovM s (ax MB (b* s)) ((ax MB a).length+1) T n f j (k+1+1)) (λx=>if x.2.2 then 0 else x.2.1+1)
  (λx=>(x.2.2=true/\x.2.1=p/ (b* s)/\x.1=jM MB (k+1+1) (p % (b* s)))\/(x.2.2=false/\p/ (b* s)< x.2.1/\x.2.1<=999999999/\∃D,x.1=jM MB (k+1+1) D/\D+x.2.1* (b* s)=p+W/\D< W))
  (jM MB (k+1+1) (p+W- g* (b* s)),g,false) (.inr ⟨rfl,hgt,U,_,rfl,by simp only;omega,ω⟩) ?_ ?_
 rw[ovM.eq_1];exact s_e [];rintro⟨A',w,Y⟩ hin;rw[ovM.eq_1];refine ae (r_z 2 ?_);refine au rfl (λh5=>?_) (λh5=>?_);have hm:Y=false:=by simpa using h5
 subst hm;rcases hin with⟨V,_⟩|⟨_,V,h7,D,h8,h9,h10⟩
 cases V;simp only at V h7 h8 h9;subst h8;have hg0:1<=w:=G9 (mN _) V;refine an ?_;have hI:(w:Int)- 1=((w- 1:Nat):Int):=ω
 have hq1:b* s* (p/ (b* s))=p- p % (b* s):=ω
 by_cases hlast:w=p/ (b* s)+1
 have e2:p % (b* s)+W* 1=D+b* s:=by
  rw[hlast,zu,Kk,Eg (p/ (b* s))] at h9;omega
 have hg1:=t D (p % (b* s)) 1 e2 h10 ω ω;refine ae (aj (r_m 4 ?_));refine a_2 ?_;refine o_1 (.callE2 rfl rfl rfl rfl rfl rfl (hg1)) ?_;refine a_z ?_;refine r_m 3 ?_;refine a_z ?_;refine⟨(jM MB (k+1+1) (p % (b* s)),w- 1,true),ψ,.inl ⟨rfl,by simp only;omega,rfl⟩,?_⟩;rw[ovM.eq_1];have:=(congrArg (λz=>AV.v (.int .u64 z)) hI);exact s_f [];have K:p/ (b* s)< w- 1:=ω
 have h11:(w- 1) * (b* s)+b* s=w* (b* s):=by
  conv=>rhs;rw[show w=(w- 1)+1 by omega,zu,Kk]
 have h12:p< (w- 1) * (b* s):=by
  rw[DB O] at K;exact K
 have hg1:=t D (D+b* s) 0 ω h10 ω ω;refine ae (aj (r_m 4 ?_));refine a_2 ?_;refine o_1 (.callE2 rfl rfl rfl rfl rfl rfl (hg1)) ?_;refine a_z ?_;refine r_m 3 ?_;refine a_z ?_;refine⟨(jM MB (k+1+1) (D+b* s),w- 1,false),χ,.inr ⟨rfl,K,by simp only;omega,_,rfl,by simp only;omega,ω⟩,?_⟩;rw[ovM.eq_1];have:=(congrArg (λz=>AV.v (.int .u64 z)) hI);exact s_f [];have hm:Y=true:=by simpa using h5
 subst hm;rcases hin with⟨_,V,h7⟩|⟨V,_⟩
 simp only at V h7;subst V h7;refine ay ⟨(),trivial,?_⟩;exact s_e [];cases V;cases h4;rintro _ _;have hq9:p/ (b* s)<=999999999:=fo gu1 U;obtain⟨q,hq⟩:∃q,q=p/ (b* s):=⟨_,rfl⟩;rw[<-hq] at hq9 o⊢;have Z:List.replicate (j+1) 0++T=List.replicate j 0++0::T:=by rw[OL];simp
 have hgT:(dE (List.replicate (j+1) 0++T))[0+(((j+1:Nat):Int)- 1).toNat]?=some [u32 0]:=by
  rw[show 0+(((j+1:Nat):Int)- 1).toNat=j by omega,Z];exact ei (qS _ _ _ _ ψ)
 have G:(dE (List.replicate (j+1) 0++T)).set (0+(((j+1:Nat):Int)- 1).toNat) [u32 q]=dE (List.replicate j 0++(q::T)):=by
  rw[show 0+(((j+1:Nat):Int)- 1).toNat=j by omega,iT,Z,qg _ _ _ _ _ ψ];simp
 refine r_m 6 ?_;refine a_5 ?_;refine eK (.store rfl rfl hgT rfl rfl rfl TS.h (nle rfl)) ?_;refine aq ?_;refine r_m 3 ?_;refine a_z ?_;refine⟨(n++jM MB (k+1+1) (p % (b* s))++f,q::T,j),by simp only;omega,o,?_⟩;rw[ovS.eq_1];refine s_x [] (λhs=>dJ) (λhs=>?_) ?_
 ·repeat' (first|exact aF|refine h_c ?_ ?_|exact aM hs G (cf _)|exact bG)
 ·repeat' (first|exact ShrL.nil|refine ShrL.cons rfl rfl rfl rfl (by first|(exact(congrArg List.length G))|rfl|(simp;done)|(simp <;> omega)) ?_)
 have hj:j1=0:=by have:=of_decide_eq_false h3;omega
 subst hj;refine ay ⟨(R,T,0),⟨c,rfl⟩,?_⟩;rw[ovS.eq_1];exact s_e [];rintro⟨R,T,j1⟩ ⟨c,hj⟩;simp only at c hj;subst hj;obtain⟨hq,hr⟩:=c.last rfl rfl hb y;rw[ovS.eq_1]
 refine AWp.ent (st':=⟨[(4,.lptr 1 0 0),(5,.lptr 2 0 0),(6,.lptr 3 0 0),(9,.arr (dE R)),(10,.arr (dE T))],
  [(1,some ⟨38,1,[[.emp]]⟩),(2,some ⟨38,1,[[.emp]]⟩),(3,some ⟨38,1,[[mag s]]⟩)],4,142⟩) ?_ ?_
 have hlen:=c.len;have hkl:=c.k_le;exact s_x [] (λhs=>e_34) (λhs=>e_35);have hRl:=c.len;have hkl:=c.k_le
 have hRt:FS 196 [.arr (dE R)] (.agg [mag (ofD MB R)]):=by
  have:=jn R ω;rwa[kH (b:=MB) δ c.dig] at this
 have hTt:FS 196 [.arr (dE T)] (.agg [mag (ofD MB T)]):=by
  have:=jn T ω;rwa[kH (b:=MB) δ c.digT] at this
 have hblr:bl (ofD MB R)<=bl b+30:=by
  have u:=c.top;rw[sr] at u;have h2:=dQ (Ns u);omega
 have hov:=hrec hl2 (ofD MB R) s ω ω hblr;rw[hr] at hov;refine ae (r_d ba 11 ?_);refine c_s (hRt) ?_;refine c_s (hov) ?_;refine a_7 ?_;refine aq (n_k ?_);refine ae (r_d ba 5 ?_);refine c_s (hTt) ?_;refine a_3 ?_;refine aq (n_k ?_);refine ak (Fin.many ⟨_,_,rfl,⟨_,_,_,_,_,rfl,rfl,rfl,.inl ⟨TG.h,_,TS.h,nle rfl,rfl⟩⟩,_,_,rfl,⟨_,_,_,_,_,rfl,rfl,rfl,.inl ⟨TG.h,_,TS.h,nle rfl,rfl⟩⟩,rfl⟩ (nle rfl) ?_);rw[<-hq];exact ai (ao aE (aD (ac (cz _) af))) (ai (ao aE (aD (ac (cz _) af))) av)
theorem len1{b:Nat}(hb:b< 1000000000):(ax MB b).length<=1:=gw δ (by simpa using hb)
theorem uP(a b:Nat)(h:bl a+bl b<=4398046511104)(hb:0< b):FS 194 [.agg [mag a],.agg [mag b]] (.tup [.agg [mag (a/ b)],.agg [mag (a % b)]]):=
 BO a b ω hb λ_ r s hs c e=>BO r s (by have:=fx (n:=s) (k:=30) ω;omega) hs λd=>absurd d (by have:=len1 c;omega)
def pe(l:Ln)(k:Nat):Option La:=if k< l.length then some [i64 ((l.length- 1- k:Nat):Int),u32 (l.getD (l.length- 1- k) 0)] else none
theorem o8(l:Ln)(hl:l.length<=281474976710656):GSpec Tryz.prog 256 [.aptr [[.arr (dE l)]] 0 0] (pe l):=by
 have d:Closed (.aptr [[.arr (dE l)]] 0 0):=lj (λe g c i=>by simp at g;subst g;simp at i;subst i;exact dr l);refine GSpec.enter Tryz.func256 rfl ξ rfl rfl rfl ?_ ?_ rfl ?_;exact ac d af;intro k xs h;unfold pe at h;split at h;cases h;exact ac (ah _) (ac (ah _) af);cases h;intro b N E;refine GWp.seq ?_;refine GWp.lift ?_;refine r_m 4 ?_;refine a_z ?_;refine GWp.block ?_;refine GWp.loopS (λm:Nat=>⟨[(0,.v (.func (.yield b) #[] #[])),(1,.aptr [[.arr (dE l)]] 0 0),(3,i64 ((m:Int)- 1))],[],1,19⟩) (λm=>l.length- m) (λm=>m) (λm=>m<=l.length) l.length (ir _) ψ ?_ ?_;exact s_e [];intro m o;refine GWp.seq ?_;refine GWp.seq ?_;refine GWp.lift ?_;refine r_m 2 ?_;refine a_z ?_;refine GWp.cond rfl (λh=>?_) (λh=>?_)
 ·refine GWp.skip ?_
  have j:1<=m:=by have:=of_decide_eq_true h;omega
  obtain⟨x,f⟩:∃x,l[m- 1]?=some x:=⟨_,eT ω⟩;have a:(dE l)[((m:Int)- 1).toNat]?=some [u32 x]:=by rw[show((m:Int)- 1).toNat=m- 1 by omega];exact ei f
  refine GWp.seq ?_;refine GWp.block ?_;refine GWp.seq ?_;refine GWp.regY (fr2:=[(0,.v (.func (.yield b) #[] #[])),(1,.aptr [[.arr (dE l)]] 0 0),(3,i64 ((m:Int)- 1)),(11,.v (.func (.yield b) #[] #[])),(12,i64 ((m:Int)- 1)),(16,u32 x)]) (hp2:=[]) (nx2:=1) 6 rfl rfl rfl rfl rfl rfl ?_ rfl rfl rfl ?_ ?_ ?_;refine o_0 (.move rfl) ?_;refine o_0 (.move rfl) ?_;refine bZ (.load_a1 rfl rfl TG.h rfl) rfl rfl ?_;refine o_0 (.move rfl) ?_;refine i_x a ?_;refine l_1 a ?_;refine aq ?_;exact s_y [] (λhs=>dJ) (λhs=>lG);rotate_left 2;intro n;refine o_0 (.un rfl nq) ?_;refine aq ?_;rotate_left;unfold pe;rw[if_pos ω];simp only[zo,Nm,coe,i64,u32,Option.some.injEq,List.cons.injEq,AV.v.injEq,Value.int.injEq,true_and,and_true];refine⟨ω,?_⟩;rw[show l.length- 1- (l.length- m)=m- 1 by omega,jH,f];rfl;exact ac (ah _) (ac (ah _) af);cases n with
  |false=>
   refine GWp.cond rfl (λh=>?_) (λh=>?_);exact GWp.ret ⟨.inr rfl,λh=>by cases h⟩;cases h
  |true=>
   refine GWp.cond rfl (λh=>?_) (λh=>?_);cases h;refine GWp.skip ?_;refine GWp.lift ?_;refine r_m 3 ?_;refine a_z ?_;refine⟨rfl,m- 1,ω,ω,ω,?_⟩;exact s_e []
 refine GWp.exit ⟨.inl rfl,λ_=>?_⟩;have:m=0:=by have:=of_decide_eq_false h;omega
 subst this;unfold pe;rw[if_neg ω]
theorem pa(l:Ln):FS 209 [.arr (dE l)] (.clos 256 [] [.aptr [[.arr (dE l)]] 0 0]):=by
 refine f_n Tryz.func209 ?_ ?_;exact ac (dr l) af;refine r_z 2 ?_;refine r_z 2 ?_;refine ak (⟨.inr rfl,[_],⟨_,[],rfl,rfl,rfl⟩,?_⟩);exact Cv.clos av (ai (Cv.sealp aE rfl (λ_ _ h=>by cases h) ψ (aB (ai (ao aE (dr l)) av))) av)
def wordS(n:Nat):Nat->AState
 |k=>⟨[(3,.lptr 1 0 0),(8,.clos 256 [] [.aptr [[.arr (dE (ax MB n))]] 0 0])],[(1,some ⟨246,1,[[u64 (ofD MB ((ax MB n).drop ((ax MB n).length- k)))]]⟩)],2,17⟩
theorem GX(n:Nat)(h:(ax MB n).length<=2):FS 242 [.agg [mag n]] (u64 n):=by
 have hb:=pa (ax MB n);have t:=o8 (ax MB n) ω;have f:Closed (.aptr [[.arr (dE (ax MB n))]] 0 0):=lj (λe p c q=>by simp at p;subst p;simp at q;subst q;exact dr _);have m:Closed (.clos 256 [] [.aptr [[.arr (dE (ax MB n))]] 0 0]):=aX af (ac f af);refine f_c Tryz.func242 ?_;refine r_z 2 ?_;refine r_z 2 ?_;refine ae (r_c 3 (hb) ?_);refine aq ?_;refine aJ (λ_:Unit=>⟨[(3,.lptr 1 0 0)],[(1,some ⟨246,1,[[u64 n]]⟩)],2,17⟩) (λ_=>True) ?_ ?_;refine aj (AWp.rangeFunc (α:=Nat) (γ:=Empty) (ax MB n).length (wordS n) (λk=>k) (λk=>k<=(ax MB n).length) (λe=>nomatch e) (λ_ e=>nomatch e) 0 rfl t rfl rfl ?_ (λ_=>⟨rfl,rfl⟩) (λe=>nomatch e) (mN _) rfl (λ_ h=>h) ?_ ?_ ?_ ?_ (λ_ e=>nomatch e));intro k xs a;unfold pe at a;split at a;cases a;rfl;cases a;rw[wordS.eq_1];have y:AV.v (.int .u64 0)=u64 ((ofD MB ((ax MB n).drop ((ax MB n).length- 0)):Nat):Int):=by simp[ofD,u64]
 exact s_t [(1,3)];exact ac f af
 ·intro l k xs u a
  unfold pe at a;split at a;rotate_left;cases a;rename_i hlt;cases a;obtain⟨x,j⟩:∃x,(ax MB n)[(ax MB n).length- 1- k]?=some x:=⟨_,eT ω⟩;have w:x< 1000000000:=da δ j;have i:(ax MB n).getD ((ax MB n).length- 1- k) 0=x:=by rw[jH,j];rfl
  rw[i];have hv:=lS MB j;rw[show(ax MB n).length- 1- k+1=(ax MB n).length- k by omega] at hv
  have o:ofD MB ((ax MB n).drop ((ax MB n).length- k))< 1000000000:=by
   have g:=gi (b:=MB) (l:=(ax MB n).drop ((ax MB n).length- k)) λd r=>er δ n d (Hc r);have s:((ax MB n).drop ((ax MB n).length- k)).length<=1:=χ
   exact ns g (vi δ s)
  show AWp _ _ _ _ ⟨[(10,u32 x),(9,i64 ((ax MB n).length- 1- k:Nat)),(3,.lptr 1 0 0),(8,.clos 256 [] [.aptr [[.arr (dE (ax MB n))]] 0 0]),(1003,.lptr 1 0 0),(1008,.clos 256 [] [.aptr [[.arr (dE (ax MB n))]] 0 0])],[(1,some ⟨246,1,[[u64 (ofD MB ((ax MB n).drop ((ax MB n).length- k)))]]⟩)],2,17⟩;refine r_m 1 ?_;refine a_z ?_;refine aj (r_m 6 ?_);refine a_z ?_;refine⟨k+1,⟨ω,rfl⟩,?_⟩;show SEntT _ ⟨[(1003,.lptr 1 0 0),(1008,.clos 256 [] [.aptr [[.arr (dE (ax MB n))]] 0 0])],[(1,some ⟨246,1,[[u64 (ofD MB ((ax MB n).drop ((ax MB n).length- (k+1))))]]⟩)],2,17⟩
  have g:AV.v (.int .u64 ((ofD MB ((ax MB n).drop ((ax MB n).length- k)):Nat) * 1000000000+(x:Int)))=u64 ((ofD MB ((ax MB n).drop ((ax MB n).length- (k+1))):Nat):Int):=by
   rw[show(ax MB n).length- (k+1)=(ax MB n).length- 1- k by omega,hv];simp[u64];omega
  exact s_t []
 intro k u a;unfold pe at a;split at a;cases a;refine⟨(),trivial,?_⟩;rw[wordS.eq_1]
 have g:ofD MB ((ax MB n).drop ((ax MB n).length- k))=n:=by
  rw[show(ax MB n).length- k=0 by omega,sr,bO δ]
 rw[g];exact s_e [];rintro _ _;refine r_z 2 ?_;refine ak (a7 rfl rfl (ah _))
def AT:Nat×Nat->AState
 |(p,q)=>⟨[(2,.lptr 1 0 0),(3,.lptr 2 0 0),(4,.lptr 3 0 0)],[(1,some ⟨38,1,[[mag p]]⟩),(2,some ⟨38,1,[[mag q]]⟩),(3,some ⟨38,1,[[.emp]]⟩)],4,43⟩
theorem kZ(p:Nat)(q:Nat):AT (p,q)=⟨[(2,.lptr 1 0 0),(3,.lptr 2 0 0),(4,.lptr 3 0 0)],[(1,some ⟨38,1,[[mag p]]⟩),(2,some ⟨38,1,[[mag q]]⟩),(3,some ⟨38,1,[[.emp]]⟩)],4,43⟩:=rfl
def I7:Nat×Nat->AState
 |(x,y)=>⟨[(4,.lptr 3 0 0),(5,u64 x),(6,u64 y)],[(3,some ⟨38,1,[[.emp]]⟩)],4,43⟩
theorem r6(x:Nat)(y:Nat):I7 (x,y)=⟨[(4,.lptr 3 0 0),(5,u64 x),(6,u64 y)],[(3,some ⟨38,1,[[.emp]]⟩)],4,43⟩:=rfl
theorem Ci(p q:Nat):Nat.gcd q (p % q)=Nat.gcd p q:=by
 rw[Oe p q,Pr q p,Oe]
theorem FQ{n:Nat}(h:(ax MB n).length<=2):n< 1000000000000000000:=by
 have a:=gi (b:=MB) (er δ n);rw[bO δ] at a;exact ns a (vi δ h)
theorem Io(a b:Nat)(h:bl a+bl b<=4398046511104):FS 192 [.agg [mag a],.agg [mag b]] (.agg [mag (Nat.gcd a b)]):=by
 refine f_c Tryz.func192 ?_;refine r_z 3 ?_;refine bD AT (λx=>x.1=Nat.gcd a b) ?_ ?_;refine aj (aC AT (λx=>x.2) (λx=>Nat.gcd x.1 x.2=Nat.gcd a b/\bl x.1+bl x.2<=4398046511104) (a,b) ⟨rfl,h⟩ ?_ ?_);rw[kZ];exact s_e [];rintro⟨p,q⟩ ⟨g,hb⟩;simp only at g hb;rw[kZ];have s:=GW (ax MB q);refine ae (r_c 3 (s) ?_);refine a_z ?_;refine au rfl (λj=>?_) (λj=>?_)
 have i:0< q:=by
  rcases zW q with e|e
  subst e;rw[c8] at j;simp at j;exact e
 refine an (aj (bD (λ_:Unit=>⟨[(2,.lptr 1 0 0),(3,.lptr 2 0 0),(4,.lptr 3 0 0)],[(1,some ⟨38,1,[[mag p]]⟩),(2,some ⟨38,1,[[mag q]]⟩),(3,some ⟨38,1,[[.emp]]⟩)],4,43⟩) (λ_=>True) ?_ ?_));by_cases hl:(ax MB p).length<=2;by_cases hl2:(ax MB q).length<=2;have o:=FQ hl;have m:=FQ hl2;refine s_r 10 ?_;refine a_5 ?_;refine y_g rfl χ (.fieldAddr_l rfl TF.h δ) ?_;refine y_g rfl χ (.load_l1 rfl rfl rfl TG.h rfl) ?_;refine y_g rfl χ (.lenD rfl rfl rfl rfl te_36.h) ?_;refine y_g rfl χ (.bin rfl rfl iX) ?_;refine o_0 (.pickT rfl χ rfl) ?_;refine aq ?_;refine au rfl (λl=>?_) (λl=>?_);refine ae (r_d ba 6 ?_);refine c_s (GX p hl) ?_;refine c_s (GX q hl2) ?_;refine a_2 ?_;refine aq (n_k ?_);refine bD (λx:Nat=>⟨[(4,.lptr 3 0 0),(5,u64 x)],[(3,some ⟨38,1,[[.emp]]⟩)],4,43⟩) (λx=>x=Nat.gcd a b) ?_ ?_;refine aj (aC I7 (λx=>x.2) (λx=>Nat.gcd x.1 x.2=Nat.gcd a b/\x.1< 1000000000000000000/\x.2< 1000000000000000000) (p,q) ⟨g,o,m⟩ ?_ ?_);rw[r6];exact s_e [];rintro⟨x,y⟩ ⟨d,t,n⟩;simp only at d t n;rw[r6];refine ae (r_z 2 ?_);refine au rfl (λk=>?_) (λk=>?_);have c:0< y:=by simp at k;omega
 refine an (aj (r_d ba 6 ?_));refine a_6 ?_;refine aq (n_k ?_);refine⟨(y,x % y),EC _ c,⟨(Ci x y).trans d,n,Nat.lt_trans (EC _ c) n⟩,?_⟩;rw[r6];exact s_e [];have c:y=0:=by simp at k;omega
 subst c;refine ay ⟨x,by simpa using d,?_⟩;exact s_e [];rintro x rfl
 have f:Nat.gcd a b< 18446744073709551616:=by
  rw[<-g];have l:Nat.gcd p q<=q:=NY _ i;omega
 refine r_c 3 (gY _ f) ?_;refine a_z ?_;exact ak (ed rfl rfl rfl TG.h TS.h (nle rfl) rfl (aD (ac (cz _) af)));exact absurd l χ;refine s_r 10 ?_;refine a_5 ?_;refine y_g rfl χ (.fieldAddr_l rfl TF.h δ) ?_;refine y_g rfl χ (.load_l1 rfl rfl rfl TG.h rfl) ?_;refine y_g rfl χ (.lenD rfl rfl rfl rfl te_36.h) ?_;refine y_g rfl χ (.bin rfl rfl iX) ?_;refine o_0 (.pickT rfl χ rfl) ?_;refine aq ?_;refine au rfl (λh=>?_) (λ_=>an ⟨(),trivial,?_⟩);exact absurd h χ;exact s_e [];refine s_r 10 ?_;refine a_5 ?_;refine n_g rfl χ ?_;refine n_g rfl χ ?_;refine n_g rfl χ ?_;refine n_g rfl χ ?_;refine o_0 (.pickF rfl χ rfl) ?_;refine aq ?_;refine au rfl (λh=>?_) (λ_=>an ⟨(),trivial,?_⟩);cases h;exact s_e [];rintro _ _;refine r_c 10 (uP p q hb i) ?_;refine a_z ?_;refine r_d ba 4 ?_;refine a_4 ?_;refine aq (n_k ?_);refine⟨(q,p % q),EC _ i,⟨(Ci p q).trans g,?_⟩,?_⟩;have:=dQ (Nat.mod_le p q);simp only;omega;rw[kZ];exact s_e []
 have i:q=0:=by
  rcases zW q with e|e
  exact e
  have:(ax MB q).length≠0:=λr=>by
   rw[vv] at r;have:=(jR (b:=MB) δ).1 r;omega
  simp[this] at j
 subst i;refine ay ⟨(p,0),?_,?_⟩;simpa using g;rw[kZ];exact s_e [];rintro⟨p,q⟩ hp;simp only at hp;subst hp;rw[kZ];refine r_z 2 ?_;refine ak (ed rfl rfl rfl TG.h TS.h (nle rfl) rfl (aD (ac (cz _) af)))
end Go.Proofs.YtjmkjicckobojaaGreatDoor
