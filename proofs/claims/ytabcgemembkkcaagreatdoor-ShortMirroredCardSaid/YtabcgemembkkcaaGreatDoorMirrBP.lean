/- Lemmas. -/
import Derived.Test.YtabcgemembkkcaaGreatDoorMirrBN
import Derived.Test.YtabcgemembkkcaaGreatDoorMirrBO
import Derived.Test.YtabcgemembkkcaaGreatDoorMirrAN
import Derived.Test.YtabcgemembkkcaaGreatDoorMirrBK
set_option linter.all false
set_option maxHeartbeats 4000000
set_option maxRecDepth 100000
open Go.Proofs.Tryz
open Option renaming none->qa,some->qf
open Decidable renaming decide->qb
open Bool renaming false->qc,true->qn
open Go.Proofs.Tryz renaming prog->qd
open Go renaming RowKit.Below.refl->qe,bodyPost_ret->qg,World->qh,Addr->qj,Calls->qk,World.ownsRow_nil->ql,World.size_alloc->qm
open Go.RowKit renaming Below->qi,Hid->qo
namespace Go.Proofs.YtabcgemembkkcaaGreatDoor
variable{p x:Int}{d n c m g N k:Nat}{w w':qh}{b:Bool}{X Y:Option qj}{t:TypeId}{cs:List Value}
namespace Rtp
open Go Go.RowKit R5 Scn Sh
theorem low_num(hd:0<d):lp p d=(mkRat p d).num/\ld p d=(mkRat p d).den:=by refine q31 hd (mkRat p d).den_pos (mkRat p d).reduced ?_;exact(Rat.mkRat_eq_iff (mkRat p d).den_nz (by omega)).1 (Rat.mkRat_self _)
theorem q9S(p:Int):sg (qb (p<0)) p.natAbs=p:=by
 unfold sg;split
 ·rename_i h;have:=k1j h;omega
 ·rename_i h;have:¬p<0:=fun k=>h (k03 k)
  omega
structure RQ(w:qh)(b:Bool)(X:Option qj)(n c:Nat)(Y:Option qj)(m d:Nat)(q:Rat):Prop where
 s:b=qb (q.num<0)
 x:Rd w X n c (toL q.num.natAbs)
 y:Rd w Y m d (toL q.den)
def RqP(q:Rat)(w:qh)(e:Ending)(w':qh):Prop:=
 ∃b X n Y m,e=.returned (.tuple #[q0i b X n n Y m m,.int .i64 0])/\RQ w' b X n n Y m m q/\qi w.heap.size w w'
theorem RQ.below{q:Rat}(h:RQ w b X n c Y m d q)(hb:qi w.heap.size w w'):RQ w' b X n c Y m d q:=⟨h.s,h.x.below hb rfl,h.y.below hb rfl⟩
theorem RQ.else_{q:Rat}(h:RQ w b X n c Y m d q)(hb:Blk w g t cs)(hcs:cs.all (fun v=>match v with|.int _ _=>qc|_=>qn)=qn)(hg:w.grownBy w' (qf g)):RQ w' b X n c Y m d q:=⟨h.s,h.x.else_ hb hcs hg,h.y.else_ hb hcs hg⟩
theorem RQ.apart_{q:Rat}(h:RQ w b X n c Y m d q)(hb:Blk w g t cs)(hcs:cs.all (fun v=>match v with|.int .u32 _=>qc|_=>qn)=qn)(hg:w.grownBy w' (qf g)):RQ w' b X n c Y m d q:=⟨h.s,h.x.apart_ hb hcs hg,h.y.apart_ hb hcs hg⟩
theorem RQ.drew{q:Rat}(h:RQ w b X n c Y m d q):RQ w.drew b X n c Y m d q:=⟨h.s,h.x.drew,h.y.drew⟩
theorem rd_le{A:Option qj}(h:Rd w A n c (toL N))(hb:bl N<=32*k):n<=k:=h.bound (by rw[q1q];exact k02 (q0J N) (k04 (by decide) hb))
theorem RQ.n_le{q:Rat}(h:RQ w b X n c Y m d q)(hs:Qb 524288 q):n<=16384/\m<=16384:=⟨rd_le h.x (by have:=hs.1;omega),rd_le h.y (by have:=hs.2;omega)⟩
theorem qbW.q{D:Nat}{e:Ending}(hD:0<D)(h:qbW p D w e w'):RqP (mkRat p D) w e w':=by
 obtain⟨X,n,Y,m,rfl,a,b,d⟩:=h;obtain⟨c,f⟩:=low_num (p:=p) hD;have g:qb (p<0)=qb ((mkRat p D).num<0):=by rw[<- c];exact k2w.2 (q2B hD).symm
 rw[c] at a;rw[f] at b;exact⟨_,X,n,Y,m,rfl,⟨g,a,b⟩,d⟩
theorem q4n(q:Rat)(b:Bool)(X:Option qj)(n c:Nat)(Y:Option qj)(m d:Nat)(w:qh)(h:RQ w b X n c Y m d q)(hs:Qb 524288 q)(hst:Std w):qk qd 109 #[q0i b X n c Y m d] w fun e w'=>∃g,e=.returned (.tuple #[.pointer (qf ⟨g,0,qa⟩),.int .i64 0])/\w.heap.size<=g/\RatAt w' g q.num q.den/\qi w.heap.size w w':=by obtain⟨a,f⟩:=h.n_le hs;have k:=q9L (qb (q.num<0)) X n c Y m d q.num.natAbs q.den w h.x h.y a f q.den_pos q.reduced (fun e=>by have:=k1j e;omega) hst;rw[q9S,<- h.s] at k;exact k
theorem qb1(g:Nat)(p:Int)(d:Nat)(w:qh)(h:RatAt w g p d)(hs:Qb 524288 (mkRat p d)):qk qd 121 #[.pointer (qf ⟨g,0,qa⟩)] w (RqP (mkRat p d) w):=by obtain⟨a,b⟩:=low_num (p:=p) h.pos;refine(qb2 g p d w h (by rw[a];exact hs.1) (by rw[b];exact hs.2)).mono fun e w' k=>qbW.q h.pos k
theorem qc3(q:Rat)(b:Bool)(X:Option qj)(n c:Nat)(Y:Option qj)(m d:Nat)(w:qh)(h:RQ w b X n c Y m d q)(hs:Qb 524288 q)(hst:Std w):qk qd 43 #[q0i b X n c Y m d] w fun e w'=>e=.returned (.int .i64 0)/\qi w.heap.size w w':=by obtain⟨a,f⟩:=h.n_le hs;rw[h.s];exact Check (qb (q.num<0)) X n c Y m d q.num.natAbs q.den w h.x h.y a f q.den_pos q.reduced (fun e=>by have:=k1j e;omega) hst
theorem MakeQ(neg:Bool)(X:Option qj)(n c:Nat)(Y:Option qj)(m d N D:Nat)(w:qh)(hX:Rd w X n c (toL N))(hY:Rd w Y m d (toL D))(hn:n<=16384)(hm:m<=16384)(hD:0<D)(hst:Std w):qk qd 53 #[.bool neg,q0I X n c,q0I Y m d] w (RqP (mkRat (sg neg N) D) w):=(qc9 neg X n c Y m d N D w hX hY hn hm hD hst).mono fun _ _ k=>k.q hD
theorem qbP(a b:Rat):q1Z (a.num*b.den) (b.num*a.den)=q2d a b:=by unfold q1Z q2d;simp only[Rat.lt_iff]
theorem qdv(a:Rat)(na:Bool)(X:Option qj)(n c:Nat)(Y:Option qj)(m d:Nat)(b:Rat)(nb:Bool)(X':Option qj)(n' c':Nat)(Y':Option qj)(m' d':Nat)(w:qh)(ha:RQ w na X n c Y m d a)(hb:RQ w nb X' n' c' Y' m' d' b)(sa:Qb 524288 a)(sb:Qb 524288 b)(hst:Std w):qk qd 110 #[q0i na X n c Y m d,q0i nb X' n' c' Y' m' d'] w fun e w'=>e=.returned (.tuple #[.int .i64 (q2d a b),.int .i64 0])/\qi w.heap.size w w':=by
 obtain⟨u,s⟩:=yx ((w.alloc (.cells #[.bool na,.slice X n c,.slice Y m d] 39)).alloc (.cells #[.bool nb,.slice X' n' c',.slice Y' m' d'] 39));have r:Ctx w [(w.heap.size+1,39,[.bool nb,.slice X' n' c',.slice Y' m' d']),(w.heap.size,39,[.bool na,.slice X n c,.slice Y m d])] u:=by rw[s];exact((Ctx.nil w).new _ [_,_,_] rfl).new _ [_,_,_] (by simp)
 have D:=vv (q4n a na X n c Y m d u (ha.below r.low) sa (r.std hst));have E:=vv fun wr (hr:qi w.heap.size w wr)=>q4n b nb X' n' c' Y' m' d' wr (hb.below hr) sb (hst.below hr)
 have F:=vv s;have i:=vv r;have G:=vv (qbP a b);have q:qo (Sz a.num.natAbs/\Sz a.den/\Sz b.num.natAbs/\Sz b.den):=vv ⟨by have:=sa.1;unfold Sz;omega,by have:=sa.2;unfold Sz;omega,by have:=sb.1;unfold Sz;omega,by have:=sb.2;unfold Sz;omega⟩;have j:=i.o.get 1 rfl |>.cell 0;have k:=i.o.get 1 rfl |>.cell 1;have l:=i.o.get 1 rfl |>.cell 2;have al:=i.o.get 1 rfl |>.lt;simp only[List.getElem?_cons_zero,List.getElem?_cons_succ] at j k l;clear s r ha hb sa sb hst;go_enter func110,ntmps110;go_wp2_with fail;rw[<- F.o];go_wp2_with fail;refine D.o.mono ?_;rintro e J ⟨g,rfl,t,p,f⟩;have h:=vv (i.o.step f);have v:=vv p;clear t p f j k l al;have j:=h.o.get 0 rfl |>.cell 0;have k:=h.o.get 0 rfl |>.cell 1;have l:=h.o.get 0 rfl |>.cell 2;have al:=h.o.get 0 rfl |>.lt;simp only[List.getElem?_cons_zero,List.getElem?_cons_succ] at j k l;go_wp2_with fail;refine(E.o _ h.o.low).mono ?_;rintro e H ⟨I,rfl,t,p,f⟩;have x:=vv (h.o.step f);have y:=vv (v.o.below f);have z:=vv p;clear t p f j k l al;go_wp2_with fail;refine(A.CmpS g I _ _ _ _ H y.o z.o q.o.1 q.o.2.1 q.o.2.2.1 q.o.2.2.2).mono ?_;rintro e K ⟨rfl,f⟩;rw[G.o];have C:=vv (x.o.step f);clear f;go_wp2;go_ret2;exact⟨rfl,C.o.low⟩
theorem q2T(h:bl n<=524288):Sm n:=by unfold Sm;omega
theorem of_(a:Rat)(na:Bool)(X:Option qj)(n c:Nat)(Y:Option qj)(m d:Nat)(b:Rat)(nb:Bool)(X':Option qj)(n' c':Nat)(Y':Option qj)(m' d':Nat)(r:Rat){fq:FuncId}(p:Int)(D g0:Nat)(base w:qh)
  (ha:RQ w na X n c Y m d a) (hb:RQ w nb X' n' c' Y' m' d' b) (sa:Qb 524288 a) (sb:Qb 524288 b) (hB0:qi base.heap.size base w) (hg0:base.heap.size<=g0) (hsh:RatSh w g0) (hst:Std w)
  (hr:mkRat p D=r) (sr:Qb 524288 r)
  (hop:∀g1 g2 wr,RatSh wr g0->RatAt wr g1 a.num a.den->RatAt wr g2 b.num b.den->Std wr->qk qd fq #[.pointer (qf ⟨g0,0,qa⟩),.pointer (qf ⟨g1,0,qa⟩),.pointer (qf ⟨g2,0,qa⟩)] wr (q1X g0 p D wr)) (hq:fq=131\/fq=300:=by decide) :
  qk qd 129 #[q0i na X n c Y m d,q0i nb X' n' c' Y' m' d',.func (.func fq) #[.pointer (qf ⟨g0,0,qa⟩)] #[]] w (RqP r base):=by
 obtain⟨I,y⟩:=yx (((w.alloc (.cells #[.bool na,.slice X n c,.slice Y m d] 39)).alloc (.cells #[.bool nb,.slice X' n' c',.slice Y' m' d'] 39)).alloc (.cells #[.bool qc,.slice qa 0 0,.slice qa 0 0] 39));have R:Ctx base [(w.heap.size+2,39,[.bool qc,.slice qa 0 0,.slice qa 0 0]),(w.heap.size+1,39,[.bool nb,.slice X' n' c',.slice Y' m' d']),(w.heap.size,39,[.bool na,.slice X n c,.slice Y m d])] I:=by rw[y];exact((((⟨hB0,fun _ h=>by cases h⟩:Ctx base [] w)).new _ [_,_,_] rfl).new _ [_,_,_] (by simp)).new _ [_,_,_] (by simp)
 have j:qi w.heap.size w I:=by rw[y];exact(((qe _ w).alloc lr _).alloc (by simp) _).alloc (by simp;omega) _
 have HA:=vv (q4n a na X n c Y m d I (ha.below j) sa (hst.below j));have HB:=vv fun wr (hr:qi w.heap.size w wr)=>q4n b nb X' n' c' Y' m' d' wr (hb.below hr) sb (hst.below hr)
 have V:=vv hop;have O:=vv fun wr (h:RatAt wr g0 p D)=>qb1 g0 p D wr h (by rw[hr];exact sr)
 rw[hr] at O;have HL:=vv j;have HW:=vv y;have k:=vv R;have W:=vv (hsh.below j);have Z:=vv hst;have S:qo (base.heap.size<=g0/\g0<w.heap.size):=vv ⟨hg0,by obtain⟨⟨v,hv⟩,-⟩:=hsh;exact hv.lt⟩;have a7:=vv hB0.size;have l:=k.o.get 2 rfl |>.cell 0;have q:=k.o.get 2 rfl |>.cell 1;have s:=k.o.get 2 rfl |>.cell 2;have al:=k.o.get 2 rfl |>.lt;simp only[List.getElem?_cons_zero,List.getElem?_cons_succ] at l q s;clear y R ha hb sa sb hst hop hr sr j hsh hB0 hg0;rcases hq with rfl|rfl;all_goals
  go_enter func129,ntmps129;go_wp2_with fail;rw[<- HW.o];go_wp2_with fail;refine HA.o.mono ?_;rintro e w1 ⟨g1,rfl,J,g,f⟩;have i:=vv (k.o.step f);have P:=vn HL f;have a3:=vv (W.o.below f);have a8:=vv g;clear J g f l q s al;have l:=i.o.get 1 rfl |>.cell 0;have q:=i.o.get 1 rfl |>.cell 1;have s:=i.o.get 1 rfl |>.cell 2;have al:=i.o.get 1 rfl |>.lt;simp only[List.getElem?_cons_zero,List.getElem?_cons_succ] at l q s;go_wp2_with fail;refine(HB.o _ P.o).mono ?_;rintro e w2 ⟨g2,rfl,J,g,f⟩;have a9:=vv (i.o.step f);have b0:=vn P f;have a4:=vv (a3.o.below f);have b1:=vv (a8.o.below f);have b2:=vv g;clear J g f l q s al;go_wp2_with fail;refine(V.o g1 g2 _ a4.o b1.o b2.o (Z.o.below b0.o)).mono ?_;rintro e w3 ⟨rfl,g,T⟩;have b3:=vv g;have b4:=vv (a9.o.fs T (by intro p L;rw[k0i.1 L];exact S.o.1) (by intro x hx p L;rw[k0i.1 L];have:=S.o.2;simp only[k1b,k1h,k2G] at hx;rcases hx with rfl|rfl|rfl<;>show g0≠_<;>omega));clear g T;go_wp2_with fail;refine(O.o _ b3.o).mono ?_;rintro e w4 ⟨F,M,t,N,u,rfl,U,f⟩;have G:=vv (b4.o.step f);have b5:=vv U;clear f U;have Q:=vv (G.o.get 0 rfl);go_wp2_with (with_reducible refine q00 rfl 39 (.tmp 6) (.tmp 34) rfl (w.heap.size+1+1) [.bool F,.slice M t t,.slice N u u] rfl rfl 39 _ Q.o (by kernel_rfl) rfl rfl ?_);intro b6 f H;have a5:=vv (q0a G.o.low H G.o.low.size (by have:=a7.o;omega));have a6:=vv (b5.o.else_ Q.o rfl H);obtain⟨z,C,E⟩:=Fms.blk3 f;have K:=vv (And.intro z (And.intro C E));clear f H z C E;go_wp2;obtain⟨z,C,E⟩:=K.o;exact qg (v:=.tuple #[q0i F M t t N u u,.int .i64 0]) (by simp [results,results129,go_sem,z,C,E]) rfl ⟨F,M,t,N,u,rfl,a6.o,a5.o⟩
theorem RatAt.shz(w:qh)(t:TypeId):RatSh (w.alloc (.cells #[.bool qc,.slice qa 0 0,.slice qa 0 0] t)) w.heap.size:=(RatAt.zero w t).sh
theorem qdq(a:Rat)(na:Bool)(X:Option qj)(n c:Nat)(Y:Option qj)(m d:Nat)(b:Rat)(nb:Bool)(X':Option qj)(n' c':Nat)(Y':Option qj)(m' d':Nat)(w:qh)
  (ha:RQ w na X n c Y m d a) (hb:RQ w nb X' n' c' Y' m' d' b) (sa:Qb 200000 a) (sb:Qb 200000 b) (hst:Std w) :
  qk qd 234 #[q0i na X n c Y m d,q0i nb X' n' c' Y' m' d'] w (RqP (a-b) w):=by
 obtain⟨f,g⟩:=yx (((w.alloc (.cells #[.bool na,.slice X n c,.slice Y m d] 39)).alloc (.cells #[.bool nb,.slice X' n' c',.slice Y' m' d'] 39)).alloc (.cells #[.bool qc,.slice qa 0 0,.slice qa 0 0] 39));have i:Ctx w [(w.heap.size+2,39,[.bool qc,.slice qa 0 0,.slice qa 0 0]),(w.heap.size+1,39,[.bool nb,.slice X' n' c',.slice Y' m' d']),(w.heap.size,39,[.bool na,.slice X n c,.slice Y m d])] f:=by rw[g];exact(((Ctx.nil w).new _ [_,_,_] rfl).new _ [_,_,_] (by simp)).new _ [_,_,_] (by simp)
 obtain⟨D,q⟩:=yx (f.alloc (.cells #[.bool qc,.slice qa 0 0,.slice qa 0 0] 175));have j:qi f.heap.size f D:=by rw[q];exact(qe _ _).alloc lr _
 have G:RatSh D f.heap.size:=by rw[q];exact RatAt.shz _ _
 have H:mkRat (a.num*b.den-b.num*a.den) (a.den*b.den)=a-b:=(Rat.sub_def' a b).symm;have J:Qb 524288 (a-b):=(sa.sub sb).mono (by decide);have u:=vv (of_ a na X n c Y m d b nb X' n' c' Y' m' d' (a-b) (fq:=131) (a.num*b.den-b.num*a.den) (a.den*b.den) f.heap.size f D (ha.below (i.step j).low) (hb.below (i.step j).low) (sa.mono (by decide)) (sb.mono (by decide)) j lr G ((i.step j).std hst) H J
  fun g1 g2 wr h h1 h2 hs=>A.SubR f.heap.size g1 g2 _ _ _ _ wr h h1 h2 hs (q2T (k06 sa.1 (by decide))) (q2T (k06 sa.2 (by decide))) (q2T (k06 sb.1 (by decide))) (q2T (k06 sb.2 (by decide))))
 have x:f.heap.size=w.heap.size+1+1+1:=by rw[g];simp
 rw[x] at u;rw[q,g] at u;have P:=vv i;have Q:=vv g;have R:=vv x;clear g i ha hb sa sb hst J j G q x H;go_enter func234,ntmps234;go_wp2_with fail;refine u.o.mono ?_;rw[<- Q.o];rintro e T ⟨y,E,k,F,l,rfl,L,p⟩;have z:=vv (P.o.step p);have M:=vv L;clear p L;have I:=vv (z.o.get 0 rfl);go_wp2_with (with_reducible refine q00 rfl 39 (.tmp 4) (.tmp 11) rfl (w.heap.size+1+1) [.bool y,.slice E k k,.slice F l l] rfl rfl 39 _ I.o (by kernel_rfl) rfl rfl ?_);intro S p C;have N:=vv (q0a z.o.low C z.o.low.size (by omega));have O:=vv (M.o.else_ I.o rfl C);obtain⟨r,s,t⟩:=Fms.blk3 p;have K:=vv (And.intro r (And.intro s t));clear p C r s t;go_wp2;obtain⟨r,s,t⟩:=K.o;exact qg (v:=.tuple #[q0i y E k k F l l,.int .i64 0]) (by simp [results,results234,go_sem,r,s,t]) rfl ⟨y,E,k,F,l,rfl,O.o,N.o⟩
def WhP(k:Int)(w:qh)(e:Ending)(w':qh):Prop:=
 ∃b X n Y m,e=.returned (q0i b X n n Y m m)/\RQ w' b X n n Y m m (k:Rat)/\qi w.heap.size w w'
theorem Qb.int{k:Int}(h:k.natAbs<=1000):Qb 524288 (k:Rat):=by unfold Qb;rw[Rat.num_intCast,Rat.den_intCast];have:bl k.natAbs<=10:=q0A (k0F h (by decide));exact⟨by omega,by decide⟩
theorem q4I(k:Int)(w:qh)(hk:k.natAbs<=1000):qk qd 130 #[.int .i64 k] w (WhP k w):=by
 obtain⟨d,p⟩:=yx (w.alloc (.cells #[.bool qc,.slice qa 0 0,.slice qa 0 0] 39));have f:Cx w [(w.heap.size,39,[.bool qc,.slice qa 0 0,.slice qa 0 0])] d:=by rw[p];exact(Cx.nil w).new _ [_,_,_] rfl
 obtain⟨C,q⟩:=yx (d.alloc (.cells #[.bool qc,.slice qa 0 0,.slice qa 0 0] 175));have H:qi d.heap.size d C:=by rw[q];exact(qe _ _).alloc lr _
 have D:RatSh C d.heap.size:=by rw[q];exact RatAt.shz _ _
 have E:d.heap.size=w.heap.size+1:=by rw[p];simp
 have F:=vv (A.SetInt64R d.heap.size k C D (by omega) (by omega));have u:=vv fun wr (h:RatAt wr d.heap.size k 1)=>qb1 d.heap.size k 1 wr h (by rw[k2c];exact Qb.int hk)
 rw[k2c] at u;have a:=vv (f.step H);have R:=vv p;have L:=vv q;have T:IntKind.i64.wrap k=k:=IntWalk.i64_in _ (by omega);rw[E] at F u;have U:-1000<=k:=by omega
 have V:k<=1000:=by omega
 clear p f H D q E hk;go_enter func130,ntmps130;go_wp2_with fail;rw[<- R.o,<- L.o];refine F.o.mono ?_;rintro e W ⟨rfl,I,J⟩;have M:=vv I;replace a:=vv (a.o.fs J (by intro x hx;rw[k0i.1 hx];exact Nat.lt_succ_self _) (k1B _));clear I J;go_wp2_with fail;refine(u.o _ M.o).mono ?_;rintro e r ⟨g,i,b,j,c,rfl,K,m⟩;replace a:=vv (a.o.step m);have n:=vv K;clear m K;have l:=vv (a.o.get 0 rfl);go_wp2_with (with_reducible refine q00 rfl 39 (.tmp 2) (.tmp 12) rfl w.heap.size [.bool g,.slice i b b,.slice j c c] rfl rfl 39 _ (l.o.alloc _) (by kernel_rfl) rfl rfl ?_);intro y G t;clear l;obtain⟨S,z⟩:=yx (r.heap.size);obtain⟨N,s⟩:=yx (r.alloc (.cells #[.bool g,.slice i b b,.slice j c c] 39));have m:qi r.heap.size r N:=by rw[s];exact(qe _ _).alloc lr _
 have f:=a.o.new 39 [.bool g,.slice i b b,.slice j c c] z;rw[<- s] at f t
 try rw[<- s]
 try rw[<- z]
 replace a:=vv f;replace n:=vv (n.o.below m);clear s m f z;have l:=vv (a.o.get 1 rfl);replace a:=vv (a.o.put 1 rfl G t);replace n:=vv (n.o.apart_ l.o rfl t);clear l G t;go_wp2;have O:y.cell? ⟨w.heap.size,0,qa⟩=qf (.bool g):=(a.o.get 1 rfl).cell 0;have P:y.cell? ⟨w.heap.size,1,qa⟩=qf (.slice i b b):=(a.o.get 1 rfl).cell 1;have Q:y.cell? ⟨w.heap.size,2,qa⟩=qf (.slice j c c):=(a.o.get 1 rfl).cell 2;exact qg (v:=q0i g i b b j c c) (by simp [results,results130,go_sem,O,P,Q]) rfl ⟨g,i,b,j,c,rfl,n.o,a.o.low⟩
theorem qbn(a:Rat)(na:Bool)(X:Option qj)(n c:Nat)(Y:Option qj)(m d:Nat)(b:Rat)(nb:Bool)(X':Option qj)(n' c':Nat)(Y':Option qj)(m' d':Nat)(g0:Nat)(base w:qh)
  (ha:RQ w na X n c Y m d a) (hb:RQ w nb X' n' c' Y' m' d' b) (sa:Qb 200000 a) (sb:Qb 200000 b) (hB0:qi base.heap.size base w) (hg0:base.heap.size<=g0) (hsh:RatSh w g0) (hst:Std w) :
  qk qd 129 #[q0i na X n c Y m d,q0i nb X' n' c' Y' m' d',.func (.func 131) #[.pointer (qf ⟨g0,0,qa⟩)] #[]] w (RqP (a-b) base):=
 of_ a na X n c Y m d b nb X' n' c' Y' m' d' (a-b) (fq:=131) (a.num*b.den-b.num*a.den) (a.den*b.den) g0 base w ha hb (sa.mono (by decide)) (sb.mono (by decide)) hB0 hg0 hsh hst (Rat.sub_def' a b).symm ((sa.sub sb).mono (by decide))
  fun g1 g2 wr h h1 h2 hs=>A.SubR g0 g1 g2 _ _ _ _ wr h h1 h2 hs (q2T (k06 sa.1 (by decide))) (q2T (k06 sa.2 (by decide))) (q2T (k06 sb.1 (by decide))) (q2T (k06 sb.2 (by decide)))
theorem Qb.add{A B:Nat}{x y:Rat}(hx:Qb A x)(hy:Qb B y):Qb (A+B+1) (x+y):=by
 have:=Qb.sub hx (Qb.neg hy)
 rwa [Rat.sub_eq_add_neg,Rat.neg_neg] at this
theorem qbo(a:Rat)(na:Bool)(X:Option qj)(n c:Nat)(Y:Option qj)(m d:Nat)(b:Rat)(nb:Bool)(X':Option qj)(n' c':Nat)(Y':Option qj)(m' d':Nat)(g0:Nat)(base w:qh)
  (ha:RQ w na X n c Y m d a) (hb:RQ w nb X' n' c' Y' m' d' b) (sa:Qb 200000 a) (sb:Qb 200000 b) (hB0:qi base.heap.size base w) (hg0:base.heap.size<=g0) (hsh:RatSh w g0) (hst:Std w) :
  qk qd 129 #[q0i na X n c Y m d,q0i nb X' n' c' Y' m' d',.func (.func 300) #[.pointer (qf ⟨g0,0,qa⟩)] #[]] w (RqP (a+b) base):=
 of_ a na X n c Y m d b nb X' n' c' Y' m' d' (a+b) (fq:=300) (a.num*b.den+b.num*a.den) (a.den*b.den) g0 base w ha hb (sa.mono (by decide)) (sb.mono (by decide)) hB0 hg0 hsh hst (Rat.add_def' a b).symm ((Qb.add sa sb).mono (by decide))
  fun g1 g2 wr h h1 h2 hs=>A.AddR g0 g1 g2 _ _ _ _ wr h h1 h2 hs (q2T (k06 sa.1 (by decide))) (q2T (k06 sa.2 (by decide))) (q2T (k06 sb.1 (by decide))) (q2T (k06 sb.2 (by decide)))
theorem q8c(b:Rat):((0:Int):Rat)-b = -b:=by rw[show(((0:Int):Rat))=0 from rfl];grind
theorem zero_add(b:Rat):((0:Int):Rat)+b=b:=by rw[show(((0:Int):Rat))=0 from rfl];grind
theorem Qb.zero:Qb 200000 ((0:Int):Rat):=⟨by decide,by decide⟩
theorem qd2(a:Rat)(s:Bool)(X:Option qj)(n c:Nat)(Y:Option qj)(m d:Nat)(w:qh)(ha:RQ w s X n c Y m d a)(sa:Qb 200000 a)(hst:Std w):qk qd 61 #[q0i s X n c Y m d] w (RqP (-a) w):=by
 obtain⟨p,M⟩:=yx ((w.alloc (.cells #[.bool s,.slice X n c,.slice Y m d] 39)).alloc (.cells #[.bool qc,.slice qa 0 0,.slice qa 0 0] 39));have Q:Cx w [(w.heap.size+1,39,[.bool qc,.slice qa 0 0,.slice qa 0 0]),(w.heap.size,39,[.bool s,.slice X n c,.slice Y m d])] p:=by rw[M];exact((Cx.nil w).new _ [_,_,_] rfl).new _ [_,_,_] (by simp)
 have b:=vv Q;have HW:=vv M;have a4:=vv hst;have i:=vv (ha.below Q.low);have a5:=vv sa;clear M Q ha sa hst;go_enter func61,ntmps61;go_wp2_with fail;rw[<- HW.o];go_wp2_with fail;have V:p.cell? ⟨w.heap.size,0,qa⟩=qf (.bool s):=(b.o.get 1 rfl).cell 0;have W:p.cell? ⟨w.heap.size,1,qa⟩=qf (.slice X n c):=(b.o.get 1 rfl).cell 1;have Z:p.cell? ⟨w.heap.size,2,qa⟩=qf (.slice Y m d):=(b.o.get 1 rfl).cell 2;have a6:=(b.o.get 1 rfl).lt;refine q02 (fun w'=>w'.cell? ⟨w.heap.size,0,qa⟩=qf (.bool s)/\w'.cell? ⟨w.heap.size,1,qa⟩=qf (.slice X n c)/\w'.cell? ⟨w.heap.size,2,qa⟩=qf (.slice Y m d)) 7
  (.still 1 (.two 0 (.one 2 (.still 3 (.one 4 (.still 5 (.still 6 .done))))) 2 (.still 3 (.one 0 (.one 4 (.still 5 (.still 6 .done))))))) (by kernel_rfl) (by kernel_rfl) (fun _ _ d _ _ h=>by cases d<;>exact h) ⟨V,W,Z⟩ (fun hS0=>?_)
 iterate 1
  refine q01 (v:=?_) rfl (by rfl) ?_ ?_;rotate_left
  ·intro w N;go_simp;with_reducible rfl
  simp only[Act.put,sa,sb,sc]
 clear a6 V W Z;obtain⟨j,O⟩:=yx (p.drew);have f:qi p.heap.size p j:=by rw[O];exact q05 (qe _ _)
 replace b:=vv (b.o.step f);replace i:=vv (i.o.below f);rw[<- O] at hS0 ⊢;clear O f;refine q0C rfl (by rfl) rfl (by rfl) (fun K hK=>?_) (fun K hK=>?_)
 focus
  go_simp;refine(q4I 0 j (by decide)).mono ?_;rintro e g ⟨s0,X0,R,Y0,S,rfl,u,f⟩;replace b:=vv (b.o.step f);replace i:=vv (i.o.below f);have C:=vv u;clear f u;go_wp2_with fail;refine hK.out _ _ ⟨(b.o.get 1 rfl).cell 0,(b.o.get 1 rfl).cell 1,(b.o.get 1 rfl).cell 2⟩ (fun D=>?_);clear hK;refine q03 rfl (by rfl) (fun K hK=>?_);go_simp;obtain⟨t,k⟩:=yx (g.heap.size);obtain⟨z,E⟩:=yx (g.alloc (.cells #[.bool qc,.slice qa 0 0,.slice qa 0 0] 175));have f:qi g.heap.size g z:=by rw[E];exact(qe _ _).alloc lr _
  have F:qo (RatSh z t):=vv (by rw[E,k];exact RatAt.shz _ _);rw[<- E]
  try rw[<- k]
  have l:qo (qi g.heap.size g z/\g.heap.size<=t):=vv ⟨f,by rw[k];exact lr⟩;have G:=b;obtain⟨wb,x⟩:=yx (g);rw[<- x] at G l;replace b:=vv (b.o.step f);replace i:=vv (i.o.below f);replace C:=vv (C.o.below f);clear f E k x;refine hK.out _ _ ⟨(b.o.get 1 rfl).cell 0,(b.o.get 1 rfl).cell 1,(b.o.get 1 rfl).cell 2⟩ (fun D=>?_);clear hK
  iterate 1
   refine q01 (v:=?_) rfl (by rfl) ?_ ?_;rotate_left
   ·intro w N;go_simp;with_reducible rfl
   simp only[Act.put,sa,sb,sc]
 rotate_left
 focus
  go_simp;obtain⟨t,k⟩:=yx (j.heap.size);obtain⟨g,H⟩:=yx (j.alloc (.cells #[.bool qc,.slice qa 0 0,.slice qa 0 0] 175));have f:qi j.heap.size j g:=by rw[H];exact(qe _ _).alloc lr _
  have F:qo (RatSh g t):=vv (by rw[H,k];exact RatAt.shz _ _);rw[<- H]
  try rw[<- k]
  have l:qo (qi j.heap.size j g/\j.heap.size<=t):=vv ⟨f,by rw[k];exact lr⟩;have G:=b;obtain⟨wb,x⟩:=yx (j);rw[<- x] at G l;replace b:=vv (b.o.step f);replace i:=vv (i.o.below f);clear f H k x;refine hK.out _ _ ⟨(b.o.get 1 rfl).cell 0,(b.o.get 1 rfl).cell 1,(b.o.get 1 rfl).cell 2⟩ (fun D=>?_);clear hK
  iterate 1
   refine q01 (v:=?_) rfl (by rfl) ?_ ?_;rotate_left
   ·intro w N;go_simp;with_reducible rfl
   simp only[Act.put,sa,sb,sc]
  refine q03 rfl (by rfl) (fun K hK=>?_);go_simp;refine(q4I 0 g (by decide)).mono ?_;rintro e z ⟨s0,X0,R,Y0,S,rfl,u,f⟩;replace b:=vv (b.o.step f);replace i:=vv (i.o.below f);replace F:=vv (F.o.below f);have C:=vv u;replace l:=vv (And.intro (l.o.1.trans (f.mono l.o.1.size)) l.o.2);clear f u;go_wp2_with fail;refine hK.out _ _ ⟨(b.o.get 1 rfl).cell 0,(b.o.get 1 rfl).cell 1,(b.o.get 1 rfl).cell 2⟩ (fun D=>?_);clear hK
 rotate_left;all_goals
  refine q03 rfl (by rfl) (fun K hK=>?_);go_simp;refine(qbn _ s0 X0 R R Y0 S S a s X n c Y m d t wb z C.o i.o Qb.zero a5.o l.o.1 l.o.2 F.o (b.o.std a4.o)).mono ?_;rw[q8c];rintro e w4 ⟨I,J,q,L,r,rfl,hQ,f⟩;replace b:=vv (G.o.step f);have T:=vv hQ;clear f hQ;go_wp2_with fail;refine hK.out _ _ ⟨(b.o.get 1 rfl).cell 0,(b.o.get 1 rfl).cell 1,(b.o.get 1 rfl).cell 2⟩ (fun D=>?_);clear hK
  iterate 2
   refine q01 (v:=?_) rfl (by rfl) ?_ ?_;rotate_left
   ·intro w N;go_simp;with_reducible rfl
   simp only[Act.put,sa,sb,sc]
  refine q07 ?_;simp only[k0H,k0M];have y:=vv (b.o.get 0 rfl);go_wp2_with (with_reducible refine q00 rfl 39 (.tmp 2) (.tmp 9) rfl (w.heap.size+1) [.bool I,.slice J q q,.slice L r r] rfl rfl 39 _ y.o (by kernel_rfl) rfl rfl ?_);intro P a3 U;clear y;have y:=vv (b.o.get 0 rfl);replace b:=vv (b.o.put 0 rfl a3 U);replace T:=vv (T.o.apart_ y.o rfl U);clear y a3 U;go_wp2;have a0:P.cell? ⟨(w.heap.size+1),0,qa⟩=qf (.bool I):=(b.o.get 0 rfl).cell 0;have a1:P.cell? ⟨(w.heap.size+1),1,qa⟩=qf (.slice J q q):=(b.o.get 0 rfl).cell 1;have a2:P.cell? ⟨(w.heap.size+1),2,qa⟩=qf (.slice L r r):=(b.o.get 0 rfl).cell 2;exact qg (v:=.tuple #[q0i I J q q L r r,.int .i64 0]) (by simp [results,results61,go_sem,a0,a1,a2]) rfl ⟨I,J,q,L,r,rfl,T.o,b.o.low⟩
theorem q9a{a:Rat}(h:a.num<0):a.abs = -a:=Rat.abs_of_nonpos (k1a ((Rat.lt_iff a 0).2 (by show a.num*1<0*_;omega)))
theorem q99{a:Rat}(h:¬a.num<0):a.abs=a:=Rat.abs_of_nonneg (Rat.num_nonneg.1 (by omega))
theorem qdy(a:Rat)(s:Bool)(X:Option qj)(n c:Nat)(Y:Option qj)(m d:Nat)(w:qh)(ha:RQ w s X n c Y m d a)(sa:Qb 200000 a)(hst:Std w):qk qd 235 #[q0i s X n c Y m d] w (RqP a.abs w):=by
 obtain⟨q,W⟩:=yx ((w.alloc (.cells #[.bool s,.slice X n c,.slice Y m d] 39)).alloc (.cells #[.bool qc,.slice qa 0 0,.slice qa 0 0] 39));have hC:Cx w [(w.heap.size+1,39,[.bool qc,.slice qa 0 0,.slice qa 0 0]),(w.heap.size,39,[.bool s,.slice X n c,.slice Y m d])] q:=by rw[W];exact((Cx.nil w).new _ [_,_,_] rfl).new _ [_,_,_] (by simp)
 have b:=vv hC;have HW:=vv W;have a6:=vv hst;have g:=vv (ha.below hC.low);have a7:=vv sa;have F:=ha.s;clear W hC ha sa hst;cases s
 ·have J:¬a.num<0:=fun k=>by rw[k03 k] at F;cases F
  rw[q99 J];clear F J;have h0:q.cell? ⟨w.heap.size,0,qa⟩=qf (.bool qc):=(b.o.get 1 rfl).cell 0;have h1:=(b.o.get 1 rfl).lt;go_enter func235,ntmps235;go_wp2_with fail;rw[<- HW.o];go_wp2_with fail;clear h0 h1 HW;go_wp2_with fail;have N:q.cell? ⟨w.heap.size,0,qa⟩=qf (.bool qc):=(b.o.get 1 rfl).cell 0;have O:q.cell? ⟨w.heap.size,1,qa⟩=qf (.slice X n c):=(b.o.get 1 rfl).cell 1;have P:q.cell? ⟨w.heap.size,2,qa⟩=qf (.slice Y m d):=(b.o.get 1 rfl).cell 2;have Z:=(b.o.get 1 rfl).lt;refine q02 (fun w'=>w'.cell? ⟨w.heap.size,0,qa⟩=qf (.bool qc)/\w'.cell? ⟨w.heap.size,1,qa⟩=qf (.slice X n c)/\w'.cell? ⟨w.heap.size,2,qa⟩=qf (.slice Y m d)) 7
   (.still 1 (.two 0 (.one 2 (.still 3 (.one 4 (.still 5 (.still 6 .done))))) 2 (.still 3 (.one 0 (.one 4 (.still 5 (.still 6 .done))))))) (by kernel_rfl) (by kernel_rfl) (fun _ _ d _ _ h=>by cases d<;>exact h) ⟨N,O,P⟩ (fun hS0=>?_)
  iterate 1
   refine q01 (v:=?_) rfl (by rfl) ?_ ?_;rotate_left
   ·intro w a0;go_simp;with_reducible rfl
   simp only[Act.put,sa,sb,sc]
  clear Z N O P;obtain⟨r,a1⟩:=yx (q.drew);have f:qi q.heap.size q r:=by rw[a1];exact q05 (qe _ _)
  replace b:=vv (b.o.step f);replace g:=vv (g.o.below f);rw[<- a1] at hS0 ⊢;clear a1 f;refine q0C rfl (by rfl) rfl (by rfl) (fun K hK=>?_) (fun K hK=>?_)
  focus
   go_simp;refine(q4I 0 r (by decide)).mono ?_;rintro e l ⟨s0,X0,n0,Y0,m0,rfl,G,f⟩;replace b:=vv (b.o.step f);replace g:=vv (g.o.below f);have Q:=vv G;clear f G;go_wp2_with fail;refine hK.out _ _ ⟨(b.o.get 1 rfl).cell 0,(b.o.get 1 rfl).cell 1,(b.o.get 1 rfl).cell 2⟩ (fun R=>?_);clear hK;refine q03 rfl (by rfl) (fun K hK=>?_);go_simp;obtain⟨E,t⟩:=yx (l.heap.size);obtain⟨L,S⟩:=yx (l.alloc (.cells #[.bool qc,.slice qa 0 0,.slice qa 0 0] 175));have f:qi l.heap.size l L:=by rw[S];exact(qe _ _).alloc lr _
   have T:qo (RatSh L E):=vv (by rw[S,t];exact RatAt.shz _ _);rw[<- S]
   try rw[<- t]
   have u:qo (qi l.heap.size l L/\l.heap.size<=E):=vv ⟨f,by rw[t];exact lr⟩;have U:=b;obtain⟨wb,H⟩:=yx (l);rw[<- H] at U u;replace b:=vv (b.o.step f);replace g:=vv (g.o.below f);replace Q:=vv (Q.o.below f);clear f S t H;refine hK.out _ _ ⟨(b.o.get 1 rfl).cell 0,(b.o.get 1 rfl).cell 1,(b.o.get 1 rfl).cell 2⟩ (fun R=>?_);clear hK
   iterate 1
    refine q01 (v:=?_) rfl (by rfl) ?_ ?_;rotate_left
    ·intro w a0;go_simp;with_reducible rfl
    simp only[Act.put,sa,sb,sc]
  rotate_left
  focus
   go_simp;obtain⟨E,t⟩:=yx (r.heap.size);obtain⟨l,V⟩:=yx (r.alloc (.cells #[.bool qc,.slice qa 0 0,.slice qa 0 0] 175));have f:qi r.heap.size r l:=by rw[V];exact(qe _ _).alloc lr _
   have T:qo (RatSh l E):=vv (by rw[V,t];exact RatAt.shz _ _);rw[<- V]
   try rw[<- t]
   have u:qo (qi r.heap.size r l/\r.heap.size<=E):=vv ⟨f,by rw[t];exact lr⟩;have U:=b;obtain⟨wb,H⟩:=yx (r);rw[<- H] at U u;replace b:=vv (b.o.step f);replace g:=vv (g.o.below f);clear f V t H;refine hK.out _ _ ⟨(b.o.get 1 rfl).cell 0,(b.o.get 1 rfl).cell 1,(b.o.get 1 rfl).cell 2⟩ (fun R=>?_);clear hK
   iterate 1
    refine q01 (v:=?_) rfl (by rfl) ?_ ?_;rotate_left
    ·intro w a0;go_simp;with_reducible rfl
    simp only[Act.put,sa,sb,sc]
   refine q03 rfl (by rfl) (fun K hK=>?_);go_simp;refine(q4I 0 l (by decide)).mono ?_;rintro e L ⟨s0,X0,n0,Y0,m0,rfl,G,f⟩;replace b:=vv (b.o.step f);replace g:=vv (g.o.below f);replace T:=vv (T.o.below f);have Q:=vv G;replace u:=vv (And.intro (u.o.1.trans (f.mono u.o.1.size)) u.o.2);clear f G;go_wp2_with fail;refine hK.out _ _ ⟨(b.o.get 1 rfl).cell 0,(b.o.get 1 rfl).cell 1,(b.o.get 1 rfl).cell 2⟩ (fun R=>?_);clear hK
  rotate_left;all_goals
   refine q03 rfl (by rfl) (fun K hK=>?_);go_simp;refine(qbo _ s0 X0 n0 n0 Y0 m0 m0 a qc X n c Y m d E wb L Q.o g.o Qb.zero a7.o u.o.1 u.o.2 T.o (b.o.std a6.o)).mono ?_;rw[zero_add];rintro e w4 ⟨x,y,i,z,j,rfl,M,f⟩;replace b:=vv (U.o.step f);have D:=vv M;clear f M;go_wp2_with fail;refine hK.out _ _ ⟨(b.o.get 1 rfl).cell 0,(b.o.get 1 rfl).cell 1,(b.o.get 1 rfl).cell 2⟩ (fun R=>?_);clear hK
   iterate 2
    refine q01 (v:=?_) rfl (by rfl) ?_ ?_;rotate_left
    ·intro w a0;go_simp;with_reducible rfl
    simp only[Act.put,sa,sb,sc]
   refine q07 ?_;simp only[k0H,k0M];have p:=vv (b.o.get 0 rfl);go_wp2_with (with_reducible refine q00 rfl 39 (.tmp 2) (.tmp 15) rfl (w.heap.size+1) [.bool x,.slice y i i,.slice z j j] rfl rfl 39 _ p.o (by kernel_rfl) rfl rfl ?_);intro a2 I C;clear p;have p:=vv (b.o.get 0 rfl);replace b:=vv (b.o.put 0 rfl I C);replace D:=vv (D.o.apart_ p.o rfl C);clear p I C;go_wp2;have a3:a2.cell? ⟨(w.heap.size+1),0,qa⟩=qf (.bool x):=(b.o.get 0 rfl).cell 0;have a4:a2.cell? ⟨(w.heap.size+1),1,qa⟩=qf (.slice y i i):=(b.o.get 0 rfl).cell 1;have a5:a2.cell? ⟨(w.heap.size+1),2,qa⟩=qf (.slice z j j):=(b.o.get 0 rfl).cell 2;exact qg (v:=.tuple #[q0i x y i i z j j,.int .i64 0]) (by simp [results,results235,go_sem,a3,a4,a5]) rfl ⟨x,y,i,z,j,rfl,D.o,b.o.low⟩
 ·have J:a.num<0:=k1j F.symm;rw[q9a J];clear F J;have N:q.cell? ⟨w.heap.size,0,qa⟩=qf (.bool qn):=(b.o.get 1 rfl).cell 0;have O:q.cell? ⟨w.heap.size,1,qa⟩=qf (.slice X n c):=(b.o.get 1 rfl).cell 1;have P:q.cell? ⟨w.heap.size,2,qa⟩=qf (.slice Y m d):=(b.o.get 1 rfl).cell 2;have Z:=(b.o.get 1 rfl).lt;go_enter func235,ntmps235;go_wp2_with fail;rw[<- HW.o];go_wp2_with fail;refine(qd2 a qn X n c Y m d _ g.o a7.o (b.o.std a6.o)).mono ?_;rintro e r ⟨x,y,i,z,j,rfl,M,f⟩;replace b:=vv (b.o.step f);replace g:=vv (g.o.below f);have D:=vv M;clear N O P Z f M;have p:=vv (b.o.get 0 rfl);go_wp2_with (with_reducible refine q00 rfl 39 (.tmp 2) (.tmp 8) rfl (w.heap.size+1) [.bool x,.slice y i i,.slice z j j] rfl rfl 39 _ p.o (by kernel_rfl) rfl rfl ?_);intro w6 I C;clear p;have p:=vv (b.o.get 0 rfl);replace b:=vv (b.o.put 0 rfl I C);replace g:=vv (g.o.apart_ p.o rfl C);replace D:=vv (D.o.apart_ p.o rfl C);clear p I C;go_wp2;have a8:w6.cell? ⟨(w.heap.size+1),0,qa⟩=qf (.bool x):=(b.o.get 0 rfl).cell 0;have a9:w6.cell? ⟨(w.heap.size+1),1,qa⟩=qf (.slice y i i):=(b.o.get 0 rfl).cell 1;have b0:w6.cell? ⟨(w.heap.size+1),2,qa⟩=qf (.slice z j j):=(b.o.get 0 rfl).cell 2;exact qg (v:=.tuple #[q0i x y i i z j j,.int .i64 0]) (by simp [results,results235,go_sem,a8,a9,b0]) rfl ⟨x,y,i,z,j,rfl,D.o,b.o.low⟩
theorem q8u{q:Rat}(hq:0<q)(k:Int):mkRat (sg qc (q.num.natAbs*t10 k)) (q.den*t10 (-k))=q*tp k:=by
 have a:=q1x hq;unfold tp
 conv=>rhs;lhs;rw[<- Rat.mkRat_self q]
 rw[Rat.mkRat_mul_mkRat];congr 1;show((q.num.natAbs*t10 k:Nat):Int)=_;rw[k08];congr 1;omega
theorem qbV(q:Rat)(s:Bool)(X:Option qj)(n c:Nat)(Y:Option qj)(m d:Nat)(k:Int)(w:qh)(h:RQ w s X n c Y m d q)(hs:Qb 400000 q)(hq:0<q)(hk1:-20000<=k)(hk2:k<=20000)(hst:Std w):qk qd 141 #[q0i s X n c Y m d,.int .u32 10,.int .i64 k] w (RqP (q*tp k) w):=by
 obtain⟨a,b⟩:=h.n_le (hs.mono (by decide));have g:=q1x hq;have e:s=qc:=by rw[h.s];exact k00 (by omega)
 subst e;have f:=qaF qc X n c Y m d q.num.natAbs q.den k w h.x h.y a b q.den_pos q.reduced (by omega) hk1 hk2 hs.1 hs.2 hst;refine f.mono fun e w' hP=>?_
 have:=hP.q (k0l q.den_pos (q1w _))
 rwa [q8u hq] at this
def q9E(N:Nat)(w:qh)(e:Ending)(w':qh):Prop:=
 ∃A n,e=.returned (.tuple #[.bool qc,q0I A n n,.int .i64 0])/\Rd w' A n n (toL N)/\qi w.heap.size w w'
theorem qc2(q:Rat)(s:Bool)(X:Option qj)(n c:Nat)(Y:Option qj)(m d:Nat)(w:qh)(h:RQ w s X n c Y m d q)(hs:Qb 400000 q)(hq:0<=q)(hst:Std w):qk qd 142 #[q0i s X n c Y m d] w (q9E q.floor.natAbs w):=by
 obtain⟨t,H⟩:=yx ((w.alloc (.cells #[.bool s,.slice X n c,.slice Y m d] 39)).alloc (.cells #[.slice qa 0 0] 37));have D:Cx w [(w.heap.size+1,37,[.slice qa 0 0]),(w.heap.size,39,[.bool s,.slice X n c,.slice Y m d])] t:=by rw[H];exact((Cx.nil w).new _ [_,_,_] rfl).new _ [_] (by simp)
 obtain⟨W,Z⟩:=q1t (p:=q.num) q.den_pos q.reduced;have I:q.num/(q.den:Int)=q.floor:=(Rat.floor_def q).symm;have a1:0<=q.floor:=k2v.2 (by simpa using hq);have N:qb (q.floor.sign<0)=qc:=k00 (by intro k;have:=Int.sign_neg_iff.1 k;omega);have O:bl q.floor.natAbs<=4294967296:=by
  have h1:q.floor.natAbs<=q.num.natAbs:=by rw[<- I];exact Int.natAbs_ediv_le_natAbs _ _
  have:=q15 h1;have:=hs.1;omega
 have a2:=vv (q4n q s X n c Y m d t (h.below D.low) (hs.mono (by decide)) (D.std hst));have P:=vv fun g wr (k:RatAt wr g q.num q.den)=>A.Num g q.num q.den wr k
 have Q:=vv fun g wr (k:RatAt wr g q.num q.den)=>A.Denom g q.num q.den wr k
 rw[W] at P;rw[Z] at Q;have J:=vv fun g gx gy wr (k0:IntAt wr g 0 0) (k1:IntAt wr gx 0 q.num) (k2:IntAt wr gy 0 (q.den:Int))=>A.Div g 0 gx 0 gy 0 0 q.num q.den wr k0 k1 k2 (by have:=q.den_pos;omega) (by have:=hs.1;unfold Sz;omega)
 rw[I] at J;have R:=vv fun g wr (k:IntAt wr g 0 q.floor)=>qad g 0 q.floor wr k O
 obtain⟨fq,S⟩:=yx (q.floor);rw[<- S] at J R N ⊢;obtain⟨sf,K⟩:=yx (fq.sign);rw[<- K] at N;have a3:=vv K;have a:=vv D;have HW:=vv H;clear H D h hs hq hst W Z I a1 O S K;have a4:t.cell? ⟨w.heap.size,0,qa⟩=qf (.bool s):=(a.o.get 1 rfl).cell 0;have a5:t.cell? ⟨w.heap.size,1,qa⟩=qf (.slice X n c):=(a.o.get 1 rfl).cell 1;have a6:t.cell? ⟨w.heap.size,2,qa⟩=qf (.slice Y m d):=(a.o.get 1 rfl).cell 2;have a7:=(a.o.get 1 rfl).lt;go_enter func142,ntmps142;go_wp2_with fail;rw[<- HW.o];go_wp2_with fail;refine(a2.o).mono ?_;rintro e u ⟨g1,rfl,-,hR,b⟩;replace a:=vv (a.o.step b);have f:=vv hR;clear a4 a5 a6 a7 b hR;go_wp2_with fail;obtain⟨y,z⟩:=yx (u.heap.size);obtain⟨wz,C⟩:=yx (u.alloc (.cells #[.bool qc,.slice qa 0 0] 142));have b:qi u.heap.size u wz:=by rw[C];exact(qe _ _).alloc lr _
 have l:qo (IntAt wz y 0 0):=vv (by rw[C,z];exact IntAt.zero u 142);have T:qo (w.heap.size+1<y):=vv (by rw[z];exact(a.o.get 0 rfl).lt);rw[<- C]
 try rw[<- z]
 replace a:=vv (a.o.step b);replace f:=vv (f.o.below b);clear b C z;refine(P.o _ _ f.o).mono ?_;rintro e w6 ⟨g2,rfl,-,i,b⟩;replace a:=vv (a.o.step b);replace f:=vv (f.o.below b);replace l:=vv (l.o.below b);have E:=vv i;clear b i;go_wp2_with fail;refine(Q.o _ _ f.o).mono ?_;rintro e w7 ⟨g3,rfl,-,i,b⟩;replace a:=vv (a.o.step b);replace f:=vv (f.o.below b);replace l:=vv (l.o.below b);replace E:=vv (E.o.below b);have HD:=vv i;clear b i;go_wp2_with fail;refine(J.o y g2 g3 _ l.o E.o HD.o).mono ?_;rintro e a9 ⟨rfl,i,hF⟩;replace a:=vv (a.o.fs hF (by intro x hx;have:=T.o;simp only[k1b,k1h,k2G] at hx;rcases hx with rfl|rfl<;>show(_:Nat)<y<;>omega) (by have:=T.o;omega));have F:=vv i;clear hF i l E HD f;go_wp2_with fail;refine(A.Sign y 0 fq _ F.o).mono ?_;rintro e b0 ⟨rfl,hw⟩;subst hw;rw[<- a3.o];go_wp2_with fail;refine(R.o _ _ F.o).mono ?_;rintro e b1 ⟨G,j,rfl,U,-,b⟩;replace a:=vv (a.o.step b);replace F:=vv (F.o.below b);have L:=vv U;clear b U;have r:=vv (a.o.get 0 rfl);go_wp2_with (with_reducible refine q00 rfl 37 (.tmp 3) (.tmp 26) rfl (w.heap.size+1) [.slice G j j] rfl rfl 37 _ r.o (by kernel_rfl) rfl rfl ?_);intro a8 V M;clear r;have r:=vv (a.o.get 0 rfl);replace a:=vv (a.o.put 0 rfl V M);replace L:=vv (L.o.apart_ r.o rfl M);clear r V M;go_wp2;have a0:a8.cell? ⟨(w.heap.size+1),0,qa⟩=qf (.slice G j j):=(a.o.get 0 rfl).cell 0;exact qg (v:=.tuple #[.bool qc,q0I G j j,.int .i64 0]) (by simp [results,results142,go_sem,a0]) rfl ⟨G,j,rfl,L.o,a.o.low⟩
end Rtp
namespace Dcm
open Go Go.RowKit R5 Scn Sh Dec
theorem MakeT(n:Nat)(x:Int)(w:qh)(h:0<n)(hl:q0t n<=65536)(h1:-100000<=x)(h2:x<=100000):qk qd 233 #[.bool qc,.string (q1g n),.int .i64 x] w fun e w'=>e=.returned (.tuple #[decV qc (q1g (q17 n)) (x+(Go.Proofs.YtabcgemembkkcaaGreatDoor.Sh.tz n:Int)),.int .i64 0])/\qi w.heap.size w w':=by
 obtain⟨G,c⟩:=yx (w.alloc (.cells #[.bool qc,.string ⟨#[]⟩,.int .i64 0] 27));have r:Cx w [(w.heap.size,27,[.bool qc,.string ⟨#[]⟩,.int .i64 0])] G:=by rw[c];exact(Cx.nil w).new _ [_,_,_] rfl
 have i:=q0V n;have j:=q0V (q17 n);have k:=q1G h;have H:=q13 (q17 n);have d:=vv fun w=>q9t (q1g n) w (by omega)
 rw[q3C] at d;have f:qo (∀w,qk qd 296 #[.string (q1g n),.string ⟨#[48]⟩] w fun e w'=>e=.returned (.string (q1g (q17 n)))/\w'=w):=vv fun w=>by have:=Tryz.strings_TrimRight_one (q1g n) 48 (by decide) w (by omega);rw[q2t,q93 h] at this;exact this
 have l:qo (∀w,qk qd 299 #[.string (q1g (q17 n)),.string ⟨#[48]⟩] w fun e w'=>e=.returned (.string (q1g (q17 n)))/\w'=w):=vv fun w=>by have:=Tryz.strings_TrimLeft_one (q1g (q17 n)) 48 (by decide) w;rw[q2t,qau (q6L h)] at this;exact this
 obtain⟨z,t⟩:=yx (Go.Proofs.YtabcgemembkkcaaGreatDoor.Sh.tz n);rw[<- t] at k ⊢;obtain⟨S,u⟩:=yx (q1g n);obtain⟨T,y⟩:=yx (q1g (q17 n));rw[<- u] at i d f ⊢;rw[<- y] at j f l ⊢;have J:(S.size:Int)-(T.size:Int)=(z:Int):=by omega
 have K:(S.size:Int)<=65536:=by omega
 have L:(z:Int)<=65536:=by omega
 have M:=q3U (s:=T) (by omega);have m:farB (x+(z:Int))=qc:=by unfold farB;rw[k00 (by omega),k00 (by omega)];rfl
 have p:=vv fun w=>Go.Proofs.YtabcgemembkkcaaGreatDoor.Dec.far (x+(z:Int)) w
 rw[m] at p;have a:=vv r;have I:=vv c;have N:qb ((1073741824:Int)<x)=qc:=k00 (by omega);have O:qb (x<(-2147483648:Int))=qc:=k00 (by omega);clear c r i j k H t u y m h hl;go_enter func233,ntmps233;go_wp2_with fail;rw[<- I.o];refine(d.o _).mono ?_;rintro e w' ⟨rfl,rfl⟩;go_wp2_with fail;refine(f.o _).mono ?_;rintro e w' ⟨rfl,rfl⟩;go_wp2_with fail;refine(l.o _).mono ?_;rintro e w' ⟨rfl,rfl⟩;go_wp2_with fail;refine(p.o _).mono ?_;rintro e w' ⟨rfl,rfl⟩;have b:=vv (a.o.get 0 rfl);go_wp2_with (with_reducible refine q00 rfl 27 (.tmp 6) (.tmp 53) rfl w.heap.size [.bool qc,.string T,.int .i64 (x+(z:Int))] rfl rfl 27 _ b.o (by kernel_rfl) rfl rfl ?_);intro g q C;clear b;have b:=vv (a.o.get 0 rfl);replace a:=vv (a.o.put 0 rfl q C);clear b q C;go_wp2;have D:g.cell? ⟨w.heap.size,0,qa⟩=qf (.bool qc):=(a.o.get 0 rfl).cell 0;have E:g.cell? ⟨w.heap.size,1,qa⟩=qf (.string T):=(a.o.get 0 rfl).cell 1;have F:g.cell? ⟨w.heap.size,2,qa⟩=qf (.int .i64 (x+(z:Int))):=(a.o.get 0 rfl).cell 2;exact qg (v:=.tuple #[decV qc T (x+(z:Int)),.int .i64 0]) (by simp [results,results233,go_sem,D,E,F]) rfl ⟨rfl,a.o.low⟩
theorem qa3(s:ByteArray)(w:qh)(hd:q86 s)(h0:0<s.size)(h1:s.size<=65536):qk qd 51 #[.string s] w fun e w'=>∃A n,e=.returned (.tuple #[q0I A n n,.int .i64 0])/\Rd w' A n n (toL (dvk s s.size))/\qi w.heap.size w w':=by
 obtain⟨x,l⟩:=yx (w.alloc (.cells #[.slice qa 0 0] 37));have c:Cx w [(w.heap.size,37,[.slice qa 0 0])] x:=by rw[l];exact(Cx.nil w).new _ [_] rfl
 have t:=vv fun w=>Nat_.Parse s w hd h0 h1
 have D:=q3U (s:=s) (by omega);have b:=vv c;have y:=vv l;clear l c hd h0 h1;go_enter func51,ntmps51;go_wp2_with fail;rw[<- y.o];go_wp2_with fail;refine(t.o _).mono ?_;rintro e j ⟨d,a,rfl,q,-,g⟩;replace b:=vv (b.o.step g);have h:=vv (RN.mk q);clear g q;have f:=vv (b.o.get 0 rfl);go_wp2_with (with_reducible refine q00 rfl 37 (.tmp 2) (.tmp 16) rfl w.heap.size [.slice d a a] rfl rfl 37 _ (f.o.alloc _) (by kernel_rfl) rfl rfl ?_);intro z p k;clear f;obtain⟨E,m⟩:=yx (j.heap.size);obtain⟨C,i⟩:=yx (j.alloc (.cells #[.slice d a a] 37));have g:qi j.heap.size j C:=by rw[i];exact(qe _ _).alloc lr _
 have c:=b.o.new 37 [.slice d a a] m;rw[<- i] at c k
 try rw[<- i]
 try rw[<- m]
 replace b:=vv c;replace h:=vv (h.o.below g);clear i g c m;have f:=vv (b.o.get 1 rfl);replace b:=vv (b.o.put 1 rfl p k);replace h:=vv (h.o.apart_ f.o rfl k);clear f p k;go_wp2;have u:z.cell? ⟨w.heap.size,0,qa⟩=qf (.slice d a a):=(b.o.get 1 rfl).cell 0;exact qg (v:=.tuple #[q0I d a a,.int .i64 0]) (by simp [results,results51,go_sem,u]) rfl ⟨d,a,rfl,h.o.r,b.o.low⟩
end Dcm
namespace Pnt
open Go Go.RowKit R5 Scn Sh
theorem q2s{A:Option qj}{a:Nat}(h:Rd w A n c (toL (10^a)))(ha:a<=20000):n<=2501:=Rtp.rd_le (k:=2501) h (by have:=q2n a;omega)
theorem words_bl'(h:bl N<=32*k):words N<=k:=q0X (by rw[q1q];exact k02 (q0J N) (k04 (by decide) h))
theorem q7T(q:Nat):(bits .and .i64 (q:Int) 1==1)=qb (q%2=1):=by
 have:=Go.Proofs.YtabcgemembkkcaaGreatDoor.B.and_i64 q 0
 simpa using this
theorem PowTen(n:Nat)(w:qh)(hn:n<=20000):qk qd 52 #[.int .u32 10,.int .i64 (n:Int)] w (NatP (10^n) w):=by
 obtain⟨w0,T⟩:=yx (w.alloc (.cells #[.slice qa 0 0] 37));have u:Cx w [(w.heap.size,37,[.slice qa 0 0])] w0:=by rw[T];exact(Cx.nil w).new _ [_] rfl
 have c:=vv u;have HW:=vv T;have a3:=vv fun w=>Of 1 w (by decide)
 have a1:=vv fun w=>Of 10 w (by decide)
 have U:=vv fun p i a B1 m1 b w' (k:RN w' p i i (10^a)) (k2:RN w' B1 m1 m1 (10^b)) (hab:a+b<=20000)=>Mul p i i (10^a) B1 m1 m1 (10^b) w' k.r k2.r (by have:=q2s k.r (by omega);omega) (by have:=q2s k2.r (by omega);omega) (by have:=q2s k.r (by omega);have:=q2s k2.r (by omega);omega) (by rw[<- k0h];exact k06 (words_bl' (k:=2501) (by have:=q2n (a+b);omega)) (by decide))
 have c7:(n:Int)<=20000:=by omega
 have a9:=vv hn;clear T u;rcases k01 n with rfl|b0
 ·skip
  have b1:=vv c.o.low.size;go_enter func52,ntmps52;go_wp2_with fail;rw[<- HW.o];go_wp2_with fail;refine(a3.o _).mono ?_;rintro e w1 ⟨p,i,rfl,l,L,f⟩;replace c:=vv (c.o.step f);have Z:=vv (RN.mk l);have HF:qo (Fr w.heap.size p):=vv (L.mono b1.o);clear f l L
  skip
  skip
  have d:=vv (c.o.get 0 rfl);go_wp2_with (with_reducible refine q00 rfl 37 (.tmp 4) (.tmp 16) rfl w.heap.size [.slice p i i] rfl rfl 37 _ d.o (by kernel_rfl) rfl rfl ?_);intro I t g;clear d;have d:=vv (c.o.get 0 rfl);replace c:=vv (c.o.put 0 rfl t g);replace Z:=vv (Z.o.apart_ d.o rfl g);clear d t g;go_wp2;have b2:I.cell? ⟨w.heap.size,0,qa⟩=qf (.slice p i i):=(c.o.get 0 rfl).cell 0;exact qg (v:=.tuple #[q0I p i i,.int .i64 0]) (by simp [results,results52,go_sem,b2]) rfl ⟨p,i,rfl,Z.o.r,HF.o,c.o.low⟩
 ·have t0:qb ((n:Int)<0)=qc:=k00 (by omega);have t1:((n:Int)==0)=qc:=k09.2 (by omega);go_enter func52,ntmps52;go_wp2_with fail;rw[<- HW.o];go_wp2_with fail;refine(a3.o _).mono ?_;rintro e w1 ⟨p,i,rfl,l,-,f⟩;replace c:=vv (c.o.step f);have j:=vv (RN.mk l);clear f l;go_wp2_with fail;refine(a1.o _).mono ?_;rintro e I ⟨J,E,rfl,l,-,f⟩;replace c:=vv (c.o.step f);replace j:=vv (j.o.below f);have h:=vv (RN.mk l);clear f l;go_wp2_with fail;obtain⟨z,P⟩:=yx (I.heap.size);obtain⟨M,D⟩:=yx (I.alloc (.cells #[.slice p i i] 37));have f:qi I.heap.size I M:=by rw[D];exact(qe _ _).alloc lr _
  have u:=c.o.new 37 [.slice p i i] P;have a0:(z+1:Nat)=M.heap.size:=by rw[D,qm,<- P]
  rw[<- D] at u 
  try rw[<- D]
  try rw[<- P]
  replace c:=vv u;replace j:=vv (j.o.below f);replace h:=vv (h.o.below f);clear D f u P;obtain⟨R,D⟩:=yx (M.alloc (.cells #[.slice J E E] 37));have f:qi M.heap.size M R:=by rw[D];exact(qe _ _).alloc lr _
  have u:=c.o.new 37 [.slice J E E] a0;rw[<- D] at u 
  try rw[<- D]
  replace c:=vv u;replace j:=vv (j.o.below f);replace h:=vv (h.o.below f);clear D f u a0;go_loopw [1] (fun v wr=>∃(q a s:Nat) (p:Option qj) (i:Nat) (J:Option qj) (E:Nat),v=.int .i64 (q:Int)/\0<q/\0<s/\a+s*q=n/\Cx w [((z+1),37,[.slice J E E]),(z,37,[.slice p i i]),(w.heap.size,37,[.slice qa 0 0])] wr/\RN wr p i i (10^a)/\RN wr J E E (10^s)/\qi R.heap.size R R) (fun v _=>(intOf v).toNat)
  case atStart=>exact⟨n,0,1,p,i,J,E,rfl,b0,by decide,by omega,c.o,j.o,h.o,qe _ _⟩
  case round =>
   obtain⟨q,a,s,A3,n3,A4,K,rfl,hq,b3,b4,u,b5,b6,-⟩:=hrel;replace c:=vv u;replace j:=vv b5;replace h:=vv b6;have N:=vv b4;have b7:s*1<=s*q:=k0g _ hq;have c8:1*q<=s*q:=k0q _ b3;have b8:(q:Int)<=20000:=by have:=a9.o;omega
   obtain⟨m,a4⟩:=yx (q/2);have hd:(q:Int)/2=(m:Int):=by omega
   have Q:=q7T q;have y:=vv a4;clear a4;rcases k0Z q with S|S
   ·skip
    have a5:(bits .and .i64 (q:Int) 1==1)=qc:=by rw[Q,S];rfl
    clear Q;have b9:((m:Int)==0)=qc:=k09.2 (by have:=y.o;omega);have c0:s*2<=s*q:=k0g _ (by have:=y.o;omega);have V:wr.cell? ⟨(z+1),0,qa⟩=qf (.slice A4 K K):=(c.o.get 0 rfl).cell 0;have W:=(c.o.get 0 rfl).lt;go_wp2_with fail;refine(U.o _ _ s _ _ s _ h.o h.o (by have:=N.o;omega)).mono ?_;rintro e w8 ⟨O,G,rfl,l,-,f⟩;replace c:=vv (c.o.step f);replace j:=vv (j.o.below f);replace h:=vv (h.o.below f);have F:=vv (RN.mk l);clear V W f l;have d:=vv (c.o.get 0 rfl);go_wp2_with (with_reducible refine q00 rfl 37 (.tmp 7) (.tmp 53) rfl (z+1) [.slice O G G] rfl rfl 37 _ d.o (by kernel_rfl) rfl rfl ?_);intro w9 t g;clear d;have d:=vv (c.o.get 0 rfl);replace c:=vv (c.o.put 0 rfl t g);replace j:=vv (j.o.apart_ d.o rfl g);replace h:=vv (h.o.apart_ d.o rfl g);replace F:=vv (F.o.apart_ d.o rfl g);clear d t g;rw[<- k0h] at F;go_wp2;go_roundw
    case measure=>have:=y.o;simp [intOf];omega
    case rel=>exact⟨m,a,s+s,A3,n3,O,G,rfl,by have:=y.o;omega,by omega,by have h0:=y.o;have h1:=N.o;have h2:s*q=s*(2*m+0):=(by congr 1;omega);rw[k0k,k0b 2 m,<- k0f] at h2;rw[k18];have h3:s*m*2=s*m+s*m:=(by omega);omega,c.o,j.o,F.o,qe _ _⟩
   ·skip
    have a5:(bits .and .i64 (q:Int) 1==1)=qn:=by rw[Q,S];rfl
    clear Q;have V:wr.cell? ⟨(z+1),0,qa⟩=qf (.slice A4 K K):=(c.o.get 0 rfl).cell 0;have W:=(c.o.get 0 rfl).lt;have c1:wr.cell? ⟨z,0,qa⟩=qf (.slice A3 n3 n3):=(c.o.get 1 rfl).cell 0;have c2:=(c.o.get 1 rfl).lt;have c3:qo (w.heap.size<=wr.heap.size):=vv c.o.low.size;go_wp2_with fail;refine(U.o _ _ a _ _ s _ j.o h.o (by omega)).mono ?_;rintro e c9 ⟨H,x,rfl,l,L,f⟩;replace c:=vv (c.o.step f);replace j:=vv (j.o.below f);replace h:=vv (h.o.below f);have C:=vv (RN.mk l);have c4:=vv (L.mono c3.o);clear V W c1 c2 f l L;have d:=vv (c.o.get 1 rfl);go_wp2_with (with_reducible refine q00 rfl 37 (.tmp 6) (.tmp 38) rfl z [.slice H x x] rfl rfl 37 _ d.o (by kernel_rfl) rfl rfl ?_);intro a6 t g;clear d;have d:=vv (c.o.get 1 rfl);replace c:=vv (c.o.put 1 rfl t g);replace j:=vv (j.o.apart_ d.o rfl g);replace h:=vv (h.o.apart_ d.o rfl g);replace C:=vv (C.o.apart_ d.o rfl g);clear d t g;rw[<- k0h] at C;rcases k01 m with hz|hz
    ·subst hz;have c5:q=1:=by have:=y.o;omega
     subst c5;have a7:a+s=n:=by have:=N.o;omega
     have c6:=vv a7;clear a7 a5 S b7 hq b8;have X:a6.cell? ⟨z,0,qa⟩=qf (.slice H x x):=(c.o.get 1 rfl).cell 0;have Y:=(c.o.get 1 rfl).lt;have d:=vv (c.o.get 2 rfl);go_wp2_with (with_reducible refine q00 rfl 37 (.tmp 4) (.tmp 48) rfl w.heap.size [.slice H x x] rfl rfl 37 _ d.o (by kernel_rfl) rfl rfl ?_);intro a8 t g;clear d;have d:=vv (c.o.get 2 rfl);replace c:=vv (c.o.put 2 rfl t g);replace h:=vv (h.o.apart_ d.o rfl g);replace C:=vv (C.o.apart_ d.o rfl g);clear X Y d t g;go_wp2;have a2:a8.cell? ⟨w.heap.size,0,qa⟩=qf (.slice H x x):=(c.o.get 2 rfl).cell 0;exact qg (v:=.tuple #[q0I H x x,.int .i64 0]) (by simp [results,results52,go_sem,a2]) rfl ⟨H,x,rfl,by rw[<- c6.o];exact C.o.r,c4.o,c.o.low⟩
    ·skip
     have b9:((m:Int)==0)=qc:=k09.2 (by have:=y.o;omega);have c0:s*2<=s*q:=k0g _ (by have:=y.o;omega);have X:a6.cell? ⟨(z+1),0,qa⟩=qf (.slice A4 K K):=(c.o.get 0 rfl).cell 0;have Y:=(c.o.get 0 rfl).lt;go_wp2_with fail;refine(U.o _ _ s _ _ s _ h.o h.o (by have:=N.o;omega)).mono ?_;rintro e a8 ⟨O,G,rfl,l,-,f⟩;replace c:=vv (c.o.step f);replace h:=vv (h.o.below f);replace C:=vv (C.o.below f);have F:=vv (RN.mk l);clear X Y f l;have d:=vv (c.o.get 0 rfl);go_wp2_with (with_reducible refine q00 rfl 37 (.tmp 7) (.tmp 53) rfl (z+1) [.slice O G G] rfl rfl 37 _ d.o (by kernel_rfl) rfl rfl ?_);intro d0 t g;clear d;have d:=vv (c.o.get 0 rfl);replace c:=vv (c.o.put 0 rfl t g);replace h:=vv (h.o.apart_ d.o rfl g);replace C:=vv (C.o.apart_ d.o rfl g);replace F:=vv (F.o.apart_ d.o rfl g);clear d t g;rw[<- k0h] at F;go_wp2;go_roundw
     case measure=>have:=y.o;simp [intOf];omega
     case rel=>exact⟨m,(a+s),s+s,H,x,O,G,rfl,by have:=y.o;omega,by omega,by have h0:=y.o;have h1:=N.o;have h2:s*q=s*(2*m+1):=(by congr 1;omega);rw[k0k,k0b 2 m,<- k0f] at h2;rw[k18];have h3:s*m*2=s*m+s*m:=(by omega);omega,c.o,C.o,F.o,qe _ _⟩
end Pnt
namespace Exa
open Go Go.RowKit R5 Scn Sh Fms
structure DQ(w:qh)(A:Option qj)(n c N:Nat)(x:Int)(q:Rat):Prop where
 r:Rd w A n c (toL N)
 e:q=dq N x
 o:N%2=1\/(N=0/\x=0)
 bn:bl N<=90
 b1:-3000<=x
 b2:x<=3000
 z:A=qa->c=0
def DQP(q:Rat)(w:qh)(e:Ending)(w':qh):Prop:=
 ∃A n c N x,e=.returned (.tuple #[q14 qc A n c x,.int .i64 0])/\DQ w' A n c N x q/\qi w.heap.size w w'
theorem DQ.below{A:Option qj}{q:Rat}(h:DQ w A n c N x q)(hb:qi w.heap.size w w'):DQ w' A n c N x q:=⟨h.r.below hb rfl,h.e,h.o,h.bn,h.b1,h.b2,h.z⟩
theorem DQ.apart_{A:Option qj}{q:Rat}(h:DQ w A n c N x q){cs:List Go.Value}(hb:Blk w g t cs)(hcs:cs.all (fun v=>match v with|.int .u32 _=>qc|_=>qn)=qn)(hg:w.grownBy w' (qf g)):DQ w' A n c N x q:=⟨h.r.apart_ hb hcs hg,h.e,h.o,h.bn,h.b1,h.b2,h.z⟩
theorem DQ.n_le{A:Option qj}{q:Rat}(h:DQ w A n c N x q):n<=16384:=k06 (Rtp.rd_le (k:=3) h.r (by have:=h.bn;omega)) (by decide)
theorem DQ.ok{A:Option qj}{q:Rat}(h:DQ w A n c N x q)(neg:Bool:=qc)(hng:neg=qn->0<N:=by intro h;cases h):q1i neg n (toL N) x=0:=by
 have d:=h.n_le;have j:=h.b1;have l:=h.b2;have b:twoOk neg n (toL N) x=qn:=by
  unfold twoOk;rw[q1D h.r d,k03 (p:=x<=1073741824) (by omega),k03 (p:=-1073741824<=x) (by omega)];rcases h.o with k|⟨k,f⟩
  ·have m:0<N:=by omega
   have a:n≠0:=by intro e;have:=h.r.words;rw[e] at this;have:=q06.1 this;omega
   rw[k0o a];have:nth (toL N) 0%2=1:=by have e:=q08 (toL N) 0;have g:=q4Y N 0;simp at g;omega
   rw[k03 this];rfl
  ·have a:n=0:=by have:=h.r.words;rw[k,q0s] at this;exact this.symm
   have i:neg=qc:=by
    cases neg
    ·rfl
    ·have:=hng rfl;omega
   rw[k0n a,k03 f,i];rfl
 have:=q55 neg n (toL N) x;rw[b] at this;exact k1S.1 this
theorem q9Y{ad:qj}{xs:List Nat}(h:Rd w (qf ad) n c xs):∀j u,(q0q xs)[j]?=qf u->w.cell? (ad.add j)=qf u:=by
 intro j u a;have d:j<xs.length:=by
  rcases k0y j xs.length with k|k
  ·exact k
  ·rw[List.getElem?_eq_none (by simp [q0q];omega)] at a;cases a
 obtain⟨b,off,e,g,f⟩:=h.cell (by have:=h.len;omega);cases e;rw[q28 xs d] at a;have:=f j (by have:=h.len;omega);rw[<- a,<- this];congr 1;cases j<;>simp [Addr.add]
theorem qaX(A:Option qj)(n c N:Nat)(x:Int)(q:Rat)(w:qh)(h:DQ w A n c N x q):qk qd 217 #[q14 qc A n c x] w fun e w'=>∃A' c',e=.returned (q14 qc A' n c' x)/\DQ w' A' n c' N x q/\qi w.heap.size w w':=by
 obtain⟨R,hi,U,V,W⟩:=info_parts Go.Proofs.YtabcgemembkkcaaGreatDoor.AB.inf;obtain⟨m,E⟩:=yx ((w.alloc (.cells #[.bool qc,.slice A n c,.int .i64 x] 62)).alloc (.cells #[.bool qc,.slice qa 0 0,.int .i64 0] 62));have C:Cx w [(w.heap.size+1,62,[.bool qc,.slice qa 0 0,.int .i64 0]),(w.heap.size,62,[.bool qc,.slice A n c,.int .i64 x])] m:=by rw[E];exact((Cx.nil w).new _ [_,_,_] rfl).new _ [_,_,_] (by simp)
 have hn:=h.n_le;have a:=vv C;have S:=vv E;have d:=vv (h.below C.low);have HL:=vv h.r.lim;have X:=vv h.r.len;have Y:=C.low.size;clear E C h;rcases A with _|H
 ·have Z:c=0:=d.o.z rfl;subst Z;have a7:n=0:=by
   rcases k01 n with k|k
   ·exact k
   ·obtain⟨b,off,e,-⟩:=d.o.r.cell k;cases e
  subst a7;obtain⟨I,y⟩:=yx ((w.alloc (.cells #[.bool qc,.slice qa 0 0,.int .i64 x] 62)).alloc (.cells #[.bool qc,.slice qa 0 0,.int .i64 x] 62));have L:qi w.heap.size w I:=by rw[y];exact((qe _ _).alloc lr _).alloc (by simp) _
  have D:Blk I (w.heap.size+1) 62 [.bool qc,.slice qa 0 0,.int .i64 x]:=by
   rw[y];have:=Blk.made (w.alloc (.cells #[.bool qc,.slice qa 0 0,.int .i64 x] 62)) 62 [.bool qc,.slice qa 0 0,.int .i64 x]
   rwa [qm] at this
  have a8:qo (DQ I qa 0 0 N x q):=vv ⟨by have:=d.o.r;exact⟨this.len,this.le,this.sm,this.lim,fun k=>absurd k (by omega)⟩,d.o.e,d.o.o,d.o.bn,d.o.b1,d.o.b2,fun _=>rfl⟩;have a9:=vv L;have b0:=vv y;have f:=D.cell 0;have j:=D.cell 1;have l:=D.cell 2;simp only[List.getElem?_cons_zero,List.getElem?_cons_succ] at f j l;have HK:=vv (And.intro f (And.intro j l));clear y L D f j l S a d;go_enter func217,ntmps217;go_wp2_with (at_builtin;refine wpList_append_own_none rfl _ _ 35 rfl w.heap.size 54 R 1 underlying35 hi (.slice qa 0 0) 0 [] rfl (ql _ _ _ _) rfl ?_);rw[<- b0.o];obtain⟨f,j,l⟩:=HK.o;exact qg (v:=q14 qc qa 0 0 x) (by simp [results,results217,go_sem,f,j,l]) rfl ⟨qa,0,rfl,a8.o,a9.o⟩
 ·have a0:w.heap.size<=m.heap.size:=Y;have c5:(n:Int)<=16384:=by omega
  have HN:=vv (q9Y d.o.r);have b3:qo ((q0q (toL N)).length=n*1):=vv (by simp [q0q,X.o]);have b4:m.cell? ⟨w.heap.size,0,qa⟩=qf (.bool qc):=(a.o.get 1 rfl).cell 0;have b5:m.cell? ⟨w.heap.size,1,qa⟩=qf (.slice (qf H) n c):=(a.o.get 1 rfl).cell 1;have b6:m.cell? ⟨w.heap.size,2,qa⟩=qf (.int .i64 x):=(a.o.get 1 rfl).cell 2;have b7:=(a.o.get 1 rfl).lt;have b8:=(a.o.get 1 rfl).fz 0;have b9:=(a.o.get 1 rfl).fz 1;have c0:=(a.o.get 1 rfl).fz 2;go_enter func217,ntmps217;go_wp2_with (at_builtin;rw[<- S.o];refine wpList_append_own _ rfl _ _ 35 rfl w.heap.size 54 R (.int .u32 0) 1 4 underlying35 hi U V W rfl (by decide) (.slice qa 0 0) 0 [] rfl (ql _ _ _ _) H n c (q0q (toL N)) rfl b3.o HN.o (q1M _) (by unfold maxLen;omega) (by omega) a0 ?_);intro v' t u s a1
  try rw[k24,k0U] at u
  have T:qi m.heap.size m t:=⟨s.os,s.tape,s.output,s.size,fun i hi=>s.block i hi (by simp [Value.ownBlock])⟩;obtain⟨A',c',rfl⟩:=q6W u;have M:=(Go.Proofs.YtabcgemembkkcaaGreatDoor.A.row_rd u HL.o (by omega)).1;have O:A'=qa->c'=0:=fun e=>by
   subst e;rcases u.2 with ⟨k,-⟩|⟨g,cap,c6,k,-⟩
   ·cases k;rfl
   ·cases k
  replace a:=vv (a.o.step T);have HD:=vv (DQ.mk M d.o.e d.o.o d.o.bn d.o.b1 d.o.b2 O);clear u s a1 T M O d;clear b4 b5 b6 b7 b8 b9 c0;have c1:t.cell? ⟨w.heap.size,0,qa⟩=qf (.bool qc):=(a.o.get 1 rfl).cell 0;have c2:t.cell? ⟨w.heap.size,1,qa⟩=qf (.slice (qf H) n c):=(a.o.get 1 rfl).cell 1;have a2:t.cell? ⟨w.heap.size,2,qa⟩=qf (.int .i64 x):=(a.o.get 1 rfl).cell 2;have a3:=(a.o.get 1 rfl).lt;have a4:=(a.o.get 1 rfl).fz 0;have a5:=(a.o.get 1 rfl).fz 1;have a6:=(a.o.get 1 rfl).fz 2;have F:=vv (a.o.get 0 rfl);have P:qo (DQ (t.setCell ⟨w.heap.size,1,qa⟩ (.slice A' n c')) A' n c' N x q):=vv (HD.o.apart_ (a.o.get 1 rfl) rfl (Go.Proofs.YtabcgemembkkcaaGreatDoor.only_setCell (World.grownBy.refl _ _) (.inl rfl) _));have G:qo (qi w.heap.size w (t.setCell ⟨w.heap.size,1,qa⟩ (.slice A' n c'))):=vv (a.o.low.setCell (p:=⟨w.heap.size,1,qa⟩) lr _);go_wp2_with (with_reducible refine q00 rfl 62 (.tmp 2) (.tmp 9) rfl (w.heap.size+1) [.bool qc,.slice A' n c',.int .i64 x] rfl rfl 62 _ (F.o.other (p:=⟨w.heap.size,1,qa⟩) (by show w.heap.size≠_;omega) _) (by kernel_rfl) rfl rfl ?_);intro w7 Q J;have c3:=vv (P.o.apart_ (F.o.other (p:=⟨w.heap.size,1,qa⟩) (by show w.heap.size≠_;omega) _) rfl J);have c4:=vv (q0a G.o J G.o.size (k1B _));obtain⟨f,j,l⟩:=blk3 Q;have K:=vv (And.intro f (And.intro j l));clear Q J f j l P G F;clear c1 c2 a2 a3 a4 a5 a6;go_wp2;obtain⟨f,j,l⟩:=K.o;exact qg (v:=q14 qc A' n c' x) (by simp [results,results217,go_sem,f,j,l]) rfl ⟨A',c',rfl,c3.o,c4.o⟩
end Exa
end Go.Proofs.YtabcgemembkkcaaGreatDoor
