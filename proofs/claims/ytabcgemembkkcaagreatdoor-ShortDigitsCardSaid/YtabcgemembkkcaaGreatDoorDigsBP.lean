/- Lemmas. -/
import Derived.Test.YtabcgemembkkcaaGreatDoorDigsBN
import Derived.Test.YtabcgemembkkcaaGreatDoorDigsBO
import Derived.Test.YtabcgemembkkcaaGreatDoorDigsBK
set_option linter.all false
set_option maxHeartbeats 4000000
set_option maxRecDepth 100000
open Go.Proofs.Tryz
open Option renaming none->qa,some->qk
open Go renaming bodyPost_ret->qb,World->qf,RowKit.Below.refl->qg,Addr->qh,Calls->qj,World.ownsRow_nil->ql,wpList_append_own_none->qm,wpList_append_own->qn,World.size_alloc->qo,info_parts->qq
open Go.Proofs.Tryz renaming prog->qc
open Decidable renaming decide->qd
open Bool renaming false->qe,true->qr
open Go.RowKit renaming Below->qi,Hid->qp
namespace Go.Proofs.YtabcgemembkkcaaGreatDoor
variable{p x:Int}{d n c m g N k:Nat}{w w':qf}{b:Bool}{X Y:Option qh}{t:TypeId}{cs:List Value}
namespace Rtp
open Go Go.RowKit R5 Scn Sh
theorem low_num(hd:0<d):lp p d=(mkRat p d).num/\ld p d=(mkRat p d).den:=by refine q39 hd (mkRat p d).den_pos (mkRat p d).reduced ?_;exact(Rat.mkRat_eq_iff (mkRat p d).den_nz (by omega)).1 (k2E _)
theorem qaC(p:Int):sg (qd (p<0)) p.natAbs=p:=by
 unfold sg;split
 ·rename_i h;have:=k1h h;omega
 ·rename_i h;have:¬p<0:=fun k=>h (k04 k)
  omega
structure RQ(w:qf)(b:Bool)(X:Option qh)(n c:Nat)(Y:Option qh)(m d:Nat)(q:Rat):Prop where
 s:b=qd (q.num<0)
 x:Rd w X n c (toL q.num.natAbs)
 y:Rd w Y m d (toL q.den)
def RqP(q:Rat)(w:qf)(e:Ending)(w':qf):Prop:=
 ∃b X n Y m,e=.returned (.tuple #[q0m b X n n Y m m,.int .i64 0])/\RQ w' b X n n Y m m q/\qi w.heap.size w w'
theorem RQ.below{q:Rat}(h:RQ w b X n c Y m d q)(hb:qi w.heap.size w w'):RQ w' b X n c Y m d q:=⟨h.s,h.x.below hb rfl,h.y.below hb rfl⟩
theorem RQ.else_{q:Rat}(h:RQ w b X n c Y m d q)(hb:Blk w g t cs)(hcs:cs.all (fun v=>match v with|.int _ _=>qe|_=>qr)=qr)(hg:w.grownBy w' (qk g)):RQ w' b X n c Y m d q:=⟨h.s,h.x.else_ hb hcs hg,h.y.else_ hb hcs hg⟩
theorem RQ.apart_{q:Rat}(h:RQ w b X n c Y m d q)(hb:Blk w g t cs)(hcs:cs.all (fun v=>match v with|.int .u32 _=>qe|_=>qr)=qr)(hg:w.grownBy w' (qk g)):RQ w' b X n c Y m d q:=⟨h.s,h.x.apart_ hb hcs hg,h.y.apart_ hb hcs hg⟩
theorem RQ.drew{q:Rat}(h:RQ w b X n c Y m d q):RQ w.drew b X n c Y m d q:=⟨h.s,h.x.drew,h.y.drew⟩
theorem rd_le{A:Option qh}(h:Rd w A n c (toL N))(hb:bl N<=32*k):n<=k:=h.bound (by rw[q1u];exact k03 (q0O N) (k00 (by decide) hb))
theorem RQ.n_le{q:Rat}(h:RQ w b X n c Y m d q)(hs:Qb 524288 q):n<=16384/\m<=16384:=⟨rd_le h.x (by have:=hs.1;omega),rd_le h.y (by have:=hs.2;omega)⟩
theorem qcZ.q{D:Nat}{e:Ending}(hD:0<D)(h:qcZ p D w e w'):RqP (mkRat p D) w e w':=by
 obtain⟨X,n,Y,m,rfl,a,b,d⟩:=h;obtain⟨c,f⟩:=low_num (p:=p) hD;have g:qd (p<0)=qd ((mkRat p D).num<0):=by rw[<- c];exact k1y.2 (q2D hD).symm
 rw[c] at a;rw[f] at b;exact⟨_,X,n,Y,m,rfl,⟨g,a,b⟩,d⟩
theorem q4K(q:Rat)(b:Bool)(X:Option qh)(n c:Nat)(Y:Option qh)(m d:Nat)(w:qf)(h:RQ w b X n c Y m d q)(hs:Qb 524288 q)(hst:Std w):qj qc 109 #[q0m b X n c Y m d] w fun e w'=>∃g,e=.returned (.tuple #[.pointer (qk ⟨g,0,qa⟩),.int .i64 0])/\w.heap.size<=g/\RatAt w' g q.num q.den/\qi w.heap.size w w':=by obtain⟨a,f⟩:=h.n_le hs;have k:=qay (qd (q.num<0)) X n c Y m d q.num.natAbs q.den w h.x h.y a f q.den_pos q.reduced (fun e=>by have:=k1h e;omega) hst;rw[qaC,<- h.s] at k;exact k
theorem qbS(g:Nat)(p:Int)(d:Nat)(w:qf)(h:RatAt w g p d)(hs:Qb 524288 (mkRat p d)):qj qc 121 #[.pointer (qk ⟨g,0,qa⟩)] w (RqP (mkRat p d) w):=by obtain⟨a,b⟩:=low_num (p:=p) h.pos;refine(qbT g p d w h (by rw[a];exact hs.1) (by rw[b];exact hs.2)).mono fun e w' k=>qcZ.q h.pos k
theorem qd5(q:Rat)(b:Bool)(X:Option qh)(n c:Nat)(Y:Option qh)(m d:Nat)(w:qf)(h:RQ w b X n c Y m d q)(hs:Qb 524288 q)(hst:Std w):qj qc 43 #[q0m b X n c Y m d] w fun e w'=>e=.returned (.int .i64 0)/\qi w.heap.size w w':=by obtain⟨a,f⟩:=h.n_le hs;rw[h.s];exact Check (qd (q.num<0)) X n c Y m d q.num.natAbs q.den w h.x h.y a f q.den_pos q.reduced (fun e=>by have:=k1h e;omega) hst
theorem MakeQ(neg:Bool)(X:Option qh)(n c:Nat)(Y:Option qh)(m d N D:Nat)(w:qf)(hX:Rd w X n c (toL N))(hY:Rd w Y m d (toL D))(hn:n<=16384)(hm:m<=16384)(hD:0<D)(hst:Std w):qj qc 53 #[.bool neg,q0x X n c,q0x Y m d] w (RqP (mkRat (sg neg N) D) w):=(qdg neg X n c Y m d N D w hX hY hn hm hD hst).mono fun _ _ k=>k.q hD
theorem qcJ(a b:Rat):q2P (a.num*b.den) (b.num*a.den)=q1s a b:=by unfold q2P q1s;simp only[k3a]
theorem qeM(a:Rat)(na:Bool)(X:Option qh)(n c:Nat)(Y:Option qh)(m d:Nat)(b:Rat)(nb:Bool)(X':Option qh)(n' c':Nat)(Y':Option qh)(m' d':Nat)(w:qf)(ha:RQ w na X n c Y m d a)(hb:RQ w nb X' n' c' Y' m' d' b)(sa:Qb 524288 a)(sb:Qb 524288 b)(hst:Std w):qj qc 110 #[q0m na X n c Y m d,q0m nb X' n' c' Y' m' d'] w fun e w'=>e=.returned (.tuple #[.int .i64 (q1s a b),.int .i64 0])/\qi w.heap.size w w':=by
 obtain⟨u,s⟩:=yx ((w.alloc (.cells #[.bool na,.slice X n c,.slice Y m d] 39)).alloc (.cells #[.bool nb,.slice X' n' c',.slice Y' m' d'] 39));have r:Ctx w [(w.heap.size+1,39,[.bool nb,.slice X' n' c',.slice Y' m' d']),(w.heap.size,39,[.bool na,.slice X n c,.slice Y m d])] u:=by rw[s];exact((Ctx.nil w).new _ [_,_,_] rfl).new _ [_,_,_] (by simp)
 have D:=vv (q4K a na X n c Y m d u (ha.below r.low) sa (r.std hst));have E:=vv fun wr (hr:qi w.heap.size w wr)=>q4K b nb X' n' c' Y' m' d' wr (hb.below hr) sb (hst.below hr)
 have F:=vv s;have i:=vv r;have G:=vv (qcJ a b);have q:qp (Sz a.num.natAbs/\Sz a.den/\Sz b.num.natAbs/\Sz b.den):=vv ⟨by have:=sa.1;unfold Sz;omega,by have:=sa.2;unfold Sz;omega,by have:=sb.1;unfold Sz;omega,by have:=sb.2;unfold Sz;omega⟩;have j:=i.o.get 1 rfl |>.cell 0;have k:=i.o.get 1 rfl |>.cell 1;have l:=i.o.get 1 rfl |>.cell 2;have al:=i.o.get 1 rfl |>.lt;simp only[k06,k0l] at j k l;clear s r ha hb sa sb hst;go_enter func110,ntmps110;go_wp2_with fail;rw[<- F.o];go_wp2_with fail;refine D.o.mono ?_;rintro e J ⟨g,rfl,t,p,f⟩;have h:=vv (i.o.step f);have v:=vv p;clear t p f j k l al;have j:=h.o.get 0 rfl |>.cell 0;have k:=h.o.get 0 rfl |>.cell 1;have l:=h.o.get 0 rfl |>.cell 2;have al:=h.o.get 0 rfl |>.lt;simp only[k06,k0l] at j k l;go_wp2_with fail;refine(E.o _ h.o.low).mono ?_;rintro e H ⟨I,rfl,t,p,f⟩;have x:=vv (h.o.step f);have y:=vv (v.o.below f);have z:=vv p;clear t p f j k l al;go_wp2_with fail;refine(A.CmpS g I _ _ _ _ H y.o z.o q.o.1 q.o.2.1 q.o.2.2.1 q.o.2.2.2).mono ?_;rintro e K ⟨rfl,f⟩;rw[G.o];have C:=vv (x.o.step f);clear f;go_wp2;go_ret2;exact⟨rfl,C.o.low⟩
theorem q32(h:bl n<=524288):Sm n:=by unfold Sm;omega
theorem of_(a:Rat)(na:Bool)(X:Option qh)(n c:Nat)(Y:Option qh)(m d:Nat)(b:Rat)(nb:Bool)(X':Option qh)(n' c':Nat)(Y':Option qh)(m' d':Nat)(r:Rat){fq:FuncId}(p:Int)(D g0:Nat)(base w:qf)
  (ha:RQ w na X n c Y m d a) (hb:RQ w nb X' n' c' Y' m' d' b) (sa:Qb 524288 a) (sb:Qb 524288 b) (hB0:qi base.heap.size base w) (hg0:base.heap.size<=g0) (hsh:RatSh w g0) (hst:Std w)
  (hr:mkRat p D=r) (sr:Qb 524288 r)
  (hop:∀g1 g2 wr,RatSh wr g0->RatAt wr g1 a.num a.den->RatAt wr g2 b.num b.den->Std wr->qj qc fq #[.pointer (qk ⟨g0,0,qa⟩),.pointer (qk ⟨g1,0,qa⟩),.pointer (qk ⟨g2,0,qa⟩)] wr (q2I g0 p D wr)) (hq:fq=131\/fq=300:=by decide) :
  qj qc 129 #[q0m na X n c Y m d,q0m nb X' n' c' Y' m' d',.func (.func fq) #[.pointer (qk ⟨g0,0,qa⟩)] #[]] w (RqP r base):=by
 obtain⟨I,y⟩:=yx (((w.alloc (.cells #[.bool na,.slice X n c,.slice Y m d] 39)).alloc (.cells #[.bool nb,.slice X' n' c',.slice Y' m' d'] 39)).alloc (.cells #[.bool qe,.slice qa 0 0,.slice qa 0 0] 39));have R:Ctx base [(w.heap.size+2,39,[.bool qe,.slice qa 0 0,.slice qa 0 0]),(w.heap.size+1,39,[.bool nb,.slice X' n' c',.slice Y' m' d']),(w.heap.size,39,[.bool na,.slice X n c,.slice Y m d])] I:=by rw[y];exact((((⟨hB0,fun _ h=>by cases h⟩:Ctx base [] w)).new _ [_,_,_] rfl).new _ [_,_,_] (by simp)).new _ [_,_,_] (by simp)
 have j:qi w.heap.size w I:=by rw[y];exact(((qg _ w).alloc lr _).alloc (by simp) _).alloc (by simp;omega) _
 have HA:=vv (q4K a na X n c Y m d I (ha.below j) sa (hst.below j));have HB:=vv fun wr (hr:qi w.heap.size w wr)=>q4K b nb X' n' c' Y' m' d' wr (hb.below hr) sb (hst.below hr)
 have V:=vv hop;have O:=vv fun wr (h:RatAt wr g0 p D)=>qbS g0 p D wr h (by rw[hr];exact sr)
 rw[hr] at O;have HL:=vv j;have HW:=vv y;have k:=vv R;have W:=vv (hsh.below j);have Z:=vv hst;have S:qp (base.heap.size<=g0/\g0<w.heap.size):=vv ⟨hg0,by obtain⟨⟨v,hv⟩,-⟩:=hsh;exact hv.lt⟩;have a7:=vv hB0.size;have l:=k.o.get 2 rfl |>.cell 0;have q:=k.o.get 2 rfl |>.cell 1;have s:=k.o.get 2 rfl |>.cell 2;have al:=k.o.get 2 rfl |>.lt;simp only[k06,k0l] at l q s;clear y R ha hb sa sb hst hop hr sr j hsh hB0 hg0;rcases hq with rfl|rfl;all_goals
  go_enter func129,ntmps129;go_wp2_with fail;rw[<- HW.o];go_wp2_with fail;refine HA.o.mono ?_;rintro e w1 ⟨g1,rfl,J,g,f⟩;have i:=vv (k.o.step f);have P:=vn HL f;have a3:=vv (W.o.below f);have a8:=vv g;clear J g f l q s al;have l:=i.o.get 1 rfl |>.cell 0;have q:=i.o.get 1 rfl |>.cell 1;have s:=i.o.get 1 rfl |>.cell 2;have al:=i.o.get 1 rfl |>.lt;simp only[k06,k0l] at l q s;go_wp2_with fail;refine(HB.o _ P.o).mono ?_;rintro e w2 ⟨g2,rfl,J,g,f⟩;have a9:=vv (i.o.step f);have b0:=vn P f;have a4:=vv (a3.o.below f);have b1:=vv (a8.o.below f);have b2:=vv g;clear J g f l q s al;go_wp2_with fail;refine(V.o g1 g2 _ a4.o b1.o b2.o (Z.o.below b0.o)).mono ?_;rintro e w3 ⟨rfl,g,T⟩;have b3:=vv g;have b4:=vv (a9.o.fs T (by intro p L;rw[k09.1 L];exact S.o.1) (by intro x hx p L;rw[k09.1 L];have:=S.o.2;simp only[k0R,k0X,k2c] at hx;rcases hx with rfl|rfl|rfl<;>show g0≠_<;>omega));clear g T;go_wp2_with fail;refine(O.o _ b3.o).mono ?_;rintro e w4 ⟨F,M,t,N,u,rfl,U,f⟩;have G:=vv (b4.o.step f);have b5:=vv U;clear f U;have Q:=vv (G.o.get 0 rfl);go_wp2_with (with_reducible refine q00 rfl 39 (.tmp 6) (.tmp 34) rfl (w.heap.size+1+1) [.bool F,.slice M t t,.slice N u u] rfl rfl 39 _ Q.o (by kernel_rfl) rfl rfl ?_);intro b6 f H;have a5:=vv (q0a G.o.low H G.o.low.size (by have:=a7.o;omega));have a6:=vv (b5.o.else_ Q.o rfl H);obtain⟨z,C,E⟩:=Fms.blk3 f;have K:=vv (And.intro z (And.intro C E));clear f H z C E;go_wp2;obtain⟨z,C,E⟩:=K.o;exact qb (v:=.tuple #[q0m F M t t N u u,.int .i64 0]) (by simp [results,results129,go_sem,z,C,E]) rfl ⟨F,M,t,N,u,rfl,a6.o,a5.o⟩
theorem RatAt.shz(w:qf)(t:TypeId):RatSh (w.alloc (.cells #[.bool qe,.slice qa 0 0,.slice qa 0 0] t)) w.heap.size:=(RatAt.zero w t).sh
theorem qeG(a:Rat)(na:Bool)(X:Option qh)(n c:Nat)(Y:Option qh)(m d:Nat)(b:Rat)(nb:Bool)(X':Option qh)(n' c':Nat)(Y':Option qh)(m' d':Nat)(w:qf)
  (ha:RQ w na X n c Y m d a) (hb:RQ w nb X' n' c' Y' m' d' b) (sa:Qb 200000 a) (sb:Qb 200000 b) (hst:Std w) :
  qj qc 234 #[q0m na X n c Y m d,q0m nb X' n' c' Y' m' d'] w (RqP (a-b) w):=by
 obtain⟨f,g⟩:=yx (((w.alloc (.cells #[.bool na,.slice X n c,.slice Y m d] 39)).alloc (.cells #[.bool nb,.slice X' n' c',.slice Y' m' d'] 39)).alloc (.cells #[.bool qe,.slice qa 0 0,.slice qa 0 0] 39));have i:Ctx w [(w.heap.size+2,39,[.bool qe,.slice qa 0 0,.slice qa 0 0]),(w.heap.size+1,39,[.bool nb,.slice X' n' c',.slice Y' m' d']),(w.heap.size,39,[.bool na,.slice X n c,.slice Y m d])] f:=by rw[g];exact(((Ctx.nil w).new _ [_,_,_] rfl).new _ [_,_,_] (by simp)).new _ [_,_,_] (by simp)
 obtain⟨C,q⟩:=yx (f.alloc (.cells #[.bool qe,.slice qa 0 0,.slice qa 0 0] 175));have j:qi f.heap.size f C:=by rw[q];exact(qg _ _).alloc lr _
 have F:RatSh C f.heap.size:=by rw[q];exact RatAt.shz _ _
 have G:mkRat (a.num*b.den-b.num*a.den) (a.den*b.den)=a-b:=(Rat.sub_def' a b).symm;have J:Qb 524288 (a-b):=(sa.sub sb).mono (by decide);have u:=vv (of_ a na X n c Y m d b nb X' n' c' Y' m' d' (a-b) (fq:=131) (a.num*b.den-b.num*a.den) (a.den*b.den) f.heap.size f C (ha.below (i.step j).low) (hb.below (i.step j).low) (sa.mono (by decide)) (sb.mono (by decide)) j lr F ((i.step j).std hst) G J
  fun g1 g2 wr h h1 h2 hs=>A.SubR f.heap.size g1 g2 _ _ _ _ wr h h1 h2 hs (q32 (k07 sa.1 (by decide))) (q32 (k07 sa.2 (by decide))) (q32 (k07 sb.1 (by decide))) (q32 (k07 sb.2 (by decide))))
 have H:f.heap.size=w.heap.size+1+1+1:=by rw[g];simp
 rw[H] at u;rw[q,g] at u;have P:=vv i;have Q:=vv g;clear g i ha hb sa sb hst J j F q H G;go_enter func234,ntmps234;go_wp2_with fail;refine u.o.mono ?_;rw[<- Q.o];rintro e S ⟨x,D,k,E,l,rfl,L,p⟩;have y:=vv (P.o.step p);have M:=vv L;clear p L;have I:=vv (y.o.get 0 rfl);go_wp2_with (with_reducible refine q00 rfl 39 (.tmp 4) (.tmp 11) rfl (w.heap.size+1+1) [.bool x,.slice D k k,.slice E l l] rfl rfl 39 _ I.o (by kernel_rfl) rfl rfl ?_);intro R p z;have N:=vv (q0a y.o.low z y.o.low.size (by omega));have O:=vv (M.o.else_ I.o rfl z);obtain⟨r,s,t⟩:=Fms.blk3 p;have K:=vv (And.intro r (And.intro s t));clear p z r s t;go_wp2;obtain⟨r,s,t⟩:=K.o;exact qb (v:=.tuple #[q0m x D k k E l l,.int .i64 0]) (by simp [results,results234,go_sem,r,s,t]) rfl ⟨x,D,k,E,l,rfl,O.o,N.o⟩
def WhP(k:Int)(w:qf)(e:Ending)(w':qf):Prop:=
 ∃b X n Y m,e=.returned (q0m b X n n Y m m)/\RQ w' b X n n Y m m (k:Rat)/\qi w.heap.size w w'
theorem Qb.int{k:Int}(h:k.natAbs<=1000):Qb 524288 (k:Rat):=by unfold Qb;rw[Rat.num_intCast,Rat.den_intCast];have:bl k.natAbs<=10:=q0A (k0I h (by decide));exact⟨by omega,by decide⟩
theorem q52(k:Int)(w:qf)(hk:k.natAbs<=1000):qj qc 130 #[.int .i64 k] w (WhP k w):=by
 obtain⟨b,n⟩:=yx (w.alloc (.cells #[.bool qe,.slice qa 0 0,.slice qa 0 0] 39));have d:Cx w [(w.heap.size,39,[.bool qe,.slice qa 0 0,.slice qa 0 0])] b:=by rw[n];exact(Cx.nil w).new _ [_,_,_] rfl
 obtain⟨y,p⟩:=yx (b.alloc (.cells #[.bool qe,.slice qa 0 0,.slice qa 0 0] 175));have F:qi b.heap.size b y:=by rw[p];exact(qg _ _).alloc lr _
 have z:RatSh y b.heap.size:=by rw[p];exact RatAt.shz _ _
 have C:b.heap.size=w.heap.size+1:=by rw[n];simp
 have D:=vv (A.SetInt64R b.heap.size k y z (by omega) (by omega));have t:=vv fun wr (h:RatAt wr b.heap.size k 1)=>qbS b.heap.size k 1 wr h (by rw[k2n];exact Qb.int hk)
 rw[k2n] at t;have a:=vv (d.step F);have P:=vv n;have J:=vv p;have S:IntKind.i64.wrap k=k:=IntWalk.i64_in _ (by omega);rw[C] at D t;have T:-1000<=k:=by omega
 have U:k<=1000:=by omega
 clear n d F z p C hk;go_enter func130,ntmps130;go_wp2_with fail;rw[<- P.o,<- J.o];refine D.o.mono ?_;rintro e V ⟨rfl,G,H⟩;have K:=vv G;replace a:=vv (a.o.fs H (by intro x hx;rw[k09.1 hx];exact k33 _) (k1z _));clear G H;go_wp2_with fail;refine(t.o _ K.o).mono ?_;rintro e q ⟨g,i,n1,j,c,rfl,I,l⟩;replace a:=vv (a.o.step l);have m:=vv I;clear l I;have f:=vv (a.o.get 0 rfl);go_wp2_with (with_reducible refine q00 rfl 39 (.tmp 2) (.tmp 12) rfl w.heap.size [.bool g,.slice i n1 n1,.slice j c c] rfl rfl 39 _ (f.o.alloc _) (by kernel_rfl) rfl rfl ?_);intro Q E s;clear f;obtain⟨R,u⟩:=yx (q.heap.size);obtain⟨L,r⟩:=yx (q.alloc (.cells #[.bool g,.slice i n1 n1,.slice j c c] 39));have l:qi q.heap.size q L:=by rw[r];exact(qg _ _).alloc lr _
 have d:=a.o.new 39 [.bool g,.slice i n1 n1,.slice j c c] u;rw[<- r] at d s
 try rw[<- r]
 try rw[<- u]
 replace a:=vv d;replace m:=vv (m.o.below l);clear r l d u;have f:=vv (a.o.get 1 rfl);replace a:=vv (a.o.put 1 rfl E s);replace m:=vv (m.o.apart_ f.o rfl s);clear f E s;go_wp2;obtain⟨M,N,O⟩:=Blk.c3 (a.o.get 1 rfl);exact qb (v:=q0m g i n1 n1 j c c) (by simp [results,results130,go_sem,M,N,O]) rfl ⟨g,i,n1,j,c,rfl,m.o,a.o.low⟩
theorem qci(a:Rat)(na:Bool)(X:Option qh)(n c:Nat)(Y:Option qh)(m d:Nat)(b:Rat)(nb:Bool)(X':Option qh)(n' c':Nat)(Y':Option qh)(m' d':Nat)(g0:Nat)(base w:qf)
  (ha:RQ w na X n c Y m d a) (hb:RQ w nb X' n' c' Y' m' d' b) (sa:Qb 200000 a) (sb:Qb 200000 b) (hB0:qi base.heap.size base w) (hg0:base.heap.size<=g0) (hsh:RatSh w g0) (hst:Std w) :
  qj qc 129 #[q0m na X n c Y m d,q0m nb X' n' c' Y' m' d',.func (.func 131) #[.pointer (qk ⟨g0,0,qa⟩)] #[]] w (RqP (a-b) base):=
 of_ a na X n c Y m d b nb X' n' c' Y' m' d' (a-b) (fq:=131) (a.num*b.den-b.num*a.den) (a.den*b.den) g0 base w ha hb (sa.mono (by decide)) (sb.mono (by decide)) hB0 hg0 hsh hst (Rat.sub_def' a b).symm ((sa.sub sb).mono (by decide))
  fun g1 g2 wr h h1 h2 hs=>A.SubR g0 g1 g2 _ _ _ _ wr h h1 h2 hs (q32 (k07 sa.1 (by decide))) (q32 (k07 sa.2 (by decide))) (q32 (k07 sb.1 (by decide))) (q32 (k07 sb.2 (by decide)))
theorem Qb.add{A B:Nat}{x y:Rat}(hx:Qb A x)(hy:Qb B y):Qb (A+B+1) (x+y):=by
 have:=Qb.sub hx (Qb.neg hy)
 rwa [Rat.sub_eq_add_neg,Rat.neg_neg] at this
theorem qcj(a:Rat)(na:Bool)(X:Option qh)(n c:Nat)(Y:Option qh)(m d:Nat)(b:Rat)(nb:Bool)(X':Option qh)(n' c':Nat)(Y':Option qh)(m' d':Nat)(g0:Nat)(base w:qf)
  (ha:RQ w na X n c Y m d a) (hb:RQ w nb X' n' c' Y' m' d' b) (sa:Qb 200000 a) (sb:Qb 200000 b) (hB0:qi base.heap.size base w) (hg0:base.heap.size<=g0) (hsh:RatSh w g0) (hst:Std w) :
  qj qc 129 #[q0m na X n c Y m d,q0m nb X' n' c' Y' m' d',.func (.func 300) #[.pointer (qk ⟨g0,0,qa⟩)] #[]] w (RqP (a+b) base):=
 of_ a na X n c Y m d b nb X' n' c' Y' m' d' (a+b) (fq:=300) (a.num*b.den+b.num*a.den) (a.den*b.den) g0 base w ha hb (sa.mono (by decide)) (sb.mono (by decide)) hB0 hg0 hsh hst (Rat.add_def' a b).symm ((Qb.add sa sb).mono (by decide))
  fun g1 g2 wr h h1 h2 hs=>A.AddR g0 g1 g2 _ _ _ _ wr h h1 h2 hs (q32 (k07 sa.1 (by decide))) (q32 (k07 sa.2 (by decide))) (q32 (k07 sb.1 (by decide))) (q32 (k07 sb.2 (by decide)))
theorem q8K(b:Rat):((0:Int):Rat)-b = -b:=by rw[show(((0:Int):Rat))=0 from rfl];grind
theorem zero_add(b:Rat):((0:Int):Rat)+b=b:=by rw[show(((0:Int):Rat))=0 from rfl];grind
theorem Qb.zero:Qb 200000 ((0:Int):Rat):=⟨by decide,by decide⟩
theorem qee(a:Rat)(s:Bool)(X:Option qh)(n c:Nat)(Y:Option qh)(m d:Nat)(w:qf)(ha:RQ w s X n c Y m d a)(sa:Qb 200000 a)(hst:Std w):qj qc 61 #[q0m s X n c Y m d] w (RqP (-a) w):=by
 obtain⟨F,G⟩:=yx ((w.alloc (.cells #[.bool s,.slice X n c,.slice Y m d] 39)).alloc (.cells #[.bool qe,.slice qa 0 0,.slice qa 0 0] 39));have I:Cx w [(w.heap.size+1,39,[.bool qe,.slice qa 0 0,.slice qa 0 0]),(w.heap.size,39,[.bool s,.slice X n c,.slice Y m d])] F:=by rw[G];exact((Cx.nil w).new _ [_,_,_] rfl).new _ [_,_,_] (by simp)
 have f:=vv I;have HW:=vv G;have a3:=vv hst;have h:=vv (ha.below I.low);have a4:=vv sa;clear G I ha sa hst;go_enter func61,ntmps61;go_wp2_with fail;rw[<- HW.o];go_wp2_with fail;obtain⟨R,S,T,a5⟩:=Blk.f3 (f.o.get 1 rfl);refine q02 (fun w'=>w'.cell? ⟨w.heap.size,0,qa⟩=qk (.bool s)/\w'.cell? ⟨w.heap.size,1,qa⟩=qk (.slice X n c)/\w'.cell? ⟨w.heap.size,2,qa⟩=qk (.slice Y m d)) 7
  (.still 1 (.two 0 (.one 2 (.still 3 (.one 4 (.still 5 (.still 6 .done))))) 2 (.still 3 (.one 0 (.one 4 (.still 5 (.still 6 .done))))))) ⟨R,S,T⟩ (fun a6=>?_)
 iterate 1
  refine q03 ?_
 clear a5 R S T;obtain⟨i,H⟩:=yx (F.drew);have b:qi F.heap.size F i:=by rw[H];exact q05 (qg _ _)
 replace f:=vv (f.o.step b);replace h:=vv (h.o.below b);rw[<- H] at a6 ⊢;clear H b;refine q0e rfl (by rfl) rfl (by rfl) (fun K hK=>?_) (fun K hK=>?_)
 focus
  go_simp;refine(q52 0 i (by decide)).mono ?_;rintro e g ⟨V,W,J,Z,L,rfl,p,b⟩;replace f:=vv (f.o.step b);replace h:=vv (h.o.below b);have x:=vv p;clear b p;go_wp2_with fail;refine hK.out _ _ (Blk.c3 (f.o.get 1 rfl)) (fun y=>?_);clear hK;refine q01 rfl (by rfl) (fun K hK=>?_);go_simp;obtain⟨l,j⟩:=yx (g.heap.size);obtain⟨t,z⟩:=yx (g.alloc (.cells #[.bool qe,.slice qa 0 0,.slice qa 0 0] 175));have b:qi g.heap.size g t:=by rw[z];exact(qg _ _).alloc lr _
  have C:qp (RatSh t l):=vv (by rw[z,j];exact RatAt.shz _ _);rw[<- z]
  try rw[<- j]
  have k:qp (qi g.heap.size g t/\g.heap.size<=l):=vv ⟨b,by rw[j];exact lr⟩;have D:=f;obtain⟨wb,q⟩:=yx (g);rw[<- q] at D k;replace f:=vv (f.o.step b);replace h:=vv (h.o.below b);replace x:=vv (x.o.below b);clear b z j q;refine hK.out _ _ (Blk.c3 (f.o.get 1 rfl)) (fun y=>?_);clear hK
  iterate 1
   refine q03 ?_
 rotate_left
 focus
  go_simp;obtain⟨l,j⟩:=yx (i.heap.size);obtain⟨g,E⟩:=yx (i.alloc (.cells #[.bool qe,.slice qa 0 0,.slice qa 0 0] 175));have b:qi i.heap.size i g:=by rw[E];exact(qg _ _).alloc lr _
  have C:qp (RatSh g l):=vv (by rw[E,j];exact RatAt.shz _ _);rw[<- E]
  try rw[<- j]
  have k:qp (qi i.heap.size i g/\i.heap.size<=l):=vv ⟨b,by rw[j];exact lr⟩;have D:=f;obtain⟨wb,q⟩:=yx (i);rw[<- q] at D k;replace f:=vv (f.o.step b);replace h:=vv (h.o.below b);clear b E j q;refine hK.out _ _ (Blk.c3 (f.o.get 1 rfl)) (fun y=>?_);clear hK
  iterate 1
   refine q03 ?_
  refine q01 rfl (by rfl) (fun K hK=>?_);go_simp;refine(q52 0 g (by decide)).mono ?_;rintro e t ⟨V,W,J,Z,L,rfl,p,b⟩;replace f:=vv (f.o.step b);replace h:=vv (h.o.below b);replace C:=vv (C.o.below b);have x:=vv p;replace k:=vv (And.intro (k.o.1.trans (b.mono k.o.1.size)) k.o.2);clear b p;go_wp2_with fail;refine hK.out _ _ (Blk.c3 (f.o.get 1 rfl)) (fun y=>?_);clear hK
 rotate_left;all_goals
  refine q01 rfl (by rfl) (fun K hK=>?_);go_simp;refine(qci _ V W J J Z L L a s X n c Y m d l wb t x.o h.o Qb.zero a4.o k.o.1 k.o.2 C.o (f.o.std a3.o)).mono ?_;rw[q8K];rintro e w4 ⟨M,N,n1,O,u,rfl,hQ,b⟩;replace f:=vv (D.o.step b);have P:=vv hQ;clear b hQ;go_wp2_with fail;refine hK.out _ _ (Blk.c3 (f.o.get 1 rfl)) (fun y=>?_);clear hK
  iterate 2
   refine q03 ?_
  refine q08 ?_;simp only[k0o,k0w];have r:=vv (f.o.get 0 rfl);go_wp2_with (with_reducible refine q00 rfl 39 (.tmp 2) (.tmp 9) rfl (w.heap.size+1) [.bool M,.slice N n1 n1,.slice O u u] rfl rfl 39 _ r.o (by kernel_rfl) rfl rfl ?_);intro a7 U Q;clear r;have r:=vv (f.o.get 0 rfl);replace f:=vv (f.o.put 0 rfl U Q);replace P:=vv (P.o.apart_ r.o rfl Q);clear r U Q;go_wp2;obtain⟨a0,a1,a2⟩:=Blk.c3 (f.o.get 0 rfl);exact qb (v:=.tuple #[q0m M N n1 n1 O u u,.int .i64 0]) (by simp [results,results61,go_sem,a0,a1,a2]) rfl ⟨M,N,n1,O,u,rfl,P.o,f.o.low⟩
theorem q9Q{a:Rat}(h:a.num<0):a.abs = -a:=Rat.abs_of_nonpos (k1w ((k3a a 0).2 (by show a.num*1<0*_;omega)))
theorem q9P{a:Rat}(h:¬a.num<0):a.abs=a:=Rat.abs_of_nonneg (Rat.num_nonneg.1 (by omega))
theorem qeQ(a:Rat)(s:Bool)(X:Option qh)(n c:Nat)(Y:Option qh)(m d:Nat)(w:qf)(ha:RQ w s X n c Y m d a)(sa:Qb 200000 a)(hst:Std w):qj qc 235 #[q0m s X n c Y m d] w (RqP a.abs w):=by
 obtain⟨T,U⟩:=yx ((w.alloc (.cells #[.bool s,.slice X n c,.slice Y m d] 39)).alloc (.cells #[.bool qe,.slice qa 0 0,.slice qa 0 0] 39));have Z:Cx w [(w.heap.size+1,39,[.bool qe,.slice qa 0 0,.slice qa 0 0]),(w.heap.size,39,[.bool s,.slice X n c,.slice Y m d])] T:=by rw[U];exact((Cx.nil w).new _ [_,_,_] rfl).new _ [_,_,_] (by simp)
 have b:=vv Z;have HW:=vv U;have a3:=vv hst;have g:=vv (ha.below Z.low);have a4:=vv sa;have C:=ha.s;clear U Z ha sa hst;cases s
 ·have G:¬a.num<0:=fun k=>by rw[k04 k] at C;cases C
  rw[q9P G];clear C G;obtain⟨h0,h1⟩:=Blk.f1 (b.o.get 1 rfl);go_enter func235,ntmps235;go_wp2_with fail;rw[<- HW.o];go_wp2_with fail;clear h0 h1 HW;go_wp2_with fail;obtain⟨J,L,M,V⟩:=Blk.f3 (b.o.get 1 rfl);refine q02 (fun w'=>w'.cell? ⟨w.heap.size,0,qa⟩=qk (.bool qe)/\w'.cell? ⟨w.heap.size,1,qa⟩=qk (.slice X n c)/\w'.cell? ⟨w.heap.size,2,qa⟩=qk (.slice Y m d)) 7
   (.still 1 (.two 0 (.one 2 (.still 3 (.one 4 (.still 5 (.still 6 .done))))) 2 (.still 3 (.one 0 (.one 4 (.still 5 (.still 6 .done))))))) ⟨J,L,M⟩ (fun a5=>?_)
  iterate 1
   refine q03 ?_
  clear V J L M;obtain⟨j,W⟩:=yx (T.drew);have f:qi T.heap.size T j:=by rw[W];exact q05 (qg _ _)
  replace b:=vv (b.o.step f);replace g:=vv (g.o.below f);rw[<- W] at a5 ⊢;clear W f;refine q0e rfl (by rfl) rfl (by rfl) (fun K hK=>?_) (fun K hK=>?_)
  focus
   go_simp;refine(q52 0 j (by decide)).mono ?_;rintro e h ⟨s0,X0,n0,Y0,m0,rfl,D,f⟩;replace b:=vv (b.o.step f);replace g:=vv (g.o.below f);have N:=vv D;clear f D;go_wp2_with fail;refine hK.out _ _ (Blk.c3 (b.o.get 1 rfl)) (fun O=>?_);clear hK;refine q01 rfl (by rfl) (fun K hK=>?_);go_simp;obtain⟨z,p⟩:=yx (h.heap.size);obtain⟨H,P⟩:=yx (h.alloc (.cells #[.bool qe,.slice qa 0 0,.slice qa 0 0] 175));have f:qi h.heap.size h H:=by rw[P];exact(qg _ _).alloc lr _
   have Q:qp (RatSh H z):=vv (by rw[P,p];exact RatAt.shz _ _);rw[<- P]
   try rw[<- p]
   have q:qp (qi h.heap.size h H/\h.heap.size<=z):=vv ⟨f,by rw[p];exact lr⟩;have R:=b;obtain⟨wb,E⟩:=yx (h);rw[<- E] at R q;replace b:=vv (b.o.step f);replace g:=vv (g.o.below f);replace N:=vv (N.o.below f);clear f P p E;refine hK.out _ _ (Blk.c3 (b.o.get 1 rfl)) (fun O=>?_);clear hK
   iterate 1
    refine q03 ?_
  rotate_left
  focus
   go_simp;obtain⟨z,p⟩:=yx (j.heap.size);obtain⟨h,S⟩:=yx (j.alloc (.cells #[.bool qe,.slice qa 0 0,.slice qa 0 0] 175));have f:qi j.heap.size j h:=by rw[S];exact(qg _ _).alloc lr _
   have Q:qp (RatSh h z):=vv (by rw[S,p];exact RatAt.shz _ _);rw[<- S]
   try rw[<- p]
   have q:qp (qi j.heap.size j h/\j.heap.size<=z):=vv ⟨f,by rw[p];exact lr⟩;have R:=b;obtain⟨wb,E⟩:=yx (j);rw[<- E] at R q;replace b:=vv (b.o.step f);replace g:=vv (g.o.below f);clear f S p E;refine hK.out _ _ (Blk.c3 (b.o.get 1 rfl)) (fun O=>?_);clear hK
   iterate 1
    refine q03 ?_
   refine q01 rfl (by rfl) (fun K hK=>?_);go_simp;refine(q52 0 h (by decide)).mono ?_;rintro e H ⟨s0,X0,n0,Y0,m0,rfl,D,f⟩;replace b:=vv (b.o.step f);replace g:=vv (g.o.below f);replace Q:=vv (Q.o.below f);have N:=vv D;replace q:=vv (And.intro (q.o.1.trans (f.mono q.o.1.size)) q.o.2);clear f D;go_wp2_with fail;refine hK.out _ _ (Blk.c3 (b.o.get 1 rfl)) (fun O=>?_);clear hK
  rotate_left;all_goals
   refine q01 rfl (by rfl) (fun K hK=>?_);go_simp;refine(qcj _ s0 X0 n0 n0 Y0 m0 m0 a qe X n c Y m d z wb H N.o g.o Qb.zero a4.o q.o.1 q.o.2 Q.o (b.o.std a3.o)).mono ?_;rw[zero_add];rintro e w4 ⟨t,u,n1,x,l,rfl,I,f⟩;replace b:=vv (R.o.step f);have y:=vv I;clear f I;go_wp2_with fail;refine hK.out _ _ (Blk.c3 (b.o.get 1 rfl)) (fun O=>?_);clear hK
   iterate 2
    refine q03 ?_
   refine q08 ?_;simp only[k0o,k0w];have i:=vv (b.o.get 0 rfl);go_wp2_with (with_reducible refine q00 rfl 39 (.tmp 2) (.tmp 15) rfl (w.heap.size+1) [.bool t,.slice u n1 n1,.slice x l l] rfl rfl 39 _ i.o (by kernel_rfl) rfl rfl ?_);intro a9 F r;clear i;have i:=vv (b.o.get 0 rfl);replace b:=vv (b.o.put 0 rfl F r);replace y:=vv (y.o.apart_ i.o rfl r);clear i F r;go_wp2;obtain⟨a0,a1,a2⟩:=Blk.c3 (b.o.get 0 rfl);exact qb (v:=.tuple #[q0m t u n1 n1 x l l,.int .i64 0]) (by simp [results,results235,go_sem,a0,a1,a2]) rfl ⟨t,u,n1,x,l,rfl,y.o,b.o.low⟩
 ·have G:a.num<0:=k1h C.symm;rw[q9Q G];clear C G;obtain⟨J,L,M,V⟩:=Blk.f3 (b.o.get 1 rfl);go_enter func235,ntmps235;go_wp2_with fail;rw[<- HW.o];go_wp2_with fail;refine(qee a qr X n c Y m d _ g.o a4.o (b.o.std a3.o)).mono ?_;rintro e j ⟨t,u,n1,x,l,rfl,I,f⟩;replace b:=vv (b.o.step f);replace g:=vv (g.o.below f);have y:=vv I;clear J L M V f I;have i:=vv (b.o.get 0 rfl);go_wp2_with (with_reducible refine q00 rfl 39 (.tmp 2) (.tmp 8) rfl (w.heap.size+1) [.bool t,.slice u n1 n1,.slice x l l] rfl rfl 39 _ i.o (by kernel_rfl) rfl rfl ?_);intro w6 F r;clear i;have i:=vv (b.o.get 0 rfl);replace b:=vv (b.o.put 0 rfl F r);replace g:=vv (g.o.apart_ i.o rfl r);replace y:=vv (y.o.apart_ i.o rfl r);clear i F r;go_wp2;obtain⟨a6,a7,a8⟩:=Blk.c3 (b.o.get 0 rfl);exact qb (v:=.tuple #[q0m t u n1 n1 x l l,.int .i64 0]) (by simp [results,results235,go_sem,a6,a7,a8]) rfl ⟨t,u,n1,x,l,rfl,y.o,b.o.low⟩
theorem q94{q:Rat}(hq:0<q)(k:Int):mkRat (sg qe (q.num.natAbs*t10 k)) (q.den*t10 (-k))=q*tp k:=by
 have a:=q18 hq;unfold tp
 conv=>rhs;lhs;rw[<- k2E q]
 rw[Rat.mkRat_mul_mkRat];congr 1;show((q.num.natAbs*t10 k:Nat):Int)=_;rw[k0f];congr 1;omega
theorem qcX(q:Rat)(s:Bool)(X:Option qh)(n c:Nat)(Y:Option qh)(m d:Nat)(k:Int)(w:qf)(h:RQ w s X n c Y m d q)(hs:Qb 400000 q)(hq:0<q)(hk1:-20000<=k)(hk2:k<=20000)(hst:Std w):qj qc 141 #[q0m s X n c Y m d,.int .u32 10,.int .i64 k] w (RqP (q*tp k) w):=by
 obtain⟨a,b⟩:=h.n_le (hs.mono (by decide));have g:=q18 hq;have e:s=qe:=by rw[h.s];exact k02 (by omega)
 subst e;have f:=qbv qe X n c Y m d q.num.natAbs q.den k w h.x h.y a b q.den_pos q.reduced (by omega) hk1 hk2 hs.1 hs.2 hst;refine f.mono fun e w' hP=>?_
 have:=hP.q (k0N q.den_pos (q2l _))
 rwa [q94 hq] at this
def qao(N:Nat)(w:qf)(e:Ending)(w':qf):Prop:=
 ∃A n,e=.returned (.tuple #[.bool qe,q0x A n n,.int .i64 0])/\Rd w' A n n (toL N)/\qi w.heap.size w w'
theorem qd3(q:Rat)(s:Bool)(X:Option qh)(n c:Nat)(Y:Option qh)(m d:Nat)(w:qf)(h:RQ w s X n c Y m d q)(hs:Qb 400000 q)(hq:0<=q)(hst:Std w):qj qc 142 #[q0m s X n c Y m d] w (qao q.floor.natAbs w):=by
 obtain⟨U,F⟩:=yx ((w.alloc (.cells #[.bool s,.slice X n c,.slice Y m d] 39)).alloc (.cells #[.slice qa 0 0] 37));have z:Cx w [(w.heap.size+1,37,[.slice qa 0 0]),(w.heap.size,39,[.bool s,.slice X n c,.slice Y m d])] U:=by rw[F];exact((Cx.nil w).new _ [_,_,_] rfl).new _ [_] (by simp)
 obtain⟨V,W⟩:=q3a (p:=q.num) q.den_pos q.reduced;have G:q.num/(q.den:Int)=q.floor:=(Rat.floor_def q).symm;have a1:0<=q.floor:=k34.2 (by simpa using hq);have L:qd (q.floor.sign<0)=qe:=k02 (by intro k;have:=Int.sign_neg_iff.1 k;omega);have M:bl q.floor.natAbs<=4294967296:=by
  have h1:q.floor.natAbs<=q.num.natAbs:=by rw[<- G];exact Int.natAbs_ediv_le_natAbs _ _
  have:=q1k h1;have:=hs.1;omega
 have a2:=vv (q4K q s X n c Y m d U (h.below z.low) (hs.mono (by decide)) (z.std hst));have N:=vv fun g wr (k:RatAt wr g q.num q.den)=>A.Num g q.num q.den wr k
 have O:=vv fun g wr (k:RatAt wr g q.num q.den)=>A.Denom g q.num q.den wr k
 rw[V] at N;rw[W] at O;have H:=vv fun g gx gy wr (k0:IntAt wr g 0 0) (k1:IntAt wr gx 0 q.num) (k2:IntAt wr gy 0 (q.den:Int))=>A.Div g 0 gx 0 gy 0 0 q.num q.den wr k0 k1 k2 (by have:=q.den_pos;omega) (by have:=hs.1;unfold Sz;omega)
 rw[G] at H;have P:=vv fun g wr (k:IntAt wr g 0 q.floor)=>qaY g 0 q.floor wr k M
 obtain⟨Z,Q⟩:=yx (q.floor);rw[<- Q] at H P L ⊢;obtain⟨sf,I⟩:=yx (Z.sign);rw[<- I] at L;have a3:=vv I;have b:=vv z;have HW:=vv F;clear F z h hs hq hst V W G a1 M Q I;obtain⟨a4,a5,a6,a7⟩:=Blk.f3 (b.o.get 1 rfl);go_enter func142,ntmps142;go_wp2_with fail;rw[<- HW.o];go_wp2_with fail;refine(a2.o).mono ?_;rintro e r ⟨g1,rfl,-,hR,a⟩;replace b:=vv (b.o.step a);have f:=vv hR;clear a4 a5 a6 a7 a hR;go_wp2_with fail;obtain⟨t,u⟩:=yx (r.heap.size);obtain⟨wz,y⟩:=yx (r.alloc (.cells #[.bool qe,.slice qa 0 0] 142));have a:qi r.heap.size r wz:=by rw[y];exact(qg _ _).alloc lr _
 have j:qp (IntAt wz t 0 0):=vv (by rw[y,u];exact IntAt.zero r 142);have R:qp (w.heap.size+1<t):=vv (by rw[u];exact(b.o.get 0 rfl).lt);rw[<- y]
 try rw[<- u]
 replace b:=vv (b.o.step a);replace f:=vv (f.o.below a);clear a y u;refine(N.o _ _ f.o).mono ?_;rintro e w6 ⟨g2,rfl,-,i,a⟩;replace b:=vv (b.o.step a);replace f:=vv (f.o.below a);replace j:=vv (j.o.below a);have C:=vv i;clear a i;go_wp2_with fail;refine(O.o _ _ f.o).mono ?_;rintro e w7 ⟨g3,rfl,-,i,a⟩;replace b:=vv (b.o.step a);replace f:=vv (f.o.below a);replace j:=vv (j.o.below a);replace C:=vv (C.o.below a);have HD:=vv i;clear a i;go_wp2_with fail;refine(H.o t g2 g3 _ j.o C.o HD.o).mono ?_;rintro e a9 ⟨rfl,i,hF⟩;replace b:=vv (b.o.fs hF (by intro x hx;have:=R.o;simp only[k0R,k0X,k2c] at hx;rcases hx with rfl|rfl<;>show(_:Nat)<t<;>omega) (by have:=R.o;omega));have D:=vv i;clear hF i j C HD f;go_wp2_with fail;refine(A.Sign t 0 Z _ D.o).mono ?_;rintro e b0 ⟨rfl,hw⟩;subst hw;rw[<- a3.o];go_wp2_with fail;refine(P.o _ _ D.o).mono ?_;rintro e b1 ⟨E,n1,rfl,S,-,a⟩;replace b:=vv (b.o.step a);replace D:=vv (D.o.below a);have J:=vv S;clear a S;have l:=vv (b.o.get 0 rfl);go_wp2_with (with_reducible refine q00 rfl 37 (.tmp 3) (.tmp 26) rfl (w.heap.size+1) [.slice E n1 n1] rfl rfl 37 _ l.o (by kernel_rfl) rfl rfl ?_);intro a8 T K;clear l;have l:=vv (b.o.get 0 rfl);replace b:=vv (b.o.put 0 rfl T K);replace J:=vv (J.o.apart_ l.o rfl K);clear l T K;go_wp2;have a0:a8.cell? ⟨(w.heap.size+1),0,qa⟩=qk (.slice E n1 n1):=(b.o.get 0 rfl).cell 0;exact qb (v:=.tuple #[.bool qe,q0x E n1 n1,.int .i64 0]) (by simp [results,results142,go_sem,a0]) rfl ⟨E,n1,rfl,J.o,b.o.low⟩
end Rtp
namespace Dcm
open Go Go.RowKit R5 Scn Sh Dec
theorem MakeT(n:Nat)(x:Int)(w:qf)(h:0<n)(hl:q0K n<=65536)(h1:-100000<=x)(h2:x<=100000):qj qc 233 #[.bool qe,.string (q0J n),.int .i64 x] w fun e w'=>e=.returned (.tuple #[q3J qe (q0J (q0E n)) (x+(Go.Proofs.YtabcgemembkkcaaGreatDoor.Sh.tz n:Int)),.int .i64 0])/\qi w.heap.size w w':=by
 obtain⟨F,c⟩:=yx (w.alloc (.cells #[.bool qe,.string ⟨#[]⟩,.int .i64 0] 27));have q:Cx w [(w.heap.size,27,[.bool qe,.string ⟨#[]⟩,.int .i64 0])] F:=by rw[c];exact(Cx.nil w).new _ [_,_,_] rfl
 have g:=q0z n;have i:=q0z (q0E n);have j:=q1w h;have G:=q16 (q0E n);have d:=vv fun w=>qae (q0J n) w (by omega)
 rw[q3P] at d;have f:qp (∀w,qj qc 296 #[.string (q0J n),.string ⟨#[48]⟩] w fun e w'=>e=.returned (.string (q0J (q0E n)))/\w'=w):=vv fun w=>by have:=Tryz.strings_TrimRight_one (q0J n) 48 (by decide) w (by omega);rw[q1L,q9H h] at this;exact this
 have k:qp (∀w,qj qc 299 #[.string (q0J (q0E n)),.string ⟨#[48]⟩] w fun e w'=>e=.returned (.string (q0J (q0E n)))/\w'=w):=vv fun w=>by have:=Tryz.strings_TrimLeft_one (q0J (q0E n)) 48 (by decide) w;rw[q1L,qbh (q5h h)] at this;exact this
 obtain⟨z,r⟩:=yx (Go.Proofs.YtabcgemembkkcaaGreatDoor.Sh.tz n);rw[<- r] at j ⊢;obtain⟨S,t⟩:=yx (q0J n);obtain⟨T,u⟩:=yx (q0J (q0E n));rw[<- t] at g d f ⊢;rw[<- u] at i f k ⊢;have I:(S.size:Int)-(T.size:Int)=(z:Int):=by omega
 have J:(S.size:Int)<=65536:=by omega
 have K:(z:Int)<=65536:=by omega
 have L:=q4c (s:=T) (by omega);have l:farB (x+(z:Int))=qe:=by unfold farB;rw[k02 (by omega),k02 (by omega)];rfl
 have m:=vv fun w=>Go.Proofs.YtabcgemembkkcaaGreatDoor.Dec.far (x+(z:Int)) w
 rw[l] at m;have a:=vv q;have H:=vv c;have M:qd ((1073741824:Int)<x)=qe:=k02 (by omega);have N:qd (x<(-2147483648:Int))=qe:=k02 (by omega);clear c q g i j G r t u l h hl;go_enter func233,ntmps233;go_wp2_with fail;rw[<- H.o];refine(d.o _).mono ?_;rintro e w' ⟨rfl,rfl⟩;go_wp2_with fail;refine(f.o _).mono ?_;rintro e w' ⟨rfl,rfl⟩;go_wp2_with fail;refine(k.o _).mono ?_;rintro e w' ⟨rfl,rfl⟩;go_wp2_with fail;refine(m.o _).mono ?_;rintro e w' ⟨rfl,rfl⟩;have b:=vv (a.o.get 0 rfl);go_wp2_with (with_reducible refine q00 rfl 27 (.tmp 6) (.tmp 53) rfl w.heap.size [.bool qe,.string T,.int .i64 (x+(z:Int))] rfl rfl 27 _ b.o (by kernel_rfl) rfl rfl ?_);intro O p y;clear b;have b:=vv (a.o.get 0 rfl);replace a:=vv (a.o.put 0 rfl p y);clear b p y;go_wp2;obtain⟨C,D,E⟩:=Blk.c3 (a.o.get 0 rfl);exact qb (v:=.tuple #[q3J qe T (x+(z:Int)),.int .i64 0]) (by simp [results,results233,go_sem,C,D,E]) rfl ⟨rfl,a.o.low⟩
theorem qaM(s:ByteArray)(w:qf)(hd:q8F s)(h0:0<s.size)(h1:s.size<=65536):qj qc 51 #[.string s] w fun e w'=>∃A n,e=.returned (.tuple #[q0x A n n,.int .i64 0])/\Rd w' A n n (toL (dvk s s.size))/\qi w.heap.size w w':=by
 obtain⟨u,k⟩:=yx (w.alloc (.cells #[.slice qa 0 0] 37));have b:Cx w [(w.heap.size,37,[.slice qa 0 0])] u:=by rw[k];exact(Cx.nil w).new _ [_] rfl
 have q:=vv fun w=>Nat_.Parse s w hd h0 h1
 have C:=q4c (s:=s) (by omega);have a:=vv b;have x:=vv k;clear k b hd h0 h1;go_enter func51,ntmps51;go_wp2_with fail;rw[<- x.o];go_wp2_with fail;refine(q.o _).mono ?_;rintro e i ⟨c,n1,rfl,p,-,f⟩;replace a:=vv (a.o.step f);have g:=vv (RN.mk p);clear f p;have d:=vv (a.o.get 0 rfl);go_wp2_with (with_reducible refine q00 rfl 37 (.tmp 2) (.tmp 16) rfl w.heap.size [.slice c n1 n1] rfl rfl 37 _ (d.o.alloc _) (by kernel_rfl) rfl rfl ?_);intro y m j;clear d;obtain⟨D,l⟩:=yx (i.heap.size);obtain⟨z,h⟩:=yx (i.alloc (.cells #[.slice c n1 n1] 37));have f:qi i.heap.size i z:=by rw[h];exact(qg _ _).alloc lr _
 have b:=a.o.new 37 [.slice c n1 n1] l;rw[<- h] at b j
 try rw[<- h]
 try rw[<- l]
 replace a:=vv b;replace g:=vv (g.o.below f);clear h f b l;have d:=vv (a.o.get 1 rfl);replace a:=vv (a.o.put 1 rfl m j);replace g:=vv (g.o.apart_ d.o rfl j);clear d m j;go_wp2;have t:y.cell? ⟨w.heap.size,0,qa⟩=qk (.slice c n1 n1):=(a.o.get 1 rfl).cell 0;exact qb (v:=.tuple #[q0x c n1 n1,.int .i64 0]) (by simp [results,results51,go_sem,t]) rfl ⟨c,n1,rfl,g.o.r,a.o.low⟩
end Dcm
namespace Pnt
open Go Go.RowKit R5 Scn Sh
theorem q2u{A:Option qh}{a:Nat}(h:Rd w A n c (toL (10^a)))(ha:a<=20000):n<=2501:=Rtp.rd_le (k:=2501) h (by have:=q2q a;omega)
theorem words_bl'(h:bl N<=32*k):words N<=k:=q15 (by rw[q1u];exact k03 (q0O N) (k00 (by decide) h))
theorem q8w(q:Nat):(bits .and .i64 (q:Int) 1==1)=qd (q%2=1):=by
 have:=Go.Proofs.YtabcgemembkkcaaGreatDoor.B.and_i64 q 0
 simpa using this
theorem PowTen(n:Nat)(w:qf)(hn:n<=20000):qj qc 52 #[.int .u32 10,.int .i64 (n:Int)] w (NatP (10^n) w):=by
 obtain⟨w0,R⟩:=yx (w.alloc (.cells #[.slice qa 0 0] 37));have t:Cx w [(w.heap.size,37,[.slice qa 0 0])] w0:=by rw[R];exact(Cx.nil w).new _ [_] rfl
 have c:=vv t;have HW:=vv R;have Z:=vv fun w=>Of 1 w (by decide)
 have a1:=vv fun w=>Of 10 w (by decide)
 have S:=vv fun m n1 a B1 m1 b w' (k:RN w' m n1 n1 (10^a)) (k2:RN w' B1 m1 m1 (10^b)) (hab:a+b<=20000)=>Mul m n1 n1 (10^a) B1 m1 m1 (10^b) w' k.r k2.r (by have:=q2u k.r (by omega);omega) (by have:=q2u k2.r (by omega);omega) (by have:=q2u k.r (by omega);have:=q2u k2.r (by omega);omega) (by rw[<- k0e];exact k07 (words_bl' (k:=2501) (by have:=q2q (a+b);omega)) (by decide))
 have c5:(n:Int)<=20000:=by omega
 have a7:=vv hn;clear R t;rcases k01 n with rfl|a8
 ·skip
  have a9:=vv c.o.low.size;go_enter func52,ntmps52;go_wp2_with fail;rw[<- HW.o];go_wp2_with fail;refine(Z.o _).mono ?_;rintro e w1 ⟨m,n1,rfl,j,J,f⟩;replace c:=vv (c.o.step f);have X:=vv (RN.mk j);have HF:qp (Fr w.heap.size m):=vv (J.mono a9.o);clear f j J
  skip
  skip
  have d:=vv (c.o.get 0 rfl);go_wp2_with (with_reducible refine q00 rfl 37 (.tmp 4) (.tmp 16) rfl w.heap.size [.slice m n1 n1] rfl rfl 37 _ d.o (by kernel_rfl) rfl rfl ?_);intro F p g;clear d;have d:=vv (c.o.get 0 rfl);replace c:=vv (c.o.put 0 rfl p g);replace X:=vv (X.o.apart_ d.o rfl g);clear d p g;go_wp2;have b0:F.cell? ⟨w.heap.size,0,qa⟩=qk (.slice m n1 n1):=(c.o.get 0 rfl).cell 0;exact qb (v:=.tuple #[q0x m n1 n1,.int .i64 0]) (by simp [results,results52,go_sem,b0]) rfl ⟨m,n1,rfl,X.o.r,HF.o,c.o.low⟩
 ·have t0:qd ((n:Int)<0)=qe:=k02 (by omega);have t1:((n:Int)==0)=qe:=k05.2 (by omega);go_enter func52,ntmps52;go_wp2_with fail;rw[<- HW.o];go_wp2_with fail;refine(Z.o _).mono ?_;rintro e w1 ⟨m,n1,rfl,j,-,f⟩;replace c:=vv (c.o.step f);have i:=vv (RN.mk j);clear f j;go_wp2_with fail;refine(a1.o _).mono ?_;rintro e F ⟨G,z,rfl,j,-,f⟩;replace c:=vv (c.o.step f);replace i:=vv (i.o.below f);have h:=vv (RN.mk j);clear f j;go_wp2_with fail;obtain⟨H,N⟩:=yx (F.heap.size);obtain⟨K,y⟩:=yx (F.alloc (.cells #[.slice m n1 n1] 37));have f:qi F.heap.size F K:=by rw[y];exact(qg _ _).alloc lr _
  have t:=c.o.new 37 [.slice m n1 n1] N;have a0:(H+1:Nat)=K.heap.size:=by rw[y,qo,<- N]
  rw[<- y] at t 
  try rw[<- y]
  try rw[<- N]
  replace c:=vv t;replace i:=vv (i.o.below f);replace h:=vv (h.o.below f);clear y f t N;obtain⟨P,y⟩:=yx (K.alloc (.cells #[.slice G z z] 37));have f:qi K.heap.size K P:=by rw[y];exact(qg _ _).alloc lr _
  have t:=c.o.new 37 [.slice G z z] a0;rw[<- y] at t 
  try rw[<- y]
  replace c:=vv t;replace i:=vv (i.o.below f);replace h:=vv (h.o.below f);clear y f t a0;go_loopw [1] (fun v wr=>∃(q a s:Nat) (m:Option qh) (n1:Nat) (G:Option qh) (z:Nat),v=.int .i64 (q:Int)/\0<q/\0<s/\a+s*q=n/\Cx w [((H+1),37,[.slice G z z]),(H,37,[.slice m n1 n1]),(w.heap.size,37,[.slice qa 0 0])] wr/\RN wr m n1 n1 (10^a)/\RN wr G z z (10^s)/\qi P.heap.size P P) (fun v _=>(intOf v).toNat)
  case atStart=>exact⟨n,0,1,m,n1,G,z,rfl,a8,by decide,by omega,c.o,i.o,h.o,qg _ _⟩
  case round =>
   obtain⟨q,a,s,A3,n3,A4,n4,rfl,hq,b1,b2,t,b3,b4,-⟩:=hrel;replace c:=vv t;replace i:=vv b3;replace h:=vv b4;have L:=vv b2;have b5:s*1<=s*q:=k0m _ hq;have c6:1*q<=s*q:=k0y _ b1;have b6:(q:Int)<=20000:=by have:=a7.o;omega
   obtain⟨l,a3⟩:=yx (q/2);have hd:(q:Int)/2=(l:Int):=by omega
   have O:=q8w q;have u:=vv a3;clear a3;rcases k0U q with Q|Q
   ·skip
    have a4:(bits .and .i64 (q:Int) 1==1)=qe:=by rw[O,Q];rfl
    clear O;have b7:((l:Int)==0)=qe:=k05.2 (by have:=u.o;omega);have b8:s*2<=s*q:=k0m _ (by have:=u.o;omega);obtain⟨T,U⟩:=Blk.f1 (c.o.get 0 rfl);go_wp2_with fail;refine(S.o _ _ s _ _ s _ h.o h.o (by have:=L.o;omega)).mono ?_;rintro e w8 ⟨M,E,rfl,j,-,f⟩;replace c:=vv (c.o.step f);replace i:=vv (i.o.below f);replace h:=vv (h.o.below f);have D:=vv (RN.mk j);clear T U f j;have d:=vv (c.o.get 0 rfl);go_wp2_with (with_reducible refine q00 rfl 37 (.tmp 7) (.tmp 53) rfl (H+1) [.slice M E E] rfl rfl 37 _ d.o (by kernel_rfl) rfl rfl ?_);intro w9 p g;clear d;have d:=vv (c.o.get 0 rfl);replace c:=vv (c.o.put 0 rfl p g);replace i:=vv (i.o.apart_ d.o rfl g);replace h:=vv (h.o.apart_ d.o rfl g);replace D:=vv (D.o.apart_ d.o rfl g);clear d p g;rw[<- k0e] at D;go_wp2;go_roundw
    case measure=>have:=u.o;simp [intOf];omega
    case rel=>exact⟨l,a,s+s,A3,n3,M,E,rfl,by have:=u.o;omega,by omega,by have h0:=u.o;have h1:=L.o;have Y:s*q=s*(2*l+0):=(by congr 1;omega);rw[k0u,k0g 2 l,<- k0j] at Y;rw[k1f];have h3:s*l*2=s*l+s*l:=(by omega);omega,c.o,i.o,D.o,qg _ _⟩
   ·skip
    have a4:(bits .and .i64 (q:Int) 1==1)=qr:=by rw[O,Q];rfl
    clear O;obtain⟨T,U⟩:=Blk.f1 (c.o.get 0 rfl);obtain⟨b9,c0⟩:=Blk.f1 (c.o.get 1 rfl);have c1:qp (w.heap.size<=wr.heap.size):=vv c.o.low.size;go_wp2_with fail;refine(S.o _ _ a _ _ s _ i.o h.o (by omega)).mono ?_;rintro e c7 ⟨I,C,rfl,j,J,f⟩;replace c:=vv (c.o.step f);replace i:=vv (i.o.below f);replace h:=vv (h.o.below f);have x:=vv (RN.mk j);have c2:=vv (J.mono c1.o);clear T U b9 c0 f j J;have d:=vv (c.o.get 1 rfl);go_wp2_with (with_reducible refine q00 rfl 37 (.tmp 6) (.tmp 38) rfl H [.slice I C C] rfl rfl 37 _ d.o (by kernel_rfl) rfl rfl ?_);intro c8 p g;clear d;have d:=vv (c.o.get 1 rfl);replace c:=vv (c.o.put 1 rfl p g);replace i:=vv (i.o.apart_ d.o rfl g);replace h:=vv (h.o.apart_ d.o rfl g);replace x:=vv (x.o.apart_ d.o rfl g);clear d p g;rw[<- k0e] at x;rcases k01 l with hz|hz
    ·subst hz;have c3:q=1:=by have:=u.o;omega
     subst c3;have a5:a+s=n:=by have:=L.o;omega
     have c4:=vv a5;clear a5 a4 Q b5 hq b6;obtain⟨V,W⟩:=Blk.f1 (c.o.get 1 rfl);have d:=vv (c.o.get 2 rfl);go_wp2_with (with_reducible refine q00 rfl 37 (.tmp 4) (.tmp 48) rfl w.heap.size [.slice I C C] rfl rfl 37 _ d.o (by kernel_rfl) rfl rfl ?_);intro a6 p g;clear d;have d:=vv (c.o.get 2 rfl);replace c:=vv (c.o.put 2 rfl p g);replace h:=vv (h.o.apart_ d.o rfl g);replace x:=vv (x.o.apart_ d.o rfl g);clear V W d p g;go_wp2;have a2:a6.cell? ⟨w.heap.size,0,qa⟩=qk (.slice I C C):=(c.o.get 2 rfl).cell 0;exact qb (v:=.tuple #[q0x I C C,.int .i64 0]) (by simp [results,results52,go_sem,a2]) rfl ⟨I,C,rfl,by rw[<- c4.o];exact x.o.r,c2.o,c.o.low⟩
    ·skip
     have b7:((l:Int)==0)=qe:=k05.2 (by have:=u.o;omega);have b8:s*2<=s*q:=k0m _ (by have:=u.o;omega);obtain⟨V,W⟩:=Blk.f1 (c.o.get 0 rfl);go_wp2_with fail;refine(S.o _ _ s _ _ s _ h.o h.o (by have:=L.o;omega)).mono ?_;rintro e a6 ⟨M,E,rfl,j,-,f⟩;replace c:=vv (c.o.step f);replace h:=vv (h.o.below f);replace x:=vv (x.o.below f);have D:=vv (RN.mk j);clear V W f j;have d:=vv (c.o.get 0 rfl);go_wp2_with (with_reducible refine q00 rfl 37 (.tmp 7) (.tmp 53) rfl (H+1) [.slice M E E] rfl rfl 37 _ d.o (by kernel_rfl) rfl rfl ?_);intro c9 p g;clear d;have d:=vv (c.o.get 0 rfl);replace c:=vv (c.o.put 0 rfl p g);replace h:=vv (h.o.apart_ d.o rfl g);replace x:=vv (x.o.apart_ d.o rfl g);replace D:=vv (D.o.apart_ d.o rfl g);clear d p g;rw[<- k0e] at D;go_wp2;go_roundw
     case measure=>have:=u.o;simp [intOf];omega
     case rel=>exact⟨l,(a+s),s+s,I,C,M,E,rfl,by have:=u.o;omega,by omega,by have h0:=u.o;have h1:=L.o;have Y:s*q=s*(2*l+1):=(by congr 1;omega);rw[k0u,k0g 2 l,<- k0j] at Y;rw[k1f];have h3:s*l*2=s*l+s*l:=(by omega);omega,c.o,x.o,D.o,qg _ _⟩
end Pnt
namespace Exa
open Go Go.RowKit R5 Scn Sh Fms
structure DQ(w:qf)(A:Option qh)(n c N:Nat)(x:Int)(q:Rat):Prop where
 r:Rd w A n c (toL N)
 e:q=dq N x
 o:N%2=1\/(N=0/\x=0)
 bn:bl N<=90
 b1:-3000<=x
 b2:x<=3000
 z:A=qa->c=0
def DQP(q:Rat)(w:qf)(e:Ending)(w':qf):Prop:=
 ∃A n c N x,e=.returned (.tuple #[q0q qe A n c x,.int .i64 0])/\DQ w' A n c N x q/\qi w.heap.size w w'
theorem DQ.below{A:Option qh}{q:Rat}(h:DQ w A n c N x q)(hb:qi w.heap.size w w'):DQ w' A n c N x q:=⟨h.r.below hb rfl,h.e,h.o,h.bn,h.b1,h.b2,h.z⟩
theorem DQ.apart_{A:Option qh}{q:Rat}(h:DQ w A n c N x q){cs:List Go.Value}(hb:Blk w g t cs)(hcs:cs.all (fun v=>match v with|.int .u32 _=>qe|_=>qr)=qr)(hg:w.grownBy w' (qk g)):DQ w' A n c N x q:=⟨h.r.apart_ hb hcs hg,h.e,h.o,h.bn,h.b1,h.b2,h.z⟩
theorem DQ.n_le{A:Option qh}{q:Rat}(h:DQ w A n c N x q):n<=16384:=k07 (Rtp.rd_le (k:=3) h.r (by have:=h.bn;omega)) (by decide)
theorem DQ.ok{A:Option qh}{q:Rat}(h:DQ w A n c N x q)(neg:Bool:=qe)(hng:neg=qr->0<N:=by intro h;cases h):q1r neg n (toL N) x=0:=by
 have d:=h.n_le;have j:=h.b1;have l:=h.b2;have b:twoOk neg n (toL N) x=qr:=by
  unfold twoOk;rw[q1y h.r d,k04 (p:=x<=1073741824) (by omega),k04 (p:=-1073741824<=x) (by omega)];rcases h.o with k|⟨k,f⟩
  ·have m:0<N:=by omega
   have a:n≠0:=by intro e;have:=h.r.words;rw[e] at this;have:=q06.1 this;omega
   rw[k0r a];have:nth (toL N) 0%2=1:=by have e:=q07 (toL N) 0;have g:=q4l N 0;simp at g;omega
   rw[k04 this];rfl
  ·have a:n=0:=by have:=h.r.words;rw[k,q0h] at this;exact this.symm
   have i:neg=qe:=by
    cases neg
    ·rfl
    ·have:=hng rfl;omega
   rw[k0p a,k04 f,i];rfl
 have:=q5B neg n (toL N) x;rw[b] at this;exact k1D.1 this
theorem q7F{ad:qh}{xs:List Nat}(h:Rd w (qk ad) n c xs):∀j u,(q0k xs)[j]?=qk u->w.cell? (ad.add j)=qk u:=by
 intro j u a;have d:j<xs.length:=by
  rcases k0A j xs.length with k|k
  ·exact k
  ·rw[k15 (by simp [q0k];omega)] at a;cases a
 obtain⟨b,off,e,g,f⟩:=h.cell (by have:=h.len;omega);cases e;rw[q2b xs d] at a;have:=f j (by have:=h.len;omega);rw[<- a,<- this];congr 1;cases j<;>simp [Addr.add]
theorem qbP(A:Option qh)(n c N:Nat)(x:Int)(q:Rat)(w:qf)(h:DQ w A n c N x q):qj qc 217 #[q0q qe A n c x] w fun e w'=>∃A' c',e=.returned (q0q qe A' n c' x)/\DQ w' A' n c' N x q/\qi w.heap.size w w':=by
 obtain⟨Q,hi,T,U,V⟩:=qq Go.Proofs.YtabcgemembkkcaaGreatDoor.AB.inf;obtain⟨u,D⟩:=yx ((w.alloc (.cells #[.bool qe,.slice A n c,.int .i64 x] 62)).alloc (.cells #[.bool qe,.slice qa 0 0,.int .i64 0] 62));have y:Cx w [(w.heap.size+1,62,[.bool qe,.slice qa 0 0,.int .i64 0]),(w.heap.size,62,[.bool qe,.slice A n c,.int .i64 x])] u:=by rw[D];exact((Cx.nil w).new _ [_,_,_] rfl).new _ [_,_,_] (by simp)
 have hn:=h.n_le;have d:=vv y;have R:=vv D;have a:=vv (h.below y.low);have HL:=vv h.r.lim;have W:=vv h.r.len;have X:=y.low.size;clear D y h;rcases A with _|ad
 ·have Y:c=0:=a.o.z rfl;subst Y;have Z:n=0:=by
   rcases k01 n with k|k
   ·exact k
   ·obtain⟨b,off,e,-⟩:=a.o.r.cell k;cases e
  subst Z;obtain⟨G,t⟩:=yx ((w.alloc (.cells #[.bool qe,.slice qa 0 0,.int .i64 x] 62)).alloc (.cells #[.bool qe,.slice qa 0 0,.int .i64 x] 62));have J:qi w.heap.size w G:=by rw[t];exact((qg _ _).alloc lr _).alloc (by simp) _
  have C:Blk G (w.heap.size+1) 62 [.bool qe,.slice qa 0 0,.int .i64 x]:=by
   rw[t];have:=Blk.made (w.alloc (.cells #[.bool qe,.slice qa 0 0,.int .i64 x] 62)) 62 [.bool qe,.slice qa 0 0,.int .i64 x]
   rwa [qo] at this
  have a7:qp (DQ G qa 0 0 N x q):=vv ⟨by have:=a.o.r;exact⟨this.len,this.le,this.sm,this.lim,fun k=>absurd k (by omega)⟩,a.o.e,a.o.o,a.o.bn,a.o.b1,a.o.b2,fun _=>rfl⟩;have a8:=vv J;have a9:=vv t;have f:=C.cell 0;have j:=C.cell 1;have l:=C.cell 2;simp only[k06,k0l] at f j l;have HK:=vv (And.intro f (And.intro j l));clear t J C f j l R d a;go_enter func217,ntmps217;go_wp2_with (at_builtin;refine qm rfl _ _ 35 rfl w.heap.size 54 Q 1 underlying35 hi (.slice qa 0 0) 0 [] rfl (ql _ _ _ _) rfl ?_);rw[<- a9.o];obtain⟨f,j,l⟩:=HK.o;exact qb (v:=q0q qe qa 0 0 x) (by simp [results,results217,go_sem,f,j,l]) rfl ⟨qa,0,rfl,a7.o,a8.o⟩
 ·have a0:w.heap.size<=u.heap.size:=X;have c4:(n:Int)<=16384:=by omega
  have HN:=vv (q7F a.o.r);have b0:qp ((q0k (toL N)).length=n*1):=vv (by simp [q0k,W.o]);obtain⟨b3,b4,b5,b6⟩:=Blk.f3 (d.o.get 1 rfl);have b7:=(d.o.get 1 rfl).fz 0;have b8:=(d.o.get 1 rfl).fz 1;have b9:=(d.o.get 1 rfl).fz 2;go_enter func217,ntmps217;go_wp2_with (at_builtin;rw[<- R.o];refine qn _ rfl _ _ 35 rfl w.heap.size 54 Q (.int .u32 0) 1 4 underlying35 hi T U V rfl (by decide) (.slice qa 0 0) 0 [] rfl (ql _ _ _ _) ad n c (q0k (toL N)) rfl b0.o HN.o (q1B _) (by unfold maxLen;omega) (by omega) a0 ?_);intro v' H s m a1
  try rw[k25,k10] at s
  have S:qi u.heap.size u H:=⟨m.os,m.tape,m.output,m.size,fun i hi=>m.block i hi (by simp [Value.ownBlock])⟩;obtain⟨A',c',rfl⟩:=q5m s;have L:=(Go.Proofs.YtabcgemembkkcaaGreatDoor.A.row_rd s HL.o (by omega)).1;have M:A'=qa->c'=0:=fun e=>by
   subst e;rcases s.2 with ⟨k,-⟩|⟨g,cap,c5,k,-⟩
   ·cases k;rfl
   ·cases k
  replace d:=vv (d.o.step S);have HD:=vv (DQ.mk L a.o.e a.o.o a.o.bn a.o.b1 a.o.b2 M);clear s m a1 S L M a;clear b3 b4 b5 b6 b7 b8 b9;obtain⟨c0,c1,a2,a3⟩:=Blk.f3 (d.o.get 1 rfl);have a4:=(d.o.get 1 rfl).fz 0;have a5:=(d.o.get 1 rfl).fz 1;have a6:=(d.o.get 1 rfl).fz 2;have E:=vv (d.o.get 0 rfl);have O:qp (DQ (H.setCell ⟨w.heap.size,1,qa⟩ (.slice A' n c')) A' n c' N x q):=vv (HD.o.apart_ (d.o.get 1 rfl) rfl (Go.Proofs.YtabcgemembkkcaaGreatDoor.only_setCell (World.grownBy.refl _ _) (.inl rfl) _));have F:qp (qi w.heap.size w (H.setCell ⟨w.heap.size,1,qa⟩ (.slice A' n c'))):=vv (d.o.low.setCell (p:=⟨w.heap.size,1,qa⟩) lr _);go_wp2_with (with_reducible refine q00 rfl 62 (.tmp 2) (.tmp 9) rfl (w.heap.size+1) [.bool qe,.slice A' n c',.int .i64 x] rfl rfl 62 _ (E.o.other (p:=⟨w.heap.size,1,qa⟩) (by show w.heap.size≠_;omega) _) (by kernel_rfl) rfl rfl ?_);intro w7 P I;have c2:=vv (O.o.apart_ (E.o.other (p:=⟨w.heap.size,1,qa⟩) (by show w.heap.size≠_;omega) _) rfl I);have c3:=vv (q0a F.o I F.o.size (k1z _));obtain⟨f,j,l⟩:=blk3 P;have K:=vv (And.intro f (And.intro j l));clear P I f j l O F E;clear c0 c1 a2 a3 a4 a5 a6;go_wp2;obtain⟨f,j,l⟩:=K.o;exact qb (v:=q0q qe A' n c' x) (by simp [results,results217,go_sem,f,j,l]) rfl ⟨A',c',rfl,c2.o,c3.o⟩
end Exa
namespace R1
open Go Go.RowKit R5 Scn Exa
def qef(N:Nat)(w:qf)(e:Ending)(w':qf):Prop:=∃A m c,e=.returned (.tuple #[q0x A m c,.int .i64 0])/\Rd w' A m c (toL N)/\(A=qa->c=0)/\qi w.heap.size w w'
def qde(N:Nat)(w:qf)(e:Ending)(w':qf):Prop:=∃A m c,e=.returned (q0x A m c)/\Rd w' A m c (toL N)/\(A=qa->c=0)/\qi w.heap.size w w'
theorem Down(A:Option qh)(n c N k:Nat)(w:qf)(ha:Rd w A n c (toL N))(hn:n<=16384)(hk:k<=524288):qj qc 304 #[q0x A n c,.int .i64 (k:Int)] w (qef (N/2^k) w):=by
 obtain⟨F,p⟩:=yx ((w.alloc (.cells #[.slice A n c] 37)).alloc (.cells #[.slice qa 0 0] 37));have q:Cx w [(w.heap.size+1,37,[.slice qa 0 0]),(w.heap.size,37,[.slice A n c])] F:=by rw[p];exact((Cx.nil w).new _ [_] rfl).new _ [_] (by simp)
 have a:=vv q;have G:=vv p;have d:=vv (RN.mk (ha.below q.low rfl));have x:=vv fun w' (k:RN w' A n c N)=>Check_ok A n c N w' k.r hn
 have s:=vv fun w' (h:RN w' A n c N)=>down A n c N k w' h.r hn hk
 have J:(k:Int)<=524288:=by omega
 obtain⟨R,g⟩:=yx (N/2^k);rw[<- g] at s ⊢;clear p q ha hn hk g;obtain⟨y,z⟩:=Blk.f1 (a.o.get 1 rfl);go_enter func304,ntmps304;go_wp2_with fail;rw[<- G.o];go_wp2_with fail;refine(x.o _ d.o).mono ?_;rintro e K ⟨rfl,b⟩;replace a:=vv (a.o.step b);replace d:=vv (d.o.below b);clear y z b;obtain⟨C,D⟩:=Blk.f1 (a.o.get 1 rfl);go_wp2_with fail;refine(s.o _ d.o).mono ?_;rintro e L ⟨i,j,c1,rfl,g,-,b,u⟩;replace a:=vv (a.o.step b);replace d:=vv (d.o.below b);have l:=vv (RN.mk g);clear C D b g;have H:=vv u;clear u;go_wp2_with fail;refine(qaP i j c1 _).mono ?_;rintro e M ⟨rfl,b⟩;replace a:=vv (a.o.step b);replace d:=vv (d.o.below b);replace l:=vv (l.o.below b);clear b;have f:=vv (a.o.get 0 rfl);go_wp2_with (with_reducible refine q00 rfl 37 (.tmp 4) (.tmp 20) rfl (w.heap.size+1) [.slice i j c1] rfl rfl 37 _ f.o (by kernel_rfl) rfl rfl ?_);intro I t m;clear f;have f:=vv (a.o.get 0 rfl);replace a:=vv (a.o.put 0 rfl t m);replace d:=vv (d.o.apart_ f.o rfl m);replace l:=vv (l.o.apart_ f.o rfl m);clear f t m;go_wp2;have E:I.cell? ⟨(w.heap.size+1),0,qa⟩=qk (.slice i j c1):=(a.o.get 0 rfl).cell 0;exact qb (v:=.tuple #[q0x i j c1,.int .i64 0]) (by simp [results,results304,go_sem,E]) rfl ⟨i,j,c1,rfl,l.o.r,H.o,a.o.low⟩
theorem Up(A:Option qh)(n c N k:Nat)(w:qf)(ha:Rd w A n c (toL N))(hn:n<=16384)(hk:k+bl N<=524288):qj qc 245 #[q0x A n c,.int .i64 (k:Int)] w (qef (N*2^k) w):=by
 obtain⟨S,s⟩:=yx ((w.alloc (.cells #[.slice A n c] 37)).alloc (.cells #[.slice qa 0 0] 37));have t:Cx w [(w.heap.size+1,37,[.slice qa 0 0]),(w.heap.size,37,[.slice A n c])] S:=by rw[s];exact((Cx.nil w).new _ [_] rfl).new _ [_] (by simp)
 have a:=vv t;have H:=vv s;have b:=vv (RN.mk (ha.below t.low rfl));have G:=vv fun g (k:RN g A n c N)=>Check_ok A n c N g k.r hn
 have x:=vv fun g (h:RN g A n c N)=>size A n c N g h.r hn
 have y:=vv fun g (h:RN g A n c N)=>up A n c N k g h.r hn (by omega)
 have M:(k:Int)+((bl N:Nat):Int)<=524288:=by omega
 obtain⟨L,F⟩:=yx (bl N);rw[<- F] at x M;obtain⟨R,j⟩:=yx (N*2^k);rw[<- j] at y ⊢;rcases k01 n with u|u
 ·have I:N=0:=by have:=ha.words;rw[u] at this;exact q06.1 this
  have O:qp (R=0):=vv (by rw[j,I,k24]);subst u;clear s t ha hn hk j I F y x;obtain⟨z,C⟩:=Blk.f1 (a.o.get 1 rfl);go_enter func245,ntmps245;go_wp2_with fail;rw[<- H.o];go_wp2_with fail;refine(G.o _ b.o).mono ?_;rintro e T ⟨rfl,d⟩;replace a:=vv (a.o.step d);replace b:=vv (b.o.below d);clear z C d;obtain⟨D,E⟩:=Blk.f1 (a.o.get 1 rfl);have f:=vv (a.o.get 0 rfl);go_wp2_with (with_reducible refine q00 rfl 37 (.tmp 4) (.tmp 20) rfl (w.heap.size+1) [.slice qa 0 0] rfl rfl 37 _ f.o (by kernel_rfl) rfl rfl ?_);intro J l i;clear f;have f:=vv (a.o.get 0 rfl);replace a:=vv (a.o.put 0 rfl l i);replace b:=vv (b.o.apart_ f.o rfl i);clear D E f l i;go_wp2;have P:J.cell? ⟨(w.heap.size+1),0,qa⟩=qk (.slice qa 0 0):=(a.o.get 0 rfl).cell 0;exact qb (v:=.tuple #[q0x qa 0 0,.int .i64 0]) (by simp [results,results245,go_sem,P]) rfl ⟨qa,0,0,rfl,by rw[O.o];exact Rd.nil _,fun _=>rfl,a.o.low⟩
 ·have W:((n:Int)==0)=qe:=by rw[k05];omega
  clear s t ha hn hk j F u;obtain⟨z,C⟩:=Blk.f1 (a.o.get 1 rfl);go_enter func245,ntmps245;go_wp2_with fail;rw[<- H.o];go_wp2_with fail;refine(G.o _ b.o).mono ?_;rintro e T ⟨rfl,d⟩;replace a:=vv (a.o.step d);replace b:=vv (b.o.below d);clear z C d;obtain⟨D,E⟩:=Blk.f1 (a.o.get 1 rfl);go_wp2_with fail;refine(x.o _ b.o).mono ?_;rintro e g ⟨rfl,rfl⟩;go_wp2_with fail;refine(y.o _ b.o).mono ?_;rintro e J ⟨m,p,c1,rfl,j,-,d,K⟩;replace a:=vv (a.o.step d);replace b:=vv (b.o.below d);have q:=vv (RN.mk j);clear D E d j;have U:=vv K;clear K;go_wp2_with fail;refine(qaP m p c1 _).mono ?_;rintro e X ⟨rfl,d⟩;replace a:=vv (a.o.step d);replace b:=vv (b.o.below d);replace q:=vv (q.o.below d);clear d;have f:=vv (a.o.get 0 rfl);go_wp2_with (with_reducible refine q00 rfl 37 (.tmp 4) (.tmp 32) rfl (w.heap.size+1) [.slice m p c1] rfl rfl 37 _ f.o (by kernel_rfl) rfl rfl ?_);intro V l i;clear f;have f:=vv (a.o.get 0 rfl);replace a:=vv (a.o.put 0 rfl l i);replace b:=vv (b.o.apart_ f.o rfl i);replace q:=vv (q.o.apart_ f.o rfl i);clear f l i;go_wp2;have Q:V.cell? ⟨(w.heap.size+1),0,qa⟩=qk (.slice m p c1):=(a.o.get 0 rfl).cell 0;exact qb (v:=.tuple #[q0x m p c1,.int .i64 0]) (by simp [results,results245,go_sem,Q]) rfl ⟨m,p,c1,rfl,q.o.r,U.o,a.o.low⟩
theorem q4G(A:Option qh)(n c N:Nat)(B:Option qh)(m d M:Nat)(w:qf)(ha:Rd w A n c (toL N))(hb:Rd w B m d (toL M))(hn:n<=16384)(hm:m<=16384):qj qc 310 #[q0x A n c,q0x B m d] w fun e w'=>e=.returned (.int .i64 0)/\qi w.heap.size w w':=by
 obtain⟨x,i⟩:=yx ((w.alloc (.cells #[.slice A n c] 37)).alloc (.cells #[.slice B m d] 37));have h:Cx w [(w.heap.size+1,37,[.slice B m d]),(w.heap.size,37,[.slice A n c])] x:=by rw[i];exact((Cx.nil w).new _ [_] rfl).new _ [_] (by simp)
 have b:=vv h;have y:=vv i;have f:=vv (RN.mk (ha.below h.low rfl));have g:=vv (RN.mk (hb.below h.low rfl));have j:=vv fun w' (k:RN w' A n c N)=>Check_ok A n c N w' k.r hn
 have l:=vv fun w' (k:RN w' B m d M)=>Check_ok B m d M w' k.r hm
 clear i h ha hb hn hm;obtain⟨p,q⟩:=Blk.f1 (b.o.get 0 rfl);obtain⟨s,t⟩:=Blk.f1 (b.o.get 1 rfl);go_enter func310,ntmps310;go_wp2_with fail;rw[<- y.o];go_wp2_with fail;refine(j.o _ f.o).mono ?_;rintro e z ⟨rfl,a⟩;replace b:=vv (b.o.step a);replace f:=vv (f.o.below a);replace g:=vv (g.o.below a);clear p q s t a;obtain⟨u,v⟩:=Blk.f1 (b.o.get 0 rfl);go_wp2_with fail;refine(l.o _ g.o).mono ?_;rintro e C ⟨rfl,a⟩;replace b:=vv (b.o.step a);replace f:=vv (f.o.below a);replace g:=vv (g.o.below a);clear u v a;go_wp2;go_ret;exact⟨rfl,b.o.low⟩
theorem qcC(A:Option qh)(n c:Nat)(xs:List Nat)(w:qf)(hr:Rd w A n c xs)(h:words (val xs)<=16384):qj qc 311 #[.slice A n c] w fun e w'=>∃m,e=.returned (.tuple #[q0x A m c,.int .i64 0])/\Rd w' A m c (toL (val xs))/\qi w.heap.size w w':=by
 obtain⟨p,f⟩:=yx (w.alloc (.cells #[.slice qa 0 0] 37));have g:Cx w [(w.heap.size,37,[.slice qa 0 0])] p:=by rw[f];exact(Cx.nil w).new _ [_] rfl
 have s:=vv (qbB A n c xs p (hr.below g.low rfl));have a:=vv g;have t:=vv f;have u:=vv h;clear f g hr h;go_enter func311,ntmps311;go_wp2_with fail;rw[<- t.o];refine s.o.mono ?_;rintro e w' ⟨m,rfl,rfl,i⟩;have y:(m:Int)<=16384:=by have:=i.words;have:=u.o;omega
 have d:=vv (RN.mk i);clear i;go_wp2_with fail;refine(qaP A m c _).mono ?_;rintro e z ⟨rfl,j⟩;replace a:=vv (a.o.step j);replace d:=vv (d.o.below j);clear j;have b:=vv (a.o.get 0 rfl);go_wp2_with (with_reducible refine q00 rfl 37 (.tmp 2) (.tmp 11) rfl w.heap.size [.slice A m c] rfl rfl 37 _ b.o (by kernel_rfl) rfl rfl ?_);intro x l k;clear b;have b:=vv (a.o.get 0 rfl);replace a:=vv (a.o.put 0 rfl l k);replace d:=vv (d.o.apart_ b.o rfl k);clear b l k;go_wp2;have q:x.cell? ⟨w.heap.size,0,qa⟩=qk (.slice A m c):=(a.o.get 0 rfl).cell 0;exact qb (v:=.tuple #[q0x A m c,.int .i64 0]) (by simp [results,results311,go_sem,q]) rfl ⟨m,rfl,d.o.r,a.o.low⟩
def qeg(N:Nat)(w:qf)(e:Ending)(w':qf):Prop:=∃A m c,e=.returned (.tuple #[q0x A m c,.int .i64 0])/\Rd w' A m c (toL N)/\qi w.heap.size w w'
theorem Add(A:Option qh)(n c N:Nat)(B:Option qh)(m d M:Nat)(w:qf)(ha:Rd w A n c (toL N))(hb:Rd w B m d (toL M))(hn:n<=16384)(hm:m<=16384)(hs:words (N+M)<=16384):qj qc 246 #[q0x A n c,q0x B m d] w (qeg (N+M) w):=by
 obtain⟨S,s⟩:=yx (((w.alloc (.cells #[.slice A n c] 37)).alloc (.cells #[.slice B m d] 37)).alloc (.cells #[.slice qa 0 0] 37));have p:Cx w [(w.heap.size+1+1,37,[.slice qa 0 0]),(w.heap.size+1,37,[.slice B m d]),(w.heap.size,37,[.slice A n c])] S:=by rw[s];exact(((Cx.nil w).new _ [_] rfl).new _ [_] (by simp)).new _ [_] (by simp)
 have a:=vv p;have T:=vv s;have f:=vv (RN.mk (ha.below p.low rfl));have g:=vv (RN.mk (hb.below p.low rfl));have E:=vv fun w' (k:RN w' A n c N) (k2:RN w' B m d M)=>q4G A n c N B m d M w' k.r k2.r hn hm
 have y:=vv fun w' (k:RN w' A n c N) (k2:RN w' B m d M)=>qep A B n m c d N M w' k.r k2.r (by omega) (by omega)
 obtain⟨R,j⟩:=yx (N+M);rw[<- j] at y hs ⊢;have z:=vv fun X k l w' (h:RN w' X k l R)=>qcC X k l (toL R) w' h.r (by rw[q04];exact hs)
 simp only[q04] at z;clear s p ha hb hn hm hs j ;obtain⟨F,G⟩:=Blk.f1 (a.o.get 1 rfl);obtain⟨H,I⟩:=Blk.f1 (a.o.get 2 rfl);go_enter func246,ntmps246;go_wp2_with fail;rw[<- T.o];go_wp2_with fail;refine(E.o _ f.o g.o).mono ?_;rintro e W ⟨rfl,b⟩;replace a:=vv (a.o.step b);replace f:=vv (f.o.below b);replace g:=vv (g.o.below b);clear F G H I b;obtain⟨J,K⟩:=Blk.f1 (a.o.get 1 rfl);obtain⟨L,O⟩:=Blk.f1 (a.o.get 2 rfl);go_wp2_with fail;refine(y.o _ f.o g.o).mono ?_;rintro e U ⟨X,k,l,rfl,j,-,b⟩;replace a:=vv (a.o.step b);replace f:=vv (f.o.below b);replace g:=vv (g.o.below b);have t:=vv (RN.mk j);clear J K L O b j;go_wp2_with fail;refine(z.o _ _ _ _ t.o).mono ?_;rintro e V ⟨q,rfl,D,b⟩;replace a:=vv (a.o.step b);replace t:=vv (t.o.below b);have u:=vv (RN.mk D);clear b D;have i:=vv (a.o.get 0 rfl);go_wp2_with (with_reducible refine q00 rfl 37 (.tmp 4) (.tmp 20) rfl (w.heap.size+1+1) [.slice X q l] rfl rfl 37 _ i.o (by kernel_rfl) rfl rfl ?_);intro P C x;clear i;have i:=vv (a.o.get 0 rfl);replace a:=vv (a.o.put 0 rfl C x);replace u:=vv (u.o.apart_ i.o rfl x);clear i C x;go_wp2;have Q:P.cell? ⟨(w.heap.size+1+1),0,qa⟩=qk (.slice X q l):=(a.o.get 0 rfl).cell 0;exact qb (v:=.tuple #[q0x X q l,.int .i64 0]) (by simp [results,results246,go_sem,Q]) rfl ⟨X,q,l,rfl,u.o.r,a.o.low⟩
theorem Mul(A:Option qh)(n c N:Nat)(B:Option qh)(m d M:Nat)(w:qf)(ha:Rd w A n c (toL N))(hb:Rd w B m d (toL M))(hn:n<=16384)(hm:m<=16384)(hs:words (N*M)<=16384)(hnm:n+m<=16385):qj qc 250 #[q0x A n c,q0x B m d] w (qeg (N*M) w):=by
 obtain⟨S,s⟩:=yx (((w.alloc (.cells #[.slice A n c] 37)).alloc (.cells #[.slice B m d] 37)).alloc (.cells #[.slice qa 0 0] 37));have p:Cx w [(w.heap.size+1+1,37,[.slice qa 0 0]),(w.heap.size+1,37,[.slice B m d]),(w.heap.size,37,[.slice A n c])] S:=by rw[s];exact(((Cx.nil w).new _ [_] rfl).new _ [_] (by simp)).new _ [_] (by simp)
 have a:=vv p;have T:=vv s;have f:=vv (RN.mk (ha.below p.low rfl));have g:=vv (RN.mk (hb.below p.low rfl));have E:=vv fun w' (k:RN w' A n c N) (k2:RN w' B m d M)=>q4G A n c N B m d M w' k.r k2.r hn hm
 have y:=vv fun w' (k:RN w' A n c N) (k2:RN w' B m d M)=>(times A B n m c d (toL N) (toL M) w' k.r k2.r (by omega)).mono fun e w'' h=>q0g.val2 h
 have U:(n:Int)+(m:Int)<=16385:=by omega
 obtain⟨R,j⟩:=yx (N*M);rw[<- j] at y hs ⊢;have z:=vv fun X k l w' (h:RN w' X k l R)=>qcC X k l (toL R) w' h.r (by rw[q04];exact hs)
 simp only[q04] at z;clear s p ha hb hn hm hs j hnm;obtain⟨F,G⟩:=Blk.f1 (a.o.get 1 rfl);obtain⟨H,I⟩:=Blk.f1 (a.o.get 2 rfl);go_enter func250,ntmps250;go_wp2_with fail;rw[<- T.o];go_wp2_with fail;refine(E.o _ f.o g.o).mono ?_;rintro e Y ⟨rfl,b⟩;replace a:=vv (a.o.step b);replace f:=vv (f.o.below b);replace g:=vv (g.o.below b);clear F G H I b;obtain⟨J,K⟩:=Blk.f1 (a.o.get 1 rfl);obtain⟨L,O⟩:=Blk.f1 (a.o.get 2 rfl);go_wp2_with fail;refine(y.o _ f.o g.o).mono ?_;rintro e V ⟨X,k,l,rfl,j,-,b⟩;replace a:=vv (a.o.step b);replace f:=vv (f.o.below b);replace g:=vv (g.o.below b);have t:=vv (RN.mk j);clear J K L O b j;go_wp2_with fail;refine(z.o _ _ _ _ t.o).mono ?_;rintro e W ⟨q,rfl,D,b⟩;replace a:=vv (a.o.step b);replace t:=vv (t.o.below b);have u:=vv (RN.mk D);clear b D;have i:=vv (a.o.get 0 rfl);go_wp2_with (with_reducible refine q00 rfl 37 (.tmp 4) (.tmp 29) rfl (w.heap.size+1+1) [.slice X q l] rfl rfl 37 _ i.o (by kernel_rfl) rfl rfl ?_);intro P C x;clear i;have i:=vv (a.o.get 0 rfl);replace a:=vv (a.o.put 0 rfl C x);replace u:=vv (u.o.apart_ i.o rfl x);clear i C x;go_wp2;have Q:P.cell? ⟨(w.heap.size+1+1),0,qa⟩=qk (.slice X q l):=(a.o.get 0 rfl).cell 0;exact qb (v:=.tuple #[q0x X q l,.int .i64 0]) (by simp [results,results250,go_sem,Q]) rfl ⟨X,q,l,rfl,u.o.r,a.o.low⟩
theorem Of(n:Nat)(w:qf)(hn:n<18446744073709551616):qj qc 240 #[.int .u64 (n:Int)] w (qde n w):=by
 obtain⟨b,C⟩:=yx (n%4294967296);obtain⟨hi,D⟩:=yx (n/4294967296);have K:(n:Int)%4294967296=(b:Int):=by omega
 have L:(n:Int)/4294967296=(hi:Int):=by omega
 have M:(hi:Int)%4294967296=(hi:Int):=by omega
 have x:val [b,hi]=n:=by simp [val];omega
 have s:b<4294967296:=by omega
 have t:hi<4294967296:=by omega
 obtain⟨i,h⟩:=yx (w.alloc (.cells #[.slice qa 0 0] 37));have y:Cx w [(w.heap.size,37,[.slice qa 0 0])] i:=by rw[h];exact(Cx.nil w).new _ [_] rfl
 obtain⟨j,l⟩:=two_words i b hi s t 54;obtain⟨z,k⟩:=yx (i.alloc (.cells #[.int .u32 (b:Int),.int .u32 (hi:Int)] 54));obtain⟨g,c⟩:=yx (i.heap.size);rw[<- k] at j l;rw[<- c] at j;have F:=vv (qbB (qk ⟨g,0,qa⟩) 2 2 [b,hi] _ j);have G:=vv x;have a:=vv (y.step l);have H:qp (z=(w.alloc (.cells #[.slice qa 0 0] 37)).alloc (.cells #[.int .u32 (b:Int),.int .u32 (hi:Int)] 54)):=vv (by rw[k,h]);have I:qp (g=w.heap.size+1):=vv (by rw[c,h];simp);clear C D hn x s t j l h y k c;go_enter func240,ntmps240;go_wp2_with fail;rw[<- H.o,<- I.o];refine F.o.mono ?_;rintro e N ⟨m,rfl,rfl,p⟩;rw[G.o] at p;have f:=vv (RN.mk p);clear p;go_wp2_with fail;refine(qaP (qk ⟨g,0,qa⟩) m 2 _).mono ?_;rintro e z ⟨rfl,q⟩;replace a:=vv (a.o.step q);replace f:=vv (f.o.below q);clear q;have d:=vv (a.o.get 0 rfl);go_wp2_with (with_reducible refine q00 rfl 37 (.tmp 2) (.tmp 10) rfl w.heap.size [.slice (qk ⟨g,0,qa⟩) m 2] rfl rfl 37 _ d.o (by kernel_rfl) rfl rfl ?_);intro J u c;clear d;have d:=vv (a.o.get 0 rfl);replace a:=vv (a.o.put 0 rfl u c);replace f:=vv (f.o.apart_ d.o rfl c);clear d u c;go_wp2;have E:J.cell? ⟨w.heap.size,0,qa⟩=qk (.slice (qk ⟨g,0,qa⟩) m 2):=(a.o.get 0 rfl).cell 0;exact qb (v:=q0x (qk ⟨g,0,qa⟩) m 2) (by simp [results,results240,go_sem,E]) rfl ⟨_,m,2,rfl,f.o.r,fun e=>(by cases e),a.o.low⟩
theorem q8B(c:Nat)(w:qf)(hc:c=0):qj qc 307 #[q0x qa 0 c] w (qde 0 w):=by
 subst hc;obtain⟨m,hi,r,s,t⟩:=qq Go.Proofs.YtabcgemembkkcaaGreatDoor.AB.inf;obtain⟨n,d⟩:=yx ((w.alloc (.cells #[.slice qa 0 0] 37)).alloc (.cells #[.slice qa 0 0] 37));have g:Cx w [(w.heap.size+1,37,[.slice qa 0 0]),(w.heap.size,37,[.slice qa 0 0])] n:=by rw[d];exact((Cx.nil w).new _ [_] rfl).new _ [_] (by simp)
 have a:=vv g;have p:=vv d;clear d g;obtain⟨j,k⟩:=Blk.f1 (a.o.get 1 rfl);go_enter func307,ntmps307;go_wp2_with (at_builtin;rw[<- p.o];refine qm rfl _ _ 35 rfl w.heap.size 54 m 1 underlying35 hi (.slice qa 0 0) 0 [] rfl (ql _ _ _ _) rfl ?_);clear j k;go_wp2_with fail;refine(qaP qa 0 0 _).mono ?_;rintro e u ⟨rfl,h⟩;replace a:=vv (a.o.step h);clear h;have b:=vv (a.o.get 0 rfl);go_wp2_with (with_reducible refine q00 rfl 37 (.tmp 2) (.tmp 8) rfl (w.heap.size+1) [.slice qa 0 0] rfl rfl 37 _ b.o (by kernel_rfl) rfl rfl ?_);intro q f i;clear b;have b:=vv (a.o.get 0 rfl);replace a:=vv (a.o.put 0 rfl f i);clear b f i;go_wp2;have l:q.cell? ⟨(w.heap.size+1),0,qa⟩=qk (.slice qa 0 0):=(a.o.get 0 rfl).cell 0;exact qb (v:=q0x qa 0 0) (by simp [results,results307,go_sem,l]) rfl ⟨qa,0,0,rfl,Rd.nil _,fun _=>rfl,a.o.low⟩
theorem q8A(ad:qh)(n c N:Nat)(w:qf)(ha:Rd w (qk ad) n c (toL N))(hn:n<=16384):qj qc 307 #[q0x (qk ad) n c] w (qde N w):=by
 obtain⟨H,hi,u,x,y⟩:=qq Go.Proofs.YtabcgemembkkcaaGreatDoor.AB.inf;obtain⟨l,p⟩:=yx ((w.alloc (.cells #[.slice (qk ad) n c] 37)).alloc (.cells #[.slice qa 0 0] 37));have m:Cx w [(w.heap.size+1,37,[.slice qa 0 0]),(w.heap.size,37,[.slice (qk ad) n c])] l:=by rw[p];exact((Cx.nil w).new _ [_] rfl).new _ [_] (by simp)
 have a:=vv m;have I:=vv p;have t:=vv (ha.below m.low rfl);have J:=vv ha.lim;have K:=vv (q7F t.o);have z:qp ((q0k (toL N)).length=n*1):=vv (by have:=ha.len;simp [q0k,this]);have C:w.heap.size<=l.heap.size:=m.low.size;have P:(n:Int)<=16384:=by omega
 clear p m ha;obtain⟨D,E⟩:=Blk.f1 (a.o.get 1 rfl);go_enter func307,ntmps307;go_wp2_with (at_builtin;rw[<- I.o];refine qn _ rfl _ _ 35 rfl w.heap.size 54 H (.int .u32 0) 1 4 underlying35 hi u x y rfl (by decide) (.slice qa 0 0) 0 [] rfl (ql _ _ _ _) ad n c (q0k (toL N)) rfl z.o K.o (q1B _) (by unfold maxLen;omega) (by omega) C ?_);intro Q L f b F
 try rw[k25,k10] at f
 have d:qi l.heap.size l L:=⟨b.os,b.tape,b.output,b.size,fun i hi=>b.block i hi (by simp [Value.ownBlock])⟩;obtain⟨j,k,rfl⟩:=q5m f;have g:=vv (RN.mk (Go.Proofs.YtabcgemembkkcaaGreatDoor.A.row_rd f J.o (by omega)).1);have M:=vv (q5l f);replace a:=vv (a.o.step d);clear f b F d t;clear D E;go_wp2_with fail;refine(qaP j n k _).mono ?_;rintro e R ⟨rfl,d⟩;replace a:=vv (a.o.step d);replace g:=vv (g.o.below d);clear d;have h:=vv (a.o.get 0 rfl);go_wp2_with (with_reducible refine q00 rfl 37 (.tmp 2) (.tmp 8) rfl (w.heap.size+1) [.slice j n k] rfl rfl 37 _ h.o (by kernel_rfl) rfl rfl ?_);intro O s q;clear h;have h:=vv (a.o.get 0 rfl);replace a:=vv (a.o.put 0 rfl s q);replace g:=vv (g.o.apart_ h.o rfl q);clear h s q;go_wp2;have G:O.cell? ⟨(w.heap.size+1),0,qa⟩=qk (.slice j n k):=(a.o.get 0 rfl).cell 0;exact qb (v:=q0x j n k) (by simp [results,results307,go_sem,G]) rfl ⟨j,n,k,rfl,g.o.r,M.o,a.o.low⟩
theorem Twin(A:Option qh)(n c N:Nat)(w:qf)(ha:Rd w A n c (toL N))(hz:A=qa->c=0)(hn:n<=16384):qj qc 307 #[q0x A n c] w (qde N w):=by
 rcases A with _|d
 ·have a:n=0:=by
   rcases k01 n with k|k
   ·exact k
   ·obtain⟨b,off,e,-⟩:=ha.cell k;cases e
  subst a;have f:N=0:=q06.1 ha.words;subst f;exact q8B c w (hz rfl)
 ·exact q8A d n c N w ha hn
end R1
end Go.Proofs.YtabcgemembkkcaaGreatDoor
