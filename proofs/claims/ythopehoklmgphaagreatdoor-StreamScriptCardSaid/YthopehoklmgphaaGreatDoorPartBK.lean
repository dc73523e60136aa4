/- Lemmas. -/
import Derived.Test.YthopehoklmgphaaGreatDoorPartBJ
import Derived.Lib.OthersKept
import Derived.Lib.QuoteLoop
import Derived.Lib.MapLaws
set_option linter.all false
set_option maxHeartbeats 4000000
set_option maxRecDepth 100000
open Go.Proofs.Tryz
open Go.Proofs.Tryz renaming prog->qa
open Go renaming RowKit.Below.refl->qb,World->qd,World.grownBy.refl->qj,Calls->qk,heap_alloc_new->qm,World.frozen?_setCell->qn,World.cell?_of_block->qo,ByteArray.toList_eq->qp,World.ownsRow_nil->qq,wpList_append_own->qr,bodyPost_ret->qs,results_none->qt,IntKind.wrap_i64->qu,Value->qv
open Bool renaming false->qc,true->qf
open Decidable renaming decide->qe
open Option renaming some->qg,none->qh
open Go.RowKit renaming Hid->qi,Below->ql
namespace Go.Proofs.YthopehoklmgphaaGreatDoor
variable{p r s:ByteArray}{w w':qd}{b n d c:Nat}{D:ByteArray->Nat × Nat}{L:List Nat}{α:Type}
namespace Scn
open Go Go.RowKit
theorem qdp{s:St}(h:s.has p.data.toList=qf):s.past p=s.skip p.size:=by unfold St.past;rw[h];rfl
theorem qdq{s:St}(h:s.has p.data.toList=qc):s.past p=s:=by unfold St.past;rw[h];rfl
theorem q81(b:Nat)(s:St)(p:ByteArray)(w:qd)(h:ScAt w b s)(hb:s.has p.data.toList=qf):qk qa 171 #[.pointer (qg ⟨b,0,qh⟩),.string p] w (ScP b (s.skip p.size) (.bool qf) w):=by
 have:=has b s p w h
 rwa [qdp hb,hb] at this
theorem q6z(b:Nat)(s:St)(p:ByteArray)(w:qd)(h:ScAt w b s)(hb:s.has p.data.toList=qc):qk qa 171 #[.pointer (qg ⟨b,0,qh⟩),.string p] w (ScP b s (.bool qc) w):=by
 have:=has b s p w h
 rwa [qdq hb,hb] at this
theorem minus(b:Nat)(s:St)(w:qd)(h:ScAt w b s):qk qa 110 #[.pointer (qg ⟨b,0,qh⟩)] w (ScP b s.minus.2 (.bool s.minus.1) w):=by
 cases h1:s.has [43] with
 | true =>have d:qi (s.minus=(qc,s.skip 1)):=vv (by unfold St.minus;rw[h1];rfl);have j:=vv (q81 b s ⟨#[43]⟩ w h h1);clear h h1;go_enter func110,ntmps110;go_wp2_with fail;refine j.o.mono ?_;rintro e g ⟨rfl,a,c⟩;go_wp2;go_ret;exact⟨by rw[d.o];rfl,by rw[d.o];exact a,c⟩
 | false =>
  have j:=vv (q6z b s ⟨#[43]⟩ w h h1);cases h2:s.has [45] with
  | true =>have d:qi (s.minus=(qf,s.skip 1)):=vv (by unfold St.minus;rw[h1,h2];rfl);have k:=vv h2;clear h h1 h2;go_enter func110,ntmps110;go_wp2_with fail;refine j.o.mono ?_;rintro e g ⟨rfl,a,c⟩;have f:=vv c;have l:=vv (q81 b s ⟨#[45]⟩ g a k.o);clear a c;go_wp2_with fail;refine l.o.mono ?_;rintro e i ⟨rfl,a,c⟩;go_wp2;go_ret;exact⟨by rw[d.o];rfl,by rw[d.o];exact a,q00 f.o c⟩
  | false =>
   cases h3:s.has [226,136,146] with
   | true =>have d:qi (s.minus=(qf,s.skip 3)):=vv (by unfold St.minus;rw[h1,h2,h3];rfl);have k:=vv h2;have m:=vv h3;clear h h1 h2 h3;go_enter func110,ntmps110;go_wp2_with fail;refine j.o.mono ?_;rintro e g ⟨rfl,a,c⟩;have f:=vv c;have l:=vv (q6z b s ⟨#[45]⟩ g a k.o);clear a c;go_wp2_with fail;refine l.o.mono ?_;rintro e i ⟨rfl,a,c⟩;have f:=vv (q00 f.o c);have n:=vv (q81 b s ⟨#[226,136,146]⟩ i a m.o);clear a c;go_wp2_with fail;refine n.o.mono ?_;rintro e i ⟨rfl,a,c⟩;go_wp2;go_ret;exact⟨by rw[d.o];rfl,by rw[d.o];exact a,q00 f.o c⟩
   | false =>have d:qi (s.minus=(qc,s)):=vv (by unfold St.minus;rw[h1,h2,h3];rfl);have k:=vv h2;have m:=vv h3;clear h h1 h2 h3;go_enter func110,ntmps110;go_wp2_with fail;refine j.o.mono ?_;rintro e g ⟨rfl,a,c⟩;have f:=vv c;have l:=vv (q6z b s ⟨#[45]⟩ g a k.o);clear a c;go_wp2_with fail;refine l.o.mono ?_;rintro e i ⟨rfl,a,c⟩;have f:=vv (q00 f.o c);have n:=vv (q6z b s ⟨#[226,136,146]⟩ i a m.o);clear a c;go_wp2_with fail;refine n.o.mono ?_;rintro e i ⟨rfl,a,c⟩;go_wp2;go_ret;exact⟨by rw[d.o];rfl,by rw[d.o];exact a,q00 f.o c⟩
def zt:ByteArray:=⟨#[48,217,160,219,176,223,128,224,165,166,224,167,166,224,169,166,224,185,144,225,159,160,239,188,144,240,144,146,160,240,157,159,142]⟩
def off(k:Nat):Nat:=[0,1,3,5,7,10,13,16,19,22,25,29,33].getD k 33
theorem qbI:zt.size=33:=rfl
theorem qe4:∀k:Fin 12,off k.val<33/\Utf8.decode zt (off k.val)=(zeros.getD k.val 0,off (k.val+1)-off k.val)/\off k.val<off (k.val+1)/\zeros.getD k.val 0<200000/\zeros.drop k.val=zeros.getD k.val 0::zeros.drop (k.val+1):=by decide +kernel
def q5C(r:Nat):qv:=.tuple #[.int .i64 (((digitL zeros r).getD 0:Nat):Int),.bool (digitL zeros r).isSome]
theorem qcR(r:Nat)(w:qd)(hr:r<=2147483647):qk qa 173 #[.int .i32 (r:Int)] w fun e w'=>e=.returned (q5C r)/\ql w.heap.size w w':=by
 have u:(r:Int)<=2147483647:=by omega
 have l:qi (∀p,ql w.heap.size w (w.iter zt p)):=vv fun p=>(qb _ w).alloc lr _
 clear hr;go_enter func173,ntmps173;go_wp2;go_loopw [5] (fun _ wr=>∃k,k<=12/\wr=w.iter zt (off k)/\digitL zeros r=digitL (zeros.drop k) r) (fun _ wr=>33-wr.iterPos w.heap.size)
 case atStart=>exact⟨0,by decide,rfl,rfl⟩
 case round =>
  obtain⟨k,t,rfl,a⟩:=hrel;by_cases hk12:k<12
  ·obtain⟨d,p2,m,f,c⟩:=qe4 ⟨k,hk12⟩;simp only at d p2 m f c;have b:∀ty,(Instr.next (.pointer (qg ⟨w.heap.size,0,qh⟩)) qf ty).run qa (w.iter zt (off k))=_:=fun ty=>run_next_any w zt (off k) ty (by rw[qbI];exact d)
   rw[p2] at b;obtain⟨z,n⟩:=yx (zeros.getD k 0);rw[<- n] at b f c;have v:(z:Int)<=200000:=by omega
   have q:off k+(off (k+1)-off k)=off (k+1):=by omega
   simp only[q] at b;rw[c] at a;have g:=vv a;have s:qi (33-(w.iter zt (off (k+1))).iterPos w.heap.size<33-(w.iter zt (off k)).iterPos w.heap.size):=vv (by rw[World.iterPos_iter,World.iterPos_iter];omega);clear a d p2 m f c n q;by_cases g1:z<=r
   ·by_cases g2:r<=z+9
    ·have i:qi (q5C r=.tuple #[.int .i64 ((r:Int)-(z:Int)),.bool qf]):=vv (by
      unfold q5C;rw[g.o];unfold digitL;rw[if_pos ⟨g1,g2⟩];have:((r-z:Nat):Int)=(r:Int)-(z:Int):=by omega
      show Value.tuple #[.int .i64 ((r-z:Nat):Int),.bool qf]=_;rw[this])
     go_wp2;go_ret2;exact⟨by rw[i.o];rfl,l.o _⟩
    ·have j:qi (digitL zeros r=digitL (zeros.drop (k+1)) r):=vv (by rw[g.o];conv=>lhs;unfold digitL;rw[if_neg (fun h=>g2 h.2)]);go_wp2;go_roundw
     case rel=>exact⟨k+1,by omega,rfl,j.o⟩
     case measure=>exact s.o
   ·have j:qi (digitL zeros r=digitL (zeros.drop (k+1)) r):=vv (by rw[g.o];conv=>lhs;unfold digitL;rw[if_neg (fun h=>g1 h.1)]);go_wp2;go_roundw
    case rel=>exact⟨k+1,by omega,rfl,j.o⟩
    case measure=>exact s.o
  ·obtain rfl:k=12:=by omega
   have b:∀ty,(Instr.next (.pointer (qg ⟨w.heap.size,0,qh⟩)) qf ty).run qa (w.iter zt (off 12))=_:=fun ty=>run_next_end w zt (off 12) ty (by decide)
   have i:qi (q5C r=.tuple #[.int .i64 0,.bool qc]):=vv (by unfold q5C;rw[a];rfl);clear a t hk12;go_wp2;go_ret2;exact⟨by rw[i.o];rfl,l.o _⟩
theorem q67:∀(l:List Nat) {r d:Nat},digitL l r=qg d->d<10
 | [],_,_,h=>by cases h
 | z::l,r,d,h=>by
  unfold digitL at h;split at h
  ·cases h;omega
  ·exact q67 l h
def q8R(p:Nat × Nat):qv:=.tuple #[.int .i64 (p.1:Int),.int .i64 (p.2:Int)]
theorem qeu(t:ByteArray)(w:qd):qk qa 112 #[.string t] w fun e w'=>e=.returned (q8R (ten t))/\ql w.heap.size w w':=by
 have f:qi (∀p,ql w.heap.size w (w.iter t p)):=vv fun p=>(qb _ w).alloc lr _
 rcases k04 t.size with g|g
 ·have i:qi (q8R (ten t)=.tuple #[.int .i64 0,.int .i64 0]):=vv (by unfold ten;rw[if_pos g];rfl);have k:∀ty,(Instr.next (.pointer (qg ⟨w.heap.size,0,qh⟩)) qf ty).run qa (w.iter t 0)=_:=fun ty=>run_next_end w t 0 ty (by omega)
  clear g;go_enter func112,ntmps112;go_wp2;go_loopw [5] (fun _ wr=>wr=w.iter t 0) (fun _ _=>0)
  case atStart=>rfl
  case round =>subst hrel;go_wp2;go_ret2;exact⟨by rw[i.o];rfl,f.o _⟩
 ·have k:∀ty,(Instr.next (.pointer (qg ⟨w.heap.size,0,qh⟩)) qf ty).run qa (w.iter t 0)=_:=fun ty=>run_next_any w t 0 ty g
  have l:=decode_le t 0;have a:ten t=match digitL zeros (Utf8.decode t 0).1 with|some d=>(d,(Utf8.decode t 0).2)|none=>(0,0):=by unfold ten;rw[if_neg (by omega)];rfl
  have b:(Utf8.decode t 0).1≠65533->Lib.runeLen ((Utf8.decode t 0).1:Int)=((Utf8.decode t 0).2:Int):=by
   have e:=Lib.decodeL_drop t 0;rw[k0L] at e;intro h;have:=Lib.runeLen_decode t.data.toList (by rw[e];exact h)
   rwa [e] at this
  obtain⟨R,s⟩:=yx ((Utf8.decode t 0).1);obtain⟨K,u⟩:=yx ((Utf8.decode t 0).2);rw[<- s] at k l a b;rw[<- u] at k a b;have j:=vv fun w=>qcR R w l
  have m:=vv fun w=>Tryz.utf8_RuneLen (R:Int) w
  have z:(R:Int)<=2147483647:=by omega
  clear s u g l;cases hd:digitL zeros R with
  | some d =>
   have i:qi (ten t=(d,K)):=vv (by rw[a,hd]);have r:R≠65533:=by
    rintro rfl;have:digitL zeros 65533=qh:=by decide
    rw[this] at hd;cases hd
   have v:=vv (b r);have q:qi (q5C R=.tuple #[.int .i64 (d:Int),.bool qf]):=vv (by unfold q5C;rw[hd];rfl);rw[q.o] at j;rw[v.o] at m;clear hd a b r;go_enter func112,ntmps112;go_wp2;go_loopw [5] (fun _ wr=>wr=w.iter t 0) (fun _ _=>0)
   case atStart=>rfl
   case round =>subst hrel;go_wp2_with fail;refine(j.o _).mono ?_;rintro e x ⟨rfl,c⟩;have n:=vv ((f.o _).trans (c.mono (f.o _).size));clear c;go_wp2_with fail;refine(m.o _).mono ?_;rintro e C ⟨rfl,y⟩;subst y;go_wp2;go_ret2;exact⟨by rw[i.o];rfl,n.o⟩
  | none =>
   have i:qi (ten t=(0,0)):=vv (by rw[a,hd]);have q:qi (q5C R=.tuple #[.int .i64 0,.bool qc]):=vv (by unfold q5C;rw[hd];rfl);rw[q.o] at j;clear hd a b m;go_enter func112,ntmps112;go_wp2;go_loopw [5] (fun _ wr=>wr=w.iter t 0) (fun _ _=>0)
   case atStart=>rfl
   case round =>subst hrel;go_wp2_with fail;refine(j.o _).mono ?_;rintro e x ⟨rfl,c⟩;have n:=vv ((f.o _).trans (c.mono (f.o _).size));clear c;go_wp2;go_ret2;exact⟨by rw[i.o];rfl,n.o⟩
theorem ten_small(t:ByteArray):(ten t).1<10/\(ten t).2<=t.size:=by
 unfold ten;split
 ·exact⟨by decide,by omega⟩
 ·split
  ·rename_i h0 d hd;exact⟨q67 _ hd,Lib.width_le t (by omega)⟩
  ·exact⟨by decide,k0d _⟩
def st:List UInt8:=[48,49,50,51,52,53,54,55,56,57,97,98,99,100,101,102,65,66,67,68,69,70]
theorem qe8:∀c:Fin 256,((hexd c.val).isNone=qf/\Lib.indexByte st c.val.toUInt8 = -1)\/((hexd c.val).isSome=qf/\(hexd c.val).getD 0<16/\(Lib.indexByte st c.val.toUInt8=(((hexd c.val).getD 0:Nat):Int)\/Lib.indexByte st c.val.toUInt8=(((hexd c.val).getD 0:Nat):Int)+6/\10<=(hexd c.val).getD 0)):=by decide +kernel
theorem qal(t:ByteArray)(w:qd):qk qa 177 #[.string t] w fun e w'=>e=.returned (q8R (sixteen t))/\ql w.heap.size w w':=by
 rcases k04 t.size with f|f
 ·have g:qi (q8R (sixteen t)=.tuple #[.int .i64 0,.int .i64 0]):=vv (by unfold sixteen;rw[if_pos f];rfl);obtain rfl:t=⟨#[]⟩:=ByteArray.ext (k1e f);clear f;go_enter func177,ntmps177;go_wp2;go_ret2;exact⟨by rw[g.o];rfl,qb _ _⟩
 ·have D:=q1R f;have n:t.get! 0=t[0]:=get_at t 0 f;have b:sixteen t=match hexd (t[0]).toNat with|some d=>(d,1)|none=>(0,0):=by unfold sixteen;rw[if_neg (by omega),n];rfl
  obtain⟨c,r⟩:∃c,(t[0]).toNat=c:=⟨_,rfl⟩;have m:c<256:=by rw[<- r];exact k1q _
  rw[r] at b;have a:=qe8 ⟨c,m⟩;simp only at a;have i:=vv (Tryz.strings_IndexByte ⟨st.toArray⟩ (c:Int) w);rw[show(⟨st.toArray⟩:ByteArray).data.toList=st from rfl,show(c:Int).toNat=c from rfl] at i;obtain⟨I,p⟩:=yx (Lib.indexByte st c.toUInt8);rw[<- p] at i a;cases hd:hexd c with
  | some d =>
   rw[hd] at a b;have g:=vv b;replace a:(I=(d:Int)/\d<16)\/(I=(d:Int)+6/\10<=d/\d<16):=by
    rcases a with ⟨h,_⟩|⟨_,h,k|⟨k,l⟩⟩
    ·cases h
    ·exact .inl ⟨k,h⟩
    ·exact .inr ⟨k,l,h⟩
   rcases a with ⟨a,u⟩|⟨a,v,x⟩
   ·have y:I<16:=by omega
    have z:0<=I:=by omega
    have q:=vv a;clear a u hd b p n m;go_enter func177,ntmps177;go_wp2_with fail;refine i.o.mono ?_;rintro e s ⟨rfl,j⟩;subst j;go_wp2;go_ret2;exact⟨by rw[g.o,q.o];rfl,qb _ _⟩
   ·have y:16<=I:=by omega
    have C:I<=22:=by omega
    have q:qi (I-6=(d:Int)):=vv (by omega);clear a v x hd b p n m;go_enter func177,ntmps177;go_wp2_with fail;refine i.o.mono ?_;rintro e s ⟨rfl,j⟩;subst j;go_wp2;go_ret2;exact⟨by rw[g.o,q.o];rfl,qb _ _⟩
  | none =>
   rw[hd] at a b;have g:=vv b;have a:I = -1:=by
    rcases a with ⟨_,h⟩|⟨h,_⟩
    ·exact h
    ·cases h
   subst a;clear hd b p n m;go_enter func177,ntmps177;go_wp2_with fail;refine i.o.mono ?_;rintro e s ⟨rfl,j⟩;subst j;go_wp2;go_ret2;exact⟨by rw[g.o];rfl,qb _ _⟩
theorem sixteen_small(t:ByteArray):(sixteen t).1<16/\(sixteen t).2<=t.size:=by
 unfold sixteen;split
 ·exact⟨by decide,by omega⟩
 ·split
  ·rename_i h0 d hd;refine⟨?_,by omega⟩;unfold hexd at hd
   repeat' split at hd
   all_goals first|(cases hd;omega)|cases hd
  ·exact⟨by decide,k0d _⟩
end Scn
section
open Go Go.RowKit
theorem q0e{a:qd}{row:Option Nat}(h:a.grownBy w (qg b))(hg:w.grownBy w' row)(hr:∀k,row=qg k->a.heap.size<=k):a.grownBy w' (qg b):=⟨hg.os.trans h.os,hg.tape.trans h.tape,hg.output.trans h.output,k06 h.size hg.size,fun i hi hne=>(hg.block i (k01 hi h.size) (fun e=>by have:=hr i e.symm;omega)).trans (h.block i hi hne)⟩
def ahead(w:qd)(b:Nat):Nat:=match w.cell? ⟨b,0,qh⟩ with|some (.string r)=>r.size|_=>0
theorem ScAt.ahead{s:Scn.St}(h:ScAt w b s):ahead w b=s.rest.size:=by unfold Go.Proofs.YthopehoklmgphaaGreatDoor.ahead;rw[h.c0]
theorem q7X:(Tryz.prog.info? 5).map (fun i=>(i.zero,i.size,i.bytes))=qg (qg (.int .u8 0),1,1):=by kernel_rfl
end
namespace Scn
open Go Go.RowKit
structure Kind(K:Nat)(D:ByteArray->Nat × Nat):Prop where
 go:∀args w,(callFunc K args).run qa w=.ok (.enter K args) w
 calls:∀t w,qk qa K #[.string t] w fun e w'=>e=.returned (q8R (D t))/\ql w.heap.size w w'
 small:∀t,(D t).1<16/\(D t).2<=t.size
def q1y(D:ByteArray->Nat × Nat)(s u:St)(L:List Nat):Prop:=
 (u.code≠0/\s.row D=(L,u))\/(u.code=0/\∃f,s.row D=q4B D f u L/\u.rest.size<f)
theorem q1y.start(D:ByteArray->Nat × Nat)(s:St)(h:pre s.rest [95]=qc):q1y D s s []:=by
 by_cases hc:s.code=0
 ·exact .inr ⟨hc,s.rest.size+1,by unfold St.row;rw[if_neg (fun h=>h hc),h];rfl,by omega⟩
 ·exact .inl ⟨hc,by unfold St.row;rw[if_pos hc]⟩
theorem q1y.start_off(D:ByteArray->Nat × Nat)(s:St)(hc:s.code≠0):q1y D s s []:=.inl ⟨hc,by unfold St.row;rw[if_pos hc]⟩
theorem q1y.start_bad(D:ByteArray->Nat × Nat)(s:St)(h:pre s.rest [95]=qf)(hc:s.code=0):q1y D s (s.put 112) []:=.inl ⟨by show(112:Nat)≠0;decide,by unfold St.row;rw[if_neg (fun h=>h hc),h];rfl⟩
theorem qc6{c:UInt8}(h:pre r [c]=qf):1<=r.size:=pre_le (p:=⟨#[c]⟩) h
theorem q5M(s:St)(n:Nat):(s.skip n).code=s.code:=rfl
theorem q0X(s:St)(n:Nat):(s.skip n).rest.size=s.rest.size-n:=drop_size _ _
theorem q2I(D:ByteArray->Nat × Nat)(f:Nat)(s:St)(l:List Nat):q4B D (f+1) s l =
  if(D s.rest).2=0 then(l,s) else
  if pre (s.skip (D s.rest).2).rest [95] then
   if(D (drop (s.skip (D s.rest).2).rest 1)).2=0 then(l++[(D s.rest).1],(s.skip (D s.rest).2).put 112)
   else q4B D f ((s.skip (D s.rest).2).skip 1) (l++[(D s.rest).1])
  else q4B D f (s.skip (D s.rest).2) (l++[(D s.rest).1]):=rfl
theorem q1y.off{s u:St}(h:q1y D s u L)(hc:u.code≠0):s.row D=(L,u):=by
 rcases h with ⟨_,h⟩|⟨h,_⟩
 ·exact h
 ·exact absurd h hc
theorem q1y.stop{s u:St}(h:q1y D s u L)(hc:u.code=0)(hn:(D u.rest).2=0):s.row D=(L,u):=by
 rcases h with ⟨h,_⟩|⟨_,f,h,a⟩
 ·exact absurd hc h
 ·obtain⟨f,rfl⟩:∃k,f=k+1:=⟨f-1,by omega⟩;rw[h,q2I,if_pos hn]
theorem q1y.next{s u:St}(h:q1y D s u L)(hc:u.code=0)(he:D u.rest=(d,n))(hn:n≠0)(hle:n<=u.rest.size)(hp:pre (u.skip n).rest [95]=qc):q1y D s (u.skip n) (L++[d]):=by
 rcases h with ⟨h,_⟩|⟨_,f,h,a⟩
 ·exact absurd hc h
 ·obtain⟨f,rfl⟩:∃k,f=k+1:=⟨f-1,by omega⟩;refine .inr ⟨hc,f,?_,by show(drop u.rest n).size<f;rw[drop_size];omega⟩;rw[h,q2I,he];dsimp only;rw[if_neg hn,hp];rfl
theorem q1y.bad{s u:St}(h:q1y D s u L)(hc:u.code=0)(he:D u.rest=(d,n))(hn:n≠0)(hp:pre (u.skip n).rest [95]=qf)(hz:(D (drop (u.skip n).rest 1)).2=0):s.row D=(L++[d],(u.skip n).put 112):=by
 rcases h with ⟨h,_⟩|⟨_,f,h,a⟩
 ·exact absurd hc h
 ·obtain⟨f,rfl⟩:∃k,f=k+1:=⟨f-1,by omega⟩;rw[h,q2I,he];dsimp only;rw[if_neg hn,hp,if_pos rfl,if_pos hz]
theorem q1y.over{s u:St}(h:q1y D s u L)(hc:u.code=0)(he:D u.rest=(d,n))(hn:n≠0)(hle:n<=u.rest.size)(hp:pre (u.skip n).rest [95]=qf)(hz:(D (drop (u.skip n).rest 1)).2≠0):q1y D s ((u.skip n).skip 1) (L++[d]):=by
 rcases h with ⟨h,_⟩|⟨_,f,h,c⟩
 ·exact absurd hc h
 ·obtain⟨f,rfl⟩:∃k,f=k+1:=⟨f-1,by omega⟩;have a:((u.skip n).skip 1).code=0:=by rw[q5M,q5M];exact hc
  have b:((u.skip n).skip 1).rest.size<f:=by rw[q0X,q0X];omega
  refine .inr ⟨a,f,?_,b⟩;rw[h,q2I,he];dsimp only;rw[if_neg hn,hp,if_pos rfl,if_neg hz]
def q2S(D:ByteArray->Nat × Nat)(b:Nat)(s:St)(w:qd)(l:qv)(wr:qd):Prop:=
 ∃(u:St) (L:List Nat),wr.ownsRow w.heap.size 5 1 l L.length (u8s L)/\ScAt wr b u/\w.grownBy wr (qg b)/\q1y D s u L/\L.length+u.rest.size<=65536/\∀d∈L,d<16
def q1D(b:Nat)(L:List Nat)(u:St)(w:qd)(e:Ending)(w':qd):Prop:=
 ∃v,e=.returned v/\w'.ownsRow w.heap.size 5 1 v L.length (u8s L)/\ScAt w' b u/\w.grownBy w' (qg b)/\L.length<=65536/\∀d∈L,d<16
theorem q2S.start{s:St}(h:ScAt w b s)(hr:q1y D s s []):q2S D b s w (.slice qh 0 0) w:=⟨s,[],qq w _ _ _,h,qj _ _,hr,by have:=h.sm;rw[k1p];omega,fun _ h=>absurd h k0W⟩
theorem q2S.start_bad{s:St}(h:ScAt w b s)(hp:pre s.rest [95]=qf)(hc:s.code=0):q2S D b s w (.slice qh 0 0) (w.setCell ⟨b,2,qh⟩ (.int .i64 112)):=⟨s.put 112,[],qq _ _ _ _,h.put 112,q0W _,q1y.start_bad D s hp hc,by have:=h.sm;rw[k1p];show 0+s.rest.size<=65536;omega,fun _ h=>absurd h k0W⟩
theorem row(K:Nat)(D:ByteArray->Nat × Nat)(hK:Kind K D)(b:Nat)(s:St)(w:qd)(h:ScAt w b s):qk qa 231 #[.pointer (qg ⟨b,0,qh⟩),.func (.func K) #[] #[]] w (q1D b (s.row D).1 (s.row D).2 w):=by
 obtain⟨i0,hi,c7,c8,c9⟩:=info_parts q7X;have e0:=hK.go;have HK:=vv hK;have c0:=h.c0;have c2:=h.c2;have f2:=h.fz 2;have P:=h.lt;have Q:=vv P;have f:=vv (qdn s.rest ⟨#[95]⟩ w);rw[show(⟨#[95]⟩:ByteArray).data.toList=[95] from rfl] at f;have a6:(pre s.rest [95]=qf/\s.code=0)\/(pre s.rest [95]=qf/\s.code≠0)\/pre s.rest [95]=qc:=by
  cases pre s.rest [95] with
  | false=>exact .inr (.inr rfl)
  | true =>
   by_cases hc:s.code=0
   ·exact .inl ⟨rfl,hc⟩
   ·exact .inr (.inl ⟨rfl,hc⟩)
 rcases a6 with ⟨hp,hc⟩|⟨hp,hc⟩|hp
 case' inl =>
  have S:=vv (q2S.start_bad (D:=D) h hp hc);have t0:((s.code:Int)==0)=qf:=by rw[hc];rfl
  rw[hp] at f;clear hK h hp hc;go_enter func231,ntmps231;go_wp2_with fail;refine f.o.mono ?_;rintro e v ⟨rfl,rfl⟩;clear f;go_wp2;clear c0 c2 f2 P t0
 case' inr.inl =>
  have S:=vv (q2S.start (D:=D) h (q1y.start_off D s hc));have t0:((s.code:Int)==0)=qc:=by rw[k02];omega
  rw[hp] at f;clear hK h hp hc;go_enter func231,ntmps231;go_wp2_with fail;refine f.o.mono ?_;rintro e v ⟨rfl,rfl⟩;clear f;go_wp2;clear c0 c2 f2 P t0
 case' inr.inr =>have S:=vv (q2S.start (D:=D) h (q1y.start D s hp));rw[hp] at f;clear hK h hp;go_enter func231,ntmps231;go_wp2_with fail;refine f.o.mono ?_;rintro e v ⟨rfl,rfl⟩;clear f;go_wp2;clear c0 c2 f2 P
 all_goals
  go_loopw [5] (fun l wr=>q2S D b s w l wr) (fun _ wr=>ahead wr b)
  case atStart=>exact S.o
  case round =>
   clear S;obtain⟨u,L,a4,m,i,b5,d9,b6⟩:=hrel;have V:=vv a4;have x:=vv m;have HG:=vv i;have y:=vv b5;have W:=vv b6;have k0:=m.c0;have k2:=m.c2;have kf:=m.fz 2;have kl:=m.lt;have b7:=vv m.ahead;have e1:(L.length:Int)<=65536:=by omega
   clear a4 m i b5 b6;by_cases hc:u.code=0
   ·have d0:((u.code:Int)==0)=qf:=by rw[hc];rfl
    have G:=vv hc;have z:=vv (HK.o.calls u.rest wr);obtain⟨d,n,he⟩:∃d n,D u.rest=(d,n):=⟨_,_,rfl⟩;have a0:=HK.o.small u.rest;rw[he] at a0 z;obtain⟨a5,H⟩:=a0;dsimp only at a5 H;replace z:qi (qk qa K #[.string u.rest] wr fun e w'=>e=.returned (.tuple #[.int .i64 (d:Int),.int .i64 (n:Int)])/\ql wr.heap.size wr w'):=z;have T:=vv he;clear hc he;by_cases hn:n=0
    ·subst hn;have C:=vv (y.o.stop G.o (by rw[T.o]));go_wp2_with fail;refine z.o.mono ?_;rintro e v ⟨rfl,a⟩;have I:=vv (q0A V.o fun g _ hs=>a.block g hs);have p:=vv (x.o.below a x.o.lt);have J:=vv (q00 HG.o (q03 a _));clear a k0 k2 kf;go_wp2;go_ret;rw[C.o];show q1D b L u w _ _;exact⟨_,rfl,I.o,p.o,J.o,by omega,W.o⟩
    ·have t1:((n:Int)==0)=qc:=by rw[k02];omega
     have HN:=vv hn;have e2:L.length+1<=65536:=by omega
     have e3:1<=n:=by omega
     clear hn;go_wp2_with fail;refine z.o.mono ?_;rintro e v ⟨rfl,a⟩;have I:=vv (q0A V.o fun g _ hs=>a.block g hs);have p:=vv (x.o.below a x.o.lt);have J:=vv (q00 HG.o (q03 a _));have e4:=a.size;have e5:=J.o.size;clear a k0 k2 kf;go_wp2_with (at_builtin;refine qr _ rfl _ _ 56 rfl w.heap.size 5 i0 (.int .u8 0) 1 1 underlying56 hi c7 c8 c9 rfl (by decide) _ L.length (u8s L) rfl (I.o.alloc _) ⟨v.heap.size,0,qh⟩ 1 1 [.int .u8 (d:Int)] rfl rfl (cell_one_new _ _ _) (by simp [Value.oneCell']) (by unfold maxLen;omega) (by omega) (by simp;omega) ?_);intro U w5 M N _;replace M:w5.ownsRow w.heap.size 5 1 U (L++[d]).length (u8s (L++[d])):=by rw[q57,k0p];exact M
     have a7:=vv M;have X:=I.o.lt;have d1:=vv (q0e (q0x J.o _) N (fun k h=>(X k h).1));have b2:qi (ScAt w5 b u):=vv (p.o.of ((N.block b (by have:=p.o.lt;simp;omega) (fun e=>by have:=(X b e.symm).1;have:=Q.o;omega)).trans (Below.heap_alloc v _ b p.o.lt)) (k01 (by have:=p.o.lt;simp;omega) N.size));have d3:=vv (skip b u n w5 b2.o H);clear M N X;go_wp2_with fail;refine d3.o.mono ?_;rintro e w6 ⟨rfl,j,i⟩;have a1:=vv (q0s a7.o i Q.o);have b8:=vv (q00 d1.o i);have O:=vv j;have q:=vv (qdn (u.skip n).rest ⟨#[95]⟩ w6);rw[show(⟨#[95]⟩:ByteArray).data.toList=[95] from rfl] at q;have m0:=j.c0;have ml:=j.lt;have m2:=j.fz 2;have m3:=j.c2;have Z:=(fun h=>qc6 (r:=(u.skip n).rest) (c:=95) h);have b9:=q0X u n;have a9:qi (∀d'∈L++[d],d'<16):=vv (fun d' h=>by
      rcases k1L.1 h with h|h
      ·exact W.o d' h
      ·rw[k0j.1 h];exact a5)
     clear j i;have a3:qi ((L++[d]).length+(u.rest.size-n)<=65536):=vv (by rw[k0p,k2g];omega);cases hp:pre (u.skip n).rest [95] with
     | false =>
      rw[hp] at q;have HA:=vv (y.o.next G.o T.o HN.o H hp);have HM:qi (ahead w6 b<ahead wr b):=vv (by rw[O.o.ahead,b7.o,q0X];omega);have HI:qi (q2S D b s w U w6):=vv ⟨_,_,a1.o,O.o,b8.o,HA.o,by rw[q0X];exact a3.o,a9.o⟩;clear hp Z b9;go_wp2_with fail;refine q.o.mono ?_;rintro e w7 ⟨rfl,rfl⟩;go_wp2;go_roundw
      case rel=>exact HI.o
      case measure=>exact HM.o
     | true =>
      rw[hp] at q;have h1:=Z hp;obtain⟨Y,hY⟩:=yx (drop (u.skip n).rest 1);have d4:(u.skip n).rest.extract 1 (u.skip n).rest.size=Y:=hY.symm;have c1:=vv hY;obtain⟨d2,E,b0⟩:∃d2 E,D Y=(d2,E):=⟨_,_,rfl⟩;have d5:qi (∀w,qk qa K #[.string Y] w fun e w'=>e=.returned (.tuple #[.int .i64 (d2:Int),.int .i64 (E:Int)])/\ql w.heap.size w w'):=vv fun w=>by have:=HK.o.calls Y w;rw[b0] at this;exact this
      have c3:=vv b0;have c4:=vv hp;obtain⟨R,F⟩:=yx ((u.skip n).rest);have d6:=vv F;have e6:(1:Int)<=(R.size:Int):=by rw[F];omega
      have e7:(R.size:Int)<=65536:=by rw[F];omega
      rw[<- F] at m0 d4 q;clear hp Z b9 hY b0 F h1;go_wp2_with fail;refine q.o.mono ?_;rintro e w7 ⟨rfl,rfl⟩;go_wp2_with fail;refine(d5.o _).mono ?_;rintro e w8 ⟨rfl,a⟩;have a2:=vv (q0A a1.o fun g _ hs=>a.block g hs);have t:=vv (O.o.below a O.o.lt);have c5:=vv (q00 b8.o (q03 a _));have m0:=t.o.c0;have m2:=t.o.fz 2;have m3:=t.o.c2;have ml:=t.o.lt;clear a;by_cases hz:E=0
      ·subst hz;have C:=vv (y.o.bad G.o T.o HN.o c4.o (by rw[<- c1.o,c3.o]));have a8:qi ((w8.setCell ⟨b,2,qh⟩ (.int .i64 112)).ownsRow w.heap.size 5 1 U (L++[d]).length (u8s (L++[d]))):=vv (q0s a2.o (q0W _) Q.o);have d7:=vv (q00 c5.o (q0W (.int .i64 112)));have b3:=vv (t.o.put 112);have b1:qi ((L++[d]).length<=65536):=vv (by have:=a3.o;omega);go_wp2;go_ret;rw[C.o];show q1D b (L++[d]) ((u.skip n).put 112) w _ _;exact⟨_,rfl,a8.o,b3.o,d7.o,b1.o,a9.o⟩
      ·have t2:((E:Int)==0)=qc:=by rw[k02];omega
       have c6:1<=(u.skip n).rest.size:=by rw[<- d6.o];omega
       have HA:=vv (y.o.over G.o T.o HN.o H c4.o (by rw[<- c1.o,c3.o];exact hz));have b4:=vv (skip b (u.skip n) 1 w8 t.o c6);have HM:qi (((u.skip n).skip 1).rest.size<u.rest.size):=vv (by rw[q0X,q0X];omega);have b1:qi ((L++[d]).length+((u.skip n).skip 1).rest.size<=65536):=vv (by rw[q0X,q0X];have:=a3.o;omega);clear hz c6;go_wp2_with fail;refine b4.o.mono ?_;rintro e w9 ⟨rfl,j,i⟩;have HI:qi (q2S D b s w U w9):=vv ⟨_,_,q0s a2.o i Q.o,j,q00 c5.o i,HA.o,b1.o,a9.o⟩;have d8:qi (ahead w9 b<ahead wr b):=vv (by rw[j.ahead,b7.o];exact HM.o);clear j i;go_wp2;go_roundw
       case rel=>exact HI.o
       case measure=>exact d8.o
   ·have d0:((u.code:Int)==0)=qc:=by rw[k02];omega
    have C:=vv (y.o.off hc);clear hc;go_wp2;go_ret;rw[C.o];show q1D b L u w _ _;exact⟨_,rfl,V.o,x.o,HG.o,by omega,W.o⟩
end Scn
section
open Go Go.RowKit
theorem Scn.drop_drop(r:ByteArray)(a n:Nat):Scn.drop (Scn.drop r a) n=Scn.drop r (a+n):=by unfold Scn.drop;rw[ByteArray.extract_extract,ByteArray.size_extract];congr 1;omega
theorem Scn.drop_zero(r:ByteArray):Scn.drop r 0=r:=by unfold Scn.drop;exact ByteArray.extract_zero_size
structure TxAt(w:qd)(b:Nat)(s:ByteArray)(v:Scn.St):Prop where
 c0:w.cell? ⟨b,0,qh⟩=qg (.string s)
 c1:w.cell? ⟨b,1,qh⟩=qg (.int .i64 (v.pos:Int))
 c2:w.cell? ⟨b,2,qh⟩=qg (.int .i64 (v.code:Int))
 fz:∀j,w.frozen? ⟨b,j,qh⟩=qc
 lt:b<w.heap.size
 sm:s.size<=65536
 rest:v.rest=Scn.drop s v.pos
 le:v.pos<=s.size
theorem TxAt.of{v:Scn.St}(h:TxAt w b s v)(hb:w'.heap[b]?=w.heap[b]?)(hs:b<w'.heap.size):TxAt w' b s v:=⟨(qo (a:=⟨b,0,qh⟩) hb).trans h.c0,(qo (a:=⟨b,1,qh⟩) hb).trans h.c1,(qo (a:=⟨b,2,qh⟩) hb).trans h.c2,fun j=>(q0Y (p:=⟨b,j,qh⟩) hb).trans (h.fz j),hs,h.sm,h.rest,h.le⟩
theorem TxAt.below{B:Nat}{v:Scn.St}(h:TxAt w b s v)(hb:ql B w w')(hB:b<B):TxAt w' b s v:=h.of (hb.block b hB) (k01 h.lt hb.size)
theorem TxAt.grown{v:Scn.St}(h:TxAt w b s v){row:Option Nat}(hb:w.grownBy w' row)(hr:∀k,row=qg k->k≠b):TxAt w' b s v:=h.of (hb.block b h.lt (fun e=>hr b e.symm rfl)) (k01 h.lt hb.size)
theorem TxAt.drew{v:Scn.St}(h:TxAt w b s v):TxAt w.drew b s v:=⟨h.c0,h.c1,h.c2,h.fz,h.lt,h.sm,h.rest,h.le⟩
theorem TxAt.put{v:Scn.St}(h:TxAt w b s v)(c:Nat):TxAt (w.setCell ⟨b,2,qh⟩ (.int .i64 (c:Int))) b s (v.put c):=⟨(q0j (by simp)).trans h.c0,(q0j (by simp)).trans h.c1,q0t h.c2,fun j=>(qn _ _ _ _).trans (h.fz j),by simpa [World.setCell] using h.lt,h.sm,h.rest,h.le⟩
theorem TxAt.skip{v:Scn.St}(h:TxAt w b s v)(hn:n<=v.rest.size):TxAt (w.setCell ⟨b,1,qh⟩ (.int .i64 ((v.pos:Int)+(n:Int)))) b s (v.skip n):=by
 refine⟨(q0j (by simp)).trans h.c0,q0t h.c1,(q0j (by simp)).trans h.c2,fun j=>(qn _ _ _ _).trans (h.fz j),by simpa [World.setCell] using h.lt,h.sm,?_,?_⟩
 ·show Scn.drop v.rest n=Scn.drop s (v.pos+n);rw[h.rest,Scn.drop_drop]
 ·have:=h.le;rw[h.rest,Scn.drop_size] at hn;show v.pos+n<=s.size;omega
theorem TxAt.back{v u:Scn.St}(h:TxAt w b s v)(hr:u.rest=Scn.drop s u.pos)(hl:u.pos<=s.size)(hc:u.code=v.code):TxAt (w.setCell ⟨b,1,qh⟩ (.int .i64 (u.pos:Int))) b s u:=⟨(q0j (by simp)).trans h.c0,q0t h.c1,((q0j (by simp)).trans h.c2).trans (by rw[hc]),fun j=>(qn _ _ _ _).trans (h.fz j),by simpa [World.setCell] using h.lt,h.sm,hr,hl⟩
theorem TxAt.made(w:qd)(s:ByteArray)(t:TypeId)(hs:s.size<=65536):TxAt (w.alloc (.cells #[.string s,.int .i64 0,.int .i64 0] t)) w.heap.size s ⟨s,0,0⟩:=by
 refine⟨?_,?_,?_,fun j=>?_,by simp,hs,(Scn.drop_zero s).symm,k0d _⟩
 ·simp only[World.cell?,qm];rfl
 ·simp only[World.cell?,qm];rfl
 ·simp only[World.cell?,qm];rfl
 ·simp only[World.frozen?,qm];rw[k2e];right;simp
theorem TxAt.left{v:Scn.St}(h:TxAt w b s v):v.rest.size=s.size-v.pos:=by rw[h.rest,Scn.drop_size]
theorem Scn.drop_at(s:ByteArray)(a:Nat)(h:a<s.size):(Scn.drop s a).data.toList=s[a]::(Scn.drop s (a+1)).data.toList:=by
 unfold Scn.drop;rw[k1x,k1x,k1N,k1N];simp only[k2k];have b:a<s.data.toList.length:=by simpa using h
 rw[k1A b,show s.size-a=(s.size-(a+1))+1 by omega,List.take_succ_cons];rfl
theorem TxAt.has_end{v:Scn.St}(h:TxAt w b s v)(c:UInt8)(he:s.size<=v.pos):v.has [c]=qc:=by
 have:v.rest.data.toList=[]:=by apply k0s;have:=h.left;rw[q0T];omega
 unfold Scn.St.has Scn.pre;rw[this];cases v.code==0<;>rfl
theorem TxAt.has_here{v:Scn.St}(h:TxAt w b s v)(c:UInt8)(hp:v.pos<s.size):v.has [c]=((v.code==0) && (s[v.pos]==c)):=by unfold Scn.St.has Scn.pre;rw[h.rest,Scn.drop_at s v.pos hp];congr 1;show(s[v.pos]::_ |> fun l=>[c].isPrefixOf l)=_;show(c==s[v.pos] && qf)=_;rw[Bool.and_true,Bool.beq_comm]
theorem TxAt.fold_here{v:Scn.St}(h:TxAt w b s v)(c:UInt8)(hp:v.pos<s.size):v.fold [c]=((v.code==0) && (Scn.lower s[v.pos].toNat==c.toNat)):=by unfold Scn.St.fold;rw[h.rest,Scn.drop_at s v.pos hp];congr 1;show(Scn.lower s[v.pos].toNat==c.toNat && _)=_;simp [Scn.foldL]
theorem TxAt.fold_end{v:Scn.St}(h:TxAt w b s v)(c:UInt8)(l:List UInt8)(he:s.size<=v.pos):v.fold (c::l)=qc:=by
 have:v.rest.data.toList=[]:=by apply k0s;have:=h.left;rw[q0T];omega
 unfold Scn.St.fold;rw[this];cases v.code==0<;>rfl
theorem TxAt.fold_cons{v:Scn.St}(h:TxAt w b s v)(c:UInt8)(l:List UInt8)(hp:v.pos<s.size):v.fold (c::l)=(v.fold [c] && (v.skip 1).fold l):=by rw[h.fold_here c hp];unfold Scn.St.fold Scn.St.skip;dsimp only;rw[h.rest,Scn.drop_drop,Scn.drop_at s v.pos hp];show((v.code==0) && (Scn.lower s[v.pos].toNat==c.toNat && Scn.foldL _ l))=_;cases v.code==0<;>cases Scn.lower s[v.pos].toNat==c.toNat<;>rfl
theorem q7U(x c:UInt8)(h1:97<=c.toNat)(h2:c.toNat<=122):((x==c) || (x==c-32))=(Scn.lower x.toNat==c.toNat):=by
 have e:=Lx.lower_letter x.toNat c.toNat (k1q _) h1 h2;have a:(c-32).toNat=c.toNat-32:=by
  rw[UInt8.toNat_sub_of_le]
  ·rfl
  ·rw[UInt8.le_iff_toNat_le];show 32<=c.toNat;omega
 rw[Bool.eq_iff_iff];simp only[k1z,k2r,e,<- UInt8.toNat_inj,a]
theorem q7V(x c:UInt8)(h:c.toNat<65\/122<c.toNat):(x==c)=(Scn.lower x.toNat==c.toNat):=by have e:=Lx.lower_other x.toNat c.toNat (by omega);rw[Bool.eq_iff_iff];simp only[k2r,e,<- UInt8.toNat_inj]
def dgt(D:ByteArray->Nat × Nat)(r:ByteArray):Int:=if(D r).2=0 then -1 else((D r).1:Int)
theorem qcx:dgt D r<0↔(D r).2=0:=by
 unfold dgt;split
 ·simp [*]
 ·simp only[*,iff_false];omega
theorem Bg.text{v:Scn.St}(h:Bg w)(hb:w.grownBy w' (qg b))(hs:TxAt w b s v):Bg w':=h.keep hb.size fun g hg=>hb.block g (by rcases hg with ⟨n,e⟩|⟨te,pe,e⟩<;>exact qfG e) (fun e=>by cases e;have:=hs.c0;rcases hg with ⟨n,e⟩|⟨te,pe,e⟩<;>rw[e] at this<;>cases this)
def q9l(c:Nat):Int:=match Scn.hexd c with|some d=>(d:Int)|none => -1
theorem qco(s:ByteArray)(a:Nat)(h:a<s.size):q9l s[a].toNat=dgt Scn.sixteen (Scn.drop s a)/\((Scn.sixteen (Scn.drop s a)).2≠0->(Scn.sixteen (Scn.drop s a)).2=1):=by
 have b:(Scn.drop s a).size≠0:=by rw[Scn.drop_size];omega
 have c:(Scn.drop s a).get! 0=s[a]:=by
  have e:=Scn.drop_at s a h;have f:(Scn.drop s a).get! 0=(Scn.drop s a)[0]'(by omega):=get_at _ 0 (by omega);rw[f];have:(Scn.drop s a).data.toList[0]'(by rw[e];simp)=s[a]:=by simp only[e,List.getElem_cons_zero]
  exact this
 unfold q9l dgt Scn.sixteen;rw[if_neg b,c];cases Scn.hexd s[a].toNat with
 | none=>exact⟨rfl,fun h=>absurd rfl h⟩
 | some d=>exact⟨rfl,fun _=>rfl⟩
theorem qda(s:ByteArray)(a:Nat)(h:a<s.size):Scn.ten (Scn.drop s a)=match Scn.digitL Scn.zeros (Scn.dec1 (Scn.drop s a)).1 with|some d=>(d,(Scn.dec1 (Scn.drop s a)).2)|none=>(0,0):=by
 have b:(Scn.drop s a).size≠0:=by rw[Scn.drop_size];omega
 unfold Scn.ten Scn.dec1;rw[if_neg b,if_neg b];cases Scn.digitL Scn.zeros (Utf8.decode (Scn.drop s a) 0).1<;>rfl
theorem qaM(hD:D=Scn.ten\/D=Scn.sixteen)(s:ByteArray)(a:Nat)(h:s.size<=a):D (Scn.drop s a)=(0,0):=by
 have b:(Scn.drop s a).size=0:=by rw[Scn.drop_size];omega
 rcases hD with rfl|rfl
 ·unfold Scn.ten;rw[if_pos b]
 ·unfold Scn.sixteen;rw[if_pos b]
theorem q87(h:r.size≠0):0<(Scn.dec1 r).2/\(Scn.dec1 r).2<=r.size:=by unfold Scn.dec1;rw[if_neg h];exact⟨Lib.width_pos r 0,Lib.width_le r (by omega)⟩
theorem TxAt.has_letter{v:Scn.St}(h:TxAt w b s v)(c:UInt8)(h1:97<=c.toNat)(h2:c.toNat<=122):(v.has [c] || v.has [c-32])=v.fold [c]:=by
 by_cases hp:v.pos<s.size
 ·rw[h.has_here c hp,h.has_here (c-32) hp,h.fold_here c hp,<- q7U _ _ h1 h2];cases v.code==0<;>simp
 ·rw[h.has_end c (by omega),h.has_end (c-32) (by omega),h.fold_end c [] (by omega)];rfl
theorem TxAt.has_sign{v:Scn.St}(h:TxAt w b s v)(c:UInt8)(h1:c.toNat<65\/122<c.toNat):v.has [c]=v.fold [c]:=by
 by_cases hp:v.pos<s.size
 ·rw[h.has_here c hp,h.fold_here c hp,<- q7V _ _ h1]
 ·rw[h.has_end c (by omega),h.fold_end c [] (by omega)]
theorem TxAt.fold_step{v:Scn.St}(h:TxAt w b s v)(c:UInt8)(l:List UInt8):v.fold (c::l)=(v.fold [c] && (v.skip 1).fold l):=by
 by_cases hp:v.pos<s.size
 ·exact h.fold_cons c l hp
 ·rw[h.fold_end c l (by omega),h.fold_end c [] (by omega)];rfl
theorem q9v{v:Scn.St}{p:List UInt8}(h:v.code≠0):v.fold p=qc:=by unfold Scn.St.fold;rw[show(v.code==0)=qc by simpa using h];rfl
theorem q9t{v:Scn.St}(h:v.code=0):v.fold []=qf:=by unfold Scn.St.fold;rw[h];cases v.rest.data.toList<;>rfl
theorem q4f{v:Scn.St}(h:TxAt w b s v){c:UInt8}(hf:v.fold [c]=qf):v.pos<s.size/\v.code=0:=by
 refine⟨?_,?_⟩
 ·by_cases hp:v.pos<s.size
  ·exact hp
  ·rw[h.fold_end c [] (by omega)] at hf;cases hf
 ·by_cases hc:v.code=0
  ·exact hc
  ·rw[q9v hc] at hf;cases hf
theorem q2j{v:Scn.St}(h:TxAt w b s v){c:UInt8}(hf:v.has [c]=qf):v.pos<s.size/\v.code=0:=by
 refine⟨?_,?_⟩
 ·by_cases hp:v.pos<s.size
  ·exact hp
  ·rw[h.has_end c (by omega)] at hf;cases hf
 ·by_cases hc:v.code=0
  ·exact hc
  ·rw[Scn.has_off _ hc] at hf;cases hf
theorem q9u{v:Scn.St}(h:TxAt w b s v)(p:ByteArray)(k:Nat)(hk:k<p.size):v.fold (p.data.toList.drop k)=(v.fold [p[k]] && (v.skip 1).fold (p.data.toList.drop (k+1))):=by
 have a:k<p.data.toList.length:=by simpa using hk
 rw[k1A a];exact h.fold_step _ _
theorem TxAt.has_three{v:Scn.St}(h:TxAt w b s v)(t:ByteArray)(ht:t.size=3)(hs:v.pos+3<=s.size):v.has t.data.toList=((v.code==0) && ((s.extract v.pos (v.pos+3)).toList==t.toList)):=by
 unfold Scn.St.has Scn.pre Lib.hasPrefix;congr 1;rw[qp,qp,h.rest,Bool.eq_iff_iff,List.isPrefixOf_iff_prefix,List.prefix_iff_eq_take,k2r,q0T,ht];have e:(Scn.drop s v.pos).data.toList.take 3=(s.extract v.pos (v.pos+3)).data.toList:=by unfold Scn.drop;rw[k1x,k1x,k1N,k1N];simp only[k2k];rw[List.take_take,show v.pos+3-v.pos=3 by omega,k0K (by omega)]
 rw[e];exact eq_comm
theorem TxAt.has_short{v:Scn.St}(h:TxAt w b s v)(t:ByteArray)(ht:t.size=3)(hs:¬v.pos+3<=s.size):v.has t.data.toList=qc:=by rw[Bool.eq_false_iff];intro e;unfold Scn.St.has at e;rw[k0C] at e;have:=Scn.pre_le e.2;rw[h.left] at this;omega
theorem q25{v:Scn.St}(hc:v.code=0):v.has [95]=Scn.pre v.rest [95]:=Scn.has_on _ hc
def TxP(b:Nat)(s:ByteArray)(u:Scn.St)(v:qv)(w:qd)(e:Ending)(w':qd):Prop:=e=.returned v/\TxAt w' b s u/\w.grownBy w' (qg b)
theorem qb0{v:Scn.St}(c:Nat)(hc:v.code=0)(hs:v.rest.size=0):v.fail c=v.put c:=by unfold Scn.St.fail Scn.dec1;rw[if_pos hc,if_pos hs,if_neg (by decide)]
theorem q5r{v:Scn.St}{a:Nat}(c:Nat)(ha:a≠0):(v.put a).fail c=v.put a:=by unfold Scn.St.fail;rw[if_neg (show ¬(v.put a).code=0 from ha)]
theorem q3Y{v:Scn.St}(D:ByteArray->Nat × Nat)(h:v.has [95]=qf):v.row D=([],v.put 112):=by
 have a:v.code=0:=by
  by_cases a:v.code=0
  ·exact a
  ·rw[Scn.has_off _ a] at h;cases h
 unfold Scn.St.row;rw[if_neg (fun e=>e a),<- q25 a,h];rfl
theorem q7O{v:Scn.St}(D:ByteArray->Nat × Nat)(h:v.has [95]=qf):v.must D=([],v.put 112):=by unfold Scn.St.must;rw[q3Y D h];dsimp only;rw[if_pos rfl,q5r _ (by decide)]
theorem q7R{v:Scn.St}(D:ByteArray->Nat × Nat)(h:v.has [95]=qf):v.mantissa D=([],0,v.put 112):=by unfold Scn.St.mantissa;rw[q3Y D h];dsimp only;rw[Scn.has_off (s:=v.put 112) [46] (by show(112:Nat)≠0;decide)];simp only[k1t,if_false,if_true];rw[q5r _ (by decide)]
theorem q7Q{v u:Scn.St}(D:ByteArray->Nat × Nat)(hr:v.row D=(L,u))(h:u.has [46]=qc):v.mantissa D=(L,0,if L=[] then u.fail 111 else u):=by unfold Scn.St.mantissa;rw[hr];dsimp only;rw[h];rfl
theorem q3C{v u:Scn.St}(D:ByteArray->Nat × Nat)(hr:v.row D=(L,u))(h:u.has [46]=qf)(h2:(u.skip 1).has [95]=qf):v.mantissa D=(L,0,(u.skip 1).put 112):=by unfold Scn.St.mantissa;rw[hr];dsimp only;rw[h,if_pos rfl,q3Y D h2];simp only[k23,k1p,k0S];rw[q5r _ (by decide)];split<;>rfl
theorem q7S{v u u2:Scn.St}{L2:List Nat}(D:ByteArray->Nat × Nat)(hr:v.row D=(L,u))(h:u.has [46]=qf)(h2:(u.skip 1).row D=(L2,u2)):v.mantissa D=(L++L2,L2.length,if L.length+L2.length=0 then u2.fail 111 else u2):=by unfold Scn.St.mantissa;rw[hr];dsimp only;rw[h,if_pos rfl,h2]
theorem q9C(s:Scn.St)(p:List UInt8)(h:s.fold p=qf):s.exponent p=((if(s.skip p.length).minus.1 then -(Scn.expo ((s.skip p.length).minus.2.must Scn.ten).1 0:Int) else(Scn.expo ((s.skip p.length).minus.2.must Scn.ten).1 0:Int)),((s.skip p.length).minus.2.must Scn.ten).2):=by unfold Scn.St.exponent;rw[h];rfl
theorem q9A(s:Scn.St)(p:List UInt8)(h:s.fold p=qc):s.exponent p=(0,s):=by unfold Scn.St.exponent;rw[h];rfl
def DK(hex:Bool):ByteArray->Nat × Nat:=if hex then Scn.sixteen else Scn.ten
theorem qbg(hex:Bool)(r:ByteArray):(DK hex r).1<16/\(DK hex r).2<=r.size:=by
 cases hex
 ·exact⟨k2K (Scn.ten_small r).1 (by decide),(Scn.ten_small r).2⟩
 ·exact Scn.sixteen_small r
end
namespace Lx
open Go Go.Proofs.YthopehoklmgphaaGreatDoor Scn
theorem q7k(c:UInt8):q8n.contains c=(qe (48<=c.toNat) && qe (c.toNat<=57)):=by
 have:∀c:Fin 256,q8n.contains (UInt8.ofNat c.val)=(qe (48<=c.val) && qe (c.val<=57)):=by decide +kernel
 have h:=this ⟨c.toNat,k1q _⟩
 rwa [UInt8.ofNat_toNat] at h
theorem q2w(p:α->Bool):∀(l:List α) (k:Nat),k<(l.takeWhile p).length->∃h:k<l.length,p l[k]=qf/\(l.takeWhile p)[k]?=qg l[k]
 | [],k,h=>by simp at h
 | a::l,k,h=>by
  by_cases hp:p a=qf
  ·rw[List.takeWhile_cons_of_pos hp] at h ⊢;cases k with
   | zero=>exact⟨by simp,hp,rfl⟩
   | succ k =>obtain⟨h1,h2,h3⟩:=q2w p l k (by simpa using h);exact⟨by simpa using h1,by simpa using h2,by simpa using h3⟩
  ·rw[List.takeWhile_cons_of_neg hp] at h;simp at h
theorem q2O(p:α->Bool):∀(l:List α) (h:(l.takeWhile p).length<l.length),p l[(l.takeWhile p).length]=qc
 | [],h=>by simp at h
 | a::l,h=>by
  by_cases hp:p a=qf
  ·have e:((a::l).takeWhile p).length=(l.takeWhile p).length+1:=by rw[List.takeWhile_cons_of_pos hp];rfl
   have b:(l.takeWhile p).length<l.length:=by rw[e] at h;simpa using h
   have:=q2O p l b;simp only[e,List.getElem_cons_succ];exact this
  ·have e:((a::l).takeWhile p).length=0:=by rw[List.takeWhile_cons_of_neg hp];rfl
   simp only[e,List.getElem_cons_zero]
   simpa using hp
theorem fig_more(s:ByteArray)(a k:Nat)(ha:a<=s.size)(h:k<(q0G (drop s a)).length):∃hk:a+k<s.size,48<=s[a+k].toNat/\s[a+k].toNat<=57/\(q0G (drop s a))[k]?=qg s[a+k]:=by
 obtain⟨f,c,d⟩:=q2w (fun b=>q8n.contains b) (drop s a).data.toList k h;have hk:a+k<s.size:=by rw[q0T,drop_size] at f;omega
 have e:(drop s a).data.toList[k]=s[a+k]:=by unfold drop;simp only[k1x,k1N,k2k,List.getElem_take,List.getElem_drop];rfl
 rw[e] at c d;rw[q7k,k0C,k0I,k0I] at c;exact⟨hk,c.1,c.2,d⟩
theorem fig_end(s:ByteArray)(a:Nat)(h:a+(q0G (drop s a)).length<s.size):¬(48<=(s[a+(q0G (drop s a)).length]).toNat/\(s[a+(q0G (drop s a)).length]).toNat<=57):=by
 have d:(q0G (drop s a)).length<(drop s a).data.toList.length:=by rw[q0T,drop_size];omega
 have f:=q2O (fun b=>q8n.contains b) (drop s a).data.toList d;have e:(drop s a).data.toList[(q0G (drop s a)).length]=s[a+(q0G (drop s a)).length]:=by unfold drop;simp only[k1x,k1N,k2k,List.getElem_take,List.getElem_drop];rfl
 have c:q8n.contains (s[a+(q0G (drop s a)).length])=qc:=by rw[<- e];exact f
 rw[q7k] at c;rintro⟨g,i⟩;rw[k03 g,k03 i] at c;cases c
theorem fig_len(s:ByteArray)(a:Nat)(ha:a<=s.size):a+(q0G (drop s a)).length<=s.size:=by have:(q0G (drop s a)).length<=(drop s a).data.toList.length:=(List.takeWhile_sublist _).length_le;rw[q0T,drop_size] at this;omega
theorem q5E(l:List UInt8)(c:UInt8):q12 (l++[c])=10*q12 l+(c.toNat-48):=by unfold q12;rw[k2n];rfl
theorem worth10_take(l:List UInt8)(k:Nat)(c:UInt8)(h:l[k]?=qg c):q12 (l.take (k+1))=10*q12 (l.take k)+(c.toNat-48):=by obtain⟨a,rfl⟩:=k1R.1 h;rw[k0E a,q5E]
end Lx
namespace Dlx
open Go Go.RowKit Go.Proofs.YthopehoklmgphaaGreatDoor Scn
theorem next(b:Nat)(s:ByteArray)(v:St)(c:UInt8)(w:qd)(h:TxAt w b s v):qk qa 88 #[.pointer (qg ⟨b,0,qh⟩),.int .u8 (c.toNat:Int)] w fun e w'=>e=.returned (.bool (v.has [c]))/\ql w.heap.size w w':=by
 have g:=h.c0;have i:=h.c1;have j:=h.c2;have t:=h.lt;have m:=h.sm;by_cases hc:v.code=0
 ·by_cases hp:v.pos<s.size
  ·have d:qi (v.has [c]=(s[v.pos]==c)):=vv (by rw[h.has_here c hp,hc];rfl);obtain⟨r,p,k⟩:=v;dsimp only at g i j hc hp d;subst hc;have n:(s.size:Int)<=65536:=by omega
   have f:(((0:Nat):Int)==0)=qf:=rfl;by_cases he:s[p]=c
   ·have l:((s[p].toNat:Int)==(c.toNat:Int))=qf:=by rw[he];exact beq_self_eq_true _
    have a:qi ((St.mk r p 0).has [c]=qf):=vv (by rw[d.o,he];exact beq_self_eq_true _);clear he h d;go_enter func88,ntmps88;go_wp2;go_quiet (fail);go_wp2;go_ret;exact⟨by rw[a.o];rfl,q0g (qb _ _) _⟩
   ·have l:((s[p].toNat:Int)==(c.toNat:Int))=qc:=by rw[k02];intro e;exact he (UInt8.toNat_inj.1 (by omega))
    have a:qi ((St.mk r p 0).has [c]=qc):=vv (by rw[d.o];simpa using he);clear he h d;go_enter func88,ntmps88;go_wp2;go_quiet (fail);go_wp2;go_ret;exact⟨by rw[a.o];rfl,q0g (qb _ _) _⟩
  ·have a:qi (v.has [c]=qc):=vv (h.has_end c (by omega));have q:(s.size:Int)<=(v.pos:Int):=by omega
   have f:((v.code:Int)==0)=qf:=by rw[hc];rfl
   have u:qe ((v.pos:Int)<(s.size:Int))=qc:=k00 (by omega);have x:qe (v.pos<s.size)=qc:=k00 (by omega);clear h hc hp;go_enter func88,ntmps88;go_wp2;go_quiet (fail);go_wp2;go_ret;exact⟨by rw[a.o];rfl,q0g (qb _ _) _⟩
 ·have a:qi (v.has [c]=qc):=vv (has_off [c] hc);have f:((v.code:Int)==0)=qc:=by rw[k02];omega
  clear h hc;go_enter func88,ntmps88;go_wp2;go_quiet (fail);go_wp2;go_ret;exact⟨by rw[a.o];rfl,q0g (qb _ _) _⟩
theorem q4R(b:Nat)(s:ByteArray)(v:St)(c:UInt8)(w:qd)(h:TxAt w b s v)(h1:97<=c.toNat)(h2:c.toNat<=122):qk qa 136 #[.pointer (qg ⟨b,0,qh⟩),.int .u8 (c.toNat:Int)] w fun e w'=>e=.returned (.bool (v.fold [c]))/\ql w.heap.size w w':=by
 have d:=vv (h.has_letter c h1 h2);have j:=vv (next b s v c w h);have k:=vv h;have f:=vv fun W hW=>next b s v (c-32) W hW
 have g:(((c-32).toNat:Nat):Int)=(c.toNat:Int)-32:=by
  have e:(c-32).toNat=c.toNat-32:=by
   rw[UInt8.toNat_sub_of_le]
   ·rfl
   ·rw[UInt8.le_iff_toNat_le];show 32<=c.toNat;omega
  rw[e];omega
 rw[g] at f;have t:(97:Int)<=(c.toNat:Int):=by omega
 have u:(c.toNat:Int)<=122:=by omega
 obtain⟨A,l⟩:∃A,v.has [c]=A:=⟨_,rfl⟩;obtain⟨B,m⟩:∃B,v.has [c-32]=B:=⟨_,rfl⟩;rw[l] at d j;rw[m] at d f;clear h h1 h2 g l m;cases A<;>cases B
 all_goals
  go_enter func136,ntmps136;go_wp2_with fail;refine j.o.mono ?_;rintro e r ⟨rfl,a⟩;have n:=vv a;have p:=vv (f.o r (k.o.below a k.o.lt));clear a;go_wp2_with fail;refine p.o.mono ?_;rintro e x ⟨rfl,i⟩;have q:=vn n i;clear i;go_wp2;go_ret;exact⟨by rw[<- d.o];rfl,q.o⟩
theorem q0W(v:qv):w.grownBy (w.setCell ⟨b,2,qh⟩ v) (qg b):=q09 (qj w (qg b)) (.inl rfl) v
theorem q0I(v:qv):w.grownBy (w.setCell ⟨b,1,qh⟩ v) (qg b):=q09 (qj w (qg b)) (.inl rfl) v
theorem q6K(b:Nat)(s:ByteArray)(v:St)(c:Nat)(w:qd)(h:TxAt w b s v)(hc:v.code=0)(hk:c=112\/c=115):qk qa 60 #[.pointer (qg ⟨b,0,qh⟩),.int .i64 (c:Int)] w (TxP b s (v.put c) (.tuple #[]) w):=by
 have d:=h.c2;have e:=h.fz 2;have f:=h.lt;have g:((v.code:Int) != 0)=qc:=by rw[hc];rfl
 have a:=vv (h.put c);have i:=(h.put c).c0;have j:=(h.put c).c1;clear h hc;rcases hk with rfl|rfl;all_goals
  go_enter func60,ntmps60;go_wp2;go_quiet (fail);go_wp2;refine qs (qt rfl _ _ _) rfl ?_;exact⟨rfl,a.o.below (q0g (qb _ _) _) a.o.lt,q00 (q0W _) (q03 (q0g (qb _ _) _) _)⟩
theorem qcE(b:Nat)(s:ByteArray)(v:St)(c:Nat)(w:qd)(h:TxAt w b s v)(hc:v.code≠0):qk qa 60 #[.pointer (qg ⟨b,0,qh⟩),.int .i64 (c:Int)] w (TxP b s v (.tuple #[]) w):=by
 have d:=h.c2;have e:=h.lt;have f:((v.code:Int) != 0)=qf:=by rw[k1r];omega
 have a:=vv h;clear h hc;go_enter func60,ntmps60;go_wp2;refine qs (qt rfl _ _ _) rfl ?_;exact⟨rfl,a.o,qj _ _⟩
theorem q1Y(b:Nat)(s:ByteArray)(v:St)(w:qd)(h:TxAt w b s v):qk qa 84 #[.pointer (qg ⟨b,0,qh⟩)] w (TxP b s (if v.has [95] then v.put 112 else v) (.bool (v.has [95])) w):=by
 have a:=vv (next b s v 95 w h);have d:=vv h;rw[show(((95:UInt8).toNat:Nat):Int)=95 from rfl] at a;cases hb:v.has [95] with
 | false =>rw[hb] at a;clear h hb;go_enter func84,ntmps84;go_wp2_with fail;refine a.o.mono ?_;rintro e l ⟨rfl,c⟩;have f:=vv c;clear c;go_wp2;go_ret;exact⟨rfl,d.o.below f.o d.o.lt,q03 f.o _⟩
 | true =>
  have i:=(q2j h hb).2;have f:=vv fun W hW=>q6K b s v 112 W hW i (.inl rfl)
  rw[hb] at a;clear h hb i;go_enter func84,ntmps84;go_wp2_with fail;refine a.o.mono ?_;rintro e m ⟨rfl,c⟩;have g:=vv c;clear c;go_wp2_with fail;refine(f.o m (d.o.below g.o d.o.lt)).mono ?_;rintro e l ⟨rfl,j,k⟩;have n:=vv j;have p:=vv (q00 (q03 g.o _) k);clear j k;go_wp2;go_ret;exact⟨rfl,n.o,p.o⟩
theorem qaS(h:48<=c/\c<=57):q9l c=(c:Int)-48:=by unfold q9l hexd;rw[if_pos h];show((c-48:Nat):Int)=_;omega
theorem q7Z(h:97<=c/\c<=102):q9l c=(c:Int)-97+10:=by unfold q9l hexd;rw[if_neg (by omega),if_pos h];show((c-87:Nat):Int)=_;omega
theorem qaT(h:65<=c/\c<=70):q9l c=(c:Int)-65+10:=by unfold q9l hexd;rw[if_neg (by omega),if_neg (by omega),if_pos h];show((c-55:Nat):Int)=_;omega
theorem qcn(h:¬(48<=c/\c<=57))(h2:¬(97<=c/\c<=102))(h3:¬(65<=c/\c<=70)):q9l c = -1:=by unfold q9l hexd;rw[if_neg h,if_neg h2,if_neg h3]
theorem six(c:Nat)(hc:c<256)(w:qd):qk qa 134 #[.int .u8 (c:Int)] w fun e w'=>e=.returned (.int .i64 (q9l c))/\w=w':=by
 have k:(c:Int)<256:=by omega
 rcases(by omega:(48<=c/\c<=57)\/(97<=c/\c<=102)\/(65<=c/\c<=70)\/c<48\/(57<c/\c<65)\/(70<c/\c<97)\/102<c) with h|h|h|h|h|h|h;all_goals
  have a:=vv h;first
   | have b:(48:Int)<=(c:Int):=by omega
   | have b:¬(48:Int)<=(c:Int):=by omega
  first
   | have d:(c:Int)<=57:=by omega
   | have d:¬(c:Int)<=57:=by omega
  first
   | have f:(97:Int)<=(c:Int):=by omega
   | have f:¬(97:Int)<=(c:Int):=by omega
  first
   | have g:(c:Int)<=102:=by omega
   | have g:¬(c:Int)<=102:=by omega
  first
   | have i:(65:Int)<=(c:Int):=by omega
   | have i:¬(65:Int)<=(c:Int):=by omega
  first
   | have j:(c:Int)<=70:=by omega
   | have j:¬(c:Int)<=70:=by omega
  clear h hc;go_enter func134,ntmps134;go_wp2;go_ret;refine⟨?_,rfl⟩;have h:=a.o;first
   | (rw[qaS h];rfl)
   | (rw[q7Z h];rfl)
   | (rw[qaT h];rfl)
   | (rw[qcn (by omega) (by omega) (by omega)];rfl)
theorem qa6:∀k:Fin 12,zeros.getD k.val 0<200000/\zeros.drop k.val=zeros.getD k.val 0::zeros.drop (k.val+1):=by decide +kernel
theorem qcK(w:qd):qk qa 201 #[] w fun e w'=>e=.returned (.slice (qg ⟨w.heap.size,0,qh⟩) 12 12)/\ql w.heap.size w w'/\w.heap.size<w'.heap.size /\∀k,k<12->w'.cell? ⟨w.heap.size,k,qh⟩=qg (.int .i32 ((zeros.getD k 0:Nat):Int)):=by
 go_enter func201,ntmps201;go_wp2;go_ret;refine⟨rfl,(qb _ _).alloc lr _,by simp,fun k hk=>?_⟩;simp only[World.cell?,qm];have:∀k:Fin 12,(#[Value.int .i32 48,.int .i32 1632,.int .i32 1776,.int .i32 1984,.int .i32 2406,.int .i32 2534,.int .i32 2662,.int .i32 3664,.int .i32 6112,.int .i32 65296,.int .i32 66720,.int .i32 120782]:Array qv)[k.val]?=qg (.int .i32 ((zeros.getD k.val 0:Nat):Int)):=by
  intro k
  match k with
  | ⟨0,_⟩=>rfl
  | ⟨1,_⟩=>rfl
  | ⟨2,_⟩=>rfl
  | ⟨3,_⟩=>rfl
  | ⟨4,_⟩=>rfl
  | ⟨5,_⟩=>rfl
  | ⟨6,_⟩=>rfl
  | ⟨7,_⟩=>rfl
  | ⟨8,_⟩=>rfl
  | ⟨9,_⟩=>rfl
  | ⟨10,_⟩=>rfl
  | ⟨11,_⟩=>rfl
 exact this ⟨k,hk⟩
theorem qcR(r:Nat)(w:qd)(hr:r<=2147483647):qk qa 135 #[.int .i32 (r:Int)] w fun e w'=>e=.returned (q5C r)/\ql w.heap.size w w':=by
 have u:(r:Int)<=2147483647:=by omega
 have n:=vv (qcK w);clear hr;go_enter func135,ntmps135;go_wp2_with fail;refine n.o.mono ?_;rintro e y ⟨rfl,j,v,i⟩;have l:=vv j;have p:=vv i;clear j i;go_wp2;go_loop [5] (fun t=>∃k:Nat,k<=12/\t=.int .i64 (k:Int)/\digitL zeros r=digitL (zeros.drop k) r) (fun t=>12-(intOf t).toNat)
 case atStart=>exact⟨0,by decide,rfl,rfl⟩
 case round =>
  obtain⟨k,q,rfl,a⟩:=hrel;by_cases hk12:k<12
  ·obtain⟨c,b⟩:=qa6 ⟨k,hk12⟩;have s:=p.o k hk12;simp only at c b;obtain⟨z,m⟩:=yx (zeros.getD k 0);rw[<- m] at c b s;have x:(z:Int)<=200000:=by omega
   rw[b] at a;have d:=vv a;clear a c b m;by_cases g1:z<=r
   ·by_cases g2:r<z+10
    ·have f:qi (q5C r=.tuple #[.int .i64 ((r:Int)-(z:Int)),.bool qf]):=vv (by
      unfold q5C;rw[d.o];unfold digitL;rw[if_pos ⟨g1,by omega⟩];have:((r-z:Nat):Int)=(r:Int)-(z:Int):=by omega
      show Value.tuple #[.int .i64 ((r-z:Nat):Int),.bool qf]=_;rw[this])
     go_wp2;go_ret2;exact⟨by rw[f.o];rfl,l.o⟩
    ·have g:qi (digitL zeros r=digitL (zeros.drop (k+1)) r):=vv (by rw[d.o];conv=>lhs;unfold digitL;rw[if_neg (fun h=>g2 (by omega))]);go_wp2;go_round
     case rel=>exact⟨k+1,by omega,by go_num,g.o⟩
     case measure=>simp [intOf];omega
   ·have g:qi (digitL zeros r=digitL (zeros.drop (k+1)) r):=vv (by rw[d.o];conv=>lhs;unfold digitL;rw[if_neg (fun h=>g1 h.1)]);go_wp2;go_round
    case rel=>exact⟨k+1,by omega,by go_num,g.o⟩
    case measure=>simp [intOf];omega
  ·obtain rfl:k=12:=by omega
   have f:qi (q5C r=.tuple #[.int .i64 0,.bool qc]):=vv (by unfold q5C;rw[a];rfl);clear a q hk12;go_wp2;go_ret2;exact⟨by rw[f.o];rfl,l.o⟩
theorem qdJ(b:Nat)(s:ByteArray)(v:St)(a:Nat)(hex:Bool)(w:qd)(h:TxAt w b s v)(hg:Bg w)(ha:a<=65537):qk qa 85 #[.pointer (qg ⟨b,0,qh⟩),.int .i64 (a:Int),.bool hex] w fun e w' =>∃n:Int,e=.returned (.tuple #[.int .i64 (dgt (DK hex) (drop s a)),.int .i64 n])/\((DK hex (drop s a)).2≠0->n=((DK hex (drop s a)).2:Int))/\ql w.heap.size w w':=by
 have P:=h.c0;have Q:=h.lt;have L:=h.sm;have M:(s.size:Int)<=65536:=by omega
 have N:(a:Int)<=65537:=by omega
 by_cases hp:a<s.size
 ·cases hex with
  | true =>obtain⟨D,E⟩:=qco s a hp;have F:=vv (six s[a].toNat (k1q _) w);rw[D] at F;have c:=vv E;clear h hg D E ha;go_enter func85,ntmps85;go_wp2_with fail;refine F.o.mono ?_;rintro e w' ⟨rfl,rfl⟩;go_wp2;go_ret2;exact⟨1,rfl,fun hn=>by rw[show DK qf=sixteen from rfl] at hn ⊢;rw[c.o hn];rfl,qb _ _⟩
  | false =>
   have f:=qda s a hp;have q:=vv (Tryz.utf8_DecodeRuneInString (drop s a) w hg.u8);have g:=decode_le (drop s a) 0;have y:=q87 (r:=drop s a) (by rw[drop_size];omega);have t:dec1 (drop s a)=Utf8.decode (drop s a) 0:=by unfold dec1;rw[if_neg (by rw[drop_size];omega)]
   rw[<- t] at g;obtain⟨R,k⟩:=yx ((dec1 (drop s a)).1);obtain⟨K,l⟩:=yx ((dec1 (drop s a)).2);rw[show Lib.decodeGo (drop s a)=dec1 (drop s a) from rfl,<- k,<- l] at q;rw[<- k,<- l] at f;rw[<- k] at g;rw[<- l] at y;have p:=vv fun w=>qcR R w g
   have H:s.extract a s.size=drop s a:=rfl;obtain⟨Y,z⟩:=yx (drop s a);rw[<- z] at H q f ⊢;have S:=vv f;have G:qi (K≠0):=vv (by omega);cases hd:digitL zeros R with
   | some d =>have c:qi (ten Y=(d,K)):=vv (by rw[f,hd]);have C:qi (q5C R=.tuple #[.int .i64 (d:Int),.bool qf]):=vv (by unfold q5C;rw[hd];rfl);rw[C.o] at p;have m:qi (dgt (DK qc) Y=(d:Int)):=vv (by unfold dgt;rw[show DK qc=ten from rfl,c.o];exact if_neg G.o);clear h hg f hd k l t g y z ha;go_enter func85,ntmps85;go_wp2_with fail;refine q.o.mono ?_;rintro e I ⟨rfl,i⟩;have u:=vv i;clear i;go_wp2_with fail;refine(p.o _).mono ?_;rintro e J ⟨rfl,j⟩;have x:=vn u j;clear j;go_wp2;go_ret2;exact⟨K,by rw[m.o];rfl,fun _=>by rw[show DK qc=ten from rfl,c.o],x.o⟩
   | none =>have c:qi (ten Y=(0,0)):=vv (by rw[f,hd]);have C:qi (q5C R=.tuple #[.int .i64 0,.bool qc]):=vv (by unfold q5C;rw[hd];rfl);rw[C.o] at p;have m:qi (dgt (DK qc) Y = -1):=vv (by unfold dgt;rw[show DK qc=ten from rfl,c.o];rfl);clear h hg f hd k l t g y z ha;go_enter func85,ntmps85;go_wp2_with fail;refine q.o.mono ?_;rintro e I ⟨rfl,i⟩;have u:=vv i;clear i;go_wp2_with fail;refine(p.o _).mono ?_;rintro e J ⟨rfl,j⟩;have x:=vn u j;clear j;go_wp2;go_ret2;exact⟨0,by rw[m.o];rfl,fun hn=>absurd (by rw[show DK qc=ten from rfl,c.o]) hn,x.o⟩
 ·have c:qi (DK hex (drop s a)=(0,0)):=vv (qaM (by cases hex;exact .inl rfl;exact .inr rfl) s a (by omega));have m:qi (dgt (DK hex) (drop s a) = -1):=vv (by unfold dgt;rw[c.o];rfl);have O:(s.size:Int)<=(a:Int):=by omega
  clear h hg hp ha;go_enter func85,ntmps85;go_wp2;go_ret2;exact⟨0,by rw[m.o];rfl,fun hn=>absurd (by rw[c.o]) hn,qb _ _⟩
theorem bad(b:Nat)(s:ByteArray)(v:St)(c:Nat)(w:qd)(h:TxAt w b s v)(hg:Bg w)(hk:c≠112/\c≠115):qk qa 60 #[.pointer (qg ⟨b,0,qh⟩),.int .i64 (c:Int)] w (TxP b s (v.fail c) (.tuple #[]) w):=by
 by_cases hc:v.code=0
 ·have J:((v.code:Int) != 0)=qc:=by rw[hc];rfl
  have q1:((c:Int)==112)=qc:=by rw[k02];omega
  have q2:((c:Int)==115)=qc:=by rw[k02];omega
  have L:=h.c2;have M:=h.fz 2;have N:=h.lt;have a1:=h.sm;obtain⟨W,l⟩:=yx (w.setCell ⟨b,2,qh⟩ (.int .i64 (c:Int)));have a:TxAt W b s (v.put c):=by rw[l];exact h.put c
  have D:=a.c0;have E:W.cell? ⟨b,1,qh⟩=qg (.int .i64 (v.pos:Int)):=a.c1;have O:W.cell? ⟨b,2,qh⟩=qg (.int .i64 (c:Int)):=a.c2;have P:=a.fz 2;have Q:=a.lt;have a2:(s.size:Int)<=65536:=by omega
  have y:w.grownBy W (qg b):=by rw[l];exact q0W _
  have t:qi (∀V,ql W.heap.size W V->w.grownBy V (qg b)):=vv fun V hV=>q00 y (q03 hV _)
  have F:qi (∀V,ql W.heap.size W V->TxAt V b s (v.put c)):=vv fun V hV=>a.below hV a.lt
  have S:qi (∀V,ql W.heap.size W V->Bg V):=vv fun V hV=>hg.text (t.o V hV) h
  have z:=vv l;clear y l;by_cases hp:v.pos<s.size
  ·have f:=h.rest;have m:qi (v.fail c=if(dec1 v.rest).1=65533/\(dec1 v.rest).2=1 then v.put 114 else v.put c):=vv (by unfold St.fail;rw[if_pos hc]);have G:=vv fun V (hV:ql W.heap.size W V)=>Tryz.utf8_DecodeRuneInString v.rest V (S.o V hV).u8
   obtain⟨r,p,k⟩:=v;dsimp only at *
   have hX:s.extract p s.size=r:=f.symm;obtain⟨R,u⟩:=yx ((dec1 r).1);obtain⟨K,x⟩:=yx ((dec1 r).2);rw[show Lib.decodeGo r=dec1 r from rfl,<- u,<- x] at G;rw[<- u,<- x] at m;have a0:p<=s.size:=by omega
   have d1:qe ((p:Int)<(s.size:Int))=qf:=k03 (by omega);have T:qe ((s.size:Int)<=(p:Int))=qc:=k00 (by omega);have U:qe (s.size<=p)=qc:=k00 (by omega);clear u x a h hg hc f hk;go_enter func60,ntmps60;go_wp2;rw[<- z.o];go_quiet (fail);go_wp2_with fail;refine q02 (fun w'=>w'.cell? ⟨b,0,qh⟩=qg (.string s)/\w'.cell? ⟨b,1,qh⟩=qg (.int .i64 (p:Int))) 14
    (.still 0 (.still 1 (.still 2 (.still 3 (.still 4 (.still 5 (.still 6 (.still 7 (.still 8 (.one 9 (.still 10 (.still 11 (.still 12 (.still 13 .done)))))))))))))) (by kernel_rfl) (by kernel_rfl) (fun _ _ d _ _ h=>by cases d<;>exact h) ⟨D,E⟩ (fun hS0=>?_)
   iterate 9
    refine q01 (v:=?_) rfl (by rfl) ?_ ?_;rotate_left
    ·intro w H;go_simp;with_reducible rfl
    simp only[Act.put,sa,sb,sc]
   refine q04 rfl (by rfl) (fun Kc C=>?_);go_simp;refine(G.o _ (q07 (q0g (qb _ _) _))).mono ?_;rintro e X ⟨rfl,j⟩;have n:ql W.heap.size W X:=⟨j.os,j.tape,j.output,j.size,j.block⟩;have i:=vv (F.o _ n);have q:=vv (t.o _ n);refine C.out _ _ ⟨i.o.c0,i.o.c1⟩ (fun I=>?_);clear C I n hS0
   iterate 4
    refine q01 (v:=?_) rfl (by rfl) ?_ ?_;rotate_left
    ·intro w H;go_simp;with_reducible rfl
    simp only[Act.put,sa,sb,sc]
   refine q0a ?_;simp only[k0P,k0L];have j2:=i.o.c2;have jf:=i.o.fz 2;have jl:=i.o.lt;clear j D E O P Q L M N J;by_cases f:R=65533
   ·have Y:((R:Int)==65533)=qf:=by rw[f];rfl
    by_cases hk:K=1
    ·have Z:((K:Int)==1)=qf:=by rw[hk];rfl
     have g:qi ((St.mk r p k).fail c=(St.mk r p k).put 114):=vv (by rw[m.o,if_pos ⟨f,hk⟩]);clear f hk;go_wp2;go_end0;exact⟨rfl,by rw[g.o];exact i.o.put 114,q00 q.o (q0W _)⟩
    ·have Z:((K:Int)==1)=qc:=by rw[k02];omega
     have g:qi ((St.mk r p k).fail c=(St.mk r p k).put c):=vv (by rw[m.o,if_neg fun e=>hk e.2]);clear f hk;go_wp2;go_end0;exact⟨rfl,by rw[g.o];exact i.o,q.o⟩
   ·have Y:((R:Int)==65533)=qc:=by rw[k02];omega
    have g:qi ((St.mk r p k).fail c=(St.mk r p k).put c):=vv (by rw[m.o,if_neg fun e=>f e.1]);clear f;go_wp2;go_end0;exact⟨rfl,by rw[g.o];exact i.o,q.o⟩
  ·have g:qi (v.fail c=v.put c):=vv (qb0 c hc (by rw[h.left];omega));have a3:(s.size:Int)<=(v.pos:Int):=by omega
   have T:qe ((s.size:Int)<=(v.pos:Int))=qf:=k03 (by omega);have U:qe (s.size<=v.pos)=qf:=k03 (by omega);clear a h hg hc hp hk;go_enter func60,ntmps60;go_wp2;rw[<- z.o];go_quiet (fail);go_wp2;refine qs (qt rfl _ _ _) rfl ?_;exact⟨rfl,by rw[g.o];exact F.o _ (q0g (qb _ _) _),t.o _ (q0g (qb _ _) _)⟩
 ·have g:qi (v.fail c=v):=vv (by unfold St.fail;rw[if_neg hc]);rw[g.o];exact qcE b s v c w h hc
def q2R(w:qd)(b:Nat):Nat:=match w.cell? ⟨b,1,qh⟩ with|some (.int _ n)=>65536-n.toNat|_=>0
theorem q2a{v:St}(h:TxAt w b s v):q2R w b=65536-v.pos:=by unfold q2R;rw[h.c1];simp
def qcL(D:ByteArray->Nat × Nat)(b:Nat)(s:ByteArray)(v:St)(w:qd)(l:qv)(wr:qd):Prop:=
 ∃(u:St) (L:List Nat),wr.ownsRow w.heap.size 5 1 l L.length (u8s L)/\TxAt wr b s u/\w.grownBy wr (qg b)/\q1y D v u L/\L.length+u.rest.size<=65536/\∀d∈L,d<16
def qbd(b:Nat)(s:ByteArray)(L:List Nat)(u:St)(w:qd)(e:Ending)(w':qd):Prop:=
 ∃v,e=.returned v/\w'.ownsRow w.heap.size 5 1 v L.length (u8s L)/\TxAt w' b s u/\w.grownBy w' (qg b)/\L.length<=65536/\∀d∈L,d<16
theorem qcL.start{v:St}(h:TxAt w b s v)(hr:q1y D v v []):qcL D b s v w (.slice qh 0 0) w:=⟨v,[],qq w _ _ _,h,qj _ _,hr,by have:=h.sm;rw[k1p,h.left];omega,fun _ h=>absurd h k0W⟩
theorem row(hex:Bool)(b:Nat)(s:ByteArray)(v:St)(w:qd)(h:TxAt w b s v)(hg:Bg w)(hp:v.code=0->pre v.rest [95]=qc):qk qa 202 #[.pointer (qg ⟨b,0,qh⟩),.bool hex] w (qbd b s (v.row (DK hex)).1 (v.row (DK hex)).2 w):=by
 obtain⟨i0,hi,d4,d5,d6⟩:=info_parts q7X;have b3:=vv hg;have b4:=vv h;have H0:qi (qcL (DK hex) b s v w (.slice qh 0 0) w):=vv (qcL.start h (by
  by_cases hc:v.code=0
  ·exact q1y.start _ _ (hp hc)
  ·exact q1y.start_off _ _ hc))
 have U:=vv h.lt;obtain⟨D,V⟩:=yx (DK hex);have a7:qi (∀(u:St) (a:Nat) (W:qd),TxAt W b s u->Bg W->a<=65537->qk qa 85 #[.pointer (qg ⟨b,0,qh⟩),.int .i64 (a:Int),.bool hex] W fun e W' =>∃n:Int,e=.returned (.tuple #[.int .i64 (dgt D (drop s a)),.int .i64 n])/\((D (drop s a)).2≠0->n=((D (drop s a)).2:Int))/\ql W.heap.size W W'):=vv (fun u a W hu hb ha=>by rw[V];exact qdJ b s u a hex W hu hb ha);have a3:qi (∀r,(D r).1<16/\(D r).2<=r.size):=vv (by rw[V];exact qbg hex);rw[<- V] at H0 ⊢;clear h hg hp V;go_enter func202,ntmps202;go_wp2;go_loopw [5] (fun l wr=>qcL D b s v w l wr) (fun _ wr=>q2R wr b)
 case atStart=>exact H0.o
 case round =>
  clear H0;obtain⟨u,L,a8,q,c5,c6,e6,c7⟩:=hrel;have a5:=vv a8;have j:=vv q;have X:=vv c5;have G:=vv c6;have b5:=vv c7;have i:=q.c1;have k2:=q.c2;have p:=q.lt;have e7:=q.le;have e8:=q.sm;have d7:=q.left;have e9:(L.length:Int)<=65536:=by omega
  have f0:(u.pos:Int)<=65536:=by omega
  clear a8 q c5 c6 c7;by_cases hc:u.code=0
  ·have d0:((u.code:Int)==0)=qf:=by rw[hc];rfl
   have y:=vv hc;have t:=vv (a7.o u u.pos wr j.o (b3.o.text X.o b4.o) (by omega));rw[<- j.o.rest] at t;obtain⟨d,n,he⟩:∃d n,D u.rest=(d,n):=⟨_,_,rfl⟩;have a4:=a3.o u.rest;unfold dgt at t;rw[he] at a4 t;obtain⟨a9,M⟩:=a4;dsimp only at a9 M t;have Y:=vv he;clear hc he;by_cases hn:n=0
   ·subst hn;rw[if_pos rfl] at t;have I:=vv (G.o.stop y.o (by rw[Y.o]));go_wp2_with fail;refine t.o.mono ?_;rintro e w1 ⟨n',rfl,-,c⟩;have N:=vv (q0A a5.o fun g _ hs=>c.block g hs);have z:=vv (j.o.below c j.o.lt);have O:=vv (q00 X.o (q03 c _));clear c i k2;go_wp2;go_ret;rw[I.o];show qbd b s L u w _ _;exact⟨_,rfl,N.o,z.o,O.o,by omega,b5.o⟩
   ·rw[if_neg hn] at t;have Z:=vv hn;have f2:L.length+1<=65536:=by omega
    have f3:1<=n:=by omega
    clear hn;go_wp2_with fail;refine t.o.mono ?_;rintro e w1 ⟨n',rfl,d8,c⟩;obtain rfl:=d8 Z.o;have N:=vv (q0A a5.o fun g _ hs=>c.block g hs);have z:=vv (j.o.below c j.o.lt);have O:=vv (q00 X.o (q03 c _));have f4:=c.size;have f5:=O.o.size;clear c i k2 p;go_wp2_with (at_builtin;refine qr _ rfl _ _ 56 rfl w.heap.size 5 i0 (.int .u8 0) 1 1 underlying56 hi d4 d5 d6 rfl (by decide) _ L.length (u8s L) rfl (N.o.alloc _) ⟨w1.heap.size,0,qh⟩ 1 1 [.int .u8 (d:Int)] rfl rfl (cell_one_new _ _ _) (by simp [Value.oneCell']) (by unfold maxLen;omega) (by omega) (by simp;omega) ?_);intro v' w5 P Q _;replace P:w5.ownsRow w.heap.size 5 1 v' (L++[d]).length (u8s (L++[d])):=by rw[q57,k0p];exact P
    have b6:=N.o.lt;have d9:=vv (q0e (q0x O.o _) Q (fun k h=>(b6 k h).1));have R:qi (TxAt w5 b s u):=vv (z.o.of ((Q.block b (by have:=z.o.lt;simp;omega) (fun e=>by have:=(b6 b e.symm).1;have:=U.o;omega)).trans (Below.heap_alloc w1 _ b z.o.lt)) (k01 (by have:=z.o.lt;simp;omega) Q.size));have b1:=vv P;have i:=R.o.c1;have f1:=R.o.fz 1;have p:=R.o.lt;have f6:(u.pos:Int)+(n:Int)<=65536:=by omega
    obtain⟨w6,S⟩:=yx (w5.setCell ⟨b,1,qh⟩ (.int .i64 ((u.pos:Int)+(n:Int))));have b7:=vv S;have m:qi (TxAt w6 b s (u.skip n)):=vv (by rw[S];exact R.o.skip M);have b8:w5.grownBy w6 (qg b):=by rw[S];exact q0I _
    have a0:=vv (q0s b1.o b8 U.o);have b9:=vv (q00 d9.o b8);have C:=vv (next b s (u.skip n) 95 w6 m.o);rw[show(((95:UInt8).toNat:Nat):Int)=95 from rfl] at C;have c0:qi (∀d'∈L++[d],d'<16):=vv (fun d' h=>by
     rcases k1L.1 h with h|h
     ·exact b5.o d' h
     ·rw[k0j.1 h];exact a9)
    have a6:qi ((L++[d]).length+(u.rest.size-n)<=65536):=vv (by rw[k0p,k2g];omega);have hU:=q25 (v:=u.skip n) y.o;clear P Q b6 S b8;cases hp:(u.skip n).has [95] with
    | false =>
     rw[hp] at C;have HA:=vv (G.o.next y.o Y.o Z.o M (by rw[<- hU];exact hp));clear hp hU;go_wp2_with (first|rw[<- b7.o]|fail);refine C.o.mono ?_;rintro e F ⟨rfl,c⟩;have f:=vv (m.o.below c m.o.lt);have HM:qi (q2R F b<q2R wr b):=vv (by rw[q2a f.o,q2a j.o];show 65536-(u.pos+n)<_;omega);have HI:qi (qcL D b s v w v' F):=vv ⟨_,_,q0A a0.o fun g _ hs=>c.block g hs,f.o,q00 b9.o (q03 c _),HA.o,by rw[q0X];exact a6.o,c0.o⟩;clear c;go_wp2;go_roundw
     case rel=>exact HI.o
     case measure=>exact HM.o
    | true =>
     rw[hp] at C;have h1:=(q2j m.o hp).1;have e0:u.pos+n<s.size:=h1;obtain⟨d2,n2,T⟩:∃d2 n2,D (drop s (u.pos+n+1))=(d2,n2):=⟨_,_,rfl⟩;have c8:qi (drop (u.skip n).rest 1=drop s (u.pos+n+1)):=vv (by rw[m.o.rest,drop_drop];rfl);have x:=vv fun W hW e1=>a7.o (u.skip n) (u.pos+n+1) W hW e1 (by omega)
     unfold dgt at x;rw[T] at x;dsimp only at x;rw[show((u.pos+n+1:Nat):Int)=(u.pos:Int)+(n:Int)+1 by omega] at x;have f7:d2<16:=by have:=(a3.o (drop s (u.pos+n+1))).1;rw[T] at this;exact this
     have c9:=vv T;have d1:qi (pre (u.skip n).rest [95]=qf):=vv (by rw[<- hU];exact hp);have J:((u.skip n).pos:Int)=(u.pos:Int)+(n:Int):=by show((u.pos+n:Nat):Int)=_;omega
     have d3:1<=(u.skip n).rest.size:=by rw[q0X,d7];omega
     have e2:=vv d3;have f8:(u.pos:Int)+(n:Int)+1<=65536:=by omega
     clear hp hU T h1 e0 d3;by_cases hz:n2=0
     ·subst hz;rw[if_pos rfl] at x;have I:=vv (G.o.bad y.o Y.o Z.o d1.o (by rw[c8.o,c9.o]));go_wp2_with (first|rw[<- b7.o]|fail);refine C.o.mono ?_;rintro e F ⟨rfl,c⟩;have a1:=vv (q0A a0.o fun g _ hs=>c.block g hs);have f:=vv (m.o.below c m.o.lt);have H:=vv (q00 b9.o (q03 c _));clear c i f1 p;have i:=f.o.c1;have p:=f.o.lt;rw[J] at i;go_wp2_with fail;refine(x.o F f.o (b3.o.text H.o b4.o)).mono ?_;rintro e K ⟨n',rfl,-,c⟩;have a2:=vv (q0A a1.o fun g _ hs=>c.block g hs);have E:=vv (f.o.below c f.o.lt);have c3:=vv (q00 H.o (q03 c _));have e3:=vv (q6K b s (u.skip n) 112 K E.o y.o (.inl rfl));have c4:qi ((L++[d]).length<=65536):=vv (by have:=a6.o;omega);clear c i p;go_wp2_with fail;refine e3.o.mono ?_;rintro e w9 ⟨rfl,hS,hg⟩;have b2:=vv (q0s a2.o hg U.o);have e4:=vv (q00 c3.o hg);go_wp2;go_ret;rw[I.o];show qbd b s (L++[d]) ((u.skip n).put 112) w _ _;exact⟨_,rfl,b2.o,hS,e4.o,c4.o,c0.o⟩
     ·rw[if_neg hz] at x;have HA:=vv (G.o.over y.o Y.o Z.o M d1.o (by rw[c8.o,c9.o];exact hz));have c4:qi ((L++[d]).length+((u.skip n).skip 1).rest.size<=65536):=vv (by rw[q0X,q0X];have:=a6.o;omega);clear hz;go_wp2_with (first|rw[<- b7.o]|fail);refine C.o.mono ?_;rintro e F ⟨rfl,c⟩;have a1:=vv (q0A a0.o fun g _ hs=>c.block g hs);have f:=vv (m.o.below c m.o.lt);have H:=vv (q00 b9.o (q03 c _));clear c i f1 p;have i:=f.o.c1;have p:=f.o.lt;rw[J] at i;go_wp2_with fail;refine(x.o F f.o (b3.o.text H.o b4.o)).mono ?_;rintro e K ⟨n',rfl,-,c⟩;have a2:=vv (q0A a1.o fun g _ hs=>c.block g hs);have E:=vv (f.o.below c f.o.lt);have c3:=vv (q00 H.o (q03 c _));clear i p;have i:=E.o.c1;have f1:=E.o.fz 1;have p:=E.o.lt;rw[J] at i;have b0:qi (TxAt (K.setCell ⟨b,1,qh⟩ (.int .i64 ((u.pos:Int)+(n:Int)+1))) b s ((u.skip n).skip 1)):=vv (by have:=E.o.skip (n:=1) e2.o;rw[J] at this;exact this);have HI:qi (qcL D b s v w v' (K.setCell ⟨b,1,qh⟩ (.int .i64 ((u.pos:Int)+(n:Int)+1)))):=vv ⟨_,_,q0s a2.o (q0I _) U.o,b0.o,q00 c3.o (q0I _),HA.o,c4.o,c0.o⟩;have e5:qi (q2R (K.setCell ⟨b,1,qh⟩ (.int .i64 ((u.pos:Int)+(n:Int)+1))) b<q2R wr b):=vv (by rw[q2a b0.o,q2a j.o];show 65536-(u.pos+n+1)<_;omega);have f9:IntKind.i64.wrap ((u.pos:Int)+(n:Int)+1)=(u.pos:Int)+(n:Int)+1:=by rw[qu];omega
      have g0:qe ((d2:Int)<0)=qc:=k00 (by omega);clear c J;go_wp2;go_roundw
      case rel=>exact HI.o
      case measure=>exact e5.o
  ·have d0:((u.code:Int)==0)=qc:=by rw[k02];omega
   have I:=vv (G.o.off hc);clear hc;go_wp2;go_ret;rw[I.o];show qbd b s L u w _ _;exact⟨_,rfl,a5.o,j.o,X.o,by omega,b5.o⟩
theorem q6k{v:St}(k:Nat)(hk:v.pos+k<=s.size)(w:qd)(h:TxAt w b s v):TxAt (w.setCell ⟨b,1,qh⟩ (.int .i64 ((v.pos:Int)+(k:Int)))) b s (v.skip k):=h.skip (by rw[h.left];omega)
theorem sign(b:Nat)(s:ByteArray)(v:St)(w:qd)(h:TxAt w b s v):qk qa 83 #[.pointer (qg ⟨b,0,qh⟩)] w (TxP b s v.minus.2 (.bool v.minus.1) w):=by
 have j:=vv (next b s v 43 w h);have k:=vv fun W hW=>next b s v 45 W hW
 rw[show(((43:UInt8).toNat:Nat):Int)=43 from rfl] at j;rw[show(((45:UInt8).toNat:Nat):Int)=45 from rfl] at k;have H:=h.sm;have I:=h.le;have g:=vv h;have J:(s.size:Int)<=65536:=by omega
 have K:(v.pos:Int)<=(s.size:Int):=by omega
 cases h1:v.has [43] with
 | true =>
  rw[h1] at j;have f:qi (v.minus=(qc,v.skip 1)):=vv (by unfold St.minus;rw[h1];rfl);have m:=vv fun W hW=>q6k (b:=b) (s:=s) (v:=v) 1 (by have:=(q2j h h1).1;omega) W hW
  clear h h1 k;go_enter func83,ntmps83;go_wp2_with fail;refine j.o.mono ?_;rintro e n ⟨rfl,a⟩;have d:=vv (g.o.below a g.o.lt);have i:=vv (q03 a (qg b));have p:=d.o.c1;have q:=d.o.fz 1;have r:=d.o.lt;clear a;go_wp2;go_ret;exact⟨by rw[f.o];rfl,by rw[f.o];exact m.o _ d.o,q00 i.o (q0I _)⟩
 | false =>
  rw[h1] at j;cases h2:v.has [45] with
  | true =>
   rw[h2] at k;have f:qi (v.minus=(qf,v.skip 1)):=vv (by unfold St.minus;rw[h1,h2];rfl);have m:=vv fun W hW=>q6k (b:=b) (s:=s) (v:=v) 1 (by have:=(q2j h h2).1;omega) W hW
   clear h h1 h2;go_enter func83,ntmps83;go_wp2_with fail;refine j.o.mono ?_;rintro e n ⟨rfl,a⟩;have d:=vv (g.o.below a g.o.lt);have i:=vv (q03 a (qg b));clear a;go_wp2_with fail;refine(k.o _ d.o).mono ?_;rintro e u ⟨rfl,a⟩;have c:=vv (d.o.below a d.o.lt);have l:=vv (q00 i.o (q03 a (qg b)));have p:=c.o.c1;have q:=c.o.fz 1;have r:=c.o.lt;clear a;go_wp2;go_ret;exact⟨by rw[f.o];rfl,by rw[f.o];exact m.o _ c.o,q00 l.o (q0I _)⟩
  | false =>
   rw[h2] at k;by_cases hc:v.code=0
   ·have F:((v.code:Int)==0)=qf:=by rw[hc];rfl
    by_cases hs:v.pos+3<=s.size
    ·have y:=h.has_three ⟨#[226,136,146]⟩ rfl hs;rw[show(⟨#[226,136,146]⟩:ByteArray).toList=[226,136,146] by rw[qp]] at y;have t:=vv y;clear y;have E:(v.pos:Int)+3<=(s.size:Int):=by omega
     have G:qe ((v.pos:Int)+3<=(s.size:Int))=qf:=k03 E;have L:IntKind.i64.wrap ((v.pos:Int)+3)=(v.pos:Int)+3:=by rw[qu];omega
     have x:((v.pos:Int)+3).toNat=v.pos+3:=by omega
     obtain⟨X,z⟩:=yx (s.extract v.pos (v.pos+3));have M:∀W:qd,(Instr.slice 9 (.string s) (qg (.int .i64 (v.pos:Int))) (qg (.int .i64 ((v.pos:Int)+3))) qh).run qa W=.ok (.string X) W:=fun W=>by rw[run_slice_string (P:=qa) W 9 s .i64 .i64 (v.pos:Int) ((v.pos:Int)+3) underlying9 (by omega) (by omega) (by omega),x,k20,z]
     rw[<- z] at t;clear z;cases h3:(X.toList==[226,136,146]) with
     | true =>
      have f:qi (v.minus=(qf,v.skip 3)):=vv (by have e:v.has [226,136,146]=qf:=t.o.trans (by rw[h3,hc];rfl);unfold St.minus;rw[h1,h2,e];rfl);have m:=vv fun W hW=>q6k (b:=b) (s:=s) (v:=v) 3 hs W hW
      clear h h1 h2 hc hs t x;go_enter func83,ntmps83;go_wp2_with fail;refine j.o.mono ?_;rintro e n ⟨rfl,a⟩;have d:=vv (g.o.below a g.o.lt);have i:=vv (q03 a (qg b));clear a;go_wp2_with fail;refine(k.o _ d.o).mono ?_;rintro e u ⟨rfl,a⟩;have c:=vv (d.o.below a d.o.lt);have l:=vv (q00 i.o (q03 a (qg b)));have C:=c.o.c0;have p:=c.o.c1;have D:=c.o.c2;have q:=c.o.fz 1;have r:=c.o.lt;clear a;go_wp2;go_quiet (fail);go_wp2;go_ret;exact⟨by rw[f.o];rfl,by rw[f.o];exact m.o _ (c.o.below (q0g (qb _ _) _) c.o.lt),q00 (q00 l.o (q03 (q0g (qb _ _) _) _)) (q0I _)⟩
     | false =>have f:qi (v.minus=(qc,v)):=vv (by have e:v.has [226,136,146]=qc:=t.o.trans (by rw[h3,hc];rfl);unfold St.minus;rw[h1,h2,e];rfl);clear h h1 h2 hc hs t x;go_enter func83,ntmps83;go_wp2_with fail;refine j.o.mono ?_;rintro e n ⟨rfl,a⟩;have d:=vv (g.o.below a g.o.lt);have i:=vv (q03 a (qg b));clear a;go_wp2_with fail;refine(k.o _ d.o).mono ?_;rintro e u ⟨rfl,a⟩;have c:=vv (d.o.below a d.o.lt);have l:=vv (q00 i.o (q03 a (qg b)));have C:=c.o.c0;have p:=c.o.c1;have D:=c.o.c2;have q:=c.o.fz 1;have r:=c.o.lt;clear a;go_wp2;go_quiet (fail);go_wp2;go_ret;exact⟨by rw[f.o];rfl,by rw[f.o];exact c.o.below (q0g (qb _ _) _) c.o.lt,q00 l.o (q03 (q0g (qb _ _) _) _)⟩
    ·have f:qi (v.minus=(qc,v)):=vv (by have e:v.has [226,136,146]=qc:=h.has_short ⟨#[226,136,146]⟩ rfl hs;unfold St.minus;rw[h1,h2,e];rfl);have E:(s.size:Int)<(v.pos:Int)+3:=by omega
     have G:qe ((v.pos:Int)+3<=(s.size:Int))=qc:=k00 (by omega);clear h h1 h2 hc hs;go_enter func83,ntmps83;go_wp2_with fail;refine j.o.mono ?_;rintro e n ⟨rfl,a⟩;have d:=vv (g.o.below a g.o.lt);have i:=vv (q03 a (qg b));clear a;go_wp2_with fail;refine(k.o _ d.o).mono ?_;rintro e u ⟨rfl,a⟩;have c:=vv (d.o.below a d.o.lt);have l:=vv (q00 i.o (q03 a (qg b)));have C:=c.o.c0;have p:=c.o.c1;have D:=c.o.c2;have q:=c.o.fz 1;have r:=c.o.lt;clear a;go_wp2;go_quiet (fail);go_wp2;go_ret;exact⟨by rw[f.o];rfl,by rw[f.o];exact c.o.below (q0g (qb _ _) _) c.o.lt,q00 l.o (q03 (q0g (qb _ _) _) _)⟩
   ·have f:qi (v.minus=(qc,v)):=vv (by unfold St.minus;rw[h1,h2,has_off _ hc];rfl);have F:((v.code:Int)==0)=qc:=by rw[k02];omega
    clear h h1 h2 hc;go_enter func83,ntmps83;go_wp2_with fail;refine j.o.mono ?_;rintro e n ⟨rfl,a⟩;have d:=vv (g.o.below a g.o.lt);have i:=vv (q03 a (qg b));clear a;go_wp2_with fail;refine(k.o _ d.o).mono ?_;rintro e u ⟨rfl,a⟩;have c:=vv (d.o.below a d.o.lt);have l:=vv (q00 i.o (q03 a (qg b)));have C:=c.o.c0;have p:=c.o.c1;have D:=c.o.c2;have q:=c.o.fz 1;have r:=c.o.lt;clear a;go_wp2;go_quiet (fail);go_wp2;go_ret;exact⟨by rw[f.o];rfl,by rw[f.o];exact c.o.below (q0g (qb _ _) _) c.o.lt,q00 l.o (q03 (q0g (qb _ _) _) _)⟩
end Dlx
end Go.Proofs.YthopehoklmgphaaGreatDoor
