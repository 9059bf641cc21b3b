import Derived.Test.YtpbalojiaghfhaaGreatPFnCompilesToldy0
import Derived.Test.YtpbalojiaghfhaaGreatPFnCompilesToldy14
namespace Go.Proofs.YtpbalojiaghfhaaGreat.PFnCompilesTold
open Go.RowKit Go.Proofs.YtpbalojiaghfhaaGreatW.PrintWords Go.Proofs.YtpbalojiaghfhaaGreatW.PrintLast Go.Proofs.YtpbalojiaghfhaaGreatW.PrintMore Go.Proofs.YtpbalojiaghfhaaGreatW.Z
open Kd
attribute [local go_sem] isS max2_int min2_int max_two min_two max_three min_three max_four min_four
set_option linter.unusedVariables false
set_option linter.unusedSimpArgs false
mutual
def spec_l10Put.l0:Nat→List Int→Int→List Int→Int→Option (List Int)
  | 0,_,_,_,_=>none
  | k+1,q,x,l,ab=>if ab<(q.length:Int)then(if 0≤ab then(if(rd q ab)<x then(if l.length<17592186044416 then(spec_l10Put.l0 k q x (l ++ [rd q ab]) (wrap64 (ab+1)))else(none))else(spec_l10Put.l0 k q x l (wrap64 (ab+1))))else(none))else(if l.length<17592186044416 then(spec_l10Put.l1 k q x (l ++ [x]) 0)else(none))
def spec_l10Put.l1:Nat→List Int→Int→List Int→Int→Option (List Int)
  | 0,_,_,_,_=>none
  | k+1,q,x,l,ac=>if ac<(q.length:Int)then(if 0≤ac then(if(rd q ac)>x then(if l.length<17592186044416 then(spec_l10Put.l1 k q x (l ++ [rd q ac]) (wrap64 (ac+1)))else(none))else(spec_l10Put.l1 k q x l (wrap64 (ac+1))))else(none))else(some l)
end
def spec_l10Put.f (k:Nat) (a:List Int) (n:Int):Option (List Int):=(spec_l09In.f k a n).bind fun aC=>(if aC=true then(some a)else(spec_l10Put.l0 k a n (([] :List Int)) 0))
theorem q18x0 {P:Prop} (h:P:=by repeat(first|(with_reducible first|exact HK.out|apply Kept.alloc|apply Kept.drewN|apply Kept.drew)|exact HK.out)):P:=h
set_option maxHeartbeats 8000000 in
set_option maxRecDepth 100000 in
theorem spec_l10Put.calls (k:Nat) (P0_:Nat→Prop) (u9000_:Value) (a:List Int) (n:Int) (r:List Int) (w0 w:World) (hB:Below w0.heap.size w0 w) (aq:Kd.R (Kd.int .i64) 3 w w0.heap.size P0_ u9000_ a) (h:spec_l10Put.f k a n=some r) :
 Calls Tryz.prog 65 #[u9000_,.int .i64 n] w fun e w'=> ∃ v0_:Value,e= .returned (v0_)∧Kd.R (Kd.int .i64) 3 w' w0.heap.size (fun k_=>(P0_ k_∨w.heap.size≤k_)) v0_ r∧Below w0.heap.size w0 w'∧Kept w w' (fun k_=>P0_ k_):=by
 have s:=aM (show Kd.R (Kd.int .i64) 3 w w0.heap.size (fun k_=>(P0_ k_∨w.heap.size≤k_)) u9000_ a from R_mono aq (fun k_ hk=>(.inl hk)))
 have HK:=aM (Kept.refl w (fun k_=>P0_ k_))
 have HW0:=aM hB.size;have HB:=aM hB;clear hB
 unfold spec_l10Put.f at h;have H:=h
 clear h;replace H:=bE H;obtain⟨aC,a1,H⟩:=H;by_cases ad:aC=true
 ·subst ad;replace H:=iT H;obtain rfl:=Option.some.inj H;obtain⟨cb,cc,bk⟩:=R_slice s.out;subst bk;go_enter Tryz.func65,Tryz.ntmps65
  go_wp2_with (first|((with_reducible refine gF 58 ?_);refine gX (some 10) Tryz.func58 (spec_l09In.calls a1.out (rX s) ((rY s))) ?_;rintro w' ⟨nd,rfl⟩))
  go_ret;exact⟨_,rE,mR s,cB,q18x0⟩
 ·replace ad:=Bool.eq_false_iff.mpr ad;subst ad;replace H:=iF H;obtain⟨bl,aD⟩ : ∃ y_:List Int,Aside0 (y_=(([] :List Int))):=⟨_,⟨rfl⟩⟩;rw[← aD.out]at H;have H':=aM H;clear H;obtain⟨aj,I,bm⟩:=R_slice s.out;subst bm;go_enter Tryz.func65,Tryz.ntmps65
  go_wp2_with (first|((with_reducible refine gF 58 ?_);refine gX (some 10) Tryz.func58 (spec_l09In.calls a1.out (rX s) ((rY s))) ?_;rintro w' ⟨nd,rfl⟩)|((with_reducible refine gN 12 ?_);refine R_lit (Kd.int .i64) _ 3 ?hg (N:=12) ?hd (xs:=([] :List Int)) (inner:=[]) (ok:=fun _=>True) (okp:=fun _=>True) ?hr ?hp (fun _ hk=>hk) trivial (Below.refl _ _) (Nat.le_refl _) (by simp) ?_;(case hd=>rfl);(case hg=>rfl);(case hr=>exact rG);(case hp=>exact(Reps.none _ _));intro cd ce ae hb hg_ hnew_;clear hg_ hnew_;(first|rw[← aD.out]at ae|(simp only[Int.reduceToNat]at ae;rw[← aD.out]at ae));have bn:=aM (R_lower (R_new' (R_newM (M:=fun k_=>(P0_ k_∨w.heap.size≤k_)) ae (by first|exact HK.out.1|exact(show Kept w _ (fun k_=>P0_ k_)from q18x0).1) (fun k_ h_=> .inr h_)) (R_lt (mR s))) (below_size cB));replace s:=eB s (R_base ae) hb;replace HK:=aM (Kept.below (S:=(fun k_=>P0_ k_)) q18x0 hb);replace HB:=sB hb;clear hb ae))
  go_loopg [5,6] k (fun kq J bo w'=> ∃ (z:List Int) (g:Int),bo= .int .i64 g∧Aside0 (spec_l10Put.l0 kq a n z g=some r)∧Aside0 (kq≤k)∧Aside0 (Kd.R (Kd.int .i64) 3 w' w0.heap.size (fun k_=>(P0_ k_∨w.heap.size≤k_)∧some k_≠(J:Value).ownBlock) (.slice aj a.length I) a)∧Aside0 (Kd.R (Kd.int .i64) 3 w' w0.heap.size (fun k_=>(P0_ k_∨w.heap.size≤k_)∧some k_≠((.slice aj a.length I):Value).ownBlock) J z)∧Aside0 (Kept w w' (fun k_=>P0_ k_))∧Aside0 (Below w0.heap.size w0 w'))
  case atStart=>exact⟨(bl),(0),rS,H',⟨Nat.le_refl _⟩,⟨mR s⟩,⟨rM bn (fun _ hk=>⟨hk.1.1,hk.2⟩)⟩,⟨q18x0⟩,⟨cB⟩⟩
  case round=>
   clear H';(try clear ad);obtain⟨z,g,rfl,HA,HK1,b,p,HK,HB⟩:=hrel
   cases gk with
   | zero=>exact absurd HA.out (by simp[spec_l10Put.l0])
   | succ k1=>
    have H:=HA.out;clear HA;simp only[spec_l10Put.l0]at H;by_cases o:g<(a.length:Int)
    ·rw[if_pos o]at H;have ar:=decide_eq_true o;clear o;replace H:=gD H;obtain⟨a2,H⟩:=H;by_cases L:(rd a g)<n
     ·rw[if_pos L]at H;have a3:=decide_eq_true L;clear L;replace H:=gC H;obtain⟨aE,H⟩:=H;have bp:=aM aE;clear aE;obtain⟨bq,a4⟩ : ∃ y_:List Int,Aside0 (y_=(z ++ [rd a g])):=⟨_,⟨rfl⟩⟩;rw[← a4.out]at H;have H':=aM H;clear H;have A:0≤(g:Int):=dA;have D:g<(a.length:Int):=dA;obtain⟨aG,aH,a5⟩:=at_int (R_reads' b.out).2.2 g A D;cases aH;replace A:=eq_true A;replace D:=eq_true D;have au:0≤(g:Int):=dA;have av:g<(a.length:Int):=dA;obtain⟨br,bs,bu⟩:=at_int (R_reads' b.out).2.2 g au av
      obtain rfl:aG=br:=(by injection bs)
      replace au:=eq_true au;replace av:=eq_true av
      go_wp2_with (first|((with_reducible refine gA 25 30 ?_);at_builtin;refine R_append (Kd.int .i64) (w0:=w0) w0.heap.size rfl (.tmp 25) (.tmp 30) 42 3 (.int .i64 0) 8 rfl Tryz.underlying42 info3 rfl (by decide) (by omega) u5 z (rd a g) [.int .i64 (rd a g)] (fun k_=>(P0_ k_∨w.heap.size≤k_)∧some k_≠(.slice (some aG) a.length I:Value).ownBlock) (fun _=>False) rfl rfl ?aP (fun _ hk=>hk.elim) ?aF ?aO ?aB ?aS ?aL ?_;(case aP=>exact rfl);(case aB=>exact cB);(case aF=>exact(fun k_ hk=>⟨(.inr (Nat.le_trans (by first|exact HK.out.1|exact(show Kept w _ (fun k_=>P0_ k_)from q18x0).1) hk)),Kd.fresh' (R_lt (mR b)) k_ hk⟩));(case aO=>exact(mR p));(case aS=>exact(below_size cB));(case aL=>have:=bp.out;omega);intro cf cg ho hb hg hat;rw[← a4.out]at ho;replace b:=aM (R_after (ok:=(fun k_=>(P0_ k_∨w.heap.size≤k_))) (mR b) hg hat);replace HB:=aM hb;replace HK:=aM (Kept.of_grown (S:=(fun k_=>P0_ k_)) hg q18x0 (fun k_ e_=>(p.out.1 k_ e_).1));have bv:=aM ho;clear p ho hb hg hat))
      go_roundg k1
      case measure=>exact oK
      case rel=>exact⟨(bq),(wrap64 (g+1)),rS,H',⟨oK⟩,⟨mR b⟩,⟨mR bv⟩,⟨q18x0⟩,⟨cB⟩⟩
     ·rw[if_neg L]at H;have a3:=decide_eq_false L;clear L;have H':=aM H;clear H;have A:0≤(g:Int):=dA;have D:g<(a.length:Int):=dA;obtain⟨aG,aH,a5⟩:=at_int (R_reads' b.out).2.2 g A D;cases aH;replace A:=eq_true A;replace D:=eq_true D;go_wp2;go_roundg k1
      case measure=>exact oK
      case rel=>exact⟨(z),(wrap64 (g+1)),rS,H',⟨oK⟩,⟨mR b⟩,⟨mR p⟩,⟨q18x0⟩,⟨cB⟩⟩
    ·rw[if_neg o]at H;have ar:=decide_eq_false o;clear o;replace H:=gC H;obtain⟨aI,H⟩:=H;have bw:=aM aI;clear aI;obtain⟨bx,a6⟩ : ∃ y_:List Int,Aside0 (y_=(z ++ [n])):=⟨_,⟨rfl⟩⟩;rw[← a6.out]at H;have H':=aM H;clear H
     go_wp2_with (first|((with_reducible refine gA 32 34 ?_);at_builtin;refine R_append (Kd.int .i64) (w0:=w0) w0.heap.size rfl (.tmp 32) (.tmp 34) 42 3 (.int .i64 0) 8 rfl Tryz.underlying42 info3 rfl (by decide) (by omega) u5 z n [.int .i64 n] (fun k_=>(P0_ k_∨w.heap.size≤k_)∧some k_≠(.slice aj a.length I:Value).ownBlock) (fun _=>False) rfl rfl ?aP (fun _ hk=>hk.elim) ?aF ?aO ?aB ?aS ?aL ?_;(case aP=>exact rfl);(case aB=>exact cB);(case aF=>exact(fun k_ hk=>⟨(.inr (Nat.le_trans (by first|exact HK.out.1|exact(show Kept w _ (fun k_=>P0_ k_)from q18x0).1) hk)),Kd.fresh' (R_lt (mR b)) k_ hk⟩));(case aO=>exact(mR p));(case aS=>exact(below_size cB));(case aL=>have:=bw.out;omega);intro ch ci ho hb hg hat;rw[← a6.out]at ho;replace b:=aM (R_after (ok:=(fun k_=>(P0_ k_∨w.heap.size≤k_))) (mR b) hg hat);replace HB:=aM hb;replace HK:=aM (Kept.of_grown (S:=(fun k_=>P0_ k_)) hg q18x0 (fun k_ e_=>(p.out.1 k_ e_).1));have bz:=aM ho;clear p ho hb hg hat))
     go_loopg [5,7] k1 (fun kq J bA w'=> ∃ (j:List Int) (c:Int),bA= .int .i64 c∧Aside0 (spec_l10Put.l1 kq a n j c=some r)∧Aside0 (kq≤k1)∧Aside0 (Kd.R (Kd.int .i64) 3 w' w0.heap.size (fun k_=>(P0_ k_∨w.heap.size≤k_)∧some k_≠(J:Value).ownBlock) (.slice aj a.length I) a)∧Aside0 (Kd.R (Kd.int .i64) 3 w' w0.heap.size (fun k_=>(P0_ k_∨w.heap.size≤k_)∧some k_≠((.slice aj a.length I):Value).ownBlock) J j)∧Aside0 (Kept w w' (fun k_=>P0_ k_))∧Aside0 (Below w0.heap.size w0 w'))
     case atStart=>exact⟨(bx),(0),rS,H',⟨Nat.le_refl _⟩,⟨mR b⟩,⟨mR bz⟩,⟨q18x0⟩,⟨cB⟩⟩
     case round=>
      clear H';(try clear ad);(try clear o);(try clear ar);(try clear cj);(try clear a2);(try clear L);(try clear a3);(try clear aE);(try clear aI);(try clear a5);(try clear bu);(try clear A);(try clear au);(try clear D);(try clear av);obtain⟨j,c,rfl,HA,HK2,b,p,HK,HB⟩:=hrel
      cases gk with
      | zero=>exact absurd HA.out (by simp[spec_l10Put.l1])
      | succ k2=>
       have H:=HA.out;clear HA;simp only[spec_l10Put.l1]at H;by_cases af:c<(a.length:Int)
       ·rw[if_pos af]at H;have bB:=decide_eq_true af;clear af;replace H:=gD H;obtain⟨ck,H⟩:=H;by_cases ag:(rd a c)>n
        ·rw[if_pos ag]at H;have bC:decide (n<(rd a c))=true:=decide_eq_true ag;clear ag;replace H:=gC H;obtain⟨a7,H⟩:=H;have bD:=aM a7;clear a7;obtain⟨bF,a8⟩ : ∃ y_:List Int,Aside0 (y_=(j ++ [rd a c])):=⟨_,⟨rfl⟩⟩;rw[← a8.out]at H;have H':=aM H;clear H;have O:0≤(c:Int):=dA;have U:c<(a.length:Int):=dA;obtain⟨aJ,aK,bG⟩:=at_int (R_reads' b.out).2.2 c O U;cases aK;replace O:=eq_true O;replace U:=eq_true U;have aN:0≤(c:Int):=dA;have aQ:c<(a.length:Int):=dA;obtain⟨bH,bI,cl⟩:=at_int (R_reads' b.out).2.2 c aN aQ
         obtain rfl:aJ=bH:=(by injection bI)
         replace aN:=eq_true aN;replace aQ:=eq_true aQ
         go_wp2_with (first|((with_reducible refine gA 48 53 ?_);at_builtin;refine R_append (Kd.int .i64) (w0:=w0) w0.heap.size rfl (.tmp 48) (.tmp 53) 42 3 (.int .i64 0) 8 rfl Tryz.underlying42 info3 rfl (by decide) (by omega) u5 j (rd a c) [.int .i64 (rd a c)] (fun k_=>(P0_ k_∨w.heap.size≤k_)∧some k_≠(.slice (some aJ) a.length I:Value).ownBlock) (fun _=>False) rfl rfl ?aP (fun _ hk=>hk.elim) ?aF ?aO ?aB ?aS ?aL ?_;(case aP=>exact rfl);(case aB=>exact cB);(case aF=>exact(fun k_ hk=>⟨(.inr (Nat.le_trans (by first|exact HK.out.1|exact(show Kept w _ (fun k_=>P0_ k_)from q18x0).1) hk)),Kd.fresh' (R_lt (mR b)) k_ hk⟩));(case aO=>exact(mR p));(case aS=>exact(below_size cB));(case aL=>have:=bD.out;omega);intro cm cn ho hb hg hat;rw[← a8.out]at ho;replace b:=aM (R_after (ok:=(fun k_=>(P0_ k_∨w.heap.size≤k_))) (mR b) hg hat);replace HB:=aM hb;replace HK:=aM (Kept.of_grown (S:=(fun k_=>P0_ k_)) hg q18x0 (fun k_ e_=>(p.out.1 k_ e_).1));have bJ:=aM ho;clear p ho hb hg hat))
         go_roundg k2
         case measure=>have:=HK1.out;have:=HK2.out;omega
         case rel=>exact⟨(bF),(wrap64 (c+1)),rS,H',⟨by have:=HK1.out;have:=HK2.out;omega⟩,⟨mR b⟩,⟨mR bJ⟩,⟨q18x0⟩,⟨cB⟩⟩
        ·rw[if_neg ag]at H;have bC:decide (n<(rd a c))=false:=decide_eq_false ag;clear ag;have H':=aM H;clear H;have O:0≤(c:Int):=dA;have U:c<(a.length:Int):=dA;obtain⟨aJ,aK,bG⟩:=at_int (R_reads' b.out).2.2 c O U;cases aK;replace O:=eq_true O;replace U:=eq_true U;go_wp2;go_roundg k2
         case measure=>have:=HK1.out;have:=HK2.out;omega
         case rel=>exact⟨(j),(wrap64 (c+1)),rS,H',⟨by have:=HK1.out;have:=HK2.out;omega⟩,⟨mR b⟩,⟨mR p⟩,⟨q18x0⟩,⟨cB⟩⟩
       ·rw[if_neg af]at H;have bB:=decide_eq_false af;clear af;obtain rfl:=Option.some.inj H;go_wp2;go_ret
        exact⟨_,rE,by(with_reducible repeat(first|apply R_alloc|apply R_drewN|apply R_drew));exact R_mono p.out (fun _ hk=>hk.1),cB,q18x0⟩
mutual
def spec_NumsOf.l0:Nat→List Int→Int→Int→Int→Int→List (S78)→Option (List Int)
  | 0,_,_,_,_,_,_=>none
  | k+1,ak,y,aw,ax,ay,E=>if y<(E.length:Int)then(spec_NumsOf.l1 k ak y 0 aw ax ay E)else(some ak)
def spec_NumsOf.l1:Nat→List Int→Int→Int→Int→Int→Int→List (S78)→Option (List Int)
  | 0,_,_,_,_,_,_,_=>none
  | k+1,ak,y,l,aw,ax,ay,E=>if 0≤y then(if y<(E.length:Int)then(if l<(((rd_T78 E y).f0).length:Int)then(if 0≤l then((spec_l10Put.f k ak (rd ((rd_T78 E y).f0) l)).bind fun az=>(spec_NumsOf.l1 k az y (wrap64 (l+1)) aw ax ay E))else(none))else(spec_NumsOf.l0 k ak (wrap64 (y+1)) aw ax ay E))else(none))else(none)
end
def spec_NumsOf.f (k:Nat) (t:Int) (u:Int) (v:Int) (d:List (S78)):Option (List Int):=spec_NumsOf.l0 k (([] :List Int)) 0 t u v d
set_option maxHeartbeats 8000000 in
set_option maxRecDepth 100000 in
theorem spec_NumsOf.calls {k:Nat}{t:Int}{u:Int}{v:Int}{al:Option Addr}{am:Nat}{d:List (S78)}{r:List Int}{w:World}(h:spec_NumsOf.f k t u v d=some r)(a9:Kd.C k78 w al d.length d)(ba:d.length≤am) :
 Calls Tryz.prog 27 #[.agg #[.int .i64 t,.int .i64 u,.int .i64 v,.slice al d.length am]] w fun e w'=> ∃ v0_:Value,e= .returned (v0_)∧Kd.R (Kd.int .i64) 3 w' w.heap.size (fun _=>True) v0_ r∧Below w.heap.size w w':=by
 have hu26:=Tryz.underlying26;have HR0_3:=aM a9;have HC0_3:=aM ba;clear a9 ba;have HB:=rW w;have H:(spec_NumsOf.l0 k (([] :List Int)) 0 t u v d)=some r:=h;clear h;obtain⟨bL,aR⟩ : ∃ y_:List Int,Aside0 (y_=(([] :List Int))):=⟨_,⟨rfl⟩⟩;rw[← aR.out]at H;have H':=aM H;clear H;go_enter Tryz.func27,Tryz.ntmps27
 go_wp2_with (first|((with_reducible refine gN 1 ?_);refine boxZ 1 #[.int .i64 t,.int .i64 u,.int .i64 v,.slice al d.length am] 26 ?_;intro bb hg co hbox hb;have m:=aM hbox;have GW933:=gS hg;have GE933:=gS hg;replace HB:=sB hb;clear hb hbox hg)|((with_reducible refine gN 6 ?_);refine R_lit (Kd.int .i64) _ 3 ?hg (N:=6) ?hd (xs:=([] :List Int)) (inner:=[]) (ok:=fun _=>True) (okp:=fun _=>True) ?hr ?hp (fun _ hk=>hk) trivial (Below.refl _ _) (Nat.le_refl _) (by simp) ?_;(case hd=>rfl);(case hg=>rfl);(case hr=>exact rG);(case hp=>exact(Reps.none _ _));intro cp cq an hb hg_ hnew_;clear hg_ hnew_;(first|rw[← aR.out]at an|(simp only[Int.reduceToNat]at an;rw[← aR.out]at an));have bM:=rL an;replace m:=kB m hb;replace HB:=sB hb;clear hb an))
 go_loopg [3,4] k (fun kq aT bN w'=> ∃ (aA:List Int) (i:Int),bN= .int .i64 i∧Aside0 (spec_NumsOf.l0 kq aA i t u v d=some r)∧Aside0 (kq≤k)∧Aside0 (Kd.R (Kd.int .i64) 3 w' w.heap.size (fun _=>True) aT aA)∧Aside0 (w'.heap[bb]?=some (.cells #[.int .i64 t,.int .i64 u,.int .i64 v,(.slice al d.length am)] 26 (0,0)))∧Aside0 (Below w.heap.size w w'))
 case atStart=>exact⟨(bL),(0),rS,H',⟨Nat.le_refl _⟩,⟨mR bM⟩,⟨mK m⟩,⟨cB⟩⟩
 case round=>
  clear H';obtain⟨aA,i,rfl,HA,HK1,G,m,HB⟩:=hrel
  cases gk with
  | zero=>exact absurd HA.out (by simp[spec_NumsOf.l0])
  | succ k1=>
   have H:=HA.out;clear HA;simp only[spec_NumsOf.l0]at H;by_cases W:i<(d.length:Int)
   ·rw[if_pos W]at H;have bd:=decide_eq_true W;clear W;have H':=aM H;clear H;obtain⟨bO,bP,bQ,bR,bS,bT,bU,bV⟩:=cz4 m;go_wp2
    go_loopg [3,5] k1 (fun kq aT J w'=> ∃ (X:List Int) (j:Int),J= .int .i64 j∧Aside0 (spec_NumsOf.l1 kq X i j t u v d=some r)∧Aside0 (kq≤k1)∧Aside0 (Kd.R (Kd.int .i64) 3 w' w.heap.size (fun _=>True) aT X)∧Aside0 (w'.heap[bb]?=some (.cells #[.int .i64 t,.int .i64 u,.int .i64 v,(.slice al d.length am)] 26 (0,0)))∧Aside0 (Below w.heap.size w w'))
    case atStart=>exact⟨(aA),(0),rS,H',⟨Nat.le_refl _⟩,⟨mR G⟩,⟨mK m⟩,⟨cB⟩⟩
    case round=>
     clear H';(try clear W);(try clear bd);(try clear bO bP bQ bR);(try clear bS bT bU bV);obtain⟨X,j,rfl,HA,HK2,G,m,HB⟩:=hrel
     cases gk with
     | zero=>exact absurd HA.out (by simp[spec_NumsOf.l1])
     | succ k2=>
      have H:=HA.out;clear HA;simp only[spec_NumsOf.l1]at H;replace H:=gD H;obtain⟨cr,H⟩:=H;replace H:=gD H;obtain⟨cs,H⟩:=H;by_cases o:j<(((rd_T78 d i).f0).length:Int)
      ·rw[if_pos o]at H;have ar:=decide_eq_true o;clear o;replace H:=gD H;obtain⟨a2,H⟩:=H;replace H:=bE H;obtain⟨az,bW,H⟩:=H;have H':=aM H;clear H;obtain⟨ct,cu,cv,cw,cx,cy,cz,cA⟩:=cz4 m;have Y:0≤(i:Int):=dA;have aa:i<(d.length:Int):=dA;obtain⟨be,bX,bY,bZ,b0,aU,ah,ai,ao,ap,hl937_0,hi937_0,hl937_1,hi937_1⟩:=at_T78 HR0_3.out i Y aa;cases aU;replace ah:=(bc HB ah :);replace ai:=(bc HB ai :);replace ao:=(bc HB ao :);replace ap:=(bc HB ap :);have HR937_0:=aM hi937_0;have HC937_0:=aM hl937_0;clear hi937_0 hl937_0;have HR937_1:=aM hi937_1;have HC937_1:=aM hl937_1;clear hi937_1 hl937_1;replace Y:=eq_true Y;replace aa:=eq_true aa;have aV:0≤(i:Int):=dA;have aW:i<(d.length:Int):=dA;obtain⟨b1,cD,cE,cF,cG,b5,aX,aY,bf,bg,hl938_0,hi938_0,hl938_1,hi938_1⟩:=at_T78 HR0_3.out i aV aW
       obtain rfl:be=b1:=(by injection b5)
       replace aX:=(bc HB aX :);replace aY:=(bc HB aY :);replace bf:=(bc HB bf :);replace bg:=(bc HB bg :);have HR938_0:=aM hi938_0;have HC938_0:=aM hl938_0;clear hi938_0 hl938_0;have HR938_1:=aM hi938_1;have HC938_1:=aM hl938_1;clear hi938_1 hl938_1;replace aV:=eq_true aV;replace aW:=eq_true aW;have ea_:=Option.some.inj (ah.symm.trans aX)
       injection ea_ with ea_ en_ ec_
       subst ea_;subst ec_;clear en_;have ea_:=Option.some.inj (ai.symm.trans aY)
       injection ea_ with ea_ en_ ec_
       subst ea_;subst ec_;clear en_;have aZ:0≤(j:Int):=dA;have a0:j<(((rd_T78 d i).f0).length:Int):=dA;obtain⟨cI,b8,bh⟩:=at_int HR938_0.out j aZ a0;cases b8;replace bh:=(bc HB bh :);replace aZ:=eq_true aZ;replace a0:=eq_true a0;obtain⟨bi,bj,b9⟩:=R_slice G.out;subst b9
       go_wp2_with (first|((with_reducible refine gF 65 ?_);refine gY (some 35) Tryz.func65 (spec_l10Put.calls k2 (fun k_=>some k_=(.slice bi X.length bj:Value).ownBlock) (.slice bi X.length bj) X (rd ((rd_T78 d i).f0) j) az w _ cB (R_tight rfl G.out) bW.out) ?_;rintro cJ cL ⟨aq,hb,hkp⟩;replace m:=aM (blk_kept (mK m) hkp (fun hs_=>(fun e_=>(R_ne G.out m.out (by decide)) e_) hs_));have ca:=aM (R_mono (ok':=fun k_=>True) aq (fun k_ hk_=>trivial));replace HB:=aM hb;clear G;(try clear hb);(try clear hkp);(try clear aq)))
       go_roundg k2
       case measure=>have:=HK1.out;have:=HK2.out;omega
       case rel=>exact⟨(az),(wrap64 (j+1)),rS,H',⟨by have:=HK1.out;have:=HK2.out;omega⟩,⟨mR ca⟩,⟨mK m⟩,⟨cB⟩⟩
      ·rw[if_neg o]at H;have ar:=decide_eq_false o;clear o;have H':=aM H;clear H;obtain⟨cM,cN,cO,cP,cQ,cR,cS,cT⟩:=cz4 m;have Y:0≤(i:Int):=dA;have aa:i<(d.length:Int):=dA;obtain⟨be,bX,bY,bZ,b0,aU,ah,ai,ao,ap,hl937_0,hi937_0,hl937_1,hi937_1⟩:=at_T78 HR0_3.out i Y aa;cases aU;replace ah:=(bc HB ah :);replace ai:=(bc HB ai :);replace ao:=(bc HB ao :);replace ap:=(bc HB ap :);have HR937_0:=aM hi937_0;have HC937_0:=aM hl937_0;clear hi937_0 hl937_0;have HR937_1:=aM hi937_1;have HC937_1:=aM hl937_1;clear hi937_1 hl937_1;replace Y:=eq_true Y;replace aa:=eq_true aa;go_wp2;go_roundg k2
       case measure=>have:=HK1.out;have:=HK2.out;omega
       case rel=>exact⟨(X),(wrap64 (i+1)),rS,H',⟨by have:=HK1.out;have:=HK2.out;omega⟩,⟨mR G⟩,⟨mK m⟩,⟨cB⟩⟩
   ·rw[if_neg W]at H;have bd:=decide_eq_false W;clear W;obtain rfl:=Option.some.inj H;obtain⟨cU,cV,cW,cX,cY,cZ,c0,c1⟩:=cz4 m;go_wp2;go_ret;exact⟨_,rE,mR G,cB⟩
end Go.Proofs.YtpbalojiaghfhaaGreat.PFnCompilesTold
