/- Part 7 of what the proof rests on: the executor and what it is worth, and the program's functions as it runs them. No condition. -/
import Derived.Test.YtgiepjdnkonkgaaGreatT6
import Derived.ChangeOld
import Derived.OpenShut
set_option linter.unusedVariables false
set_option linter.unusedSimpArgs false
namespace Go.Proofs.YtgiepjdnkonkgaaGreat.P
open Go Go.Av G
set_option maxRecDepth 4000
set_option maxHeartbeats 8000000
theorem AdY (A B C D X:Option Blk):upd (aR [A,B,C,D]) 3 X=aR [A,B,C,X]:=by
 funext i
 rcases i with _|_|_|_|i
 all_goals simp[upd,aR]
theorem ZK {p:Pn} {ws:List Int} {r:Int} {path:List Int} {q:Pn} (h0:p.width ws≠0) (hq:apI ws r path p=some q) {wi:World} {mi:Mem} {vs:List Value} (hi:Inv wi mi (fun _=>none) (aR [])) (hr:RepL mi (fun _=>none) [.i (.agg p.cells), .i (.isl (aF ws)), .i (.agg [.int r, .isl (aF path)])] vs) :
 Calls Tryz.prog 35 vs.toArray wi (bS wi mi (fun _=>none) (.tup [rqA q 0, .bool true]) (rqB q)):=by
 obtain⟨hw,hp8,hv⟩:=fU h0;have hws:=l7 hw;unfold apI at hq;split at hq
 rotate_left
 ·cases hq
 rename_i hl
 cases ha:Pn.at path p with
 | none=>rw[ha]at hq;cases hq
 | some a =>
 rw[ha]at hq;simp only[yH]at hq;obtain⟨-,hav⟩:=NR path p 8 a hp8 ha;have ha8:a.wd ws 8≠0:=by rw[Pn.jD a _ 8 hav (by omega)];exact hav
 cases hx:rwL ws r (8-path.length) a with
 | none=>rw[hx]at hq;cases hq
 | some x =>
 rw[hx]at hq;simp only[xG,Option.some.injEq]at hq;subst hq
 have hxw:x.wd ws (8-path.length)≠0:=by
  unfold rwL at hx
  cases hy:rwP ws r a with
  | none=>rw[hy]at hx;cases hx
  | some y =>
   rw[hy]at hx;simp only[yH]at hx;split at hx
   ·injection hx with hx;subst hx;assumption
   ·cases hx
 have hx8:x.wd ws 8≠0:=by rw[Pn.jD x _ 8 hxw (by omega)];exact hxw
 have hxs:x.small:=⟨by have:=(Pn.tY x 8 hx8).2;omega,dJ x 8 hx8,(Pn.tY x 8 hx8).1⟩
 have hps:p.small:=⟨by have:=(Pn.tY p 8 hp8).2;omega,dJ p 8 hp8,(Pn.tY p 8 hp8).1⟩
 have c1:=oW p ws;have c2:=APH p path;simp only[atI,hl,if_true,ha,atV]at c2;have c3:=uD hw ha8 r (lv:=8-path.length) (by omega);rw[hx]at c3;simp only[OZ,yP,Option.isSome_some]at c3;have w1:IntKind.i64.wrap (8-(path.length:Int))=((8-path.length:Nat):Int):=by rw[wrO];omega
 refine calls_of_wp (fn:=Tryz.f35) Tryz.func35 rfl ?_;have hv1:vs.length=3:=by simpa using hr.length.symm
 have g0:GR wi mi 45 (fun id=>id<({ env:=[(0, .i (.agg p.cells)),(1, .i (.isl (aF ws))),(2, .i (.agg [.int r, .isl (aF path)]))],st:=[] }:AS).st.length) (fun _ _ _=>True) (aJ [(0, .i (.agg p.cells)),(1, .i (.isl (aF ws))),(2, .i (.agg [.int r, .isl (aF path)]))]) (aR []) { tmps:=vs.toArray++Array.replicate (45-vs.toArray.size) undef,defers:=[] } wi:=by
  refine⟨⟨mi,fun _=>none,hi,?_, .refl _ _ _,fun id h=>absurd rfl h,trivial⟩,by simp;omega,rfl⟩;intro t;have:=mG (m:=mi) (φ:=fun _=>none) (45-vs.toArray.size) hr t
  rcases t with _|_|_|t
  ·simpa [aJ,sN]using this
  ·simpa [aJ,sN]using this
  ·simpa [aJ,sN]using this
  ·simp only[aJ];simp;exact .junk _
 refine wp_seq (wp_mono (GR.eF dG (G:=GS 35) (S:={ env:=[(0, .i (.agg p.cells)),(1, .i (.isl (aF ws))),(2, .i (.agg [.int r, .isl (aF path)]))],st:=[] }) (e:=.normal) (S':={ env:=TEV p ws r path (.own 0 0) (.own 1 0) (.own 2 0) (.bool false) .junk .junk .junk .junk .junk .junk .junk,st:=[bxP p,bxS r path,some (.box zp)] }) kX (by kernel_rfl) (by
  rw[Pn.aA p]at *
  simp[TEV,bxP,bxS,zp,Pn.aA p]) g0) ?_)
 rintro _ a1 w1' ⟨rfl,g1⟩
 refine wp_seq (wp_mono (GR.eF dG (G:=GS 35) (S:={ env:=TEV p ws r path (.own 0 0) (.own 1 0) (.own 2 0) (.bool false) .junk .junk .junk .junk .junk .junk .junk,st:=[bxP p,bxS r path,some (.box zp)] }) (e:=.normal) (S':={ env:=TEV p ws r path (.own 0 0) (.own 1 0) (.own 2 0) (.bool false) .junk .junk .junk .junk (.bool false) .junk .junk,st:=[bxP p,bxS r path,some (.box zp)] }) kX (by kernel_rfl) (by
  simp only[TEV,bxP,bxS];rw[Pn.aA p]at *
  simp[zp,c1,h0]) g1) ?_)
 rintro _ a2 w2' ⟨rfl,g2⟩
 refine wp_seq (wp_mono (GR.eF dG (G:=GS 35) (S:={ env:=TEV p ws r path (.own 0 0) (.own 1 0) (.own 2 0) (.bool false) .junk .junk .junk .junk (.bool false) .junk .junk,st:=[bxP p,bxS r path,some (.box zp)] }) (e:=.normal) (S':={ env:=TEV p ws r path (.own 0 0) (.own 1 0) (.own 2 0) (.bool false) (.i (.iref a.cells)) .junk .junk .junk (.bool false) .junk .junk,st:=[some (.fbox p.cells),bxS r path,some (.box zp)] }) kX (by kernel_rfl) (by
  simp only[TEV,bxP,bxS];rw[Pn.aA p,Pn.aA a]at *
  simp[zp,c2]) g2) ?_)
 rintro _ a3 w3' ⟨rfl,g3⟩
 refine wp_seq (wp_mono (GR.eF dG (G:=GS 35) (S:={ env:=TEV p ws r path (.own 0 0) (.own 1 0) (.own 2 0) (.bool false) (.i (.iref a.cells)) .junk .junk .junk (.bool false) .junk .junk,st:=[some (.fbox p.cells),bxS r path,some (.box zp)] }) (e:=.normal) (S':={ env:=TEV p ws r path (.own 0 0) (.own 1 0) (.own 2 0) (.bool false) (.i (.iref a.cells)) .junk .junk .junk (.bool false) (.bool false) .junk,st:=[some (.fbox p.cells),bxS r path,some (.box zp)] }) kX (by kernel_rfl) (by
  simp only[TEV,bxP,bxS]
  simp[zp]) g3) ?_)
 rintro _ a4 w4' ⟨rfl,g4⟩
 refine wp_seq (wp_mono (GR.eF dG (G:=GS 35) (S:={ env:=TEV p ws r path (.own 0 0) (.own 1 0) (.own 2 0) (.bool false) (.i (.iref a.cells)) .junk .junk .junk (.bool false) (.bool false) .junk,st:=[some (.fbox p.cells),bxS r path,some (.box zp)] }) (e:=.normal) (S':={ env:=TEV p ws r path (.own 0 0) (.own 1 0) (.own 2 0) (.bool false) (.i (.iref a.cells)) (.own 3 0) (.bool true) .junk (.bool false) (.bool false) .junk,st:=[some (.fbox p.cells),bxS r path,some (.box zp),bxP x] }) kX (by kernel_rfl) (by
  simp only[TEV,bxP,bxS];rw[Pn.aA a,Pn.aA x]at *
  simp[zp,w1,c3]) g4) ?_)
 rintro _ a5 w5' ⟨rfl,g5⟩
 refine wp_seq (wp_mono (GR.eF dG (G:=GS 35) (S:={ env:=TEV p ws r path (.own 0 0) (.own 1 0) (.own 2 0) (.bool false) (.i (.iref a.cells)) (.own 3 0) (.bool true) .junk (.bool false) (.bool false) .junk,st:=[some (.fbox p.cells),bxS r path,some (.box zp),bxP x] }) (e:=.normal) (S':={ env:=TEV p ws r path (.own 0 0) (.own 1 0) (.own 2 0) (.bool false) (.i (.iref a.cells)) (.own 3 0) (.bool true) .junk (.bool false) (.bool false) (.bool false),st:=[some (.fbox p.cells),bxS r path,some (.box zp),bxP x] }) kX (by kernel_rfl) (by
  simp only[TEV,bxP,bxS]
  simp[zp,Pn.aA x]) g5) ?_)
 rintro _ a6 w6 ⟨rfl,g6⟩;clear g0 g1 g2 g3 g4 g5;have hst6:(6:Nat)<45:=by omega
 refine wp_seq (kY ?_);show wpOpsIn (FR none) 0 Tryz.prog _ _ (List.range 3) a6 w6;rw[show List.range 3=0::(List.range' 1 2++[])from rfl,wpOpsIn_cons];obtain⟨⟨m6,φ6,i6,henv6,adv6,ok6,-⟩,sz6,df6⟩:=g6;obtain⟨m7,rp7,i7,adv7⟩:=pG i6 (henv6 3) (show jC (aR [some (.fbox p.cells),bxS r path,some (.box zp),bxP x]) (.own 0 0)=some (.i (.iref p.cells),aR [some (.fbox p.cells),bxS r path,some (.box zp),bxP x])by simp[jC,rV,frz,BG,EN,aR,bnd,tst,iM]);have rp7':RepL m7 (fun _=>none) [.i (.iref p.cells)] [a6.tmps.getD 3 undef]:=.cons (by cases rp7 with|i k=>exact .i k) .nil
 have i7':Inv w6 m7 (fun _=>none) (aR []):=⟨i7.mem,fun id blk e=>by simp[aR]at e,fun _ _ _ _ _ _ _ _ _ e=>by simp[aR]at e,(fun _ _ _ _ e=>by cases e),i7.kn⟩
 refine vI (P:=Tryz.prog) (fn:=Tryz.f33) (d:=38) (g:=33) (args:=#[.tmp 3]) rfl rfl rfl rfl Tryz.func33 AcK AcL (vs:=[a6.tmps.getD 3 undef]) rfl ((iO hps.1 hps.2.1 hps.2.2 i7' rp7').mono fun e w7 hraw=>?_);obtain⟨y,rfl,v0,v1,v2,v3,v4,F,g7⟩:=GR.AIH (nt:=45) (d:=38) (by omega) i7 (fun t=>(henv6 t).mono adv7.mle adv7.ple) (adv6.trans adv7) ok6 sz6 df6 hraw;refine⟨y,rfl,?_⟩;have hsz6:wi.heap.size≤w6.heap.size:=adv6.size;generalize hE8:TEV p ws r path (.own 0 0) (.own 1 0) (.own 2 0) (.bool false) (.i (.iref a.cells)) (.own 3 0) (.bool true) .junk (.bool false) (.bool false) (.bool false)=E8 at g7;refine GR.AXB dG (CPY.D8 _ _ _ _ _ _ _ _) 1 2 rfl ?_ (base:=4) (R0:={ env:=upd (aJ E8) 38 (.i (.agg [.lit v0, .lit v1, .lit v2, .lit v3, .lit v4])),st:=aR [some (.fbox p.cells),bxS r path,some (.box zp),bxP x],log:=[] }) (R1:={ env:=upd (upd (aJ E8) 38 (.i (.agg [.lit v0, .lit v1, .lit v2, .lit v3, .lit v4]))) 11 (.own 12 0),st:=upd (aR [some (.fbox p.cells),bxS r path,some (.box zp),bxP x]) 12 (some (.box (bD [v0,v1,v2,v3,v4]))),log:=[] }) ?_ (g7.ok' fun id h=>.inl (by simpa using h)) fun a8 w8 g8=>?_
 ·kernel_rfl
 ·simp[bD,zp,AVA]
 obtain⟨b3,g9⟩:=g8.Ae9 (u:=11) (id:=12) (st':=aR [some (.fbox p.cells),bxS r path,some (.box zp),bxP x]) hsz6 rfl rfl (by
  intro i blk h
  rcases i with _|_|_|_|i
  ·simp[aR]at h;subst h;simp[upd,aR,eB]
  ·simp[aR,bxS]at h;subst h;simp[upd,aR,eB,bxS]
  ·simp[aR]at h;subst h;simp[upd,aR,eB,zp]
  ·simp[aR,bxP]at h;subst h;simp[upd,aR,eB,bxP,Pn.aA x,lF]
  ·simp[aR]at h)
 have g9:=(g9 (aJ [(5, .own 1 0),(6, .own 2 0),(9, .own 3 0),(11, .i (.lit (.pointer (some ⟨b3,0,none⟩))))]) (by
  subst hE8;intro t;simp only[aJ];by_cases h5:t=5
  ·subst h5;exact .inr (.inr ⟨by simp[upd,TEV,aJ],by simp[upd,TEV,aJ,cO,aR,bxS]⟩)
  by_cases h6:t=6
  ·subst h6;exact .inr (.inr ⟨by simp[upd,TEV,aJ],by simp[upd,TEV,aJ,cO,aR]⟩)
  by_cases h9:t=9
  ·subst h9;exact .inr (.inr ⟨by simp[upd,TEV,aJ],by simp[upd,TEV,aJ,cO,aR,bxP]⟩)
  by_cases h11:t=11
  ·subst h11;exact .inr (.inl ⟨rfl,rfl⟩)
  simp[h5,h6,h9,h11])).ok' (ok':=fun id=>J9 4 (fun j=>j<0) id) (by
  intro i h;refine .inl ?_
  rcases i with _|_|_|_|i
  all_goals first|omega|(simp[aR]at h))
 clear g7 g8;refine wp_seq (kY ?_);show wpOpsIn (FR none) 0 Tryz.prog _ _ (List.range 6) a8 w8;rw[show List.range 6=List.range' 0 2++(2::3::(List.range' 4 1++(List.range' 5 1++[])))from rfl];generalize hE9:aJ [(5, .own 1 0),(6, .own 2 0),(9, .own 3 0),(11, .i (.lit (.pointer (some ⟨b3,0,none⟩))))]=E9 at g9;refine GR.AXB dG (RAW.D8 _ _ _ _ _) 0 2 rfl ?_ (base:=4) (R0:={ env:=E9,st:=aR [some (.fbox p.cells),bxS r path,some (.box zp),bxP x],log:=[] }) (R1:={ env:=upd (upd E9 39 (.own 1 1)) 40 (.i (.isl (aF path))),st:=aR [some (.fbox p.cells),bxS r path,some (.box zp),bxP x],log:=[] }) ?_ g9 fun a9 w9 g10=>?_
 ·kernel_rfl
 ·subst hE9;simp[zp,bxS,AVA]
 clear g9;rw[wpOpsIn_cons];obtain⟨⟨m10,φ10,i10,henv10,adv10,ok10,r10⟩,AcD,df10⟩:=g10;have hv11:=henv10 11;have hv40:=henv10 40;simp only[show upd (upd E9 39 (.own 1 1)) 40 (.i (.isl (aF path))) 11=.i (.lit (.pointer (some ⟨b3,0,none⟩)))from by subst hE9;rfl]at hv11;simp only[show upd (upd E9 39 (.own 1 1)) 40 (.i (.isl (aF path))) 40=.i (.isl (aF path))from rfl]at hv40;have hmm:MLe m10 (dR w9):=i10.mem;refine vI (P:=Tryz.prog) (fn:=Tryz.f65) (d:=41) (g:=65) (args:=#[.tmp 11, .tmp 40]) rfl rfl rfl rfl Tryz.func65 AhL hb48 (vs:=[a9.tmps.getD 11 undef,a9.tmps.getD 40 undef]) rfl ((ANT r10.th r10.nr r10.nd ha hl (vs:=[a9.tmps.getD 11 undef,a9.tmps.getD 40 undef]) (.cons (by cases hv11 with|i k=>exact .i (k.mono hmm)) (.cons (by cases hv40 with|i k=>exact .i (k.mono hmm)) .nil))).mono fun e w10 hplace=>?_);obtain⟨y2,rfl,bq,oq,Fa,Fy,Fz,g11⟩:=GR.AMV (nt:=45) (d:=41) (by omega) i10 henv10 adv10 ok10 AcD df10 r10 hplace;refine⟨y2,rfl,?_⟩;rw[wpOpsIn_cons];obtain⟨⟨m11,φ11,i11,henv11,adv11,ok11,r11⟩,AcC,df11⟩:=g11;generalize hE11:upd (upd (upd E9 39 (.own 1 1)) 40 (.i (.isl (aF path)))) 41 (.i (.lit (.pointer (some ⟨bq,oq,none⟩))))=E11 at henv11;have h9:E11 9=.own 3 0:=by subst hE11;subst hE9;rfl
 have hr9:=henv11 9;rw[h9]at hr9
 obtain⟨m12,rp12,i12,adv12⟩:=pG i11 hr9 (show jC (aR [some (.fbox p.cells),bxS r path,some (.box zp),bxP x]) (.own 3 0)=some (.i (.iref x.cells),aR [some (.fbox p.cells),bxS r path,some (.box zp),some (.fbox x.cells)])by
  have hu:=AdY (some (.fbox p.cells)) (bxS r path) (some (.box zp)) (bxP x) (some (.fbox x.cells));rw[Pn.aA x]at hu ⊢;simp[bxP,Pn.aA x]at hu ⊢
  exact hu)
 have rp12':RepL m12 (fun _=>none) [.i (.iref x.cells)] [(a9.put (some 41) y2).tmps.getD 9 undef]:=.cons (by cases rp12 with|i k=>exact .i k) .nil
 have i12':Inv w10 m12 (fun _=>none) (aR []):=⟨i12.mem,fun id blk e=>by simp[aR]at e,fun _ _ _ _ _ _ _ _ _ e=>by simp[aR]at e,(fun _ _ _ _ e=>by cases e),i12.kn⟩
 have hwx:wi.heap.size≤w10.heap.size:=adv11.size;have hlt:∀ f∈b3::F,f<w10.heap.size:=fun f hf=>(r11.raw.all f hf).2.1
 have hbq:bq<w10.heap.size:=hlt bq r11.pos.mem;have r12:=RAT.D8 _ _ _ _ _ _ _ _ _ _ _ _ _ _ _ _ _ adv12 r11;refine vI (P:=Tryz.prog) (fn:=Tryz.f33) (d:=42) (g:=33) (args:=#[.tmp 9]) rfl rfl rfl rfl Tryz.func33 AcK AcL (vs:=[(a9.put (some 41) y2).tmps.getD 9 undef]) rfl ((iO hxs.1 hxs.2.1 hxs.2.2 i12' rp12').mono fun e w11 hraw=>?_);obtain⟨y3,rfl,u0,u1,u2,u3,u4,Fx,g12⟩:=GR.AMW (nt:=45) (d:=42) (RAT.D8 wi b3 p F path a bq oq Fa Fy Fz) (by omega) i12 (fun t=>(henv11 t).mono adv12.mle adv12.ple) (adv11.trans adv12) ok11 AcC df11 r12 hraw;refine⟨y3,rfl,?_⟩
 have hst12:XA (fun w m φ=>RAT wi b3 p F path a bq oq Fa Fy Fz w m φ∧CPY w10 x Fx u0 u1 u2 u3 u4 w m φ):=fun w m φ w' m' φ' ha h=>⟨RAT.D8 _ _ _ _ _ _ _ _ _ _ _ _ _ _ _ _ _ ha h.1,CPY.D8 _ _ _ _ _ _ _ _ _ _ _ _ _ _ ha h.2⟩
 refine GR.AXB dG hst12 4 1 rfl ?_ (base:=4) (R0:={ env:=upd E11 42 (.i (.agg [.lit u0, .lit u1, .lit u2, .lit u3, .lit u4])),st:=aR [some (.fbox p.cells),bxS r path,some (.box zp),some (.fbox x.cells)],log:=[] }) (R1:={ env:=upd (upd E11 42 (.i (.agg [.lit u0, .lit u1, .lit u2, .lit u3, .lit u4]))) 43 (.i (.lit (.pointer (some ⟨bq,oq,none⟩)))),st:=aR [some (.fbox p.cells),bxS r path,some (.box zp),some (.fbox x.cells)],log:=[] }) ?_ (g12.ok' fun id h=>qC (fun j hj=>by omega) h) fun a10 w12 g13=>?_
 ·kernel_rfl
 ·subst hE11;subst hE9;simp[zp,bxS,AVA]
 clear g12
 obtain⟨pre,row,post,ma,hrl,hpl,g14⟩:=g13.AYT (u:=43) (k:=1) (st':=upd (fun _=>none) 2 (some (.box zp))) (by subst hE11;rfl) (by
  intro i blk h;by_cases h2:i=2
  ·subst h2;simp[upd]at h;subst h;simp[aR,eB,zp]
  ·simp[upd,h2]at h) (by simp[upd]) (CPY.other hbq)
 have g14:=(g14 (aJ [(6, .own 2 0),(11, .i (.lit (.pointer (some ⟨b3,0,none⟩)))),(42, .i (.agg [.lit u0, .lit u1, .lit u2, .lit u3, .lit u4])),(43, .own 1 oq)]) (by
  subst hE11;subst hE9;intro t;simp only[aJ];by_cases h6:t=6
  ·subst h6;exact .inr (.inr ⟨by simp[upd,aJ],by simp[upd,aJ,cO]⟩)
  by_cases h11:t=11
  ·subst h11;exact .inr (.inr ⟨by simp[upd,aJ],by simp[upd,aJ,cO]⟩)
  by_cases h42:t=42
  ·subst h42;exact .inr (.inr ⟨by simp[upd,aJ],by simp[upd,aJ,cO]⟩)
  by_cases h43:t=43
  ·subst h43;exact .inr (.inl ⟨rfl,rfl⟩)
  simp[h6,h11,h42,h43])).ok' (ok':=fun id=>J9 4 (fun j=>j<5) id) (by
  intro i h;refine .inl ?_
  rcases h with h|h
  ·by_cases h2:i=2
   ·omega
   ·simp[upd,h2]at h
  ·omega)
 clear g13;refine GR.AXB dG (fun w m φ w' m' φ' ha h=>⟨⟨ADK.D8 _ _ _ _ _ _ _ _ _ _ _ _ _ _ _ _ _ _ _ _ ha h.1.1,h.1.2⟩,CPY.D8 _ _ _ _ _ _ _ _ _ _ _ _ _ _ ha h.2⟩) 5 1 rfl ?_ (base:=4) (R0:={ env:=aJ [(6, .own 2 0),(11, .i (.lit (.pointer (some ⟨b3,0,none⟩)))),(42, .i (.agg [.lit u0, .lit u1, .lit u2, .lit u3, .lit u4])),(43, .own 1 oq)],st:=upd (upd (fun _=>none) 2 (some (.box zp))) 1 (some (.box (lT pre (bD row) post))),log:=[] }) (R1:={ env:=aJ [(6, .own 2 0),(11, .i (.lit (.pointer (some ⟨b3,0,none⟩)))),(42, .i (.agg [.lit u0, .lit u1, .lit u2, .lit u3, .lit u4])),(43, .own 1 oq)],st:=upd (upd (upd (fun _=>none) 2 (some (.box zp))) 1 (some (.box (lT pre (bD row) post)))) 1 (some (.box (lT pre (bD [u0,u1,u2,u3,u4]) post))),log:=[] }) ?_ g14 fun a11 w13 g15=>?_
 ·kernel_rfl
 ·subst hpl
  have hsp:splice (lT pre (bD row) post) pre.length (bD [u0,u1,u2,u3,u4])=some (lT pre (bD [u0,u1,u2,u3,u4]) post):=by
   have:=rF pre post (bD row) 0 (bD [u0,u1,u2,u3,u4]);rw[yE]at this;rw[this]
   match row,hrl with
   | [r0,r1,r2,r3,r4],_=>simp[bD,lT,splice,bnd]
  have hz:bD [u0,u1,u2,u3,u4]=[.i (.lit u0), .i (.lit u1), .i (.lit u2), .i (.lit u3), .i (.lit u4)]:=rfl;rw[hz]at hsp ⊢;simp[hsp,AVA]
 clear g14
 have g16:=g15.AbR (q:=x) hwx hlt hrl hpl rfl (st':=upd (fun _=>none) 2 (some (.box zp))) (env':=aJ [(6, .own 2 0),(11, .i (.lit (.pointer (some ⟨b3,0,none⟩))))]) (by
  intro i blk h;by_cases h2:i=2
  ·subst h2;simp[upd]at h;subst h;simp[upd,eB,zp]
  ·simp[upd,h2]at h) (by
  intro t;simp only[aJ];by_cases h6:t=6
  ·subst h6;exact .inr ⟨by simp,by simp[cO,upd]⟩
  by_cases h11:t=11
  ·subst h11;exact .inr ⟨by simp,by simp[cO]⟩
  simp[h6,h11])
 clear g15;generalize Pn.put path p x=q at *
 have g17:=g16.settle (fun w m φ ids h=>RAW.keep ids h) [6,11];have hset:Av.settle [6,11] 0 (aJ [(6, .own 2 0),(11, .i (.lit (.pointer (some ⟨b3,0,none⟩))))]) (upd (fun _=>none) 2 (some (.box zp)))={ env:=[(6, .own 0 0),(11, .i (.lit (.pointer (some ⟨b3,0,none⟩))))],st:=[some (.box zp)] }:=by simp[zp,upd]
 rw[hset]at g17;clear g16;obtain⟨v0',v1',v2',v3',v4',post',hone',g18⟩:=g17.AQ2 (u:=11) (k:=1) rfl rfl (by simp)
 have g18:=(g18 (aJ [(6, .own 0 0),(11, .own 1 0)]) (by
  intro t;simp only[aJ];by_cases h6:t=6
  ·subst h6;exact .inr (.inr (by simp[aJ]))
  ·by_cases h11:t=11
   ·subst h11;exact .inr (.inl ⟨rfl,rfl⟩)
   ·simp[h6,h11])).ok' (ok':=fun id=>id<({ env:=[(6, .own 0 0),(11, .own 1 0)],st:=[some (.box zp),some (.box (bD [v0',v1',v2',v3',v4']++bD post'))] }:AS).st.length) (by
  intro i h
  simp at h ⊢;omega)
 have hst1:upd (aR [some (.box zp)]) 1 (some (.box (bD [v0',v1',v2',v3',v4']++bD post')))=aR [some (.box zp),some (.box (bD [v0',v1',v2',v3',v4']++bD post'))]:=by
  funext i
  rcases i with _|_|i
  ·rfl
  ·rfl
  ·simp[upd,aR]
 rw[hst1]at g18;clear g17
 refine wp_mono (GR.eF dG (G:=GS 35) (S:={ env:=[(6, .own 0 0),(11, .own 1 0)],st:=[some (.box zp),some (.box (bD [v0',v1',v2',v3',v4']++bD post'))] }) (e:=.ret) (S':={ env:=[(0, .junk),(1, .junk),(2, .junk),(3, .junk),(5, .junk),(6, .own 0 0),(7, .bool true),(8, .junk),(9, .junk),(10, .junk),(11, .own 1 0),(15, .junk),(21, .junk),(36, .junk)],st:=[some (.box (bD [v0',v1',v2',v3',v4'])),some (.box (bD [v0',v1',v2',v3',v4']++bD post'))] }) (CPY.D8 _ _ _ _ _ _ _ _) (by kernel_rfl) (by
  have hz:bD [v0',v1',v2',v3',v4']=[.i (.lit v0'), .i (.lit v1'), .i (.lit v2'), .i (.lit v3'), .i (.lit v4')]:=rfl;rw[hz]
  simp[zp,BC,FH]) g18) ?_
 rintro _ a12 w14 ⟨rfl,g19⟩;obtain⟨⟨m,φ,q1,q2,q3,q4,q5⟩,q6,q7⟩:=g19
 obtain⟨v,k1,k2⟩:=fJ (C:=C0) (fn:=Tryz.f35) (keep:=false) (na:=0) (S:={ env:=[(0, .junk),(1, .junk),(2, .junk),(3, .junk),(5, .junk),(6, .own 0 0),(7, .bool true),(8, .junk),(9, .junk),(10, .junk),(11, .own 1 0),(15, .junk),(21, .junk),(36, .junk)],st:=[some (.box (bD [v0',v1',v2',v3',v4'])),some (.box (bD [v0',v1',v2',v3',v4']++bD post'))] }) (r:=.tup [.i (.agg [.lit v0', .lit v1', .lit v2', .lit v3', .lit v4']), .bool true]) (stl':=[]) (fun id h=>absurd rfl h) ⟨⟨⟨m,φ,q1,q2,q3,q4, .nil _ _ _⟩,q6,q7⟩,zB9 _⟩ (by
  show finish C0 false [ResultVar.cell 6 33,ResultVar.tmp 7] 0 _=_;have hz:bD [v0',v1',v2',v3',v4']=[.i (.lit v0'), .i (.lit v1'), .i (.lit v2'), .i (.lit v3'), .i (.lit v4')]:=rfl;rw[hz]
  simp)
 have hv':v=.tuple #[.agg #[v0',v1',v2',v3',v4'], .bool true]:=by
  obtain⟨_,_,_,e,r,_⟩:=k2;injection e with e;subst e
  cases r with
  | tup r =>
   cases r with|cons b0 r=>cases r with|cons b1 r =>
   cases r
   cases b0 with
   | i r0=>cases r0 with
    | agg r =>
     cases r with|cons a0 _ r=>cases r with|cons a1 _ r=>cases r with|cons a2 _ r=>cases r with|cons a3 _ r=>cases r with|cons a4 _ r =>
     cases r
     cases b1 with
     | i b1=>rw[eO a0,eO a1,eO a2,eO a3,eO a4,eO b1]
 subst hv';refine⟨q7,_,k1,?_⟩;refine SY.own ⟨v0',v1',v2',v3',v4',rfl,v0',v1',v2',v3',v4',_,m,rfl,hone',⟨q1.mem,q1.kn⟩,⟨q3.size,q3.os,q3.tape,q3.output,q3.block,q3.mle,q3.mnew, .refl _,fun _ _ _ _ e=>by cases e⟩,q5.th,q5.cells,q5.nd,fun f hf=>?_,q5.kc⟩;obtain⟨z1,z2,z3,z4,z5⟩:=q5.all f hf;exact⟨z1,z2,(by intro _ _ _ e;cases e),z4,z5⟩
end Go.Proofs.YtgiepjdnkonkgaaGreat.P
namespace Go.Av
section
variable {w w':World} {m m':Mem} {φ':Pl} {stl:StL}
end
noncomputable def AEF (C:Ctx) (g:FuncId) (args:List AV) (st:StL):Option (AV×StL) :=
 match C.P.funcs[g]? with
 | none=>none
 | some fn =>
  match fn.body with
  | none=>none
  | some c=>AIT { C with tree:=true } true fn.results.toList st.length (dY C (C.G g) st.length c (enter (C.G g) args st))
theorem ABR {C:Ctx} {f:FuncId} {fn:Func} {c:Code} {rs:List ResultVar} (hf:C.P.funcs[f]?=some fn) (hb:fn.body=some c) (hr:fn.results.toList=rs) (args:List AV) (st:StL) :
 AEF C f args st=AIT { C with tree:=true } true rs st.length (dY C (C.G f) st.length c (enter (C.G f) args st)):=by
 subst hr;unfold AEF;rw[hf];simp only[hb]
theorem MO {C:Ctx} (hS:SoundOk C) {g:FuncId} {args:List AV} {stl stl':StL} {r:AV} (h:AEF C g args stl=some (r,stl')) :
 (∃ fn,C.P.funcs[g]?=some fn∧fn.name≠ "runtime.NumGoroutine"∧fn.body.isSome=true)∧∀ (w:World) (m:Mem) (φ:Pl) (vs:List Value),Inv w m φ (aR stl)→RepL m φ args vs→(∀ id,φ id≠none→id<stl.length) →
  Calls C.P g vs.toArray w (bS w m φ r stl'):=by
 unfold AEF at h;split at h
 ·cases h
 rename_i fn hf;split at h
 ·cases h
 rename_i c hb;have hst:=(hS.fns g fn c hf hb).2;refine⟨⟨fn,hf,(hS.fns g fn c hf hb).1,by rw[hb];rfl⟩,fun w m φ vs hi hargs hid=>?_⟩;have ih:=aY hS
 have hrel:MZ [] w m φ fn.ntmps stl.length (enter (C.G g) args stl) { tmps:=vs.toArray++Array.replicate (fn.ntmps-vs.toArray.size) undef,defers:=[] } w:=by
  refine⟨⟨⟨m,φ,hi,?_, .refl _ _ _,hid, .nil _ _ _⟩,by simp;omega,rfl⟩,zO _⟩;intro t;unfold enter;simp only;generalize C.G g=G
  induction G with
  | nil=>exact .junk _
  | cons u G ihG =>
   simp only[P9,aJ];by_cases e:t=u
   ·subst e;simp only[if_true];exact mG _ hargs t
   ·simp only[e,if_false];exact ihG
 refine callsIn_wide.1 (callsIn_of_wp_marks (n:=0) hf hb trivial ?_)
 have done:∀ S e,dY C (C.G g) stl.length c (enter (C.G g) args stl)=some (e,S)→finish { C with tree:=true } true fn.results.toList stl.length S=some (r,stl')→(e=.normal∨e=.ret) →
  c.wpIn Fence.wide 0 C.P (bodyPostM Fence.wide 0 C.P fn (bS w m φ r stl')) { tmps:=vs.toArray++Array.replicate (fn.ntmps-vs.toArray.size) undef,defers:=[] } w:=by
  intro S e hS' hfin he;obtain⟨n,hS'⟩:=(dD _).1 hS';refine wpIn_mono (bW (ρ:=none) hS.ctx ih (hS.draw _ ih) hid n c _ S e [] _ w hst (.inl rfl) hS' hrel) ?_;rintro e' a' w' ⟨rfl,ds,k,_⟩
  have hl:LeavesInM Fence.wide 0 C.P fn a'.tmps (bS w m φ r stl') a'.defers .returning w':=by
   rw[k.1.defers];refine BB k fun a2 w2 _ k2=>?_
   obtain⟨v,k3,k4⟩:=fJ (C:={ C with tree:=true }) hid k2 hfin;exact⟨v,k3,k4⟩
  rcases he with rfl|rfl
  ·exact hl
  ·exact hl
 unfold AIT at h;split at h
 ·rename_i S hS';exact done S .normal hS' h (.inl rfl)
 ·rename_i S hS';exact done S .ret hS' h (.inr rfl)
 ·cases h
 ·cases h
end Go.Av
namespace Go.Proofs.YtgiepjdnkonkgaaGreat.P
open Go Go.Av
set_option maxRecDepth 4000
set_option maxHeartbeats 4000000
theorem ZL {p:Pn} {ws:List Int} {r:Int} {path:List Int} (h:p.width ws=0∨apI ws r path p=none):AEF C0 35 [.i (.agg p.cells), .i (.isl (aF ws)), .i (.agg [.int r, .isl (aF path)])] []=some (.tup [rqA Pn.zero 0, .bool false],[]):=by
 have c1:=oW p ws;have c2:=APH p path;rw[ABR Tryz.func35 rfl rfl];by_cases h0:p.width ws=0
 ·rw[Pn.aA p]at c1 ⊢;simp[c1,h0,Pn.zero,Pn.cells,Ex.aB,aF,Pn.aB,rqA]
 ·obtain⟨hw,hp8,hv⟩:=fU h0;have hn:=h.resolve_left h0;unfold apI at hn
  cases ha:atI path p with
  | none =>
   rw[ha]at c2;rw[Pn.aA p]at c1 c2 ⊢;simp[atV]at c2;simp[c1,h0,c2,Pn.zero,Pn.cells,Ex.aB,aF,Pn.aB,rqA]
  | some a =>
   rw[ha]at c2;unfold atI at ha;split at ha
   ·rename_i hl;rw[if_pos hl,ha]at hn;simp only[yH]at hn;obtain⟨-,hav⟩:=NR path p 8 a hp8 ha;have ha8:a.wd ws 8≠0:=by rw[Pn.jD a _ 8 hav (by omega)];exact hav
    have c3:=uD hw ha8 r (lv:=8-path.length) (by omega)
    have hr:rwL ws r (8-path.length) a=none:=by
     cases hq:rwL ws r (8-path.length) a with
     | none=>rfl
     | some q=>rw[hq]at hn;cases hn
    rw[hr]at c3;have w1:IntKind.i64.wrap (8-(path.length:Int))=((8-path.length:Nat):Int):=by rw[wrO];omega
    simp only[atV]at c2;rw[Pn.aA p]at c1 c2 ⊢;rw[Pn.aA a]at c2 c3;simp[OZ,Pn.zero,Pn.cells,Ex.aB,aF,Pn.aB]at c3;simp[c1,h0,c2,w1,c3,Pn.zero,Pn.cells,Ex.aB,aF,Pn.aB,rqA]
   ·cases ha
theorem SH {args:List AV} {st st':StL} {r:AV} (h:vD args st=some (r,st')):∀ (w:World) (m:Mem) (φ:Pl) (vs:List Value),Inv w m φ (aR st)→RepL m φ args vs→(∀ id,φ id≠none→id<st.length)→Calls Tryz.prog 35 vs.toArray w (bS w m φ r st'):=by
 intro w m φ vs hi hr h0;obtain⟨p,ws,k,path,rfl,rfl,hq⟩:=WN h
 cases ho:apO p ws k path with
 | none =>
  rw[ho]at hq;injection hq with h1 h2;subst h1;subst h2
  have hn:p.width ws=0∨apI ws k path p=none:=by
   unfold apO at ho;by_cases hw:p.width ws=0
   ·exact .inl hw
   ·rw[if_neg hw]at ho;exact .inr ho
  exact(MO dG (ZL hn)).2 w m φ vs hi hr h0
 | some q =>
  rw[ho]at hq;injection hq with h1 h2;subst h1;subst h2;unfold apO at ho;by_cases hw:p.width ws=0
  ·rw[if_pos hw]at ho;cases ho
  ·rw[if_neg hw]at ho
   obtain rfl:φ=fun _=>none:=by
    funext id
    cases h:φ id with
    | none=>rfl
    | some p=>exact absurd (h0 id (by rw[h];simp)) (xS _)
   exact ZK hw ho hi hr
noncomputable def ARU:FuncId→Option (List AV→StL→Option (AV×StL))
 | 35=>some vD
 | _=>none
noncomputable def C5:Ctx:={ P:=Tryz.prog,G:=GS,ownArgs:=bU,keepRes:=keepR,eqT:=ED,prim:=ARU,tree:=true }
theorem ALT:PrimOk C5:=by
 have key:∀ g q,C5.prim g=some q→g=35∧q=vD:=by
  intro g q h;have h:ARU g=some q:=h;unfold ARU at h;split at h
  ·injection h with h;exact⟨rfl,h.symm⟩
  ·cases h
 constructor
 ·intro g args st p h;unfold bV at h
  cases hq:C5.prim g with
  | none=>rw[hq]at h;cases h
  | some q =>
   obtain⟨rfl,rfl⟩:=key g q hq;exact⟨Tryz.f35,Tryz.func35,by decide,rfl⟩
 ·intro g args st r st' h w m φ vs hi hr hb;unfold bV at h
  cases hq:C5.prim g with
  | none=>rw[hq]at h;cases h
  | some q =>
   obtain⟨rfl,rfl⟩:=key g q hq;rw[hq]at h;exact SH h w m φ vs hi hr hb
theorem AWF:SoundOk C5:=iU (C:=C5) ft nt eqS mo ALT
theorem ABQ (p:Pn) (ws:List Int) (r:Int) (path:List Int):aH C5 35 [.i (.agg p.cells), .i (.isl (aF ws)), .i (.agg [.int r, .isl (aF path)])] []=some (AaB (apO p ws r path)):=by
 rw[aT (C:=C5) (p:=vD) rfl];exact AER p ws r path
end Go.Proofs.YtgiepjdnkonkgaaGreat.P
namespace Go.Av
noncomputable def ABG:List AV→StL→Option (AV×StL)
 | [.i (.iref cs)],[]=>@dite _ (∃ p:Pn,p.small∧p.cells=cs) (Classical.propDecidable _) (fun h=>some (rqA h.choose 0,rqB h.choose)) fun _=>none
 | _,_=>none
theorem Z5 {args:List AV} {st:StL} {r:AV×StL} (h:ABG args st=some r):∃ p:Pn,p.small∧args=[.i (.iref p.cells)]∧st=[]∧r=(rqA p 0,rqB p):=by
 unfold ABG at h;split at h
 ·rename_i cs;by_cases hc:∃ p:Pn,p.small∧p.cells=cs
  ·rw[dif_pos hc]at h;injection h with h;exact⟨hc.choose,hc.choose_spec.1,by rw[hc.choose_spec.2],rfl,h.symm⟩
  ·rw[dif_neg hc]at h;cases h
 ·cases h
end Go.Av
namespace Go.Proofs.YtgiepjdnkonkgaaGreat.P
open Go Go.Av
set_option maxRecDepth 4000
set_option maxHeartbeats 4000000
noncomputable def ARV:FuncId→Option (List AV→StL→Option (AV×StL))
 | 33=>some ABG
 | _=>none
noncomputable def C4:Ctx:={ P:=Tryz.prog,G:=GS,ownArgs:=bU,keepRes:=keepR,eqT:=ED,prim:=ARV,tree:=true }
theorem ALU:PrimOk C4:=by
 have key:∀ g q,C4.prim g=some q→g=33∧q=ABG:=by
  intro g q h;have h:ARV g=some q:=h;unfold ARV at h;split at h
  ·injection h with h;exact⟨rfl,h.symm⟩
  ·cases h
 constructor
 ·intro g args st p h;unfold bV at h
  cases hq:C4.prim g with
  | none=>rw[hq]at h;cases h
  | some q =>
   obtain⟨rfl,rfl⟩:=key g q hq;exact⟨Tryz.f33,Tryz.func33,by decide,rfl⟩
 ·intro g args stl r stl' h w m φ vs hi hr h0;unfold bV at h
  cases hq:C4.prim g with
  | none=>rw[hq]at h;cases h
  | some q =>
   obtain⟨rfl,rfl⟩:=key g q hq;rw[hq]at h;obtain⟨p,⟨k1,k2,k3⟩,rfl,rfl,hres⟩:=Z5 h;injection hres with h1 h2;subst h1;subst h2
   obtain rfl:φ=fun _=>none:=by
    funext id
    cases h:φ id with
    | none=>rfl
    | some p=>exact absurd (h0 id (by rw[h];simp)) (xS _)
   exact(G.iO k1 k2 k3 hi hr).mono fun _ _ h=>h.own
theorem AWG:SoundOk C4:=iU (C:=C4) ft nt eqS mo ALU
end Go.Proofs.YtgiepjdnkonkgaaGreat.P
namespace Go.Proofs.YtgiepjdnkonkgaaGreat
open Go Go.Av
end Go.Proofs.YtgiepjdnkonkgaaGreat
namespace Go.Av
theorem EA (P:Nat→Prop) [DecidablePred P]:∀ n:Nat,(∀ i,i<n→P i)∨∃ j,j<n∧(∀ i,i<j→P i)∧¬ P j
 | 0=>.inl fun i hi=>by omega
 | n+1=>by
  rcases EA P n with h|⟨j,h1,h2,h3⟩
  ·by_cases hn:P n
   ·exact .inl fun i hi=>by
     by_cases e:i=n
     ·subst e;exact hn
     ·exact h i (by omega)
   ·exact .inr ⟨n,by omega,h,hn⟩
  ·exact .inr ⟨j,by omega,h2,h3⟩
def cB (left:Int) (n:Nat):Int:=if(n:Int)≤left then left-n else -1
theorem K8 (l:List Ex) {i:Nat} {a:Ex} (h:l[i]?=some a):Ex.aL (l.take (i+1))=Ex.aL (l.take i)+a.size:=by
 induction l generalizing i with
 | nil=>simp at h
 | cons b l ih =>
  cases i with
  | zero=>simp at h;subst h;simp[Ex.aL]
  | succ i=>have:=ih (i:=i) (by simpa using h);simp only[yR,Ex.aL]at this ⊢;omega
theorem O9 (l:List Ex) (i:Nat):Ex.aL (l.take i)≤Ex.aL l:=by
 induction l generalizing i with
 | nil=>simp[Ex.aL]
 | cons b l ih =>
  cases i with
  | zero=>simp[Ex.aL]
  | succ i=>simp only[yR,Ex.aL];have:=ih i;omega
theorem wQ:∀ (l:List Ex) (i:Nat),i≤l.length→i≤Ex.aL (l.take i)
 | [],i,h=>by simp at h;subst h;simp
 | a::l,0,_=>by simp
 | a::l,i+1,h=>by
  have:=wQ l i (by simpa using h);have:=Ex.nA a;simp only[yR,Ex.aL];omega
end Go.Av
namespace Go.Proofs.YtgiepjdnkonkgaaGreat
open Go Go.Av
set_option maxRecDepth 4000
set_option maxHeartbeats 1000000
theorem AVR {e:Ex} {left:Int} (h:aH C0 18 [.i (.isl (Ex.aB e.kids)), .int left] []=some (.int (cB left (Ex.aL e.kids)),[])) :
 aH C0 46 [.i (.agg e.cells), .int left] []=some (.int (cB left (Ex.aL e.kids)),[]):=by
 rw[aD rfl Tryz.func46 rfl rfl,Ex.aA];simp[h];by_cases h0:cB left (Ex.aL e.kids)<0
 ·have:cB left (Ex.aL e.kids)=-1:=by unfold cB at h0 ⊢;split<;>rename_i hc<;>simp[hc]at h0 ⊢;omega
  simp[h0,this]
 ·simp[h0]
def szI (l:List Ex) (left:Int) (i:Nat):Int:=left-l.length-(Ex.aL (l.take i)-i)
def SZ (l:List Ex) (left:Int) (i:Nat):AS :=
 { env:=[(0, .i (.isl (Ex.aB l))),(1, .int (szI l left i)),(4, .int 0),(5, .int i),(11, .bool false),(15,jk i (.bool true)),(25,jk i (.bool false))],st:=[] }
theorem ZZ {l:List Ex} {left:Int} (h0:0≤left) (h1:left<1000000000) (hl:l.length<9223372036854775808)
 (ih:∀ a∈l,∀ left:Int,0≤left→left<1000000000→aH C0 46 [.i (.agg a.cells), .int left] []=some (.int (cB left (Ex.aL a.kids)),[])) :
 aH C0 18 [.i (.isl (Ex.aB l)), .int left] []=some (.int (cB left (Ex.aL l)),[]):=by
 rw[aD rfl Tryz.func18 rfl rfl];have w1:IntKind.i64.wrap (left-l.length)=left-l.length:=wrO;have hsl:=Ex.bN l;by_cases hc:left-l.length<0
 ·have:¬ ((Ex.aL l:Nat):Int)≤left:=by omega
  simp[w1,hc,cB,this]
 simp[w1,hc]
 have hpre:∀ i,i<l.length→∃ a,l[i]?=some a∧a∈l∧Ex.aL (l.take (i+1))=Ex.aL (l.take i)+(1+Ex.aL a.kids)∧fT (Ex.aB l) i=some a.cells:=by
  intro i hi;have h3:=zX hi;refine⟨_,h3,zU h3,?_,Ex.aO h3⟩;rw[K8 l h3,Ex.size_eq]
 have hround:∀ i,i<l.length→0≤szI l left i→∃ a:Ex,fT (Ex.aB l) i=some a.cells∧aH C0 46 [.i (.agg a.cells), .int (szI l left i)] []=some (.int (if 0≤szI l left (i+1)then szI l left (i+1)else -1),[]):=by
  intro i hi hs;obtain⟨a,h3,hm,hz,hn⟩:=hpre i hi;have hti:=wQ l i (by omega);refine⟨a,hn,?_⟩;rw[ih a hm _ hs (by unfold szI;omega)];congr 2;unfold cB;congr 1;by_cases hle:((Ex.aL a.kids:Nat):Int)≤szI l left i
  ·rw[if_pos hle,if_pos (by unfold szI at hle ⊢;omega)];unfold szI;omega
  ·rw[if_neg hle,if_neg (by unfold szI at hle ⊢;omega)]
 rcases EA (fun i=>0≤szI l left (i+1)) l.length with hall|⟨j,hj,hlt,hbad⟩
 ·rw[aS (SZ l left) l.length (by simp[SZ,szI,Ex.aL])]
  ·rw[aG]
   have hfin:cB left (Ex.aL l)=szI l left l.length:=by
    have hT:l.take l.length=l:=zY (by simp)
    have hge:0≤szI l left l.length:=by
     cases hn:l.length with
     | zero=>unfold szI;rw[hn];simp[Ex.aL];omega
     | succ n=>exact hn ▸ hall n (by omega)
    unfold cB;unfold szI at hge ⊢;rw[hT]at hge ⊢;rw[if_pos (by omega)];omega
   rw[hfin];simp[SZ]
  ·intro i hi
   have hs:0≤szI l left i:=by
    cases i with
    | zero=>unfold szI;simp[Ex.aL];omega
    | succ i=>exact hall i (by omega)
   obtain⟨a,hn,hc⟩:=hround i hi hs;have hs1:=hall i hi;have hs1:0≤szI l left (i+1):=hs1;rw[if_pos hs1]at hc;have w2:IntKind.i64.wrap ((i:Int)+1)=i+1:=wrO;rw[Ex.aA]at hn hc;simp[SZ,hi,hn,hc,w2,show ¬ szI l left (i+1)<0 by omega]
 ·have hsl2:cB left (Ex.aL l)=-1:=by
   have hm:=O9 l (j+1);have hbad:¬ 0≤szI l left (j+1):=hbad;obtain⟨a,h3,_,_,_⟩:=hpre j hj
   have hrest:Ex.aL (l.take (j+1))+(l.length-(j+1))≤Ex.aL l:=by
    have e1:Ex.aL l=Ex.aL (l.take (j+1))+Ex.aL (l.drop (j+1)):=by
     have key:∀ (n:Nat) (l:List Ex),Ex.aL l=Ex.aL (l.take n)+Ex.aL (l.drop n):=by
      intro n
      induction n with
      | zero=>intro l;simp[Ex.aL]
      | succ n ih=>intro l;cases l with
       | nil=>simp[Ex.aL]
       | cons b l=>simp only[yR,zC2,Ex.aL];have:=ih l;omega
     exact key _ _
    have e2:=Ex.bN (l.drop (j+1));simp at e2;omega
   unfold cB;unfold szI at hbad;rw[if_neg (by omega)]
  rw[hsl2,aS (SZ l left) j (by simp[SZ,szI,Ex.aL])]
  ·rw[aG]
   have hs:0≤szI l left j:=by
    cases j with
    | zero=>unfold szI;simp[Ex.aL];omega
    | succ j=>exact hlt j (by omega)
   obtain⟨a,hn,hc⟩:=hround j hj hs;have hbad:¬ 0≤szI l left (j+1):=hbad;rw[if_neg hbad]at hc;rw[Ex.aA]at hn hc;simp[SZ,hj,hn,hc]
  ·intro i hi
   have hs:0≤szI l left i:=by
    cases i with
    | zero=>unfold szI;simp[Ex.aL];omega
    | succ i=>exact hlt i (by omega)
   obtain⟨a,hn,hc⟩:=hround i (by omega) hs;have hs1:0≤szI l left (i+1):=hlt i hi;rw[if_pos hs1]at hc;have w2:IntKind.i64.wrap ((i:Int)+1)=i+1:=wrO;rw[Ex.aA]at hn hc;simp[SZ,show i<l.length by omega,hn,hc,w2,show ¬ szI l left (i+1)<0 by omega]
set_option maxHeartbeats 2000000
theorem AaM:∀ (e:Ex),e.fat→∀ left:Int,0≤left→left<1000000000→aH C0 46 [.i (.agg e.cells), .int left] []=some (.int (cB left (Ex.aL e.kids)),[]):=by
 intro e
 induction e using Ex.ind with
 | h k c v ks ih =>
  intro hf left h0 h1;have hf':=(Ex.rX _).1 hf;exact AVR (ZZ h0 h1 hf'.1 fun a ha=>ih a ha (hf'.2 a ha))
theorem AVP (l:List Ex) (hl:l.length<9223372036854775808) (hf:∀ a∈l,a.fat) (left:Int) (h0:0≤left) (h1:left<1000000000):aH C0 18 [.i (.isl (Ex.aB l)), .int left] []=some (.int (cB left (Ex.aL l)),[]) :=
 ZZ h0 h1 hl fun a ha=>AaM a (hf a ha)
theorem AN4 (v:Val):aH C0 96 [.i (.agg [.bool v.null, .int v.n]), .i (.agg [.bool v.null, .int v.n])] []=some (.bool true,[]):=by
 rw[aD rfl Tryz.func96 rfl rfl];simp
theorem AYB {e:Ex} (h:aH C0 36 [.i (.isl (Ex.aB e.kids)), .i (.isl (Ex.aB e.kids))] []=some (.bool true,[])):aH C0 67 [.i (.agg e.cells), .i (.agg e.cells)] []=some (.bool true,[]):=by
 rw[aD rfl Tryz.func67 rfl rfl,Ex.aA];have hv:=AN4 e.val;simp[hv,h]
def EQ (l:List Ex) (i:Nat):AS :=
 { env:=[(0, .i (.isl (Ex.aB l))),(1, .i (.isl (Ex.aB l))),(4, .bool false),(5, .int i),(10, .bool false),(14,jk i (.bool true)),(26,jk i (.bool false))],st:=[] }
theorem APP {l:List Ex} (hl:l.length<9223372036854775808) (ih:∀ a∈l,aH C0 67 [.i (.agg a.cells), .i (.agg a.cells)] []=some (.bool true,[])):aH C0 36 [.i (.isl (Ex.aB l)), .i (.isl (Ex.aB l))] []=some (.bool true,[]):=by
 rw[aD rfl Tryz.func36 rfl rfl];simp;rw[aS (EQ l) l.length (by simp[EQ])]
 ·rw[aG];simp[EQ]
 ·intro i hi;have h3:=zX hi;have hc:=ih _ (zU h3);have r2:=Ex.aO h3;generalize l[i]=a at h3 hc r2;have w2:IntKind.i64.wrap ((i:Int)+1)=i+1:=wrO;rw[Ex.aA]at hc r2;simp[EQ,hi,r2,hc,w2]
theorem AN7:∀ (e:Ex),e.fat→aH C0 67 [.i (.agg e.cells), .i (.agg e.cells)] []=some (.bool true,[]):=by
 intro e
 induction e using Ex.ind with
 | h k c v ks ih =>
  intro hf;have hf':=(Ex.rX _).1 hf;exact AYB (APP hf'.1 fun a ha=>ih a ha (hf'.2 a ha))
theorem AN5 (l:List Ex) (hl:l.length<9223372036854775808) (hf:∀ a∈l,a.fat):aH C0 36 [.i (.isl (Ex.aB l)), .i (.isl (Ex.aB l))] []=some (.bool true,[]):=APP hl fun a ha=>AN7 a (hf a ha)
def HD (l:List Ex) (k:Int) (i:Nat):AS :=
 { env:=[(0, .i (.isl (Ex.aB (Ex.kT k l)))),(1, .int (k+4*(Ex.aL (l.take i):Nat))),(4, .int 0),(5, .int i),(9,jk i (.bool true)),(18,jk i (.bool false)),(27,jk i (.bool false)),(39,jk i (.bool false)),(49,jk i (.bool false)),(60,jk i (.bool false))],st:=[] }
theorem ADO {l:List Ex} {k:Int} (hk:0≤k) (hb:k+4*(Ex.aL l:Nat)<1000000000000) (ih:∀ a∈l,∀ k:Int,0≤k→k+4*(Ex.aL a.kids:Nat)<1000000000000→aH C0 43 [.i (.isl (Ex.aB (Ex.kT k a.kids))), .int k] []=some (.int (k+4*(Ex.aL a.kids:Nat)),[])) :
 aH C0 43 [.i (.isl (Ex.aB (Ex.kT k l))), .int k] []=some (.int (k+4*(Ex.aL l:Nat)),[]):=by
 rw[aD rfl Tryz.func43 rfl rfl];have hlen:=Ex.I6 l k;have hsl:=Ex.bN l;simp;rw[aS (HD l k) l.length (by simp[HD,Ex.aL])]
 ·rw[aG];have hT:l.take l.length=l:=zY (by simp);simp[HD,hlen,hT]
 ·intro i hi;have h3:=zX hi;have r2:=Ex.aO (Ex.V8 l k h3);have hz:=K8 l h3;have hmono:=O9 l (i+1);have hm:=zU h3;rw[Ex.size_eq]at hz;generalize hq:k+4*((Ex.aL (l.take i):Nat):Int)=q at r2;have hc:=ih _ hm (q+1+1+1+1) (by omega) (by omega);generalize l[i]=a at h3 r2 hc hz;rw[Ex.L8]at r2;have w2:IntKind.i64.wrap ((i:Int)+1)=i+1:=wrO;have w3:IntKind.i64.wrap (q+1)=q+1:=wrO;have w4:IntKind.i64.wrap (q+1+1)=q+1+1:=wrO;have w5:IntKind.i64.wrap (q+1+1+1)=q+1+1+1:=wrO;have w6:IntKind.i64.wrap (q+1+1+1+1)=q+1+1+1+1:=wrO;have hn:k+4*((Ex.aL (l.take (i+1)):Nat):Int)=q+1+1+1+1+4*(Ex.aL a.kids:Nat):=by rw[hz];push_cast;omega
  have hneg:¬ q+1+1+1+1+4*((Ex.aL a.kids:Nat):Int)<0:=by omega
  simp[HD,hlen,hi,r2,hc,hq,hn,w2,w3,w4,w5,w6,hneg]
theorem AMT:∀ (e:Ex) (k:Int),0≤k→k+4*(Ex.aL e.kids:Nat)<1000000000000→aH C0 43 [.i (.isl (Ex.aB (Ex.kT k e.kids))), .int k] []=some (.int (k+4*(Ex.aL e.kids:Nat)),[]):=by
 intro e
 induction e using Ex.ind with
 | h k c v ks ih =>
  intro k hk hb;exact ADO hk hb ih
end Go.Proofs.YtgiepjdnkonkgaaGreat
namespace Go.Av
mutual
def Pn.fat:Pn→Prop
 | .mk _ _ es cs ks=>es.length<9223372036854775808∧(∀ e∈es,e.fat)∧cs.length<9223372036854775808∧ks.length<9223372036854775808∧Pn.AIN ks
def Pn.AIN:List Pn→Prop
 | []=>True
 | p::ps=>p.fat∧Pn.AIN ps
end
theorem Pn.EB:∀ (l:List Pn),Pn.AIN l↔∀ p∈l,p.fat
 | []=>by simp[Pn.AIN]
 | p::ps=>by simp[Pn.AIN,Pn.EB ps]
theorem Pn.rX (p:Pn):p.fat↔p.exprs.length<9223372036854775808∧(∀ e∈p.exprs,e.fat)∧p.cols.length<9223372036854775808∧p.kids.length<9223372036854775808∧∀ a∈p.kids,a.fat:=by
 cases p;simp[Pn.fat,Pn.EB]
end Go.Av
namespace Go.Proofs.YtgiepjdnkonkgaaGreat.P
open Go Go.Av
set_option maxRecDepth 4000
set_option maxHeartbeats 4000000
def TIX (l:List Int) (i:Nat):AS :=
 { env:=[(0, .i (.isl (aF l))),(2, .nils),(3, .osl 0 1 0 l.length),(4, .int i),(11,jk i (.bool true))],st:=[some (.arr 1 (aF (l.take i)++List.replicate (l.length-i) [.int 0]))] }
def EIX (l:List Int) (i:Nat):AS :=
 { env:=[(0, .i (.isl (aF l))),(1, .i (.isl (aF l))),(4, .bool false),(5, .int i),(10, .bool false),(14,jk i (.bool true)),(25,jk i (.bool false))],st:=[] }
theorem rZ (l:List Int) (hl:l.length<9223372036854775808):aH C0 37 [.i (.isl (aF l)), .i (.isl (aF l))] []=some (.bool true,[]):=by
 rw[aD rfl Tryz.func37 rfl rfl];simp;rw[aS (EIX l) l.length (by simp[EIX])]
 ·rw[aG];simp[EIX]
 ·intro i hi;have h3:=zX hi;have r2:=aX h3;generalize l[i]=a at h3 r2;have w2:IntKind.i64.wrap ((i:Int)+1)=i+1:=wrO;simp[EIX,hi,r2,w2]
theorem AIR {p:Pn} (h1:aH C0 36 [.i (.isl (Ex.aB p.exprs)), .i (.isl (Ex.aB p.exprs))] []=some (.bool true,[])) (h2:aH C0 37 [.i (.isl (aF p.cols)), .i (.isl (aF p.cols))] []=some (.bool true,[])) (h3:aH C0 38 [.i (.isl (Pn.aB p.kids)), .i (.isl (Pn.aB p.kids))] []=some (.bool true,[])) :
 aH C0 10 [.i (.agg p.cells), .i (.agg p.cells)] []=some (.bool true,[]):=by
 rw[aD rfl Tryz.func10 rfl rfl,Pn.aA];simp[h1,h2,h3]
def EPS (l:List Pn) (i:Nat):AS :=
 { env:=[(0, .i (.isl (Pn.aB l))),(1, .i (.isl (Pn.aB l))),(4, .bool false),(5, .int i),(10, .bool false),(14,jk i (.bool true)),(26,jk i (.bool false))],st:=[] }
theorem AE2 {l:List Pn} (hl:l.length<9223372036854775808) (ih:∀ a∈l,aH C0 10 [.i (.agg a.cells), .i (.agg a.cells)] []=some (.bool true,[])):aH C0 38 [.i (.isl (Pn.aB l)), .i (.isl (Pn.aB l))] []=some (.bool true,[]):=by
 rw[aD rfl Tryz.func38 rfl rfl];simp;rw[aS (EPS l) l.length (by simp[EPS])]
 ·rw[aG];simp[EPS]
 ·intro i hi;have h3:=zX hi;have hc:=ih _ (zU h3);have r2:=Pn.aO h3;generalize l[i]=a at h3 hc r2;have w2:IntKind.i64.wrap ((i:Int)+1)=i+1:=wrO;rw[Pn.aA]at hc r2;simp[EPS,hi,r2,hc,w2]
theorem BI:∀ (p:Pn),p.fat→aH C0 10 [.i (.agg p.cells), .i (.agg p.cells)] []=some (.bool true,[]):=by
 intro p
 induction p using Pn.ind with
 | h k t es cs ks ih =>
  intro hf;obtain⟨h1,h2,h3,h4,h5⟩:=(Pn.rX _).1 hf;exact AIR (AN5 es h1 h2) (rZ cs h3) (AE2 h4 fun a ha=>ih a ha (h5 a ha))
def zpw:List IV:=[.int 0, .int 0, .isl [], .isl [], .isl []]
end Go.Proofs.YtgiepjdnkonkgaaGreat.P
namespace Go.Av
mutual
def Pn.ms:Pn→Nat
 | .mk _ _ es cs ks=>1+(Ex.aL es+(cs.length+Pn.msL ks))
def Pn.msL:List Pn→Nat
 | []=>0
 | p::l=>p.ms+Pn.msL l
end
def Pn.meas (p:Pn):Nat:=Ex.aL p.exprs+(p.cols.length+Pn.msL p.kids)
theorem Pn.AM4 (p:Pn):p.ms=1+p.meas:=by cases p;simp[Pn.ms,Pn.meas,Pn.exprs,Pn.cols,Pn.kids]
theorem Pn.AP6 (p:Pn):1≤p.ms:=by rw[Pn.AM4];omega
theorem Pn.vT:∀ (l:List Pn),l.length≤Pn.msL l
 | []=>by simp
 | p::l=>by have:=Pn.vT l;have:=Pn.AP6 p;simp only[zP,Pn.msL];omega
theorem Pn.AHG:∀ {l:List Pn} {p:Pn},p∈l→p.ms≤Pn.msL l
 | a::l,p,h=>by
  simp only[Pn.msL]
  rcases zS.1 h with rfl|h
  ·omega
  ·have:=Pn.AHG h;omega
theorem AHF (l:List Pn) {i:Nat} {a:Pn} (h:l[i]?=some a):Pn.msL (l.take (i+1))=Pn.msL (l.take i)+a.ms:=by
 induction l generalizing i with
 | nil=>simp at h
 | cons b l ih =>
  cases i with
  | zero=>simp at h;subst h;simp[Pn.msL]
  | succ i=>have:=ih (i:=i) (by simpa using h);simp only[yR,Pn.msL]at this ⊢;omega
theorem AM5 (l:List Pn) (i:Nat):Pn.msL (l.take i)≤Pn.msL l:=by
 induction l generalizing i with
 | nil=>simp[Pn.msL]
 | cons b l ih =>
  cases i with
  | zero=>simp[Pn.msL]
  | succ i=>simp only[yR,Pn.msL];have:=ih i;omega
theorem I4:∀ (l:List Pn) (i:Nat),i≤l.length→i≤Pn.msL (l.take i)
 | [],i,h=>by simp at h;subst h;simp
 | a::l,0,_=>by simp
 | a::l,i+1,h=>by
  have:=I4 l i (by simpa using h);have:=Pn.AP6 a;simp only[yR,Pn.msL];omega
theorem Pn.ACE:∀ (p:Pn),p.meas<100000000→p.thin:=by
 intro p
 induction p using Pn.ind with
 | h k t es cs ks ih =>
  intro h;simp only[Pn.meas,Pn.exprs,Pn.cols,Pn.kids]at h;have h1:=Ex.bN es;have h2:=Pn.vT ks;refine(Pn.bM _).2 ⟨by simp only[Pn.exprs];omega,fun e he=>Ex.gF e (by have:=Ex.jE (show e∈es from he);omega),by simp only[Pn.cols];omega,by simp only[Pn.kids];omega,fun a ha=>ih a ha ?_⟩;have h3:=Pn.AHG (show a∈ks from ha);rw[Pn.AM4]at h3;omega
theorem VC {left:Int} {a b:Nat} (h:0≤cB left a):cB (cB left a) b=cB left (a+b):=by
 unfold cB at h ⊢;by_cases ha:(a:Int)≤left
 ·rw[if_pos ha]at h ⊢;by_cases hb:(b:Int)≤left-a
  ·rw[if_pos hb,if_pos (by omega)];omega
  ·rw[if_neg hb,if_neg (by omega)]
 ·rw[if_neg ha]at h;omega
theorem uJ {left:Int} {a:Nat} (h:cB left a<0) (b:Nat):cB left a=-1∧cB left (a+b)=-1:=by
 unfold cB at h ⊢;by_cases ha:(a:Int)≤left
 ·rw[if_pos ha]at h;omega
 ·rw[if_neg ha,if_neg (by omega)];exact⟨rfl,rfl⟩
theorem QW {left:Int} {a:Nat} (h:0≤left):cB left a≤left:=by
 unfold cB;split<;>omega
end Go.Av
namespace Go.Proofs.YtgiepjdnkonkgaaGreat.P
open Go Go.Av
set_option maxRecDepth 4000
set_option maxHeartbeats 2000000
theorem Q5 (l:List Int) (hl:l.length<9223372036854775808) (left:Int) (h0:0≤left) (h1:left<1000000000):aH C0 19 [.i (.isl (aF l)), .int left] []=some (.int (cB left l.length),[]):=by
 rw[aD rfl Tryz.func19 rfl rfl];have w1:IntKind.i64.wrap (left-l.length)=left-l.length:=wrO;by_cases hc:left-l.length<0
 ·have:¬ ((l.length:Nat):Int)≤left:=by omega
  simp[w1,hc,cB,this]
 ·have:((l.length:Nat):Int)≤left:=by omega
  simp[w1,hc,cB,this]
theorem AVQ {p:Pn} {left:Int} (h1:aH C0 18 [.i (.isl (Ex.aB p.exprs)), .int left] []=some (.int (cB left (Ex.aL p.exprs)),[]))
 (h2:0≤cB left (Ex.aL p.exprs)→aH C0 19 [.i (.isl (aF p.cols)), .int (cB left (Ex.aL p.exprs))] []=some (.int (cB left (Ex.aL p.exprs+p.cols.length)),[]))
 (h3:0≤cB left (Ex.aL p.exprs+p.cols.length)→aH C0 20 [.i (.isl (Pn.aB p.kids)), .int (cB left (Ex.aL p.exprs+p.cols.length))] []=some (.int (cB left (Ex.aL p.exprs+p.cols.length+Pn.msL p.kids)),[])) :
 aH C0 4 [.i (.agg p.cells), .int left] []=some (.int (cB left p.meas),[]):=by
 rw[aD rfl Tryz.func4 rfl rfl,Pn.aA];have hm:p.meas=Ex.aL p.exprs+p.cols.length+Pn.msL p.kids:=by unfold Pn.meas;omega
 rw[hm];by_cases c1:cB left (Ex.aL p.exprs)<0
 ·obtain⟨e1,e2⟩:=uJ c1 (p.cols.length+Pn.msL p.kids);rw[← Nat.add_assoc]at e2;simp[h1,c1,e2]
 ·have h2:=h2 (by omega);by_cases c2:cB left (Ex.aL p.exprs+p.cols.length)<0
  ·obtain⟨e1,e2⟩:=uJ c2 (Pn.msL p.kids);simp[h1,c1,h2,c2,e2]
  ·have h3:=h3 (by omega);by_cases c3:cB left (Ex.aL p.exprs+p.cols.length+Pn.msL p.kids)<0
   ·obtain⟨e1,e2⟩:=uJ c3 0;simp[h1,c1,h2,c2,h3,c3,e1]
   ·simp[h1,c1,h2,c2,h3,c3]
def szJ (l:List Pn) (left:Int) (i:Nat):Int:=left-l.length-(Pn.msL (l.take i)-i)
def SZP (l:List Pn) (left:Int) (i:Nat):AS :=
 { env:=[(0, .i (.isl (Pn.aB l))),(1, .int (szJ l left i)),(4, .int 0),(5, .int i),(11, .bool false),(15,jk i (.bool true)),(25,jk i (.bool false))],st:=[] }
theorem AG0 {l:List Pn} {left:Int} (h0:0≤left) (h1:left<1000000000) (hl:l.length<9223372036854775808)
 (ih:∀ a∈l,∀ left:Int,0≤left→left<1000000000→aH C0 4 [.i (.agg a.cells), .int left] []=some (.int (cB left (a.meas)),[])) :
 aH C0 20 [.i (.isl (Pn.aB l)), .int left] []=some (.int (cB left (Pn.msL l)),[]):=by
 rw[aD rfl Tryz.func20 rfl rfl];have w1:IntKind.i64.wrap (left-l.length)=left-l.length:=wrO;have hsl:=Pn.vT l;by_cases hc:left-l.length<0
 ·have:¬ ((Pn.msL l:Nat):Int)≤left:=by omega
  simp[w1,hc,cB,this]
 simp[w1,hc]
 have hpre:∀ i,i<l.length→∃ a,l[i]?=some a∧a∈l∧Pn.msL (l.take (i+1))=Pn.msL (l.take i)+(1+a.meas)∧fT (Pn.aB l) i=some a.cells:=by
  intro i hi;have h3:=zX hi;refine⟨_,h3,zU h3,?_,Pn.aO h3⟩;rw[AHF l h3,Pn.AM4]
 have hround:∀ i,i<l.length→0≤szJ l left i→∃ a:Pn,fT (Pn.aB l) i=some a.cells∧aH C0 4 [.i (.agg a.cells), .int (szJ l left i)] []=some (.int (if 0≤szJ l left (i+1)then szJ l left (i+1)else -1),[]):=by
  intro i hi hs;obtain⟨a,h3,hm,hz,hn⟩:=hpre i hi;have hti:=I4 l i (by omega);refine⟨a,hn,?_⟩;rw[ih a hm _ hs (by unfold szJ;omega)];congr 2;unfold cB;congr 1;by_cases hle:((a.meas:Nat):Int)≤szJ l left i
  ·rw[if_pos hle,if_pos (by unfold szJ at hle ⊢;omega)];unfold szJ;omega
  ·rw[if_neg hle,if_neg (by unfold szJ at hle ⊢;omega)]
 rcases EA (fun i=>0≤szJ l left (i+1)) l.length with hall|⟨j,hj,hlt,hbad⟩
 ·rw[aS (SZP l left) l.length (by simp[SZP,szJ,Pn.msL])]
  ·rw[aG]
   have hfin:cB left (Pn.msL l)=szJ l left l.length:=by
    have hT:l.take l.length=l:=zY (by simp)
    have hge:0≤szJ l left l.length:=by
     cases hn:l.length with
     | zero=>unfold szJ;rw[hn];simp[Pn.msL];omega
     | succ n=>exact hn ▸ hall n (by omega)
    unfold cB;unfold szJ at hge ⊢;rw[hT]at hge ⊢;rw[if_pos (by omega)];omega
   rw[hfin];simp[SZP]
  ·intro i hi
   have hs:0≤szJ l left i:=by
    cases i with
    | zero=>unfold szJ;simp[Pn.msL];omega
    | succ i=>exact hall i (by omega)
   obtain⟨a,hn,hc⟩:=hround i hi hs;have hs1:=hall i hi;have hs1:0≤szJ l left (i+1):=hs1;rw[if_pos hs1]at hc;have w2:IntKind.i64.wrap ((i:Int)+1)=i+1:=wrO;rw[Pn.aA]at hn hc;simp[SZP,hi,hn,hc,w2,show ¬ szJ l left (i+1)<0 by omega]
 ·have hsl2:cB left (Pn.msL l)=-1:=by
   have hm:=AM5 l (j+1);have hbad:¬ 0≤szJ l left (j+1):=hbad;obtain⟨a,h3,_,_,_⟩:=hpre j hj
   have hrest:Pn.msL (l.take (j+1))+(l.length-(j+1))≤Pn.msL l:=by
    have e1:Pn.msL l=Pn.msL (l.take (j+1))+Pn.msL (l.drop (j+1)):=by
     have key:∀ (n:Nat) (l:List Pn),Pn.msL l=Pn.msL (l.take n)+Pn.msL (l.drop n):=by
      intro n
      induction n with
      | zero=>intro l;simp[Pn.msL]
      | succ n ih=>intro l;cases l with
       | nil=>simp[Pn.msL]
       | cons b l=>simp only[yR,zC2,Pn.msL];have:=ih l;omega
     exact key _ _
    have e2:=Pn.vT (l.drop (j+1));simp at e2;omega
   unfold cB;unfold szJ at hbad;rw[if_neg (by omega)]
  rw[hsl2,aS (SZP l left) j (by simp[SZP,szJ,Pn.msL])]
  ·rw[aG]
   have hs:0≤szJ l left j:=by
    cases j with
    | zero=>unfold szJ;simp[Pn.msL];omega
    | succ j=>exact hlt j (by omega)
   obtain⟨a,hn,hc⟩:=hround j hj hs;have hbad:¬ 0≤szJ l left (j+1):=hbad;rw[if_neg hbad]at hc;rw[Pn.aA]at hn hc;simp[SZP,hj,hn,hc]
  ·intro i hi
   have hs:0≤szJ l left i:=by
    cases i with
    | zero=>unfold szJ;simp[Pn.msL];omega
    | succ i=>exact hlt i (by omega)
   obtain⟨a,hn,hc⟩:=hround i (by omega) hs;have hs1:0≤szJ l left (i+1):=hlt i hi;rw[if_pos hs1]at hc;have w2:IntKind.i64.wrap ((i:Int)+1)=i+1:=wrO;rw[Pn.aA]at hn hc;simp[SZP,show i<l.length by omega,hn,hc,w2,show ¬ szJ l left (i+1)<0 by omega]
theorem AFZ:∀ (p:Pn),p.fat→∀ left:Int,0≤left→left<1000000000→aH C0 4 [.i (.agg p.cells), .int left] []=some (.int (cB left p.meas),[]):=by
 intro p
 induction p using Pn.ind with
 | h k t es cs ks ih =>
  intro hf left h0 h1;obtain⟨f1,f2,f3,f4,f5⟩:=(Pn.rX _).1 hf;refine AVQ (AVP _ f1 f2 left h0 h1) (fun h=>?_) fun h=>?_
  ·rw[Q5 _ f3 _ h (by have:=QW (a:=Ex.aL es) h0;simp only[Pn.exprs];omega),VC h]
  ·rw[AG0 h (by have:=QW (a:=Ex.aL es+cs.length) h0;simp only[Pn.exprs,Pn.cols];omega) f4 fun a ha left h0 h1=>ih a ha (f5 a ha) left h0 h1,VC h]
end Go.Proofs.YtgiepjdnkonkgaaGreat.P
namespace Go.Av.Mk
open Go Go.Av
theorem J4 {W n i:Nat} {us V:List Value} (hi:i<n) (hu:W*n≤us.length) (hV:V.length=W):(us.take (W*i)++V++us.drop (W*(i+1))).take (W*n)=us.take (W*i)++V++(us.take (W*n)).drop (W*(i+1)):=by
 have m1:W*(i+1)=W*i+W:=by rw[zC];omega
 have m2:W*(i+1)≤W*n:=zD W (by omega);have hl:(us.take (W*i)++V).length=W*(i+1):=by simp;omega
 rw[xM,hl,zY (by rw[hl];omega),xW]
end Go.Av.Mk
namespace Go.Proofs.YtgiepjdnkonkgaaGreat.P
open Go Go.Av Go.Av.Mk
set_option maxRecDepth 4000
set_option maxHeartbeats 1000000
theorem AH8:∃ c0 c1 cc body c3 cend,MLoop C0 41 1 19 (GS 41) Tryz.f41 c0 c1 cc body c3 cend∧∀ n:Int,X3 C0 AS0 AUC AP5 1 19 body n:=by
 refine⟨_,_,_,_,_,_,{ func:=Tryz.func41,code:=rfl,ntmps:=rfl,big:=by omega,results:=rfl,ok0:=⟨by kernel_rfl,rfl⟩,ok1:=⟨by kernel_rfl,rfl⟩,okc:=⟨by kernel_rfl,rfl⟩,ok3:=⟨by kernel_rfl,rfl⟩,oke:=⟨by kernel_rfl,rfl⟩,x0:=?_,x1:=?_,xc:=?_,xo:=?_,x3:=?_,xe:=?_,xf:=?_,nil:=?_ },?_⟩
 ·intro n R q;simp[MS]
 ·intro n R q;simp[MS]
 ·intro n i R q hi;simp[MS,hi]
 ·intro n R q;simp[MS]
 ·intro n i R q hi;have w6:IntKind.i64.wrap ((i:Int)+1)=i+1:=wrO;simp[MS,w6]
 ·intro n R q;simp[MS]
 ·intro n R q;simp[MS]
 ·intro k;rw[aD rfl Tryz.func41 rfl rfl];simp;rw[aG];simp
 ·intro x b N n i us vs q F a w hin g hvs hT hnd hbF h0 h1;have hlen:=g.len;have hfit:=g.fit;have h1:q+1<1000000000000:=h1
  cases hT with
  | @lit v _ vs' _ ho hT =>
   cases hT
   have hR:=jQ 1 n us i hin;rw[hvs]at hR;have hset:=pY 1 n us [.int .i64 q] i hin (by omega) rfl;simp only[yS,zA7]at hR hset;have w2:IntKind.i64.wrap (q+1)=q+1:=wrO;generalize hRR:rowsOf 1 n us=R at hR hset;refine wp_mono (AN3 dG (G:=GS 41) (R':=R.set i [.int q]) (q':=q+1) (j9:=.junk) g hRR (by kernel_rfl) rfl (by simp[MS,hin,hR,w2]) hset) ?_;rintro e a' w' ⟨rfl,us',g',e',f'⟩;refine⟨rfl,us',[.int .i64 q],g',?_, .lit rfl .nil,f'⟩;rw[e'];exact J4 hin (by omega) rfl
theorem Y6:vH C0 AS0 AUC AP5 41:=by
 obtain⟨c0,c1,cc,body,c3,cend,L,hR⟩:=AH8;exact vH.of dG (by decide) L (fun _=>rfl) (by omega) (fun _=>zO _) hR
theorem AbT {w:World} {a:Ex} {vs:List Value} {F:List Nat} (h:TCells w a.cells vs F) :
 ∃ u,vs=[.int .i64 a.kind, .int .i64 a.col, .bool a.val.null, .int .i64 a.val.n,u]∧TCells w [.isl (Ex.aB a.kids)] [u] F:=by
 rw[Ex.aA]at h
 cases h with
 | @lit _ _ v1 _ o1 h1 =>
  cases h1 with
  | @lit _ _ v2 _ o2 h2 =>
   cases h2 with
   | @lit _ _ v3 _ o3 h3 =>
    cases h3 with
    | @lit _ _ v4 _ o4 h4 =>
     have hl:=h4.length
     cases v4 with
     | nil=>simp at hl
     | cons u r =>
      cases r with
      | cons=>simp at hl
      | nil=>exact⟨u,rfl,h4⟩
theorem AN2:∃ c0 c1 cc body c3 cend,MLoop C0 40 5 52 (GS 40) Tryz.f40 c0 c1 cc body c3 cend∧∀ x:Ex,X3 C0 Ex.cells Ex.wH exZ 5 52 body x:=by
 have hl:∃ c0 c1 cc body c3 cend,MLoop C0 40 5 52 (GS 40) Tryz.f40 c0 c1 cc body c3 cend∧((∀ x:Ex,(∀ (w:World) (v:Value) (F:List Nat) (k:Int),TCells w [.isl (Ex.aB x.kids)] [v] F→F.Nodup→0≤k→k+(bY exZ x.kids:Nat)<1000000000000→Calls Tryz.prog 40 #[v, .int .i64 k] w (AO8 Ex.cells Ex.wH exZ w v F k x.kids))→X3 C0 Ex.cells Ex.wH exZ 5 52 body x)):=by
  refine⟨_,_,_,_,_,_,{ func:=Tryz.func40,code:=rfl,ntmps:=rfl,big:=by omega,results:=rfl,ok0:=⟨by kernel_rfl,rfl⟩,ok1:=⟨by kernel_rfl,rfl⟩,okc:=⟨by kernel_rfl,rfl⟩,ok3:=⟨by kernel_rfl,rfl⟩,oke:=⟨by kernel_rfl,rfl⟩,x0:=?_,x1:=?_,xc:=?_,xo:=?_,x3:=?_,xe:=?_,xf:=?_,nil:=?_ },?_⟩
  ·intro n R q;simp[MS]
  ·intro n R q;simp[MS]
  ·intro n i R q hi;simp[MS,hi]
  ·intro n R q;simp[MS]
  ·intro n i R q hi;have w6:IntKind.i64.wrap ((i:Int)+1)=i+1:=wrO;simp[MS,w6]
  ·intro n R q;simp[MS]
  ·intro n R q;simp[MS]
  ·intro k;rw[aD rfl Tryz.func40 rfl rfl];simp;rw[aG];simp
  ·intro x ih b N n i us vs q F a w hin g hvs hT hnd hbF h0 h1;have hlen:=g.len;have hfit:=g.fit;have hsz:exZ x=4+bY exZ x.kids:=by rw[vO];unfold exZ;rw[Ex.size_eq];omega
   rw[hsz]at h1;obtain⟨u,rfl,hu⟩:=AbT hT;have hR:=jQ 5 n us i hin;rw[hvs]at hR;have hset:=pY 5 n us [.int .i64 q, .int .i64 (q+1), .bool ((q+1+1).tmod 3 == 0), .int .i64 (q+1+1+1),u] i hin (by omega) rfl;simp only[yS,zA7]at hR hset;have w2:IntKind.i64.wrap (q+1)=q+1:=wrO;have w3:IntKind.i64.wrap (q+1+1)=q+1+1:=wrO;have w4:IntKind.i64.wrap (q+1+1+1)=q+1+1+1:=wrO;have w5:IntKind.i64.wrap (q+1+1+1+1)=q+1+1+1+1:=wrO;have rr:=g.to;generalize hRR:rowsOf 5 n us=R at hR hset rr;have hRl:R.length=n:=by rw[← hRR,fG]
   have hRs:∀ r:List IV,fT (R.set i r) i=some r:=fun r=>by rw[fA,zE2 (by omega)]
   refine wp_seq (wp_mono (oI dG (oF b N) (G:=GS 40) (S':=MS 5 n (R.set i [.int q, .int x.col, .bool x.val.null, .int x.val.n, .lit u]) q .junk (.int i) .junk) (e:=.normal) (by kernel_rfl) (by simp[MS,hin,hR,hRs,w2,w3,w4,w5]) rr) ?_);rintro _ x1 y1 ⟨rfl,r1⟩;refine wp_seq (wp_mono (oI dG (oF b N) (G:=GS 40) (S':=MS 5 n (R.set i [.int q, .int x.col, .bool x.val.null, .int x.val.n, .lit u]) (q+1) .junk (.int i) .junk) (e:=.normal) (by kernel_rfl) (by simp[MS,hin,hR,hRs,w2,w3,w4,w5]) r1) ?_);rintro _ x2 y2 ⟨rfl,r2⟩;refine wp_seq (wp_mono (oI dG (oF b N) (G:=GS 40) (S':=MS 5 n (R.set i [.int q, .int (q+1), .bool x.val.null, .int x.val.n, .lit u]) (q+1) .junk (.int i) .junk) (e:=.normal) (by kernel_rfl) (by simp[MS,hin,hR,hRs,w2,w3,w4,w5]) r2) ?_);rintro _ x3 y3 ⟨rfl,r3⟩;refine wp_seq (wp_mono (oI dG (oF b N) (G:=GS 40) (S':=MS 5 n (R.set i [.int q, .int (q+1), .bool x.val.null, .int x.val.n, .lit u]) (q+1+1) .junk (.int i) .junk) (e:=.normal) (by kernel_rfl) (by simp[MS,hin,hR,hRs,w2,w3,w4,w5]) r3) ?_);rintro _ x4 y4 ⟨rfl,r4⟩;refine wp_seq (wp_mono (oI dG (oF b N) (G:=GS 40) (S':=MS 5 n (R.set i [.int q, .int (q+1), .bool ((q+1+1).tmod 3 == 0), .int x.val.n, .lit u]) (q+1+1) .junk (.int i) .junk) (e:=.normal) (by kernel_rfl) (by simp[MS,hin,hR,hRs,w2,w3,w4,w5]) r4) ?_);rintro _ x5 y5 ⟨rfl,r5⟩;refine wp_seq (wp_mono (oI dG (oF b N) (G:=GS 40) (S':=MS 5 n (R.set i [.int q, .int (q+1), .bool ((q+1+1).tmod 3 == 0), .int x.val.n, .lit u]) (q+1+1+1) .junk (.int i) .junk) (e:=.normal) (by kernel_rfl) (by simp[MS,hin,hR,hRs,w2,w3,w4,w5]) r5) ?_);rintro _ x6 y6 ⟨rfl,r6⟩;refine wp_seq (wp_mono (oI dG (oF b N) (G:=GS 40) (S':=MS 5 n (R.set i [.int q, .int (q+1), .bool ((q+1+1).tmod 3 == 0), .int (q+1+1+1), .lit u]) (q+1+1+1) .junk (.int i) .junk) (e:=.normal) (by kernel_rfl) (by simp[MS,hin,hR,hRs,w2,w3,w4,w5]) r6) ?_);rintro _ x7 y7 ⟨rfl,r7⟩;refine wp_seq (wp_mono (oI dG (oF b N) (G:=GS 40) (S':=MS 5 n (R.set i [.int q, .int (q+1), .bool ((q+1+1).tmod 3 == 0), .int (q+1+1+1), .lit u]) (q+1+1+1+1) .junk (.int i) .junk) (e:=.normal) (by kernel_rfl) (by simp[MS,hin,hR,hRs,w2,w3,w4,w5]) r7) ?_);rintro _ x8 y8 ⟨rfl,r8⟩;obtain⟨us8,g8,e8,f8⟩:=g.of (vs:=us.take (5*i)++[.int .i64 q, .int .i64 (q+1), .bool ((q+1+1).tmod 3 == 0), .int .i64 (q+1+1+1),u]++us.drop (5*(i+1))) (q':=q+1+1+1+1) (i':=i) r8.1 rfl rfl rfl (by rw[← hset];rfl);rw[J4 (W:=5) (us:=us) (V:=[.int .i64 q, .int .i64 (q+1), .bool ((q+1+1).tmod 3 == 0), .int .i64 (q+1+1+1),u]) hin (by omega) rfl]at e8;have hR8:=jQ 5 n us8 i hin
   have hrow8:(us8.drop (5*i)).take 5=[.int .i64 q, .int .i64 (q+1), .bool ((q+1+1).tmod 3 == 0), .int .i64 (q+1+1+1),u]:=by
    have:(us8.drop (5*i)).take 5=((us8.take (5*n)).drop (5*i)).take 5:=by rw[xW,zK,yM (by omega)]
    rw[this,e8,yZ,zB0 (by simp;omega)];rfl
   rw[hrow8]at hR8;simp only[yS,zA7]at hR8
   refine wp_mono (wC dG (s:=bY exZ x.kids) (K:=fun _ w2=>TCells w2 [.isl ((fP Ex.wH exZ (q+1+1+1+1) x.kids).map Ex.cells)] [u] F) (u:=u) (Fu:=F) g8 (os1:=[_,_,_,_,_,_]) rfl (by kernel_rfl) (zO 1)
    (R1:=⟨upd (upd (upd (upd (upd (upd (aJ (MS 5 n (rowsOf 5 n us8) (q+1+1+1+1) .junk (.int i) .junk).env) 44 (.osl 0 5 0 n)) 45 (.int i)) 46 (.ownE 0 5 i 0)) 47 (.ownE 0 5 i 4)) 48 (.i (.lit u))) 49 (.int (q+1+1+1+1)),aR (MS 5 n (rowsOf 5 n us8) (q+1+1+1+1) .junk (.int i) .junk).st,[]⟩)
    (by simp[MS,hin,hR8]) rfl rfl rfl rfl rfl rfl (by decide) (by decide) (by decide) (by decide) (by decide) Tryz.func40 (by decide) (by intro h;cases h) ?_ hbF) ?_
   ·intro w1 f1
    have hu1:TCells w1 [.isl (Ex.aB x.kids)] [u] F:=hu.mono fun f hf=>by
     have hlt:=tlt hu f hf;rw[f1.same f (zI hlt f8.size) (by simp;intro e;subst e;exact hbF hf),f8.same f hlt (by simp;intro e;subst e;exact hbF hf)]
    refine(ih w1 u F _ hu1 hnd (by omega) (by push_cast at h1 ⊢;omega)).mono ?_;rintro en w2 ⟨p1,p2,p3,_⟩;exact⟨p1,p2,p3⟩
   ·rintro e a' w' ⟨rfl,us',g',e',w1,f1,f2,hK⟩;have hq:q+1+1+1+1+(bY exZ x.kids:Nat)=q+(exZ x:Nat):=by rw[hsz];push_cast;omega
    rw[hq]at g';refine⟨rfl,us',_,g',by rw[e',e8],?_,(f8.sub (by simp)).trans ((f1.sub (by simp)).trans (f2.sub fun f hf=>by simp[hf]))⟩;rw[Ex.L8,DX,Ex.bO];exact .lit rfl (.lit rfl (.lit rfl (.lit rfl hK)))
 obtain⟨c0,c1,cc,body,c3,cend,L,hR⟩:=hl;refine⟨c0,c1,cc,body,c3,cend,L,fun x=>?_⟩
 induction x using Ex.ind with
 | h kd cl vl l ih =>
  refine hR _ fun w v F k hT hnd hk0 hk1=>?_
  simp only[Ex.kids]at hT hk1 ⊢;rw[Ex.bO]at hT;exact QT dG (by decide) L (fun e=>by rw[Ex.aA];rfl) (by omega) ih hT hnd hk0 hk1 (by have:=uB (sz:=exZ) (fun e=>by unfold exZ;have:=Ex.nA e;omega) l;omega)
theorem APN:vH C0 Ex.cells Ex.wH exZ 40:=by
 obtain⟨c0,c1,cc,body,c3,cend,L,hR⟩:=AN2;exact vH.of dG (by decide) L (fun e=>by rw[Ex.aA];rfl) (by omega) (fun e=>by unfold exZ;have:=Ex.nA e;omega) hR
theorem one_cell {w:World} {c:IV} {cs:List IV} {vs:List Value} {F:List Nat} (h:TCells w (c::cs) vs F):∃ v r F1 F2,vs=v::r∧F=F1++F2∧TCells w [c] [v] F1∧TCells w cs r F2:=by
 have hl:=h.length
 cases vs with
 | nil=>simp at hl
 | cons v r =>
  obtain⟨F1,F2,hF,h1,h2⟩:=h.split 1;exact⟨v,r,F1,F2,rfl,hF,by simpa using h1,by simpa using h2⟩
theorem Ab8 {w:World} {p:Pn} {vs:List Value} {F:List Nat} (h:TCells w p.cells vs F) :
 ∃ u1 u2 u3 F1 F2 F3,vs=[.int .i64 p.kind, .int .i64 p.table,u1,u2,u3]∧F=F1++(F2++F3)∧TCells w [.isl (Ex.aB p.exprs)] [u1] F1∧TCells w [.isl (aF p.cols)] [u2] F2∧TCells w [.isl (Pn.aB p.kids)] [u3] F3:=by
 rw[Pn.aA]at h
 cases h with
 | @lit _ _ v1 _ o1 h1 =>
  cases h1 with
  | @lit _ _ v2 _ o2 h2 =>
   obtain⟨u1,r1,F1,G1,rfl,rfl,k1,h3⟩:=one_cell h2;obtain⟨u2,r2,F2,G2,rfl,rfl,k2,h4⟩:=one_cell h3;obtain⟨u3,r3,F3,G3,rfl,rfl,k3,h5⟩:=one_cell h4
   cases h5
   exact⟨u1,u2,u3,F1,F2,F3,rfl,by simp,k1,k2,k3⟩
theorem ALX:∃ c0 c1 cc body c3 cend,MLoop C0 42 5 48 (GS 42) Tryz.f42 c0 c1 cc body c3 cend∧∀ x:Pn,X3 C0 Pn.cells Pn.tQ Pn.mz 5 48 body x:=by
 have hl:∃ c0 c1 cc body c3 cend,MLoop C0 42 5 48 (GS 42) Tryz.f42 c0 c1 cc body c3 cend∧((∀ x:Pn,(∀ (w:World) (v:Value) (F:List Nat) (k:Int),TCells w [.isl (Pn.aB x.kids)] [v] F→F.Nodup→0≤k→k+(bY Pn.mz x.kids:Nat)<1000000000000→Calls Tryz.prog 42 #[v, .int .i64 k] w (AO8 Pn.cells Pn.tQ Pn.mz w v F k x.kids))→X3 C0 Pn.cells Pn.tQ Pn.mz 5 48 body x)):=by
  refine⟨_,_,_,_,_,_,{ func:=Tryz.func42,code:=rfl,ntmps:=rfl,big:=by omega,results:=rfl,ok0:=⟨by kernel_rfl,rfl⟩,ok1:=⟨by kernel_rfl,rfl⟩,okc:=⟨by kernel_rfl,rfl⟩,ok3:=⟨by kernel_rfl,rfl⟩,oke:=⟨by kernel_rfl,rfl⟩,x0:=?_,x1:=?_,xc:=?_,xo:=?_,x3:=?_,xe:=?_,xf:=?_,nil:=?_ },?_⟩
  ·intro n R q;simp[MS]
  ·intro n R q;simp[MS]
  ·intro n i R q hi;simp[MS,hi]
  ·intro n R q;simp[MS]
  ·intro n i R q hi;have w6:IntKind.i64.wrap ((i:Int)+1)=i+1:=wrO;simp[MS,w6]
  ·intro n R q;simp[MS]
  ·intro n R q;simp[MS]
  ·intro k;rw[aD rfl Tryz.func42 rfl rfl];simp;rw[aG];simp
  ·intro x ih b N n i us vs q F a w hin g hvs hT hnd hbF h0 h1;have hlen:=g.len;have hfit:=g.fit;have hsz:x.mz=2+(bY exZ x.exprs+(x.cols.length+bY Pn.mz x.kids)):=by rw[vO,vN];exact Pn.AHD x
   rw[hsz]at h1;obtain⟨u1,u2,u3,F1,F2,F3,rfl,rfl,t1,t2,t3⟩:=Ab8 hT;have nd1:=zJ.1 hnd;have nd2:=zJ.1 nd1.2.1;have b1:b ∉ F1:=fun h=>hbF (by simp[h])
   have b2:b ∉ F2:=fun h=>hbF (by simp[h])
   have b3:b ∉ F3:=fun h=>hbF (by simp[h])
   have d12:∀ f∈F1,f ∉ F2:=fun f h h'=>nd1.2.2 f h f (by simp[h']) rfl
   have d13:∀ f∈F1,f ∉ F3:=fun f h h'=>nd1.2.2 f h f (by simp[h']) rfl
   have d23:∀ f∈F2,f ∉ F3:=fun f h h'=>nd2.2.2 f h f h' rfl
   have hR:=jQ 5 n us i hin;rw[hvs]at hR;have hset:=pY 5 n us [.int .i64 q, .int .i64 (q+1),u1,u2,u3] i hin (by omega) rfl;simp only[yS,zA7]at hR hset;have w2:IntKind.i64.wrap (q+1)=q+1:=wrO;have w3:IntKind.i64.wrap (q+1+1)=q+1+1:=wrO;have rr:=g.to;generalize hRR:rowsOf 5 n us=R at hR hset rr;have hRl:R.length=n:=by rw[← hRR,fG]
   have hRs:∀ r:List IV,fT (R.set i r) i=some r:=fun r=>by rw[fA,zE2 (by omega)]
   refine wp_seq (wp_mono (oI dG (oF b N) (G:=GS 42) (S':=MS 5 n (R.set i [.int q, .int x.table, .lit u1, .lit u2, .lit u3]) q .junk (.int i) .junk) (e:=.normal) (by kernel_rfl) (by simp[MS,hin,hR,hRs,w2,w3]) rr) ?_);rintro _ x1 y1 ⟨rfl,r1⟩;refine wp_seq (wp_mono (oI dG (oF b N) (G:=GS 42) (S':=MS 5 n (R.set i [.int q, .int x.table, .lit u1, .lit u2, .lit u3]) (q+1) .junk (.int i) .junk) (e:=.normal) (by kernel_rfl) (by simp[MS,hin,hR,hRs,w2,w3]) r1) ?_);rintro _ x2 y2 ⟨rfl,r2⟩;refine wp_seq (wp_mono (oI dG (oF b N) (G:=GS 42) (S':=MS 5 n (R.set i [.int q, .int (q+1), .lit u1, .lit u2, .lit u3]) (q+1) .junk (.int i) .junk) (e:=.normal) (by kernel_rfl) (by simp[MS,hin,hR,hRs,w2,w3]) r2) ?_);rintro _ x3 y3 ⟨rfl,r3⟩;refine wp_seq (wp_mono (oI dG (oF b N) (G:=GS 42) (S':=MS 5 n (R.set i [.int q, .int (q+1), .lit u1, .lit u2, .lit u3]) (q+1+1) .junk (.int i) .junk) (e:=.normal) (by kernel_rfl) (by simp[MS,hin,hR,hRs,w2,w3]) r3) ?_);rintro _ x4 y4 ⟨rfl,r4⟩;obtain⟨us8,g8,e8,f8⟩:=g.of (vs:=us.take (5*i)++[.int .i64 q, .int .i64 (q+1),u1,u2,u3]++us.drop (5*(i+1))) (q':=q+1+1) (i':=i) r4.1 rfl rfl rfl (by rw[← hset];rfl);rw[J4 (W:=5) (us:=us) (V:=[.int .i64 q, .int .i64 (q+1),u1,u2,u3]) hin (by omega) rfl]at e8
   have rowU:∀ us9:List Value,us9.take (5*n)=us8.take (5*n)→fT (rowsOf 5 n us9) i=some [.int q, .int (q+1), .lit u1, .lit u2, .lit u3]:=by
    intro us9 e9;have hR8:=jQ 5 n us9 i hin
    have hrow8:(us9.drop (5*i)).take 5=[.int .i64 q, .int .i64 (q+1),u1,u2,u3]:=by
     have:(us9.drop (5*i)).take 5=((us9.take (5*n)).drop (5*i)).take 5:=by rw[xW,zK,yM (by omega)]
     rw[this,e9,e8,yZ,zB0 (by simp;omega)];rfl
    rw[hrow8]at hR8;exact hR8
   have keep:∀ {w1 w2:World} {cs:List IV} {vs:List Value} {A B:List Nat},Fr w1 w2 B→TCells w1 cs vs A→(∀ f∈A,f ∉ B)→TCells w2 cs vs A:=fun fr h hd=>h.mono fun f hf=>fr.same f (tlt h f hf) (hd f hf)
   have nb:∀ {A:List Nat},b ∉ A→∀ f∈A,f ∉ [b]:=fun h f hf hh=>h (by simp at hh;exact hh ▸ hf)
   have hR8:=rowU us8 rfl
   refine wp_seq (wp_mono (wC dG (s:=bY exZ x.exprs) (K:=fun _ w2=>TCells w2 [.isl ((fP Ex.wH exZ (q+1+1) x.exprs).map Ex.cells)] [u1] F1) (u:=u1) (Fu:=F1) g8 (os1:=[_,_,_,_,_,_]) rfl (by kernel_rfl) (zO 1)
    (R1:=⟨upd (upd (upd (upd (upd (upd (aJ (MS 5 n (rowsOf 5 n us8) (q+1+1) .junk (.int i) .junk).env) 26 (.osl 0 5 0 n)) 27 (.int i)) 28 (.ownE 0 5 i 0)) 29 (.ownE 0 5 i 2)) 30 (.i (.lit u1))) 31 (.int (q+1+1)),aR (MS 5 n (rowsOf 5 n us8) (q+1+1) .junk (.int i) .junk).st,[]⟩)
    (by simp[MS,hin,hR8]) rfl rfl rfl rfl rfl rfl (by decide) (by decide) (by decide) (by decide) (by decide) Tryz.func40 (by decide) (by intro h;cases h) ?_ b1) ?_)
   ·intro w1 f1;have hu1:=keep f1 (keep f8 t1 (nb b1)) (nb b1);rw[Ex.bO]at hu1;refine(APN x.exprs w1 u1 F1 _ hu1 nd1.1 (by omega) (by push_cast at h1 ⊢;omega)).mono ?_;rintro en w2 ⟨p1,p2,p3,_⟩;exact⟨p1,p2,p3⟩
   rintro e a9 y9 ⟨rfl,us9,g9,e9,wa,fa,fb,hK1⟩;have hR9:=rowU us9 e9;have t2a:=keep fb (keep fa (keep f8 t2 (nb b2)) (nb b2)) (fun f h h'=>d12 f h' h);have t3a:=keep fb (keep fa (keep f8 t3 (nb b3)) (nb b3)) (fun f h h'=>d13 f h' h)
   refine wp_seq (wp_mono (wC dG (s:=x.cols.length) (K:=fun _ w2=>TCells w2 [.isl ((tN (q+1+1+(bY exZ x.exprs:Nat)) x.cols).map AS0)] [u2] F2) (u:=u2) (Fu:=F2) g9 (os1:=[_,_,_,_,_,_]) rfl (by kernel_rfl) (zO 1)
    (R1:=⟨upd (upd (upd (upd (upd (upd (aJ (MS 5 n (rowsOf 5 n us9) (q+1+1+(bY exZ x.exprs:Nat)) .junk (.int i) .junk).env) 33 (.osl 0 5 0 n)) 34 (.int i)) 35 (.ownE 0 5 i 0)) 36 (.ownE 0 5 i 3)) 37 (.i (.lit u2))) 38 (.int (q+1+1+(bY exZ x.exprs:Nat))),aR (MS 5 n (rowsOf 5 n us9) (q+1+1+(bY exZ x.exprs:Nat)) .junk (.int i) .junk).st,[]⟩)
    (by simp[MS,hin,hR9]) rfl rfl rfl rfl rfl rfl (by decide) (by decide) (by decide) (by decide) (by decide) Tryz.func41 (by decide) (by intro h;cases h) ?_ b2) ?_)
   ·intro w1 f1;have hu1:=keep f1 t2a (nb b2);rw[mF]at hu1;refine(Y6 x.cols w1 u2 F2 _ hu1 nd2.1 (by omega) (by rw[lX];push_cast at h1 ⊢;omega)).mono ?_;rintro en w2 ⟨p1,p2,p3,_⟩;rw[lX]at p1;exact⟨p1,p2,p3⟩
   rintro e a10 y10 ⟨rfl,us10,g10,e10,wc,fc,fd,hK2⟩;have hR10:=rowU us10 (e10.trans e9);have k1a:=keep fd (keep fc hK1 (nb b1)) (fun f h h'=>d12 f h h');have t3b:=keep fd (keep fc t3a (nb b3)) (fun f h h'=>d23 f h' h)
   refine wp_mono (wC dG (s:=bY Pn.mz x.kids) (K:=fun _ w2=>TCells w2 [.isl ((fP Pn.tQ Pn.mz (q+1+1+(bY exZ x.exprs:Nat)+(x.cols.length:Nat)) x.kids).map Pn.cells)] [u3] F3) (u:=u3) (Fu:=F3) g10 (os1:=[_,_,_,_,_,_]) rfl (by kernel_rfl) (zO 1)
    (R1:=⟨upd (upd (upd (upd (upd (upd (aJ (MS 5 n (rowsOf 5 n us10) (q+1+1+(bY exZ x.exprs:Nat)+(x.cols.length:Nat)) .junk (.int i) .junk).env) 40 (.osl 0 5 0 n)) 41 (.int i)) 42 (.ownE 0 5 i 0)) 43 (.ownE 0 5 i 4)) 44 (.i (.lit u3))) 45 (.int (q+1+1+(bY exZ x.exprs:Nat)+(x.cols.length:Nat))),aR (MS 5 n (rowsOf 5 n us10) (q+1+1+(bY exZ x.exprs:Nat)+(x.cols.length:Nat)) .junk (.int i) .junk).st,[]⟩)
    (by simp[MS,hin,hR10]) rfl rfl rfl rfl rfl rfl (by decide) (by decide) (by decide) (by decide) (by decide) Tryz.func42 (by decide) (by intro h;cases h) ?_ b3) ?_
   ·intro w1 f1;have hu1:=keep f1 t3b (nb b3);refine(ih w1 u3 F3 _ hu1 nd2.2.1 (by omega) (by push_cast at h1 ⊢;omega)).mono ?_;rintro en w2 ⟨p1,p2,p3,_⟩;exact⟨p1,p2,p3⟩
   rintro e a' w' ⟨rfl,us',g',e',w1,f1,f2,hK3⟩;have hq:q+1+1+(bY exZ x.exprs:Nat)+(x.cols.length:Nat)+(bY Pn.mz x.kids:Nat)=q+(x.mz:Nat):=by rw[hsz];push_cast;omega
   rw[hq]at g';have k1b:=keep f2 (keep f1 k1a (nb b1)) (fun f h h'=>d13 f h h');have k2b:=keep f2 (keep f1 hK2 (nb b2)) (fun f h h'=>d23 f h h');refine⟨rfl,us',_,g',by rw[e',e10,e9,e8],?_,(f8.sub (by simp)).trans ((fa.sub (by simp)).trans ((fb.sub fun f hf=>by simp[hf]).trans ((fc.sub (by simp)).trans ((fd.sub fun f hf=>by simp[hf]).trans ((f1.sub (by simp)).trans (f2.sub fun f hf=>by simp[hf]))))))⟩;rw[Pn.KZ,DX,Ex.bO,mF,uI,Pn.bO,← vO];exact .lit rfl (.lit rfl (k1b.append (k2b.append hK3)))
 obtain⟨c0,c1,cc,body,c3,cend,L,hR⟩:=hl;refine⟨c0,c1,cc,body,c3,cend,L,fun x=>?_⟩
 induction x using Pn.ind with
 | h k t es cs ks ih =>
  refine hR _ fun w v F k hT hnd hk0 hk1=>?_
  simp only[Pn.kids]at hT hk1 ⊢;rw[Pn.bO]at hT;exact QT dG (by decide) L (fun e=>by rw[Pn.aA];rfl) (by omega) ih hT hnd hk0 hk1 (by have:=uB (sz:=Pn.mz) (fun e=>by have:=Pn.AHD e;omega) ks;omega)
theorem AX8:vH C0 Pn.cells Pn.tQ Pn.mz 42:=by
 obtain⟨c0,c1,cc,body,c3,cend,L,hR⟩:=ALX;exact vH.of dG (by decide) L (fun e=>by rw[Pn.aA];rfl) (by omega) (fun e=>by have:=Pn.AHD e;omega) hR
noncomputable def ARO:FuncId→Option (List AV→StL→Option (AV×StL))
 | 56=>none
 | 27=>none
 | 28=>none
 | 7=>none
 | 29=>none
 | g=>if g=oG then none else some (aH C0 g)
def YC:FuncId→Bool
 | 56=>true
 | 27=>true
 | 28=>true
 | 7=>true
 | 29=>true
 | g=>keepR g
noncomputable def CT:Ctx:={ P:=Tryz.prog,G:=GS,ownArgs:=bU,keepRes:=YC,eqT:=ED,prim:=ARO,tree:=true }
@[simp] theorem AsX:CT.P=Tryz.prog:=(rfl)
@[simp] theorem AsY (f):CT.G f=GS f:=(rfl)
@[simp] theorem AsU (f):CT.ownArgs f=bU f:=(rfl)
@[simp] theorem AsV (f):CT.keepRes f=YC f:=(rfl)
@[simp] theorem AsW (f):CT.eqT f=ED f:=(rfl)
@[simp] theorem AsT:CT.tree=true:=(rfl)
@[simp] theorem kT1:YC 56=true:=(rfl)
@[simp] theorem kT2:YC 27=true:=(rfl)
@[simp] theorem kT3:YC 28=true:=(rfl)
@[simp] theorem kT4:YC 7=true:=(rfl)
@[simp] theorem kT5:YC 29=true:=(rfl)
theorem AX4:PrimOk CT:=by
 have h0:=aY dG
 have key:∀ g q,CT.prim g=some q→g≠oG∧q=aH C0 g:=by
  intro g q h;have h:ARO g=some q:=h;unfold ARO at h;split at h<;>first|(cases h;done)|(split at h<;>first|(cases h;done)|(rename_i hy;injection h with h;exact⟨hy,h.symm⟩))
 constructor
 ·intro g args st p h;unfold bV at h
  cases hq:CT.prim g with
  | none=>rw[hq]at h;cases h
  | some q=>rw[hq]at h;obtain⟨hy,rfl⟩:=key g q hq;exact h0.name g args st p hy h
 ·intro g args st r st' h;unfold bV at h
  cases hq:CT.prim g with
  | none=>rw[hq]at h;cases h
  | some q=>rw[hq]at h;obtain⟨hy,rfl⟩:=key g q hq;exact h0.calls g args st r st' hy h
theorem AOY:SoundOk CT:=iU (C:=CT) ft nt eqS mo AX4
@[simp] theorem ct1 (args:List AV) (st:StL):aH CT 80 args st=aH C0 80 args st:=aT (C:=CT) rfl args st
theorem AVL (v:Val):aH C0 80 [.i (.agg [.bool v.null, .int v.n])] []=some (.i (.agg [.bool v.null, .int v.n]),[]):=by
 rw[aD rfl Tryz.func80 rfl rfl];simp
theorem AVF {e:Ex} (h:aH CT 27 [.i (.isl (Ex.aB e.kids))] []=some (.osl 0 5 0 e.kids.length,[some (jG Ex.cells 5 e.kids)])):aH CT 56 [.i (.agg e.cells)] []=some (tE e 0,[some (jG Ex.cells 5 e.kids)]):=by
 rw[aD rfl Tryz.func56 rfl rfl,Ex.aA];have hv:=AVL e.val;simp[hv,h,tE]
def TTE (l:List Ex) (i:Nat):AS :=
 { env:=[(0, .i (.isl (Ex.aB l))),(2, .nils),(3, .osl 0 5 0 l.length),(4, .int i),(11,jk i (.bool true))],st:=[some (wI Ex.cells 5 AF8 l l.length i)] }
theorem AOE {l:List Ex} (hl:l.length<1000000000) (ih:∀ a∈l,aH CT 56 [.i (.agg a.cells)] []=some (tE a 0,[some (jG Ex.cells 5 a.kids)])):aH CT 27 [.i (.isl (Ex.aB l))] []=some (.osl 0 5 0 l.length,[some (jG Ex.cells 5 l)]):=by
 rw[aD rfl Tryz.func27 rfl rfl];have hb:56*(l.length:Int)≤281474976710656:=by omega
 simp[hb];rw[aS (TTE l) l.length (by simp[TTE,wI,AF8])]
 ·rw[aG];simp[TTE,LW]
 ·intro i hi;have h3:=zX hi;have hc:=ih _ (zU h3);have r2:=Ex.aO h3;have hput:=LV (cells:=Ex.cells) (W:=5) (z:=AF8) (n:=l.length) h3 hi (by simp[AF8]) (by rw[Ex.aA];simp[AF8]) (by rw[Ex.aA];simp[DY,AI0]);generalize l[i]=a at h3 hc r2 hput;have w2:IntKind.i64.wrap ((i:Int)+1)=i+1:=wrO;rw[Ex.aA]at hc r2;simp only[Ex.aA,Ex.bO]at hput;simp[TTE,hi,r2,hc,tE,w2,hput]
theorem AVG:∀ (e:Ex),e.thin→aH CT 56 [.i (.agg e.cells)] []=some (tE e 0,[some (jG Ex.cells 5 e.kids)]):=by
 intro e
 induction e using Ex.ind with
 | h k c v ks ih =>
  intro ht;have ht':=(Ex.bM _).1 ht;exact AVF (AOE ht'.1 fun a ha=>ih a ha (ht'.2 a ha))
theorem AVC (l:List Ex) (hl:l.length<1000000000) (ht:∀ a∈l,a.thin):aH CT 27 [.i (.isl (Ex.aB l))] []=some (.osl 0 5 0 l.length,[some (jG Ex.cells 5 l)]):=AOE hl fun a ha=>AVG a (ht a ha)
theorem AFR (l:List Int) (hl:l.length<1000000000):aH CT 28 [.i (.isl (aF l))] []=some (.osl 0 1 0 l.length,[some (.arr 1 (aF l))]):=by
 rw[aD rfl Tryz.func28 rfl rfl];have hb:8*(l.length:Int)≤281474976710656:=by omega
 simp[hb];rw[aS (TIX l) l.length (by simp[TIX,aF])]
 ·rw[aG];have hT:l.take l.length=l:=zY (by simp);simp[TIX,hT]
 ·intro i hi;have h3:=zX hi;have r2:=aX h3;generalize l[i]=a at h3 r2;have w2:IntKind.i64.wrap ((i:Int)+1)=i+1:=wrO;have hD:(aF (l.take i)).length=i:=by simp;omega
  have g1:=vY (n:=l.length) (z:=[IV.int 0]) hD hi;have g2:=vX (n:=l.length) (z:=[IV.int 0]) (x:=[IV.int a]) hD hi;have hS:aF (l.take i)++[[IV.int a]]=aF (l.take (i+1)):=by rw[aN h3,lD]
  rw[hS]at g2;simp[TIX,hi,r2,w2,g1,g2]
theorem AVD {p:Pn} (h1:aH CT 27 [.i (.isl (Ex.aB p.exprs))] []=some (.osl 0 5 0 p.exprs.length,[some (jG Ex.cells 5 p.exprs)])) (h2:aH CT 28 [.i (.isl (aF p.cols))] []=some (.osl 0 1 0 p.cols.length,[some (.arr 1 (aF p.cols))])) (h3:aH CT 29 [.i (.isl (Pn.aB p.kids))] []=some (.osl 0 5 0 p.kids.length,[some (jG Pn.cells 5 p.kids)])) :
 aH CT 7 [.i (.agg p.cells)] []=some (tP p 0,tPB p):=by
 rw[aD rfl Tryz.func7 rfl rfl,Pn.aA];simp[h1,h2,h3,tP,tPB]
def TTP (l:List Pn) (i:Nat):AS :=
 { env:=[(0, .i (.isl (Pn.aB l))),(2, .nils),(3, .osl 0 5 0 l.length),(4, .int i),(11,jk i (.bool true))],st:=[some (wI Pn.cells 5 zpw l l.length i)] }
theorem qN (l:List Int):A7 1 0 l.length (some (.arr 1 (aF l)))=some (aF l):=by
 have:fM (aF l)=true:=by
  rw[mF]
  induction l with
  | nil=>rfl
  | cons n l ih=>simp only[yS,fM,ih,zE3];rfl
 simp[A7,this]
theorem AQC {l:List Pn} (hl:l.length<1000000000) (ih:∀ a∈l,aH CT 7 [.i (.agg a.cells)] []=some (tP a 0,tPB a)):aH CT 29 [.i (.isl (Pn.aB l))] []=some (.osl 0 5 0 l.length,[some (jG Pn.cells 5 l)]):=by
 rw[aD rfl Tryz.func29 rfl rfl];have hb:88*(l.length:Int)≤281474976710656:=by omega
 simp[hb];rw[aS (TTP l) l.length (by simp[TTP,wI,zpw])]
 ·rw[aG];simp[TTP,LW]
 ·intro i hi;have h3:=zX hi;have hc:=ih _ (zU h3);have r2:=Pn.aO h3;have hput:=LV (cells:=Pn.cells) (W:=5) (z:=zpw) (n:=l.length) h3 hi (by simp[zpw]) (by rw[Pn.aA];simp[zpw]) (by rw[Pn.aA];simp[DY,AI0]);generalize l[i]=a at h3 hc r2 hput;have w2:IntKind.i64.wrap ((i:Int)+1)=i+1:=wrO;have ha:=qN a.cols;rw[Pn.aA]at hc r2;simp only[Pn.aA,Ex.bO,Pn.bO]at hput;simp[TTP,hi,r2,hc,tP,tPB,w2,ha,hput]
theorem AVE:∀ (p:Pn),p.thin→aH CT 7 [.i (.agg p.cells)] []=some (tP p 0,tPB p):=by
 intro p
 induction p using Pn.ind with
 | h k t es cs ks ih =>
  intro ht;obtain⟨h1,h2,h3,h4,h5⟩:=(Pn.bM _).1 ht;exact AVD (AVC es h1 h2) (AFR cs h3) (AQC h4 fun a ha=>ih a ha (h5 a ha))
end Go.Proofs.YtgiepjdnkonkgaaGreat.P
namespace Go.Av
open Go.Av.Mk
theorem iP:∀ l:List Int,fM (aF l)=true
 | []=>rfl
 | n::l=>by simp only[aF,fM,iP l,zE3];rfl
mutual
theorem Pn.AbL:∀ p:Pn,p.mz≤4*p.ms
 | .mk k t es cs ks=>by have:=Pn.AHE ks;simp only[Pn.mz,Pn.ms];omega
theorem Pn.AHE:∀ l:List Pn,Pn.mzL l≤4*Pn.msL l
 | []=>by simp[Pn.mzL]
 | p::l=>by have:=Pn.AbL p;have:=Pn.AHE l;simp only[Pn.mzL,Pn.msL];omega
end
def Pn.mk4 (p:Pn):Nat:=4*Ex.aL p.exprs+(p.cols.length+Pn.mzL p.kids)
theorem Pn.AP7 (p:Pn):p.mk4≤4*p.meas:=by
 have:=Pn.AHE p.kids;unfold Pn.mk4 Pn.meas;omega
end Go.Av
namespace Go.Av
@[simp] theorem AVU (s:Stp):jI (AON s)=true:=rfl
end Go.Av
namespace Go.Proofs.YtgiepjdnkonkgaaGreat.P
open Go Go.Av
set_option maxRecDepth 4000
set_option maxHeartbeats 4000000
noncomputable def Ab5:FuncId→Option (List AV→StL→Option (AV×StL))
 | 62=>none
 | 63=>none
 | g=>if g=oG then none else some (aH C0 g)
def keepW:FuncId→Bool
 | g=>keepR g
noncomputable def CW:Ctx:={ P:=Tryz.prog,G:=GS,ownArgs:=bU,keepRes:=keepW,eqT:=ED,prim:=Ab5,tree:=true }
@[simp] theorem AsR:CW.P=Tryz.prog:=(rfl)
@[simp] theorem AsS (f):CW.G f=GS f:=(rfl)
@[simp] theorem AsO (f):CW.ownArgs f=bU f:=(rfl)
@[simp] theorem AsP (f):CW.keepRes f=keepW f:=(rfl)
@[simp] theorem AsQ (f):CW.eqT f=ED f:=(rfl)
@[simp] theorem AsN:CW.tree=true:=(rfl)
@[simp] theorem kW2:keepW 62=keepR 62:=(rfl)
@[simp] theorem kW3:keepW 63=keepR 63:=(rfl)
@[simp] theorem kW4:keepW oG=keepR oG:=(rfl)
structure YlW (R:Rng) (cs:List AV):Prop where
 ids:cs=[.own 1 0, .junk, .junk]
 y00:∀ r:Int,aH CW oG [.fn (.yield 0) [.own 0 0], .agg [.int r, .nils]] [some (.loop R cs .ready),some (.box [.nils])]=some (.bool true,[some (.loop R cs .ready),some (.box [.osl 2 2 0 1]),some (.tre 2 [[.int r, .isl []]])])
 y01:∀ (r:Int) (path:List Int),path≠[]→aH CW oG [.fn (.yield 0) [.own 0 0], .agg [.int r, .osl 2 1 0 path.length]] [some (.loop R cs .ready),some (.box [.nils]),some (.arr 1 (aF path))]=some (.bool true,[some (.loop R cs .ready),some (.box [.osl 3 2 0 1]),none,some (.tre 2 [[.int r, .isl (aF path)]])])
 y10:∀ (r:Int) (n:Nat) (l:List Stp),l.length=n→n≠0→n<1000000→aH CW oG [.fn (.yield 0) [.own 0 0], .agg [.int r, .nils]] [some (.loop R cs .ready),some (.box [.osl 2 2 0 n]),some (.tre 2 (lV l))]=some (.bool true,[some (.loop R cs .ready),some (.box [.osl 3 2 0 (n+1)]),none,some (.tre 2 (lV l++[[.int r, .isl []]]))])
 y11:∀ (r:Int) (n:Nat) (l:List Stp) (path:List Int),path≠[]→l.length=n→n≠0→n<1000000→aH CW oG [.fn (.yield 0) [.own 0 0], .agg [.int r, .osl 3 1 0 path.length]] [some (.loop R cs .ready),some (.box [.osl 2 2 0 n]),some (.tre 2 (lV l)),some (.arr 1 (aF path))]=some (.bool true,[some (.loop R cs .ready),some (.box [.osl 4 2 0 (n+1)]),none,none,some (.tre 2 (lV l++[[.int r, .isl (aF path)]]))])
end Go.Proofs.YtgiepjdnkonkgaaGreat.P
namespace Go.Proofs.YtgiepjdnkonkgaaGreat.P
open Go Go.Av Go.Av.Mk
set_option maxRecDepth 4000
set_option maxHeartbeats 16000000
noncomputable def ARQ:FuncId→Option (List AV→StL→Option (AV×StL))
 | 9=>none
 | 62=>none
 | 63=>none
 | 33=>some (aH C4 33)
 | 35=>some (pM (aH C5) 35)
 | 31=>some (pM (aH CS) 31)
 | g=>if g=oG then none else some (aH C0 g)
def AZE:FuncId→Bool
 | 35=>true
 | 31=>true
 | g=>bU g
@[simp] theorem AbB (g:FuncId):AZE g=if g=35∨g=31 then true else bU g:=by
  unfold AZE;split
  ·rfl
  ·rfl
  ·rename_i h1 h2;rw[if_neg (fun h=>h.elim h1 h2)]
noncomputable def CJ:Ctx:={ P:=Tryz.prog,G:=GS,ownArgs:=AZE,keepRes:=keepR,eqT:=ED,prim:=ARQ,tree:=true }
@[simp] theorem AtH:CJ.P=Tryz.prog:=(rfl)
@[simp] theorem AtI (f):CJ.G f=GS f:=(rfl)
@[simp] theorem AtE (f):CJ.ownArgs f=AZE f:=(rfl)
@[simp] theorem AtF (f):CJ.keepRes f=keepR f:=(rfl)
@[simp] theorem AtG (f):CJ.eqT f=ED f:=(rfl)
@[simp] theorem AtC:CJ.tree=true:=(rfl)
theorem AX6:PrimOk CJ:=by
 have h0:=aY dG;have h4:=aY AWG;have h5:=aY AWF;have hS:=aY AWD
 have key:∀ g q,CJ.prim g=some q→(g=33∧q=aH C4 g)∨(g=35∧q=pM (aH C5) g)∨(g=31∧q=pM (aH CS) g)∨(g≠oG∧q=aH C0 g):=by
  intro g q h;have h:ARQ g=some q:=h;unfold ARQ at h;split at h
  all_goals first
   | (cases h;done)
   | (injection h with h;subst h;simp;done)
   | (split at h
      ·cases h
      ·rename_i hy;injection h with h;exact .inr (.inr (.inr ⟨hy,h.symm⟩)))
 constructor
 ·intro g args st p h;unfold bV at h
  cases hq:CJ.prim g with
  | none=>rw[hq]at h;cases h
  | some q =>
   rw[hq]at h
   rcases key g q hq with ⟨rfl,rfl⟩|⟨rfl,rfl⟩|⟨rfl,rfl⟩|⟨hy,rfl⟩
   ·exact h4.name _ args st p (by decide) h
   ·exact(fD h5 (r:=p.1) (stl':=p.2) h).1
   ·exact(fD hS (r:=p.1) (stl':=p.2) h).1
   ·exact h0.name g args st p hy h
 ·intro g args st r st' h w m φ vs hi hr hb;unfold bV at h
  cases hq:CJ.prim g with
  | none=>rw[hq]at h;cases h
  | some q =>
   rw[hq]at h
   rcases key g q hq with ⟨rfl,rfl⟩|⟨rfl,rfl⟩|⟨rfl,rfl⟩|⟨hy,rfl⟩
   ·exact h4.calls _ args st r st' (by decide) h w m φ vs hi hr hb
   ·exact(fD h5 h).2 w m φ vs hi hr hb
   ·exact(fD hS h).2 w m φ vs hi hr hb
   ·exact h0.calls g args st r st' hy h w m φ vs hi hr hb
theorem GZ:SoundOk CJ:=iU (C:=CJ) ft nt eqS mo AX6
@[simp] theorem APT (a:List AV) (st:StL):aH CJ 66 a st=aH C0 66 a st:=aT (C:=CJ) rfl a st
@[simp] theorem APU (a:List AV) (st:StL):aH CJ 60 a st=aH C0 60 a st:=aT (C:=CJ) rfl a st
@[simp] theorem Aa4 (a:List AV) (st:StL):aH CJ 34 a st=aH C0 34 a st:=aT (C:=CJ) rfl a st
@[simp] theorem AKE (a:List AV) (st:StL):aH CJ 32 a st=aH C0 32 a st:=aT (C:=CJ) rfl a st
theorem AJ4 (p:Pn) (ws:List Int) (r:Int) (path:List Int):aH CJ 35 [.i (.agg p.cells), .i (.isl (aF ws)), .agg [.int r, .osl 0 1 0 path.length]] [some (.arr 1 (aF path))]=some (.tup [rqA (OZ (apO p ws r path)) 1, .bool (apO p ws r path).isSome],some (.arr 1 (aF path))::rqB (OZ (apO p ws r path))):=by
 rw[aT (C:=CJ) (p:=pM (aH C5) 35) rfl];exact ASA (ABQ p ws r path)
theorem AJ5 (p:Pn) (ws:List Int) (r:Int):aH CJ 35 [.i (.agg p.cells), .i (.isl (aF ws)), .agg [.int r, .nils]] []=some (.tup [rqA (OZ (apO p ws r [])) 0, .bool (apO p ws r []).isSome],rqB (OZ (apO p ws r []))):=by
 rw[aT (C:=CJ) (p:=pM (aH C5) 35) rfl];exact ASB (ABQ p ws r [])
theorem AJ3 (q:Pn) (sts:List Sts) (hl:sts.length<2000000) (hd:∀ s∈sts,s.d.length<1000000000∧s.n.length<1000000000):aH CJ 31 [rqA q 0, .i (.isl (gM sts))] (rqB q)=some (.int (AN9 sts q),rqB q):=by
 rw[aT (C:=CJ) (p:=pM (aH CS) 31) rfl];exact AMJ (uT q sts hl hd)
theorem ABN (q:Pn) (sts:List Sts) (hl:sts.length<2000000) (hd:∀ s∈sts,s.d.length<1000000000∧s.n.length<1000000000):aH CJ 31 [.i (.agg q.cells), .i (.isl (gM sts))] []=some (.int (AN9 sts q),[]):=by
 rw[aT (C:=CJ) (p:=pM (aH CS) 31) rfl];exact ASC (uT q sts hl hd)
structure YJ (R:Rng) (cs:List AV) (pc:List IV) (sv wv:IV) (sts:List Sts) (ws:List Int) (p0:Pn):Prop where
 ids:cs=[.own 1 0, .own 2 0, .own 3 0, .own 4 0, .own 5 0, .own 6 0, .junk, .junk, .junk, .junk, .junk, .junk, .junk]
 z:∀ (r:Int) (b:Bst),aH CJ oG [.fn (.yield 0) [.own 0 0], .agg [.int r, .nils]] (bsT R cs pc sv wv b)=some (.bool true,bsT R cs pc sv wv (BX sts ws p0 b (r,[])))
 y:∀ (r:Int) (path:List Int) (b:Bst),path≠[]→path.length≤8→aH CJ oG [.fn (.yield 0) [.own 0 0], .agg [.int r, .osl 7 1 0 path.length]] (bsT R cs pc sv wv b++[some (.arr 1 (aF path))])=some (.bool true,bsT R cs pc sv wv (BX sts ws p0 b (r,path))++[if YL sts ws p0 b (r,path)=true then none else some (.arr 1 (aF path))])
section
variable {sts:List Sts} {ws0:List Int} {p0:Pn} {R:Rng} {cs:List AV} {pc:List IV} {sv wv:IV}
def RJX (R:Rng) (cs:List AV) (pc:List IV) (sv wv:IV) (sts:List Sts) (ws0:List Int) (p0:Pn) (ws path:List Int) (p:Pn) (b:Bst) (i:Nat):AS :=
 { env:=[(0, .i (.iref [.int p.kind, .int p.table, .isl (Ex.aB p.exprs), .isl (aF p.cols), .isl (Pn.aB p.kids)])),(1, .i (.isl (aF ws))),(2, .i (.isl (aF path))),(3, .fn (.yield 0) [.own 0 0]),(8, .bool false),(9, .int ((i:Int)+1)),(11,jk i (.bool (rwL ws (i:Int) (8-path.length) p).isSome)),(12, .junk),(14,jk i (.bool true)),(28,jk i (.bool (!(rwL ws (i:Int) (8-path.length) p).isSome))),(35,if WV ws path p i=[]then .junk else .bool false),(40, .junk),(41, .junk),(42, .junk),(58, .junk)],
   st:=bsT R cs pc sv wv ((WV ws path p i).foldl (BX sts ws0 p0) b) }
def KJX (R:Rng) (cs:List AV) (pc:List IV) (sv wv:IV) (sts:List Sts) (ws0:List Int) (p0:Pn) (ws path:List Int) (p:Pn) (b:Bst) (i:Nat):AS :=
 { env:=[(0, .i (.iref [.int p.kind, .int p.table, .isl (Ex.aB p.exprs), .isl (aF p.cols), .isl (Pn.aB p.kids)])),(1, .i (.isl (aF ws))),(2, .i (.isl (aF path))),(3, .fn (.yield 0) [.own 0 0]),(8, .bool false),(9, .int 12),(11, .bool (rwL ws 11 (8-path.length) p).isSome),(12,jk i (.int (i-1))),(14, .bool false),(28, .bool (!(rwL ws 11 (8-path.length) p).isSome)),(35,if WV ws path p 11=[]then .junk else .bool false),(40, .int p.kids.length),(41, .int i),(42,jk i (.bool true)),(58,jk i (.bool false))],
   st:=bsT R cs pc sv wv ((WV ws path p 11++N8 ws path 0 (p.kids.take i)).foldl (BX sts ws0 p0) b) }
theorem VU (hY:YJ R cs pc sv wv sts ws0 p0) {ws:List Int} (hw:kH ws=true):∀ (p:Pn) (path:List Int) (b:Bst),path.length≤8→p.wd ws (8-path.length)≠0 →
 aH CJ 63 [.i (.iref p.cells), .i (.isl (aF ws)), .i (.isl (aF path)), .fn (.yield 0) [.own 0 0]] (bsT R cs pc sv wv b)=some (.bool true,bsT R cs pc sv wv ((stI ws path p).foldl (BX sts ws0 p0) b)):=by
 obtain⟨rfl,z,y⟩:=hY;intro p
 induction p using Pn.ind with
 | h k t es cols ks ih =>
  intro path b hl hp;have hp8:(Pn.mk k t es cols ks).wd ws 8≠0:=by rw[Pn.jD _ _ 8 hp (by omega)];exact hp
  have hkids:=fun h=>PY (p:=.mk k t es cols ks) (lv:=8-path.length) hp h
  have hacc:=AQS ws path (.mk k t es cols ks);generalize hpe:Pn.mk k t es cols ks=p at *
  have hks:ks=p.kids:=by rw[← hpe];rfl
  subst hks
  obtain⟨lv,hlv⟩:∃ lv:Nat,8-path.length=lv:=⟨_,rfl⟩
  have hw8:IntKind.i64.wrap (8-(path.length:Int))=(lv:Int):=by rw[wrO];omega
  have hr:=fun r=>uD hw hp8 r (lv:=lv) (by omega)
  have hcp:=AE9 path;rw[hacc,aD rfl Tryz.func63 rfl rfl,Pn.aA];rw[Pn.aA p]at hr;generalize hxe:(WV ws path p 11++N8 ws path 0 p.kids).foldl (BX sts ws0 p0) b=xe;simp[bsT];rw[aS (RJX R [.own 1 0, .own 2 0, .own 3 0, .own 4 0, .own 5 0, .own 6 0, .junk, .junk, .junk, .junk, .junk, .junk, .junk] pc sv wv sts ws0 p0 ws path p b) 11 (by simp[RJX,bsT,WV])]
  ·rw[aG]
   have hkid:∀ (i:Nat) (a:Pn),p.kids[i]?=some a→p.kids.length≤2∧∀ b,aH CJ 63 [.i (.iref a.cells), .i (.isl (aF ws)), .i (.isl (aF path++[[.int i]])), .fn (.yield 0) [.own 0 0]] (bsT R [.own 1 0, .own 2 0, .own 3 0, .own 4 0, .own 5 0, .own 6 0, .junk, .junk, .junk, .junk, .junk, .junk, .junk] pc sv wv b)=some (.bool true,bsT R [.own 1 0, .own 2 0, .own 3 0, .own 4 0, .own 5 0, .own 6 0, .junk, .junk, .junk, .junk, .junk, .junk, .junk] pc sv wv ((stI ws (path++[(i:Int)]) a).foldl (BX sts ws0 p0) b)):=fun i a ha=>by
    have hm:=zU ha;obtain⟨hk2,hlv0,hkw⟩:=hkids (by intro h;rw[h]at hm;simp at hm);have hpl:(path++[(i:Int)]).length=path.length+1:=by simp
    refine⟨hk2,fun b=>?_⟩;have:=ih a hm (path++[(i:Int)]) b (by omega) (by rw[hpl,show 8-(path.length+1)=8-path.length-1 by omega];exact hkw a hm);rw[lD]at this;exact this
   have hl1:(path.length+1)*8≤140737488355328:=by omega
   have ht1:∀ i:Nat,List.take (path.length+1) (aF path++[[.int (i:Int)]])=aF path++[[.int i]]:=fun i=>zY (by simp)
   by_cases ha:WV ws path p 11=[]
   all_goals
    simp[RJX,bsT,ha];rw[aS (KJX R [.own 1 0, .own 2 0, .own 3 0, .own 4 0, .own 5 0, .own 6 0, .junk, .junk, .junk, .junk, .junk, .junk, .junk] pc sv wv sts ws0 p0 ws path p b) p.kids.length (by simp[KJX,bsT,ha,N8])]
    ·rw[aG];simp only[KJX,zC1,hxe];simp[bsT,ha]
    ·intro i hi;have h3:=zX hi;generalize p.kids[i]=a at h3;have r2:=Pn.aO h3;have hsn:=AGA ws path h3;obtain⟨hk2,hk⟩:=hkid i a h3;have w2:IntKind.i64.wrap ((i:Int)+1)=i+1:=wrO;simp only[KJX,hsn,← List.append_assoc,xB (l':=stI ws (path++[(i:Int)]) a)];generalize (WV ws path p 11++N8 ws path 0 (p.kids.take i)).foldl (BX sts ws0 p0) b=bx;have hk:=hk bx;generalize (stI ws (path++[(i:Int)]) a).foldl (BX sts ws0 p0) bx=bz at hk;rw[Pn.aA a]at r2 hk;simp[bsT]at hk
     rcases hcp with rfl|hcp
     ·simp[aF]at hk;simp[bsT,ha,hi,r2,w2,II,hk,aF]
     ·have hc:=MJ hcp (by omega);simp[bsT,ha,hi,r2,w2,hc,hk,aF,hl1,ht1]
  ·intro i hi;have hs:=AJV (ws:=ws) (path:=path) (p:=p) (i:=i) (by omega);have w2:IntKind.i64.wrap ((i:Int)+1+1)=i+1+1:=wrO;have hi11:(i:Int)+1≤11:=by omega
   have hr1:=hr ((i:Int)+1);rw[hlv]at hs
   cases hb:(rwL ws ((i:Int)+1) lv p).isSome with
   | false =>
    rw[hb]at hs hr1;simp at hs;by_cases ha:WV ws path p i=[]<;>simp[RJX,bsT,hs,ha,hr1,hw8,w2,hi11,hlv,hb]
   | true =>
    rw[hb]at hs hr1;simp at hs;simp only[RJX,hs,xB,zA8,List.foldl_nil];generalize (WV ws path p i).foldl (BX sts ws0 p0) b=bx
    rcases hcp with rfl|hcp
    ·have hc:=II;have hy:=z ((i:Int)+1) bx;generalize BX sts ws0 p0 bx ((i:Int)+1,[])=bz at *
     obtain rfl:lv=8:=by simpa using hlv.symm
     simp at hw8;rw[show((8:Nat):Int)=8 from rfl]at hr1;simp[bsT]at hy;by_cases ha:WV ws [] p i=[]<;>simp[bsT,ha,hr1,hw8,w2,hi11,hb,hc,hy,aF]
    ·have hc:=MJ hcp (by omega);have hy:=y ((i:Int)+1) path bx hcp (by omega);generalize BX sts ws0 p0 bx ((i:Int)+1,path)=bz at *
     simp[bsT]at hy;by_cases hm:YL sts ws0 p0 bx ((i:Int)+1,path)=true
     ·simp[hm]at hy;by_cases ha:WV ws path p i=[]<;>simp[bsT,ha,hr1,hw8,w2,hi11,hlv,hb,hc,hy]
     ·simp[hm]at hy;by_cases ha:WV ws path p i=[]<;>simp[bsT,ha,hr1,hw8,w2,hi11,hlv,hb,hc,hy]
end
theorem ACK {sts:List Sts} {p0:Pn} {R:Rng} {cs:List AV} {pc:List IV} {sv wv:IV} (hY:YJ R cs pc sv wv sts (stW sts) p0) {ws:List Int} (hw:kH ws=true) {p:Pn} (hp:p.wd ws 8≠0) (b:Bst) :
 aH CJ 62 [.fn (.yield 0) [.own 0 0], .own 7 0, .own 8 0] (bsT R cs pc sv wv b++[some (.box [.i (.iref p.cells)]),some (.box [.i (.isl (aF ws))])])=some (.tup [],bsT R cs pc sv wv ((stI ws [] p).foldl (BX sts (stW sts) p0) b)++[some (.box [.i (.iref p.cells)]),some (.box [.i (.isl (aF ws))])]):=by
 have h:=VU hY hw p [] b (by simp) (by simpa using hp);obtain⟨rfl,_⟩:=hY;rw[aD rfl Tryz.func62 rfl rfl];generalize (stI ws [] p).foldl (BX sts (stW sts) p0) b=x at h ⊢;simp[bsT,aF]at h;simp[bsT,h]
end Go.Proofs.YtgiepjdnkonkgaaGreat.P
namespace Go.Av
def rqZ (q:Pn) (j:Nat):List AV :=
 [.int q.kind, .int q.table,if q.exprs=[]then .i (.isl [])else .osl j 5 0 q.exprs.length,if q.cols=[]then .i (.isl [])else .osl (if q.exprs=[]then j else j+1) 1 0 q.cols.length,if q.kids=[]then .i (.isl [])else .osl (if q.exprs=[]then(if q.cols=[]then j else j+1)else(if q.cols=[]then j+1 else j+2)) 5 0 q.kids.length]
section
variable {w:World} {m:Mem}
theorem J8 {φ:Pl} {st:StL} (hi:Inv w m φ (aR st)) (hb:∀ id,φ id≠none→id<st.length) {es:List (List IV)} {k:Nat} {v:Value} {F:List Nat} (hk0:0<k) (hk:∀ e∈es,e.length=k) (ht:TCells w [.isl es] [v] F) (hn:F.Nodup) (hm:∀ f∈F,∀ o,m f o=none) (hlt:∀ f∈F,f<w.heap.size) (hfr:∀ f∈F,eD φ f)
 {blk:Blk} (hmk:blk=.tre k es∨(blk=.arr k es∧fM es=true)) (c:Prop) [Decidable c] (hc:c↔es=[]) :
 ∃ φ',Inv w m φ' (aR (st++if c then []else [some blk]))∧(∀ id,φ' id≠none→id<(st++if c then []else [some blk]).length)∧PLe φ φ'∧Rep m φ' (if c then .i (.isl [])else .osl st.length k 0 es.length) v∧(∀ f,eD φ f→f ∉ F→eD φ' f)∧∀ id b n f,φ' id=some (b,n)→n.own f→f∈F∨φ id=some (b,n):=by
 by_cases h:c
 ·have he:=hc.1 h;simp only[h,if_true,zA];refine⟨φ,hi,hb, .refl _,?_,fun f h1 _=>h1,fun id b n f h1 _=>.inr h1⟩
  cases ht with
  | isl0 hcap _=>exact .i (.isl0 _ _ hcap)
  | isl hne=>exact absurd he hne
 ·have he:es≠[]:=fun e=>h (hc.2 e)
  obtain⟨φ',h1⟩:=QK hi hb hk0 hk ht hn hm hlt hfr (fun e=>absurd e he) hmk c hc;simp only[h,if_false]at h1 ⊢;exact⟨φ',h1⟩
structure DIn (w:World) (m:Mem) (b:Nat) (n:Ext) (es:List (List IV)) (i:Nat) (pre row post:List Value) (F1 F2 F3:List Nat):Prop where
 heap:∃ T:TypeId,w.heap[b]?=some (.cells (pre++(row++post)).toArray T (0,0))
 len:(pre++(row++post)).length=n.len
 lp:pre.length=5*i
 lr:row.length=5
 fit:5*es.length≤n.len
 one:∀ v∈pre++(row++post),v.oneCell'=true
 u1:UCells w m (es.take i).flatten pre F1
 u3:UCells w m (es.drop (i+1)).flatten (post.take (5*(es.length-(i+1)))) F3
 nd:(b::(F1++(F2++F3))).Nodup
 own:∀ f∈b::(F1++(F2++F3)),n.own f
 unk:∀ f,n.own f→∀ o,m f o=none
 lt:∀ f,n.own f→f<w.heap.size
 wid:∀ r∈es,r.length=5
end
section
variable {C:Ctx} {wi:World} {mi:Mem} {nt:Nat}
theorem Inv.adoptB {w:World} {m:Mem} {φ:Pl} {st:Store} {id b len:Nat} {blk:Blk} (hi:Inv w m φ st) (h2:φ id=none) (hf:eD φ b) (hlt:b<w.heap.size)
 (hb:BlkOk w m (upd φ id (some (b,one b len))) b (one b len) blk):Inv w m (upd φ id (some (b,one b len))) (upd st id (some blk)):=by
 have hp:PLe φ (upd φ id (some (b,one b len))):=fun i r n e=>by
  refine⟨n,?_,rfl,fun _ h=>h⟩;have:i≠id:=fun h=>by rw[h,h2]at e;cases e
  simp[upd,this,e]
 refine⟨hi.mem,?_,?_,?_,hi.kn⟩
 ·intro i blk1 hb1;by_cases hid:i=id
  ·subst hid;simp[upd]at hb1;subst hb1;exact⟨b,one b len,by simp[upd],⟨rfl,fun f hf=>by rw[show f=b from hf];exact hlt⟩,hb⟩
  ·simp[upd,hid]at hb1;obtain⟨r,n,q1,q2,q3⟩:=hi.live i blk1 hb1;exact⟨r,n,by simp[upd,hid,q1],q2,q3.mono q2.1 (fun _ _=>rfl) (.refl _) hp fun _ _ _=>rfl⟩
 ·intro i j r r' n n' b1 b2 f e1 e2 p1 p2 o1 o2;by_cases hi1:i=id
  ·by_cases hj1:j=id
   ·rw[hi1,hj1]
   ·subst hi1;simp[upd]at p1;simp[upd,hj1]at p2;obtain⟨rfl,rfl⟩:=p1;rw[show f=_ from o1]at o2;exact absurd o2 (hf j r' n' p2)
  ·by_cases hj1:j=id
   ·subst hj1;simp[upd]at p2;simp[upd,hi1]at p1;obtain⟨rfl,rfl⟩:=p2;rw[show f=_ from o2]at o1;exact absurd o1 (hf i r n p1)
   ·simp[upd,hi1]at e1 p1;simp[upd,hj1]at e2 p2;exact hi.inj i j r r' n n' b1 b2 f e1 e2 p1 p2 o1 o2
 ·intro i r n f e ho;by_cases hid:i=id
  ·subst hid;simp[upd]at e;obtain⟨rfl,rfl⟩:=e;rw[show f=_ from ho];exact hlt
  ·simp[upd,hid]at e;exact hi.low i r n f e ho
inductive ZRow:List AV→List IV→Prop
 | nil:ZRow [] []
 | int {n:Int} {cs:List AV} {row:List IV}:ZRow cs row→ZRow (.int n::cs) (.int n::row)
 | nils {cs:List AV} {row:List IV}:ZRow cs row→ZRow (.nils::cs) (.isl []::row)
theorem ZRow.cells {w:World} {m:Mem} {φ:Pl}:∀ {cs:List AV} {row:List IV} {vs:List Value},ZRow cs row→RepC m φ cs vs→UCells w m row vs []
 | _,_,_, .nil, .nil=>.nil
 | _,_,_, .int h, .cons a o r=>by
  cases a with
  | i a=>cases a with|lit=>exact .lit o (h.cells r)
 | _,_,_, .nils h, .cons a o r=>by
  cases a
  exact .isl0 (fun _=>rfl) (h.cells r)
theorem GR.AjK {ok:Nat→Prop} {env:Nat→AV} {st st':Store} {a:Act} {w:World} {u id:Nat} {cs:List AV} {row:List IV} (h:GR wi mi nt ok (fun _ _ _=>True) env st a w) (hu:env u=.own id 0) (hbox:st id=some (.box cs)) (hz:ZRow cs row) (hne:cs≠[])
 (hst:∀ i blk,st' i=some blk→i≠id∧st i=some blk∧eB blk) {env':Nat→AV} (he:∀ t,env' t=.junk∨(t=u∧env' t=.own id 0)∨(env' t=env t∧cO st' (env t))) :
 GR wi mi nt ok (fun _ _ _=>True) env' (upd st' id (some (.tre row.length [row]))) a w:=by
 obtain⟨⟨m,φ,hi,henv,hadv,hk,-⟩,h6,h7⟩:=h;have hr:=henv u;rw[hu]at hr;generalize hy:a.tmps.getD u undef=yy at hr
 cases hr with
 | @own _ _ b n e =>
  obtain⟨hb,hok⟩:=cK hi e hbox;have hst2:∀ i blk,st' i=some blk→st i=some blk∧eB blk:=fun i blk hb=>(hst i blk hb).2
  have hid':st' id=none:=by
   cases hx:st' id with
   | none=>rfl
   | some blk=>exact absurd rfl (hst id blk hx).1
  have hφ:lI st' φ id=none:=by unfold lI;rw[hid']
  cases hok with
  | @box T _ vs hh hl hrc hm =>
   have hu2:=hz.cells (w:=w) hrc
   have hlen:row.length=vs.length:=by
    have:∀ {c:List AV} {r:List IV},ZRow c r→c.length=r.length:=by
     intro c r h
     induction h with
     | nil=>rfl
     | int _ ih=>simp[ih]
     | nils _ ih=>simp[ih]
    rw[← this hz,hrc.length]
   have hpos:0<row.length:=by
    rw[hlen,← hrc.length];exact xN.2 hne
   have hfree:eD (lI st' φ) b:=kJ hi (fun i blk h=>(hst2 i blk h).1) hbox hid' e hb.1
   have hblk:BlkOk w m (upd (lI st' φ) id (some (b,one b vs.length))) b (one b vs.length) (.tre row.length [row]):=by
    refine .tre (T:=T) (F:=[]) hh rfl hpos (by simp) ?_ (by simp[hlen,one]) (by simp) (by simp) (fun f hf o=>by rw[show f=b from hf];exact hm o) (hrc.one);rw[show row.length*[row].length=vs.length by simp[hlen],zC1];simpa using hu2
   have i2:=(hi.AUP hst2).adoptB (len:=vs.length) hφ hfree (hb.2 _ hb.1) hblk
   have hp:PLe (lI st' φ) (upd (lI st' φ) id (some (b,one b vs.length))):=fun i r n e=>by
    refine⟨n,?_,rfl,fun _ h=>h⟩;have:i≠id:=fun h=>by rw[h,hφ]at e;cases e
    simp[upd,this,e]
   refine⟨⟨m,_,i2,fun t=>?_,hadv.cut.adopt (lZ hadv e hb.1),fun i hi'=>?_,trivial⟩,h6,h7⟩
   ·rcases he t with e1|⟨rfl,e1⟩|⟨e1,e'⟩
    ·rw[e1];exact .junk _
    ·rw[e1,hy];exact .own (n:=one b vs.length) (by simp[upd])
    ·rw[e1];exact(e'.rep (fun i hi'=>lH hi') (henv t)).mono (.refl _) hp
   ·by_cases hx:i=id
    ·subst hx;exact hk _ (by rw[e];simp)
    ·simp[upd,hx]at hi';refine hk i fun h9=>hi' ?_
     unfold lI;split
     ·exact h9
     ·rfl
theorem Inv.adoptN {w:World} {m:Mem} {φ:Pl} {st:Store} {id b:Nat} {n0:Ext} {blk:Blk} (hi:Inv w m φ st) (h2:φ id=none) (ho:n0.own b) (hf:∀ f,n0.own f→eD φ f∧f<w.heap.size)
 (hb:BlkOk w m (upd φ id (some (b,n0))) b n0 blk):Inv w m (upd φ id (some (b,n0))) (upd st id (some blk)):=by
 have hp:PLe φ (upd φ id (some (b,n0))):=fun i r n e=>by
  refine⟨n,?_,rfl,fun _ h=>h⟩;have:i≠id:=fun h=>by rw[h,h2]at e;cases e
  simp[upd,this,e]
 refine⟨hi.mem,?_,?_,?_,hi.kn⟩
 ·intro i blk1 hb1;by_cases hid:i=id
  ·subst hid;simp[upd]at hb1;subst hb1;exact⟨b,n0,by simp[upd],⟨ho,fun f h=>(hf f h).2⟩,hb⟩
  ·simp[upd,hid]at hb1;obtain⟨r,n,q1,q2,q3⟩:=hi.live i blk1 hb1;exact⟨r,n,by simp[upd,hid,q1],q2,q3.mono q2.1 (fun _ _=>rfl) (.refl _) hp fun _ _ _=>rfl⟩
 ·intro i j r r' n n' b1 b2 f e1 e2 p1 p2 o1 o2;by_cases hi1:i=id
  ·by_cases hj1:j=id
   ·rw[hi1,hj1]
   ·subst hi1;simp[upd]at p1;simp[upd,hj1]at p2;obtain⟨rfl,rfl⟩:=p1;exact absurd o2 ((hf f o1).1 j r' n' p2)
  ·by_cases hj1:j=id
   ·subst hj1;simp[upd]at p2;simp[upd,hi1]at p1;obtain⟨rfl,rfl⟩:=p2;exact absurd o1 ((hf f o2).1 i r n p1)
   ·simp[upd,hi1]at e1 p1;simp[upd,hj1]at e2 p2;exact hi.inj i j r r' n n' b1 b2 f e1 e2 p1 p2 o1 o2
 ·intro i r n f e ho;by_cases hid:i=id
  ·subst hid;simp[upd]at e;obtain⟨rfl,rfl⟩:=e;exact(hf f ho).2
  ·simp[upd,hid]at e;exact hi.low i r n f e ho
theorem GR.AaK {ok:Nat→Prop} {wx:World} {p:Pn} {F:List Nat} {v0 v1 v2 v3 v4:Value} {env:Nat→AV} {st st':Store} {a:Act} {w:World} {u id:Nat} (h:GR wi mi nt ok (CPY wx p F v0 v1 v2 v3 v4) env st a w) (hwx:wi.heap.size≤wx.heap.size) (hu:env u=.own id 0) (hbox:st id=some (.box (bD [v0,v1,v2,v3,v4])))
 (hst:∀ i blk,st' i=some blk→i≠id∧st i=some blk∧eB blk) {env':Nat→AV} (he:∀ t,env' t=.junk∨(t=u∧env' t=.own id 0)∨(env' t=env t∧cO st' (env t))) :
 GR wi mi nt ok (fun _ _ _=>True) env' (upd st' id (some (.tre 5 [p.cells]))) a w:=by
 obtain⟨⟨m,φ,hi,henv,hadv,hk,hc⟩,h6,h7⟩:=h;have hr:=henv u;rw[hu]at hr;generalize hy:a.tmps.getD u undef=yy at hr
 cases hr with
 | @own _ _ b n e =>
  obtain⟨hb,hok⟩:=cK hi e hbox;have hst2:∀ i blk,st' i=some blk→st i=some blk∧eB blk:=fun i blk hb=>(hst i blk hb).2
  have hid':st' id=none:=by
   cases hx:st' id with
   | none=>rfl
   | some blk=>exact absurd rfl (hst id blk hx).1
  have hφ:lI st' φ id=none:=by unfold lI;rw[hid']
  cases hok with
  | @box T _ vs hh hl hrc hm =>
   obtain rfl:=(nH hrc).symm;have ht:=hc.kc.1.toT (fun f hf=>(hc.all f hf).2.2.2.2);have hnF:b ∉ F:=fun hf=>(hc.all b hf).2.2.1 id b n e hb.1
   have hfree:eD (lI st' φ) b:=kJ hi (fun i blk h=>(hst2 i blk h).1) hbox hid' e hb.1
   have hown:∀ f,(f=b∨f∈F)→eD (lI st' φ) f∧f<w.heap.size:=by
    rintro f (rfl|hf)
    ·exact⟨hfree,hb.2 _ hb.1⟩
    ·obtain⟨q1,q2,q3,q4,q5⟩:=hc.all f hf;exact⟨q3.cut,q2⟩
   have hblk:BlkOk w m (upd (lI st' φ) id (some (b,⟨5,fun f=>f=b∨f∈F⟩))) b ⟨5,fun f=>f=b∨f∈F⟩ (.tre 5 [p.cells]):=by
    refine .tre (T:=T) (F:=F) hh rfl (by omega) (by simp[Pn.aA]) ?_ (by simp) (yX.2 ⟨hnF,hc.nd⟩) (fun f hf=>.inr hf) ?_ hrc.one
    ·simpa using ht.toU
    ·rintro f (rfl|hf) o
     ·exact hm o
     ·exact(hc.all f hf).2.2.2.1 o
   have i2:=(hi.AUP hst2).adoptN (b:=b) (n0:=⟨5,fun f=>f=b∨f∈F⟩) hφ (.inl rfl) hown hblk
   have hp:PLe (lI st' φ) (upd (lI st' φ) id (some (b,⟨5,fun f=>f=b∨f∈F⟩))):=fun i r n e=>by
    refine⟨n,?_,rfl,fun _ h=>h⟩;have:i≠id:=fun h=>by rw[h,hφ]at e;cases e
    simp[upd,this,e]
   have hnew:wi.heap.size≤b:=lZ hadv e hb.1;have ha:=hadv.cut (st':=st');refine⟨⟨m,_,i2,fun t=>?_,⟨ha.size,ha.os,ha.tape,ha.output,ha.block,ha.mle,ha.mnew,(fun _ _ _ h=>by cases h),fun i r n' f e1 e2=>?_⟩,fun i hi'=>?_,trivial⟩,h6,h7⟩
   ·rcases he t with e1|⟨rfl,e1⟩|⟨e1,e'⟩
    ·rw[e1];exact .junk _
    ·rw[e1,hy];exact .own (n:=⟨5,fun f=>f=b∨f∈F⟩) (by simp[upd])
    ·rw[e1];exact(e'.rep (fun i hi'=>lH hi') (henv t)).mono (.refl _) hp
   ·by_cases hx:i=id
    ·subst hx;simp[upd]at e1;obtain⟨rfl,rfl⟩:=e1
     rcases e2 with rfl|e2
     ·exact .inl hnew
     ·exact .inl (xX hwx (hc.all f e2).1)
    ·simp[upd,hx]at e1;exact ha.pnew i r n' f e1 e2
   ·by_cases hx:i=id
    ·subst hx;exact hk _ (by rw[e];simp)
    ·simp[upd,hx]at hi';refine hk i fun h9=>hi' ?_
     unfold lI;split
     ·exact h9
     ·rfl
def TD (ds:List Deferred) (a:Act):Act:={ a with defers:=a.defers++ds }
theorem MX (ds:List Deferred) (a:Act) (d:Option Nat) (v:Value):(TD ds a).put d v=TD ds (a.put d v):=by
 unfold TD Act.put
 cases d<;>rfl
theorem AV5 {F:Fence} {n:Nat} {P:Program} {ds:List Deferred} {o:Oper} {a:Act} {w:World} {K:Act→World→Prop} {Q:Exit→Act→World→Prop} (h:o.wpIn F n P a w (fun a w=>K (TD ds a) w) fun e a w=>Q e (TD ds a) w):o.wpIn F n P (TD ds a) w K Q:=by
 have hout:LetsOut (fun e a w=>Q e (TD ds a) w)→LetsOut Q:=fun⟨a,w,h⟩=>⟨_,_,h⟩
 unfold Oper.wpIn at *
 refine⟨h.1,?_⟩;have h:=h.2;have he:(TD ds a).eval=a.eval:=rfl;rw[he];generalize (o.semAt F.round a.eval).run P w=r at *
 cases r with
 | ok x w' =>
  cases x with
  | value v=>simp only[Oper.uponIn,MX]at h ⊢;exact h
  | skip=>simp only[Oper.uponIn,MX]at h ⊢;exact h
  | defer d =>
   simp only[Oper.uponIn]at h ⊢;have:({ (TD ds a)with defers:=d::(TD ds a).defers }:Act).put o.dst undef=TD ds (({ a with defers:=d::a.defers }:Act).put o.dst undef):=by rw[← MX];rfl
   rw[this];exact h
  | enter f args =>
   simp only[Oper.uponIn]at h ⊢;refine⟨h.1,h.2.mono ?_⟩;intro e w2 h2
   cases e with
   | returned v=>show K ((TD ds a).put o.dst v) w2;rw[MX];exact h2
   | panicked c=>exact h2
   | outgrown=>exact hout h2
  | row r args =>
   simp only[Oper.uponIn]at h ⊢;refine⟨h.1,h.2.mono ?_⟩;intro v w2 h2;rw[MX];exact h2
  | round l f tmps assign body =>
   simp only[Oper.uponIn]at h ⊢;refine⟨h.1,h.2.mono ?_⟩;intro e w2 h2
   cases e with
   | returned v=>show K ((TD ds a).put o.dst v) w2;rw[MX];exact h2
   | panicked c=>exact h2
   | outgrown=>exact hout h2
  | _=>exact h
 | halt s w' =>
  cases s<;>simp only[Oper.uponIn]at h ⊢<;>exact h
theorem Marks.low {n n':Nat} {φ:Pl} {w:World} {ds:List Deferred} (h:Marks n φ w ds) (k:n'≤n):Marks n' φ w ds:=by
 obtain⟨Ds,h1,h2,h3⟩:=h.form;exact⟨⟨Ds,h1,h2,fun D hD=>⟨Nat.le_trans k (h3 D hD).1,(h3 D hD).2⟩⟩⟩
def MK (n:Nat) (ds:List Deferred) (w:World) (_:Mem) (φ:Pl):Prop:=Marks n φ w ds
theorem MK.D8 (n:Nat) (ds:List Deferred):XA (MK n ds):=fun _ _ _ _ _ _ ha h=>Marks.adv h ha
theorem CB {F:Fence} {n:Nat} {P:Program} {md:Region.Mode} {ops:Array Oper} {ds:List Deferred} {Q:Exit→Act→World→Prop}:∀ (fuel:Nat) (l:Array Bool) (a:Act) (w:World),wpAnyIn F n P md ops (fun e a w=>Q e (TD ds a) w) fuel l a w→wpAnyIn F n P md ops Q fuel l (TD ds a) w
 | 0,_,_,_,h=>h
 | fuel+1,l,a,w,h=>by
  refine⟨fun e=>h.1 e,fun i hi=>?_⟩;have h:=h.2 i hi;unfold wpOpIn at h ⊢;split
  ·rename_i e;rw[e]at h;exact CB fuel _ a w h
  ·rename_i o e;rw[e]at h;simp only at h;have ht:(TD ds a).tmps=a.tmps:=rfl;have he:(TD ds a).eval=a.eval:=rfl;rw[ht];split
   ·rename_i hw;rw[if_pos hw]at h;exact AV5 (Oper.wpIn_mono (fun a w h=>CB fuel _ a w h) h)
   ·rename_i hw;rw[if_neg hw]at h;rw[he,MX];exact⟨h.1,CB fuel _ _ w h.2⟩
theorem AN8 (hC:CtxOk C) {call:dI} (hcall:CallOk C call) {ops:Array Oper} {base nt:Nat} {R':RS} {env:Nat→AV} {st:Store} {ds:List Deferred} {ρ:Option Nat} {w0:World} {m0:Mem} {φ0:Pl} {a:Act} {w:World} {Q:Exit→Act→World→Prop}
 (hs:∀ o∈ops,gN nt o=true) (hlex:Region.lexB .any ops=true) (hrun:dC C call ops.toList true base ops.toList 0 { env:=env,st:=st,log:=[] }=some R')
 (hr:ARel ds w0 m0 φ0 nt (fun id=>id<base) env st a w) (hQ:∀ a' w',ARel ds w0 m0 φ0 nt (fun _=>True) R'.env R'.st a' w'→Q .normal a' w'):wpAnyIn (FR ρ) 0 C.P .any ops Q ops.size (Array.replicate ops.size false) a { w with drawn:=w.drawn+1 }:=by
 simp only[Region.lexB,zT]at hlex;obtain⟨ts,hlen,hlx,hp⟩:=vU _ _ _ _ hrun
 let T:Nat→Ft:=fun i=>(ts[i]?).getD ([],true)
 have hget:∀ i o,ops[i]?=some o→∃ t,ts[i]?=some t∧T i=t:=fun i o ho=>by
  have hlt:i<ops.toList.length:=by simpa using (zN.1 ho).1
  rw[← hlen]at hlt;exact⟨ts[i],zX hlt,by simp[T,zX hlt]⟩
 have hT:∀ i j oi oj,ops[i]?=some oi→ops[j]?=some oj→i≠j→fV ops.toList 3 oj.after.toList i=false→fV ops.toList 3 oi.after.toList j=false→X0 base (T i) (T j) i j:=by
  intro i j oi oj hi hj hne hji hij;obtain⟨ti,gi,ei⟩:=hget i oi hi;obtain⟨tj,gj,ej⟩:=hget j oj hj;rw[ei,ej];obtain⟨pi1,_,pi3⟩:=hp i oi ti (by simpa using hi) gi;obtain⟨pj1,_,pj3⟩:=hp j oj tj (by simpa using hj) gj;refine⟨?_,fun x hx=>qB pj1 x hx i hji,fun x hx=>qB pi1 x hx j hij⟩
  rcases Nat.lt_or_gt_of_ne hne with h|h
  ·by_cases he:ti.1=[]
   ·rw[he];exact .inl (by simp)
   ·have:=pj3 i ti h gi he;rw[zH]at this
    rcases this with q|q|q
    ·exact .inl fun x hx hm=>nX q x hm hx
    ·exact .inr ⟨q.2,q.1⟩
    ·rw[hji]at q;cases q
  ·by_cases he:tj.1=[]
   ·rw[he];exact .inl (by simp)
   ·have:=pi3 j tj h gj he;rw[zH]at this
    rcases this with q|q|q
    ·exact .inl fun x hx hm=>nX q x hx hm
    ·exact .inr q
    ·rw[hij]at q;cases q
 refine(PT (QA:=fun S=>S=(R'.env,R'.st)) (base:=base) (T:=T) hC hcall hs (fun S a w h1 h2=>by subst h1;exact hQ a w h2) _ _ (env,st) a _ ?_ ?_)
 ·have:=SV (C:=C) (call:=call) (base:=base) (T:=T) (Q:=fun S=>S=(R'.env,R'.st)) hT ops.toList ts 0 (Array.replicate ops.size false) (env,st) (R'.env,R'.st) (by intro k ok _ hl;exfalso;rcases zD5 k ops.size with h'|h'<;>simp[h',zD0]at hl) (by simp)
   (fun j t ht=>by simp[T,ht]) (by simpa using hlex.2) hlx rfl
  simpa using this
 ·obtain⟨⟨m,φ,k1,k2,k3,k4,k7⟩,k5,k6⟩:=hr;exact⟨⟨m,φ,k1.drew,k2,k3.trans (.drew w m φ),fun id hne=>.inl (k4 id hne),k7.adv (.drew w m φ)⟩,k5,k6⟩
theorem GR.ALO (hS:SoundOk C) (hm:C.P.follows .mixedOrders=true) {id base:Nat} {ops:Array Oper} {ds:List Deferred} {R:World→Mem→Pl→Prop} (hR:XA R) {ok:Nat→Prop} (hok:∀ id,ok id→id<base) {env:Nat→AV} {st:Store} {R':RS} {a:Act} {w:World} {Q:Exit→Act→World→Prop} (hs:ops.all (gN nt)=true) (hlex:Region.lexB .any ops=true)
 (hrun:dC C (aH C) ops.toList true base ops.toList 0 { env:=env,st:=st,log:=[] }=some R') (h:GR wi mi nt ok R env st a w) (hQ:∀ a' w',GR wi mi nt (fun _=>True) R R'.env R'.st a' w'→Q .normal (TD ds a') w'):(Code.region id ops true).wp C.P Q (TD ds a) w:=by
 obtain⟨⟨m,φ,h1,h2,h3,h4,h5⟩,h6,h7⟩:=h;refine wpIn_wide.1 (wpIn_region_any (F:=Fence.wide) (n:=0) hm (CB _ _ a _ ?_));refine AN8 (ρ:=none) hS.ctx (aY hS) (fun o ho=>yG.1 hs o ho) hlex hrun (ds:=[]) (w0:=w) (m0:=m) (φ0:=φ) ⟨⟨m,φ,h1,h2, .refl _ _ _,fun id hne=>hok id (h4 id hne), .nil _ _ _⟩,h6,h7⟩ fun a' w' k=>?_
 obtain⟨⟨m',φ',k1,k2,k3,k4,_⟩,k5,k6⟩:=k;exact hQ a' w' ⟨⟨m',φ',k1,k2,h3.trans k3,k4,hR _ _ _ _ _ _ k3 h5⟩,k5,k6⟩
theorem GR.Ac4 (hS:SoundOk C) {G:List Nat} {c:Code} {S S':AS} {e:AExit} {a:Act} {w:World} (hc:codeOk nt c=true) (hx:dY C G S.st.length c S=some (e,S')) (h:GR wi mi nt (fun id=>id<S.st.length) (fun _ _ _=>True) (aJ S.env) (aR S.st) a w) :
 c.wp C.P (fun e' a' w'=>e'=gQ e∧∃ ds a0,a'=TD ds a0∧GR wi mi nt (fun id=>id<S'.st.length) (MK wi.heap.size ds) (aJ S'.env) (aR S'.st) a0 w') a w:=by
 obtain⟨n,hn⟩:=(dD _).1 hx;obtain⟨⟨m,φ,h1,h2,h3,h4,h5⟩,h6,h7⟩:=h;refine wpIn_wide.1 (wpIn_mono (bW (ρ:=none) hS.ctx (aY hS) (hS.draw _ (aY hS)) h4 n c S S' e [] a w hc (.inl rfl) hn ⟨⟨⟨m,φ,h1,h2, .refl _ _ _,h4, .nil _ _ _⟩,h6,h7⟩,zO _⟩) ?_);rintro e' a' w' ⟨rfl,ds,k,-⟩;obtain⟨⟨⟨m',φ',k1,k2,k3,k4,k7⟩,k5,k6⟩,_⟩:=k;refine⟨rfl,ds,{ a' with defers:=[] },?_,⟨⟨m',φ',k1,k2,h3.trans k3,k4,k7.low h3.size⟩,k5,rfl⟩⟩;unfold TD;subst k6;rfl
theorem GR.leave {fn:Func} {Post:Ending→World→Prop} {ok:Nat→Prop} {R:World→Mem→Pl→Prop} {env:Nat→AV} {st:Store} (hR:∀ w m φ D,R w m φ→w.heap[D]?=some (.deferred (some []))→R (w.putObj D (.deferred none)) m φ):∀ {ds:List Deferred} {a:Act} {w:World},GR wi mi nt ok (fun w m φ=>R w m φ∧MK wi.heap.size ds w m φ) env st a w →
 (∀ (a':Act) (w':World),a'.tmps=a.tmps→GR wi mi nt ok R env st a' w'→∃ v,(results fn a'.tmps).run C.P w'=.ok v w'∧Post (.returned v) w')→LeavesInM Fence.wide 0 C.P fn a.tmps Post ds .returning w
 | [],a,w,h,k=>by
  obtain⟨⟨m,φ,h1,h2,h3,h4,h5⟩,h6,h7⟩:=h;obtain⟨v,k1,k2⟩:=k a w rfl ⟨⟨m,φ,h1,h2,h3,h4,h5.1⟩,h6,h7⟩;exact⟨v,k1,k2⟩
 | d::ds,a,w,h,k=>by
  obtain⟨⟨m,φ,hi,henv,hadv,hok,hr,hmk⟩,hsz,hdf⟩:=h;obtain⟨Ds,f1,f2,f3⟩:=Marks.form hmk
  cases Ds with
  | nil=>cases f1
  | cons D Ds =>
   simp only[yS,List.cons.injEq]at f1;obtain⟨rfl,f1⟩:=f1;obtain⟨g1,g2,g3⟩:=f3 D (by simp);obtain⟨n1,n2⟩:=yX.1 f2;have hoth:∀ x,x≠D→(w.putObj D (.deferred none)).heap[x]?=w.heap[x]?:=fun x hx=>World.putObj_heap_other hx
   have hm:∀ o,m D o=none:=by
    intro o
    cases e:m D o with
    | none=>rfl
    | some v =>
     have:=hi.mem D o v e;simp[World.cell?,g2]at this
   refine⟨by simp, .inl ⟨D,_,rfl,run_takeDeferred g2,GR.leave hR (a:=a) ⟨⟨m,φ,hi.aside (by simp) hoth hm g3,henv,?_,hok,hR _ _ _ _ hr g2,⟨⟨Ds,f1,n2,fun D' hD'=>?_⟩⟩⟩,hsz,hdf⟩ k⟩⟩
   ·refine⟨by simpa using hadv.size,hadv.os,⟨hadv.tape.tape,hadv.tape.fwd⟩,hadv.output,?_,hadv.mle,hadv.mnew,hadv.ple,hadv.pnew⟩;intro b hb1 hb2;rw[hoth b (by omega)];exact hadv.block b hb1 hb2
   ·obtain⟨k1,k2,k3⟩:=f3 D' (by simp[hD']);exact⟨k1,by rw[hoth D' fun e=>n1 (e ▸ hD')];exact k2,k3⟩
theorem UCells.toP {w:World} {m:Mem}:∀ {cs:List IV} {vs:List Value} {F:List Nat},UCells w m cs vs F→jI cs=true→TCells w cs vs F
 | _,_,_, .nil,_=>.nil
 | _,_,_, .lit o r,h=>.lit o (r.toP (by simp[jI]at h;first|exact h.2|exact h))
 | _,_,_, .isl0 c r,h=>.isl0 c (r.toP (by simp[jI]at h;first|exact h.2|exact h))
 | _,_,_, .isl hn hr hk hl hf hc g r,h=>.isl hn hr hk hl hf hc g (r.toP (by simp[jI]at h;first|exact h.2|exact h))
 | _,_,_, .kn a o r,h=>by simp[jI,KJ]at h
structure OWN (wi:World) (row:List IV) (vs:List Value) (F:List Nat) (w:World) (m:Mem) (φ:Pl):Prop where
 cells:TCells w row vs F
 nd:F.Nodup
 all:∀ f∈F,wi.heap.size≤f∧f<w.heap.size∧eD φ f∧∀ o,m f o=none
theorem OWN.D8 (wi:World) (row:List IV) (vs:List Value) (F:List Nat):XA (OWN wi row vs F):=by
 intro w m φ w' m' φ' ha h;refine⟨h.cells.mono fun f hf=>ha.block f (h.all f hf).2.1 (h.all f hf).2.2.1,h.nd,fun f hf=>?_⟩;obtain⟨k1,k2,k3,k4⟩:=h.all f hf;exact⟨k1,zI k2 ha.size,ha.range k2 k3,fun o=>(ha.mnew f k2 k3 o).trans (k4 o)⟩
theorem OWN.put {row:List IV} {vs:List Value} {F:List Nat} {w:World} {m:Mem} {φ:Pl} {D:Nat} (h:OWN wi row vs F w m φ) (hD:w.heap[D]?=some (.deferred (some []))) (hF:∀ f∈F,∃ vs T,w.heap[f]?=some (.cells vs T (0,0))):OWN wi row vs F (w.putObj D (.deferred none)) m φ:=by
 refine⟨h.cells.mono fun f hf=>World.putObj_heap_other fun e=>?_,h.nd,fun f hf=>?_⟩
 ·subst e;obtain⟨vs,T,e⟩:=hF f hf;rw[e]at hD;cases hD
 ·obtain⟨k1,k2,k3,k4⟩:=h.all f hf;exact⟨k1,by simpa using k2,k3,k4⟩
theorem TCells.ALK {w:World}:∀ {cs:List IV} {vs:List Value} {F:List Nat},TCells w cs vs F→∀ f∈F,∃ vs T,w.heap[f]?=some (.cells vs T (0,0))
 | _,_,_, .nil=>by simp
 | _,_,_, .lit _ r=>r.ALK
 | _,_,_, .isl0 _ r=>r.ALK
 | _,_,_, .isl _ ⟨T,hr,_⟩ _ _ _ _ g r=>by
  intro f hf;simp only[yV,zS,zV]at hf
  rcases hf with rfl|hf|hf
  ·exact⟨_,_,hr⟩
  ·exact g.ALK f hf
  ·exact r.ALK f hf
theorem GR.AOD {R:World→Mem→Pl→Prop} (hRm:∀ w m φ φ',(∀ f,eD φ f→eD φ' f)→R w m φ→R w m φ') {G:List Nat} (hG:∀ w m φ,R w m φ→∀ f∈G,eD φ f) {ok:Nat→Prop} {env:Nat→AV} {st st':Store} {a:Act} {w:World} {u id k:Nat} {row:List IV} (h:GR wi mi nt ok R env st a w)
 (hu:env u=.own id 0) (hid:st id=some (.tre k [row])) (hp:jI row=true) (hst:∀ i blk,st' i=some blk→i≠id∧st i=some blk∧eB blk) :
 ∃ us F,(∀ f∈F,f ∉ G)∧k≤us.length∧(∀ v∈us,v.oneCell'=true)∧∀ env',(∀ t,env' t=.junk∨(t=u∧env' t=.own id 0)∨(env' t=env t∧cO st' (env t))) →
   GR wi mi nt ok (fun w m φ=>R w m φ∧OWN wi row (us.take k) F w m φ) env' (upd st' id (some (.box (bD us)))) a w:=by
 obtain⟨⟨m,φ,hi,henv,hadv,hk,hR⟩,h6,h7⟩:=h;have hr:=henv u;rw[hu]at hr;generalize hy:a.tmps.getD u undef=yy at hr
 cases hr with
 | @own _ _ b n e =>
  obtain⟨hb,hok⟩:=cK hi e hid;have hst2:∀ i blk,st' i=some blk→st i=some blk∧eB blk:=fun i blk hb=>(hst i blk hb).2
  have hid':st' id=none:=by
   cases hx:st' id with
   | none=>rfl
   | some blk=>exact absurd rfl (hst id blk hx).1
  have hφ:lI st' φ id=none:=by unfold lI;rw[hid']
  cases hok with
  | @tre T _ _ us F hh hl hpos hw hu2 hfit hnd hown hm hone =>
   simp only[z8,List.flatten_nil,zA,zP,yT,zH,zB8]at hu2 hfit;have ht:=hu2.toP hp;have hdr:∀ f,n.own f→eD (lI st' φ) f:=fun f hf=>kJ hi (fun i blk h=>(hst2 i blk h).1) hid hid' e hf
   have hgrow:∀ f,eD φ f→eD (upd (lI st' φ) id (some (b,one b us.length))) f:=fun f hf i r n' e' ho=>by
    by_cases hx:i=id
    ·subst hx;simp[upd]at e';obtain⟨rfl,rfl⟩:=e';rw[show f=_ from ho]at hf;exact hf i _ n e hb.1
    ·simp[upd,hx]at e';exact hf.cut i r n' e' ho
   refine⟨us,F,fun f hf hg=>hG w m φ hR f hg id b n e (hown f hf),by omega,hone,fun env' he=>?_⟩;have i2:=(hi.AUP hst2).adopt (vs:=us) hid' hφ (hdr b hb.1) (hm b hb.1) hh (nY hone)
   have hpl:PLe (lI st' φ) (upd (lI st' φ) id (some (b,one b us.length))):=fun i r n e=>by
    refine⟨n,?_,rfl,fun _ h=>h⟩;have:i≠id:=fun h=>by rw[h,hφ]at e;cases e
    simp[upd,this,e]
   refine⟨⟨m,_,i2,fun t=>?_,hadv.cut.adopt (lZ hadv e hb.1),fun i hi'=>?_,hRm _ _ _ _ hgrow hR,ht,(yX.1 hnd).2,fun f hf=>⟨lZ hadv e (hown f hf),hb.2 _ (hown f hf),?_,hm f (hown f hf)⟩⟩,h6,h7⟩
   ·rcases he t with e1|⟨rfl,e1⟩|⟨e1,e'⟩
    ·rw[e1];exact .junk _
    ·rw[e1,hy];exact .own (n:=one b us.length) (by simp[upd])
    ·rw[e1];exact(e'.rep (fun i hi'=>lH hi') (henv t)).mono (.refl _) hpl
   ·by_cases hx:i=id
    ·subst hx;exact hk _ (by rw[e];simp)
    ·simp[upd,hx]at hi';refine hk i fun h9=>hi' ?_
     unfold lI;split
     ·exact h9
     ·rfl
   ·intro i r n' e' ho;by_cases hx:i=id
    ·subst hx;simp[upd]at e';obtain⟨rfl,rfl⟩:=e';exact(yX.1 hnd).1 ((show f=_ from ho) ▸ hf)
    ·simp[upd,hx]at e';exact hdr f (hown f hf) i r n' e' ho
theorem OWN.free {row:List IV} {vs:List Value} {F:List Nat} {w:World} {m:Mem} {φ φ':Pl} (h:OWN wi row vs F w m φ) (hf:∀ f,eD φ f→eD φ' f):OWN wi row vs F w m φ' :=
 ⟨h.cells,h.nd,fun f hx=>by obtain⟨k1,k2,k3,k4⟩:=h.all f hx;exact⟨k1,k2,hf f k3,k4⟩⟩
theorem MK.free {n:Nat} {ds:List Deferred} {w:World} {m:Mem} {φ φ':Pl} (h:MK n ds w m φ) (hf:∀ f,eD φ f→eD φ' f):MK n ds w m φ':=by
 obtain⟨Ds,h1,h2,h3⟩:=Marks.form h;exact⟨⟨Ds,h1,h2,fun D hD=>⟨(h3 D hD).1,(h3 D hD).2.1,hf D (h3 D hD).2.2⟩⟩⟩
end
theorem eD.ASD {φ:Pl} {f:Nat} (ids:List Nat) (hf:eD φ f):eD (eX ids φ) f:=fun id r n e=>by
 unfold eX at e
 cases hx:ids[id]? with
 | none=>rw[hx]at e;cases e
 | some j=>rw[hx]at e;exact hf j r n e
def stZ (s:Stp) (j:Nat):AV:=.agg [.int s.1,if s.2=[]then .i (.isl [])else .osl j 1 0 s.2.length]
def J5 (s:Stp):StL:=if s.2=[]then []else [some (.arr 1 (aF s.2))]
theorem ALY {wi w:World} {mi m:Mem} {φ:Pl} {q:Pn} {s:Stp} {v0 v1 v2 v3 v4 u0 u1:Value} {F8 F9:List Nat} (hm:kR w m) (hk:oD w m) (ha:Adv wi mi (fun _=>none) w m (fun _=>none)) (h8:OWN wi q.cells [v0,v1,v2,v3,v4] F8 w m φ) (h9:OWN wi [.int s.1, .isl (aF s.2)] [u0,u1] F9 w m φ) (hd:∀ f∈F9,f ∉ F8)
 (o8:∀ v∈[v0,v1,v2,v3,v4],v.oneCell'=true) (o9:∀ v∈[u0,u1],v.oneCell'=true) :
 bS wi mi (fun _=>none) (.tup [.agg (rqZ q 0),stZ s (rqB q).length]) (rqB q++J5 s) (.returned (.tuple #[.agg #[v0,v1,v2,v3,v4], .agg #[u0,u1]])) w:=by
 have ht:=h8.cells;have hnd:=h8.nd;have hall:=h8.all;clear h8;rw[Pn.aA]at ht
 cases ht with
 | lit _ ht =>
 cases ht with
 | lit _ ht =>
 obtain⟨FE,G,hF,tE,ht2⟩:=ht.split 1;obtain⟨FC,FK,hG,tC,tK⟩:=ht2.split 1;simp at tE tC tK;subst hG;subst hF;have n1:=zJ.1 hnd;have n2:=zJ.1 n1.2.1
 have i0:Inv w m (fun _=>none) (aR []):=⟨hm,fun id blk e=>by simp[aR]at e,fun id id' b b' n n' blk blk' f e=>by simp[aR]at e,(fun _ _ _ _ e=>by cases e),hk⟩
 have f0:∀ f,eD (fun _=>none) f:=fun f _ _ _ e=>by cases e
 obtain⟨φ1,i1,b1,p1,r1,f1,q1⟩:=J8 (st:=[]) i0 (fun id h=>absurd rfl h) (k:=5) (by omega) (AaF q.exprs) tE n1.1 (fun f hf=>(hall f (by simp[hf])).2.2.2) (fun f hf=>(hall f (by simp[hf])).2.1) (fun f hf=>f0 f) (blk:=.tre 5 (Ex.aB q.exprs)) (.inl rfl) (q.exprs=[]) G7;have fr1:∀ f,f ∉ FE→eD φ1 f:=fun f hf=>f1 f (f0 f) hf
 obtain⟨φ2,i2,b2,p2,r2,f2,q2⟩:=J8 i1 b1 (k:=1) (by omega) (AZ0 q.cols) tC n2.1 (fun f hf=>(hall f (by simp[hf])).2.2.2) (fun f hf=>(hall f (by simp[hf])).2.1) (fun f hf=>fr1 f fun h=>n1.2.2 f h f (by simp[hf]) rfl) (blk:=.arr 1 (aF q.cols)) (.inr ⟨rfl,EJ _⟩) (q.cols=[]) wB;have fr2:∀ f,f ∉ FE→f ∉ FC→eD φ2 f:=fun f hf hf'=>f2 f (fr1 f hf) hf'
 obtain⟨φ3,i3,b3,p3,r3,f3,q3⟩:=J8 i2 b2 (k:=5) (by omega) (AaE q.kids) tK n2.2.1 (fun f hf=>(hall f (by simp[hf])).2.2.2) (fun f hf=>(hall f (by simp[hf])).2.1) (fun f hf=>fr2 f (fun h=>n1.2.2 f h f (by simp[hf]) rfl) fun h=>n2.2.2 f h f hf rfl) (blk:=.tre 5 (Pn.aB q.kids)) (.inl rfl) (q.kids=[]) G6;have fr3:∀ f,f ∉ FE→f ∉ FC→f ∉ FK→eD φ3 f:=fun f h1 h2 h3=>f3 f (fr2 f h1 h2) h3
 have ht9:=h9.cells;have hn9:=h9.nd;have ha9:=h9.all;clear h9
 cases ht9 with
 | lit _ ht9 =>
 obtain⟨φ4,i4,b4,p4,r4,f4,q4⟩:=J8 i3 b3 (k:=1) (by omega) (AZ0 s.2) ht9 hn9 (fun f hf=>(ha9 f hf).2.2.2) (fun f hf=>(ha9 f hf).2.1) (fun f hf=>fr3 f (fun h=>hd f hf (by simp[h])) (fun h=>hd f hf (by simp[h])) fun h=>hd f hf (by simp[h])) (blk:=.arr 1 (aF s.2)) (.inr ⟨rfl,EJ _⟩) (s.2=[]) wB;have r1:=r1.mono (.refl m) ((p2.trans p3).trans p4);have r2:=r2.mono (.refl m) (p3.trans p4);have r3:=r3.mono (.refl m) p4;have hlen:([]++(if q.exprs=[]then []else [some (Blk.tre 5 (Ex.aB q.exprs))])++(if q.cols=[]then []else [some (Blk.arr 1 (aF q.cols))])++(if q.kids=[]then []else [some (Blk.tre 5 (Pn.aB q.kids))]):StL)=rqB q:=by simp[rqB]
 rw[hlen]at i4 b4 r4;refine⟨_,m,φ4,rfl, .tup (.cons ?_ (.cons ?_ .nil)),by simpa [J5]using i4,⟨ha.size,ha.os,ha.tape,ha.output,ha.block,ha.mle,ha.mnew,(fun _ _ _ h=>by cases h),fun id b n f e1 e2=>?_⟩,by simpa [J5]using b4⟩
 ·refine .agg (.cons (.i (.lit _)) rfl (.cons (.i (.lit _)) rfl (.cons ?_ (o8 _ (by simp)) (.cons ?_ (o8 _ (by simp)) (.cons ?_ (o8 _ (by simp)) .nil)))))
  ·by_cases c1:q.exprs=[]<;>simpa [c1]using r1
  ·by_cases c1:q.exprs=[]<;>by_cases c2:q.cols=[]<;>simpa [c1,c2]using r2
  ·by_cases c1:q.exprs=[]<;>by_cases c2:q.cols=[]<;>by_cases c3:q.kids=[]<;>simpa [c1,c2,c3]using r3
 ·refine .agg (.cons (.i (.lit _)) rfl (.cons ?_ (o9 _ (by simp)) .nil));simpa using r4
 ·rcases q4 id b n f e1 e2 with h|h
  ·exact .inl (ha9 f h).1
  rcases q3 id b n f h e2 with h|h
  ·exact .inl (hall f (by simp[h])).1
  ·rcases q2 id b n f h e2 with h|h
   ·exact .inl (hall f (by simp[h])).1
   ·rcases q1 id b n f h e2 with h|h
    ·exact .inl (hall f (by simp[h])).1
    ·cases h
def bxQ (p:Pn):Option Blk:=some (.box [.int p.kind, .int p.table, .i (.isl (Ex.aB p.exprs)), .i (.isl (aF p.cols)), .i (.isl (Pn.aB p.kids))])
def zpQ:Option Blk:=some (.box [.int 0, .int 0, .nils, .nils, .nils])
def zsQ:Option Blk:=some (.box [.int 0, .nils])
def EIm (p:Pn) (sts:List Sts) (v2 v3 v4 v5 v6 v7 v8 v9 v10 v11 v12 v13 v18 v26 v27 v36 v42:AV):List (Nat×AV) :=
 [(0, .i (.agg p.cells)),(1, .i (.isl (gM sts))),(2,v2),(3,v3),(4,v4),(5,v5),(6,v6),(7,v7),(8,v8),(9,v9),(10,v10),(11,v11),(12,v12),(13,v13),(18,v18),(26,v26),(27,v27),(36,v36),(42,v42)]
end Go.Av
namespace Go.Proofs.YtgiepjdnkonkgaaGreat.P
open Go Go.Av G
set_option maxRecDepth 4000
set_option maxHeartbeats 8000000
theorem AdZ (A X:Option Blk) (l:StL):upd (aR (A::l)) 0 X=aR (X::l):=by
 funext i
 cases i<;>simp[upd,aR]
theorem AaH {α:Type} (f:Nat→α) (a b:Nat) (x y z u:α):upd (upd (upd (upd f a x) b y) a z) b u=upd (upd f a z) b u:=by
 funext i;simp only[upd];split<;>(try rfl)<;>split<;>(try rfl)
theorem AhK:Tryz.f33.name≠ "runtime.NumGoroutine":=by decide
theorem AhM:Tryz.f33.body.isSome=true:=rfl
theorem QY {p:Pn} {sts:List Sts} (hq:J6 sts p=true) (hl:sts.length<2000000) (hd:∀ s∈sts,s.d.length<1000000000∧s.n.length<1000000000) {wi:World} {mi:Mem} {vs:List Value} (hi:Inv wi mi (fun _=>none) (aR [])) (hr:RepL mi (fun _=>none) [.i (.agg p.cells), .i (.isl (gM sts))] vs) :
 Calls Tryz.prog 9 vs.toArray wi (bS wi mi (fun _=>none) (.tup [.agg (rqZ (X8 sts p (stI (stW sts) [] p)).p 0),stZ (X8 sts p (stI (stW sts) [] p)).s (rqB (X8 sts p (stI (stW sts) [] p)).p).length]) (rqB (X8 sts p (stI (stW sts) [] p)).p++J5 (X8 sts p (stI (stW sts) [] p)).s)):=by
 obtain⟨hs,hw0⟩:=rD.1 hq;obtain⟨hws,hp8,hpw⟩:=fU hw0
 have hps:p.small:=⟨by have:=(Pn.tY p 8 hp8).2;omega,dJ p 8 hp8,(Pn.tY p 8 hp8).1⟩
 have c1:=ABN p sts hl hd;have c2:=wP sts hl fun s hs=>(hd s hs).1
 have c4:=AL3 p (stW sts);have hc0:=lJ hs p 8 hp8;unfold AN9 at c1;rw[hq]at c1;have hne:p.cst sts≠-1:=by omega
 have hne2:(p.cst sts == -1)=false:=by simpa using hne
 refine callsIn_wide.1 (callsIn_of_wp_marks (n:=0) (fn:=Tryz.f9) Tryz.func9 rfl trivial (wpIn_wide.2 ?_));have hv1:vs.length=2:=by simpa using hr.length.symm
 have g0:GR wi mi 48 (fun id=>id<({ env:=EIm p sts .junk .junk .junk .junk .junk .junk .junk .junk .junk .junk .junk .junk .junk .junk .junk .junk .junk,st:=[] }:AS).st.length) (fun _ _ _=>True) (aJ (EIm p sts .junk .junk .junk .junk .junk .junk .junk .junk .junk .junk .junk .junk .junk .junk .junk .junk .junk)) (aR []) { tmps:=vs.toArray++Array.replicate (48-vs.toArray.size) undef,defers:=[] } wi:=by
  refine⟨⟨mi,fun _=>none,hi,?_, .refl _ _ _,fun id h=>absurd rfl h,trivial⟩,by simp;omega,rfl⟩;intro t;have:=mG (m:=mi) (φ:=fun _=>none) (48-vs.toArray.size) hr t
  rcases t with _|_|t
  ·simpa [aJ,EIm,sN]using this
  ·simpa [aJ,EIm,sN]using this
  ·have hj:aJ (EIm p sts .junk .junk .junk .junk .junk .junk .junk .junk .junk .junk .junk .junk .junk .junk .junk .junk .junk) (t+1+1)=.junk:=by simp[aJ,EIm]
   rw[hj];exact .junk _
 refine wp_seq (wp_mono (GR.eF GZ (G:=GS 9) (S:={ env:=EIm p sts .junk .junk .junk .junk .junk .junk .junk .junk .junk .junk .junk .junk .junk .junk .junk .junk .junk,st:=[] }) (e:=.normal) (S':={ env:=EIm p sts (.own 0 0) (.own 1 0) (.own 2 0) (.own 3 0) .junk .junk .junk .junk .junk .junk .junk .junk .junk .junk .junk .junk .junk,st:=[bxQ p,some (.box [.i (.isl (gM sts))]),zpQ,zsQ] }) kX (by kernel_rfl) (by
  rw[Pn.aA p]at *
  simp[EIm,bxQ,zpQ,zsQ,Pn.aA p]) g0) ?_)
 rintro _ a1 w1 ⟨rfl,g1⟩
 refine wp_seq (wp_mono (GR.eF GZ (G:=GS 9) (S:={ env:=EIm p sts (.own 0 0) (.own 1 0) (.own 2 0) (.own 3 0) .junk .junk .junk .junk .junk .junk .junk .junk .junk .junk .junk .junk .junk,st:=[bxQ p,some (.box [.i (.isl (gM sts))]),zpQ,zsQ] }) (e:=.normal) (S':={ env:=EIm p sts (.own 0 0) (.own 1 0) (.own 2 0) (.own 3 0) (.own 4 0) .junk .junk .junk .junk .junk .junk .junk .junk .junk .junk .junk .junk,st:=[bxQ p,some (.box [.i (.isl (gM sts))]),zpQ,zsQ,some (.box [.int (p.cst sts)])] }) kX (by kernel_rfl) (by
  simp only[EIm,bxQ];rw[Pn.aA p]at *
  simp at c1
  simp[zpQ,zsQ,c1]) g1) ?_)
 rintro _ a2 w2 ⟨rfl,g2⟩
 refine wp_seq (wp_mono (GR.eF GZ (G:=GS 9) (S:={ env:=EIm p sts (.own 0 0) (.own 1 0) (.own 2 0) (.own 3 0) (.own 4 0) .junk .junk .junk .junk .junk .junk .junk .junk .junk .junk .junk .junk,st:=[bxQ p,some (.box [.i (.isl (gM sts))]),zpQ,zsQ,some (.box [.int (p.cst sts)])] }) (e:=.normal) (S':={ env:=EIm p sts (.own 0 0) (.own 1 0) (.own 2 0) (.own 3 0) (.own 4 0) .junk .junk .junk .junk .junk .junk .junk (.bool false) .junk .junk .junk .junk,st:=[bxQ p,some (.box [.i (.isl (gM sts))]),zpQ,zsQ,some (.box [.int (p.cst sts)])] }) kX (by kernel_rfl) (by
  simp only[EIm,bxQ]
  simp[zpQ,zsQ,hne,hne2]) g2) ?_)
 rintro _ a3 w3 ⟨rfl,g3⟩
 refine wp_seq (wp_mono (GR.eF GZ (G:=GS 9) (S:={ env:=EIm p sts (.own 0 0) (.own 1 0) (.own 2 0) (.own 3 0) (.own 4 0) .junk .junk .junk .junk .junk .junk .junk (.bool false) .junk .junk .junk .junk,st:=[bxQ p,some (.box [.i (.isl (gM sts))]),zpQ,zsQ,some (.box [.int (p.cst sts)])] }) (e:=.normal) (S':={ env:=EIm p sts (.own 0 0) (.own 1 0) (.own 2 0) (.own 3 0) (.own 4 0) (.own 5 0) .junk .junk .junk .junk .junk .junk (.bool false) .junk .junk .junk .junk,st:=[bxQ p,some (.box [.i (.isl (gM sts))]),zpQ,zsQ,some (.box [.int (p.cst sts)]),some (.box [.i (.isl (aF (stW sts)))])] }) kX (by kernel_rfl) (by
  simp only[EIm,bxQ]
  simp[zpQ,zsQ,c2]) g3) ?_)
 rintro _ a4 w4 ⟨rfl,g4⟩;clear g0 g1 g2 g3;refine wp_seq (kY ?_);show wpOpsIn (FR none) 0 Tryz.prog _ _ (List.range 6) a4 w4;rw[show List.range 6=0::(List.range' 1 5++[])from rfl,wpOpsIn_cons];obtain⟨⟨m4,φ4,i4,henv4,adv4,ok4,-⟩,sz4,df4⟩:=g4
 obtain⟨m5,rp5,i5,adv5⟩:=pG i4 (henv4 2) (show jC (aR [bxQ p,some (.box [.i (.isl (gM sts))]),zpQ,zsQ,some (.box [.int (p.cst sts)]),some (.box [.i (.isl (aF (stW sts)))])]) (.own 0 0)=some (.i (.iref p.cells),aR [some (.fbox p.cells),some (.box [.i (.isl (gM sts))]),zpQ,zsQ,some (.box [.int (p.cst sts)]),some (.box [.i (.isl (aF (stW sts)))])])by
  have hu:=AdZ (bxQ p) (some (.fbox p.cells)) [some (.box [.i (.isl (gM sts))]),zpQ,zsQ,some (.box [.int (p.cst sts)]),some (.box [.i (.isl (aF (stW sts)))])];rw[Pn.aA p]at hu ⊢;simp[bxQ,zpQ,zsQ,Pn.aA p]at hu ⊢
  exact hu)
 have rp5':RepL m5 (fun _=>none) [.i (.iref p.cells)] [a4.tmps.getD 2 undef]:=.cons (by cases rp5 with|i k=>exact .i k) .nil
 have i5':Inv w4 m5 (fun _=>none) (aR []):=⟨i5.mem,fun id blk e=>by simp[aR]at e,fun _ _ _ _ _ _ _ _ _ e=>by simp[aR]at e,(fun _ _ _ _ e=>by cases e),i5.kn⟩
 refine vI (P:=Tryz.prog) (fn:=Tryz.f33) (d:=23) (g:=33) (args:=#[.tmp 2]) rfl rfl rfl rfl Tryz.func33 AhK AhM (vs:=[a4.tmps.getD 2 undef]) rfl ((iO hps.1 hps.2.1 hps.2.2 i5' rp5').mono fun e w5 hraw=>?_);obtain⟨y,rfl,v0,v1,v2,v3,v4,F,g5⟩:=GR.AIH (nt:=48) (d:=23) (by omega) i5 (fun t=>(henv4 t).mono adv5.mle adv5.ple) (adv4.trans adv5) ok4 sz4 df4 hraw;refine⟨y,rfl,?_⟩;have hsz4:wi.heap.size≤w4.heap.size:=adv4.size;generalize hE4:EIm p sts (.own 0 0) (.own 1 0) (.own 2 0) (.own 3 0) (.own 4 0) (.own 5 0) .junk .junk .junk .junk .junk .junk (.bool false) .junk .junk .junk .junk=E4 at g5;generalize hS4:[some (.fbox p.cells),some (.box [.i (.isl (gM sts))]),zpQ,zsQ,some (.box [.int (p.cst sts)]),some (.box [.i (.isl (aF (stW sts)))])]=S4 at g5;refine GR.AXB GZ (CPY.D8 _ _ _ _ _ _ _ _) 1 5 rfl ?_ (base:=6) (R0:={ env:=upd (aJ E4) 23 (.i (.agg [.lit v0, .lit v1, .lit v2, .lit v3, .lit v4])),st:=aR S4,log:=[] }) (R1:={ env:=upd (upd (upd (upd (aJ E4) 23 (.i (.agg [.lit v0, .lit v1, .lit v2, .lit v3, .lit v4]))) 24 (.agg [.int 0, .nils])) 8 (.own 22 0)) 9 (.own 30 0),st:=upd (upd (aR S4) 22 (some (.box (bD [v0,v1,v2,v3,v4])))) 30 zsQ,log:=[] }) ?_ (g5.ok' fun id h=>.inl (by subst hS4;simpa using h)) fun a6 w6 g6=>?_
 ·kernel_rfl
 ·subst hS4;simp[bD,zpQ,zsQ,AVA];exact AaH _ _ _ _ _ _ _
 subst hS4;subst hE4
 have g7:=g6.AaK (u:=8) (id:=22) (st':=upd (aR [some (.fbox p.cells),some (.box [.i (.isl (gM sts))]),zpQ,zsQ,some (.box [.int (p.cst sts)]),some (.box [.i (.isl (aF (stW sts)))])]) 30 zsQ) hsz4 rfl rfl (by
  intro i blk h;by_cases e:i=30
  ·subst e;simp[upd,zsQ]at h;subst h;simp[upd,zsQ,eB]
  simp[upd,e]at h
  rcases i with _|_|_|_|_|_|i
  all_goals simp[aR,zpQ,zsQ]at h
  all_goals (subst h;simp[upd,aR,eB,zpQ,zsQ])) (env':=aJ (EIm p sts (.own 0 0) (.own 1 0) (.own 2 0) (.own 3 0) (.own 4 0) (.own 5 0) (.own 22 0) (.own 30 0) .junk .junk .junk .junk (.bool false) .junk .junk .junk .junk)) (by
  intro t;simp only[EIm,aJ];by_cases h0:t=0
  ·subst h0;exact .inr (.inr ⟨by simp[upd,aJ,EIm],by simp[upd,aJ,EIm,cO,aR,zpQ,zsQ]⟩)
  by_cases h1:t=1
  ·subst h1;exact .inr (.inr ⟨by simp[upd,aJ,EIm],by simp[upd,aJ,EIm,cO,aR,zpQ,zsQ]⟩)
  by_cases h2:t=2
  ·subst h2;exact .inr (.inr ⟨by simp[upd,aJ,EIm],by simp[upd,aJ,EIm,cO,aR,zpQ,zsQ]⟩)
  by_cases h3:t=3
  ·subst h3;exact .inr (.inr ⟨by simp[upd,aJ,EIm],by simp[upd,aJ,EIm,cO,aR,zpQ,zsQ]⟩)
  by_cases h4:t=4
  ·subst h4;exact .inr (.inr ⟨by simp[upd,aJ,EIm],by simp[upd,aJ,EIm,cO,aR,zpQ,zsQ]⟩)
  by_cases h5:t=5
  ·subst h5;exact .inr (.inr ⟨by simp[upd,aJ,EIm],by simp[upd,aJ,EIm,cO,aR,zpQ,zsQ]⟩)
  by_cases h6:t=6
  ·subst h6;exact .inr (.inr ⟨by simp[upd,aJ,EIm],by simp[upd,aJ,EIm,cO,aR,zpQ,zsQ]⟩)
  by_cases h7:t=7
  ·subst h7;exact .inr (.inr ⟨by simp[upd,aJ,EIm],by simp[upd,aJ,EIm,cO,aR,zpQ,zsQ]⟩)
  by_cases h9:t=9
  ·subst h9;exact .inr (.inr ⟨by simp[upd,aJ,EIm],by simp[upd,aJ,EIm,cO,aR,zpQ,zsQ]⟩)
  by_cases h18:t=18
  ·subst h18;exact .inr (.inr ⟨by simp[upd,aJ,EIm],by simp[upd,aJ,EIm,cO,aR,zpQ,zsQ]⟩)
  by_cases h8:t=8
  ·subst h8;exact .inr (.inl ⟨rfl,rfl⟩)
  exact .inl (by simp[h0,h1,h2,h3,h4,h5,h6,h7,h9,h18,h8]))
 have g8:=g7.AjK (u:=9) (id:=30) (row:=[.int 0, .isl []]) (st':=upd (aR [some (.fbox p.cells),some (.box [.i (.isl (gM sts))]),zpQ,zsQ,some (.box [.int (p.cst sts)]),some (.box [.i (.isl (aF (stW sts)))])]) 22 (some (.tre 5 [p.cells]))) rfl rfl (.int (.nils .nil)) (by simp) (by
  intro i blk h;by_cases e:i=22
  ·subst e;simp[upd]at h;subst h;simp[upd,eB]
  simp[upd,e]at h
  rcases i with _|_|_|_|_|_|i
  all_goals simp[aR,zpQ,zsQ]at h
  all_goals (subst h;simp[upd,aR,eB,zpQ,zsQ])) (env':=aJ (EIm p sts (.own 0 0) (.own 1 0) (.own 2 0) (.own 3 0) (.own 4 0) (.own 5 0) (.own 22 0) (.own 30 0) .junk .junk .junk .junk (.bool false) .junk .junk .junk .junk)) (by
  intro t;simp only[EIm,aJ];by_cases h0:t=0
  ·subst h0;exact .inr (.inr ⟨by simp[upd,aJ,EIm],by simp[upd,aJ,EIm,cO,aR,zpQ,zsQ]⟩)
  by_cases h1:t=1
  ·subst h1;exact .inr (.inr ⟨by simp[upd,aJ,EIm],by simp[upd,aJ,EIm,cO,aR,zpQ,zsQ]⟩)
  by_cases h2:t=2
  ·subst h2;exact .inr (.inr ⟨by simp[upd,aJ,EIm],by simp[upd,aJ,EIm,cO,aR,zpQ,zsQ]⟩)
  by_cases h3:t=3
  ·subst h3;exact .inr (.inr ⟨by simp[upd,aJ,EIm],by simp[upd,aJ,EIm,cO,aR,zpQ,zsQ]⟩)
  by_cases h4:t=4
  ·subst h4;exact .inr (.inr ⟨by simp[upd,aJ,EIm],by simp[upd,aJ,EIm,cO,aR,zpQ,zsQ]⟩)
  by_cases h5:t=5
  ·subst h5;exact .inr (.inr ⟨by simp[upd,aJ,EIm],by simp[upd,aJ,EIm,cO,aR,zpQ,zsQ]⟩)
  by_cases h6:t=6
  ·subst h6;exact .inr (.inr ⟨by simp[upd,aJ,EIm],by simp[upd,aJ,EIm,cO,aR,zpQ,zsQ]⟩)
  by_cases h7:t=7
  ·subst h7;exact .inr (.inr ⟨by simp[upd,aJ,EIm],by simp[upd,aJ,EIm,cO,aR,zpQ,zsQ]⟩)
  by_cases h8:t=8
  ·subst h8;exact .inr (.inr ⟨by simp[upd,aJ,EIm],by simp[upd,aJ,EIm,cO,aR,zpQ,zsQ]⟩)
  by_cases h18:t=18
  ·subst h18;exact .inr (.inr ⟨by simp[upd,aJ,EIm],by simp[upd,aJ,EIm,cO,aR,zpQ,zsQ]⟩)
  by_cases h9:t=9
  ·subst h9;exact .inr (.inl ⟨rfl,rfl⟩)
  exact .inl (by simp[h0,h1,h2,h3,h4,h5,h6,h7,h8,h18,h9]))
 clear g6 g7;have g9:=g8.settle (fun _ _ _ _ h=>h) (GS 9)
 have hset:Av.settle (GS 9) 0 (aJ (EIm p sts (.own 0 0) (.own 1 0) (.own 2 0) (.own 3 0) (.own 4 0) (.own 5 0) (.own 22 0) (.own 30 0) .junk .junk .junk .junk (.bool false) .junk .junk .junk .junk)) (upd (upd (aR [some (.fbox p.cells),some (.box [.i (.isl (gM sts))]),zpQ,zsQ,some (.box [.int (p.cst sts)]),some (.box [.i (.isl (aF (stW sts)))])]) 22 (some (.tre 5 [p.cells]))) 30 (some (.tre [IV.int 0, .isl []].length [[.int 0, .isl []]])))={ env:=EIm p sts (.own 0 0) (.own 1 0) (.own 2 0) (.own 3 0) (.own 4 0) (.own 5 0) (.own 6 0) (.own 7 0) .junk .junk .junk .junk (.bool false) .junk .junk .junk .junk,st:=[some (.fbox p.cells),some (.box [.i (.isl (gM sts))]),zpQ,zsQ,some (.box [.int (p.cst sts)]),some (.box [.i (.isl (aF (stW sts)))]),some (.tre 5 [p.cells]),some (.tre 2 [[.int 0, .isl []]])] }:=by
  simp[EIm,zpQ,zsQ,upd,aR]
 rw[hset]at g9;clear g8 hset;have c5:=fun R cs (hY:YJ R cs p.cells (.isl (gM sts)) (.isl (aF (stW sts))) sts (stW sts) p)=>ACK hY hws hp8 ⟨p,(0,[]),p.cst sts⟩
 have hB:(stI (stW sts) [] p).foldl (BX sts (stW sts) p) ⟨p,(0,[]),p.cst sts⟩=X8 sts p (stI (stW sts) [] p):=rfl;generalize X8 sts p (stI (stW sts) [] p)=B at *
 show Code.wp Tryz.prog (.seq _ _) _ _ _
 refine wp_seq (wp_mono (GR.Ac4 GZ (G:=GS 9) (S:={ env:=EIm p sts (.own 0 0) (.own 1 0) (.own 2 0) (.own 3 0) (.own 4 0) (.own 5 0) (.own 6 0) (.own 7 0) .junk .junk .junk .junk (.bool false) .junk .junk .junk .junk,st:=[some (.fbox p.cells),some (.box [.i (.isl (gM sts))]),zpQ,zsQ,some (.box [.int (p.cst sts)]),some (.box [.i (.isl (aF (stW sts)))]),some (.tre 5 [p.cells]),some (.tre 2 [[.int 0, .isl []]])] }) (e:=.normal) (S':={ env:=EIm p sts (.own 0 0) (.own 1 0) (.own 2 0) (.own 3 0) (.own 4 0) (.own 5 0) (.own 6 0) (.own 7 0) .junk .junk .junk .junk (.bool false) (.fn (.func 62) [.own 8 0, .own 9 0]) .junk .junk .junk,st:=[some (.fbox p.cells),some (.box [.i (.isl (gM sts))]),zpQ,zsQ,some (.box [.int B.c]),some (.box [.i (.isl (aF (stW sts)))]),some (.tre 5 [B.p.cells]),some (.tre 2 [[.int B.s.1, .isl (aF B.s.2)]]),some (.box [.i (.iref p.cells)]),some (.box [.i (.isl (aF (stW sts)))])] }) (by kernel_rfl) (by
  simp only[EIm];simp only[Pn.aA p]at c4 c5 ⊢;simp[zpQ,zsQ,c4,bK,AP0,Q3,AFV,AQH,Op.operands,Call.operands,oG];generalize hR:Rng.mk [0,1,2,3,4,5,6,7,8,9,10,11,12,13,18,26,27,36,42] [2,3,6,7,8,9,10,11,12,13,27,36,42] [27] _ _=R
  have hY:YJ R [.own 1 0, .own 2 0, .own 3 0, .own 4 0, .own 5 0, .own 6 0, .junk, .junk, .junk, .junk, .junk, .junk, .junk] [.int p.kind, .int p.table, .isl (Ex.aB p.exprs), .isl (aF p.cols), .isl (Pn.aB p.kids)] (.isl (gM sts)) (.isl (aF (stW sts))) sts (stW sts) p:=by
   clear c1 c2 c4 c5 hB g9;refine⟨rfl,?_,?_⟩
   ·intro r b;have e1:=AJ5 p (stW sts) r;rw[Pn.aA p]at e1;subst hR;rw[WI];unfold BX
    cases hq2:apO p (stW sts) r []with
    | none =>
     rw[hq2]at e1;simp[OZ,Pn.zero,rqA,rqB]at e1;simp[bsT,e1]
    | some q =>
     rw[hq2]at e1;simp only[OZ,yP,Option.isSome_some]at e1;have e2:=AJ3 q sts hl hd;rw[AIV hs hq2]at e2;obtain⟨t1,t2,t3⟩:=EL hq2;obtain⟨-,hq8,-⟩:=fU (show q.width (stW sts)≠0 by rw[t3];exact t2);by_cases hlt:q.cst sts<b.c
     ·rcases NZ hq8 with ⟨s1,s2,s3⟩|⟨s1,s2,s3⟩|⟨s1,s2,s3⟩|⟨s1,s2,s3⟩
      all_goals
       simp[rqA,rqB,s1,s2,s3]at e1 e2;simp[bsT,e1,e2,hlt,s1,s2,s3,Ex.aB,Pn.aB,aF]
     ·rcases NZ hq8 with ⟨s1,s2,s3⟩|⟨s1,s2,s3⟩|⟨s1,s2,s3⟩|⟨s1,s2,s3⟩
      all_goals
       simp[rqA,rqB,s1,s2,s3]at e1 e2;simp[bsT,e1,e2,hlt]
   ·intro r path b hp hl8;have e1:=AJ4 p (stW sts) r path;rw[Pn.aA p]at e1;subst hR;rw[WI];unfold BX YL;have ht:path.take path.length=path:=zY (by omega)
    cases hq2:apO p (stW sts) r path with
    | none =>
     rw[hq2]at e1;simp[OZ,Pn.zero,rqA,rqB]at e1;simp[bsT,e1,ht]
    | some q =>
     rw[hq2]at e1;simp only[OZ,yP,Option.isSome_some]at e1;have e2:=AJ3 q sts hl hd;rw[AIV hs hq2]at e2;obtain⟨t1,t2,t3⟩:=EL hq2;obtain⟨-,hq8,-⟩:=fU (show q.width (stW sts)≠0 by rw[t3];exact t2);by_cases hlt:q.cst sts<b.c
     ·rcases NZ hq8 with ⟨s1,s2,s3⟩|⟨s1,s2,s3⟩|⟨s1,s2,s3⟩|⟨s1,s2,s3⟩
      all_goals
       simp[rqA,rqB,s1,s2,s3]at e1 e2;simp[bsT,e1,e2,hlt,s1,s2,s3,ht,Ex.aB,Pn.aB,aF]
     ·rcases NZ hq8 with ⟨s1,s2,s3⟩|⟨s1,s2,s3⟩|⟨s1,s2,s3⟩|⟨s1,s2,s3⟩
      all_goals
       simp[rqA,rqB,s1,s2,s3]at e1 e2;simp[bsT,e1,e2,hlt,ht]
  have c5:=c5 R _ hY;clear hR;rw[hB]at c5;simp[bsT,aF]at c5
  simp[c5,Pn.aA B.p]) g9) ?_)
 rintro _ a7 w7 ⟨rfl,ds,a0,rfl,g10⟩;clear c1 c2 c4 c5 g9 hB;have g10:GR wi mi 48 (fun id=>id<10) (MK wi.heap.size ds) (aJ (EIm p sts (.own 0 0) (.own 1 0) (.own 2 0) (.own 3 0) (.own 4 0) (.own 5 0) (.own 6 0) (.own 7 0) .junk .junk .junk .junk (.bool false) (.fn (.func 62) [.own 8 0, .own 9 0]) .junk .junk .junk)) (aR [some (.fbox p.cells),some (.box [.i (.isl (gM sts))]),zpQ,zsQ,some (.box [.int B.c]),some (.box [.i (.isl (aF (stW sts)))]),some (.tre 5 [B.p.cells]),some (.tre 2 [[.int B.s.1, .isl (aF B.s.2)]]),some (.box [.i (.iref p.cells)]),some (.box [.i (.isl (aF (stW sts)))])]) a0 w7:=g10
 obtain⟨us,F8,-,hl8,ho8,g11⟩:=GR.AOD (R:=MK wi.heap.size ds) (env:=aJ (EIm p sts (.own 0 0) (.own 1 0) (.own 2 0) (.own 3 0) (.own 4 0) (.own 5 0) (.own 6 0) (.own 7 0) .junk .junk .junk .junk (.bool false) (.fn (.func 62) [.own 8 0, .own 9 0]) .junk .junk .junk)) (st:=aR [some (.fbox p.cells),some (.box [.i (.isl (gM sts))]),zpQ,zsQ,some (.box [.int B.c]),some (.box [.i (.isl (aF (stW sts)))]),some (.tre 5 [B.p.cells]),some (.tre 2 [[.int B.s.1, .isl (aF B.s.2)]]),some (.box [.i (.iref p.cells)]),some (.box [.i (.isl (aF (stW sts)))])]) (fun w m φ φ' hf h=>MK.free h hf) (G:=[]) (fun _ _ _ _ f hf=>absurd hf (by simp)) g10 (u:=8) (id:=6) (k:=5) (row:=B.p.cells) (st':=aR [none,none,zpQ,zsQ,none,none,none,some (.tre 2 [[.int B.s.1, .isl (aF B.s.2)]])]) rfl rfl (by rw[Pn.aA];simp[jI,KJ]) (by
  intro i blk h
  rcases i with _|_|_|_|_|_|_|_|i
  all_goals simp[aR,zpQ,zsQ]at h
  all_goals (subst h;simp[aR,eB,zpQ,zsQ]))
 have g11:=g11 (aJ (EIm p sts .junk .junk (.own 2 0) (.own 3 0) .junk .junk (.own 6 0) (.own 7 0) .junk .junk .junk .junk .junk .junk .junk .junk .junk)) (by
  intro t;simp only[EIm,aJ];by_cases h0:t=0
  ·subst h0;exact .inr (.inr ⟨by simp[upd,aJ,EIm],by simp[upd,aJ,EIm,cO,aR,zpQ,zsQ]⟩)
  by_cases h1:t=1
  ·subst h1;exact .inr (.inr ⟨by simp[upd,aJ,EIm],by simp[upd,aJ,EIm,cO,aR,zpQ,zsQ]⟩)
  by_cases h4:t=4
  ·subst h4;exact .inr (.inr ⟨by simp[upd,aJ,EIm],by simp[upd,aJ,EIm,cO,aR,zpQ,zsQ]⟩)
  by_cases h5:t=5
  ·subst h5;exact .inr (.inr ⟨by simp[upd,aJ,EIm],by simp[upd,aJ,EIm,cO,aR,zpQ,zsQ]⟩)
  by_cases h9:t=9
  ·subst h9;exact .inr (.inr ⟨by simp[upd,aJ,EIm],by simp[upd,aJ,EIm,cO,aR,zpQ,zsQ]⟩)
  by_cases h8:t=8
  ·subst h8;exact .inr (.inl ⟨rfl,rfl⟩)
  exact .inl (by simp[h0,h1,h4,h5,h9,h8]))
 obtain⟨us2,F9,hd,hl9,ho9,g12⟩:=GR.AOD (R:=fun w m φ=>MK wi.heap.size ds w m φ∧OWN wi B.p.cells (us.take 5) F8 w m φ) (env:=aJ (EIm p sts .junk .junk (.own 2 0) (.own 3 0) .junk .junk (.own 6 0) (.own 7 0) .junk .junk .junk .junk .junk .junk .junk .junk .junk)) (st:=upd (aR [none,none,zpQ,zsQ,none,none,none,some (.tre 2 [[.int B.s.1, .isl (aF B.s.2)]])]) 6 (some (.box (bD us)))) (fun w m φ φ' hf h=>⟨MK.free h.1 hf,h.2.free hf⟩) (G:=F8) (fun _ _ _ h f hf=>(h.2.all f hf).2.2.1) g11 (u:=9) (id:=7) (k:=2) (row:=[.int B.s.1, .isl (aF B.s.2)]) (st':=upd (aR [none,none,zpQ,zsQ]) 6 (some (.box (bD us)))) rfl rfl (by simp[jI,KJ]) (by
  intro i blk h;by_cases e:i=6
  ·subst e;simp[upd]at h;subst h;simp[upd,eB,bD]
  simp[upd,e]at h
  rcases i with _|_|_|_|i
  all_goals simp[aR,zpQ,zsQ]at h
  all_goals (subst h;simp[upd,aR,eB,zpQ,zsQ]))
 have g12:=g12 (aJ (EIm p sts .junk .junk (.own 2 0) (.own 3 0) .junk .junk (.own 6 0) (.own 7 0) .junk .junk .junk .junk .junk .junk .junk .junk .junk)) (by
  intro t;simp only[EIm,aJ];by_cases h0:t=0
  ·subst h0;exact .inr (.inr ⟨by simp[upd,aJ,EIm],by simp[upd,aJ,EIm,cO,aR,zpQ,zsQ]⟩)
  by_cases h1:t=1
  ·subst h1;exact .inr (.inr ⟨by simp[upd,aJ,EIm],by simp[upd,aJ,EIm,cO,aR,zpQ,zsQ]⟩)
  by_cases h4:t=4
  ·subst h4;exact .inr (.inr ⟨by simp[upd,aJ,EIm],by simp[upd,aJ,EIm,cO,aR,zpQ,zsQ]⟩)
  by_cases h5:t=5
  ·subst h5;exact .inr (.inr ⟨by simp[upd,aJ,EIm],by simp[upd,aJ,EIm,cO,aR,zpQ,zsQ]⟩)
  by_cases h8:t=8
  ·subst h8;exact .inr (.inr ⟨by simp[upd,aJ,EIm],by simp[upd,aJ,EIm,cO,aR,zpQ,zsQ]⟩)
  by_cases h9:t=9
  ·subst h9;exact .inr (.inl ⟨rfl,rfl⟩)
  exact .inl (by simp[h0,h1,h4,h5,h8,h9]))
 clear g10 g11
 obtain⟨v0,v1,v2,v3,v4,post,rfl⟩:∃ v0 v1 v2 v3 v4 post,us=v0::v1::v2::v3::v4::post:=by
  rcases us with _|⟨v0,_|⟨v1,_|⟨v2,_|⟨v3,_|⟨v4,post⟩⟩⟩⟩⟩
  all_goals first
   | exact⟨_,_,_,_,_,_,rfl⟩
   | (simp at hl8;done)
 obtain⟨u0,u1,post2,rfl⟩:∃ u0 u1 post,us2=u0::u1::post:=by
  rcases us2 with _|⟨u0,_|⟨u1,post⟩⟩
  all_goals first
   | exact⟨_,_,_,rfl⟩
   | (simp at hl9;done)
 simp only[yR,List.take_zero]at g12
 have hstab:XA (fun w m φ=>(MK wi.heap.size ds w m φ∧OWN wi B.p.cells [v0,v1,v2,v3,v4] F8 w m φ)∧OWN wi [.int B.s.1, .isl (aF B.s.2)] [u0,u1] F9 w m φ):=fun w m φ w' m' φ' ha h=>⟨⟨MK.D8 _ _ _ _ _ _ _ _ ha h.1.1,OWN.D8 _ _ _ _ _ _ _ _ _ _ ha h.1.2⟩,OWN.D8 _ _ _ _ _ _ _ _ _ _ ha h.2⟩
 show Code.wp Tryz.prog (.seq _ _) _ _ _;refine wp_seq (GR.ALO (C:=CJ) GZ mo (base:=10) hstab (fun id h=>by simpa using h) (R':={ env:=upd (upd (aJ (EIm p sts .junk .junk (.own 2 0) (.own 3 0) .junk .junk (.own 6 0) (.own 7 0) .junk .junk .junk .junk .junk .junk .junk .junk .junk)) 46 (.i (.agg [.lit v0, .lit v1, .lit v2, .lit v3, .lit v4]))) 47 (.i (.agg [.lit u0, .lit u1])),st:=upd (upd (upd (upd (aR [none,none,zpQ,zsQ]) 6 (some (.box (bD (v0::v1::v2::v3::v4::post))))) 7 (some (.box (bD (u0::u1::post2))))) 2 (some (.box (bD [v0,v1,v2,v3,v4])))) 3 (some (.box (bD [u0,u1]))),log:=[(3,[3],false),(2,[2],false),(1,[7],true),(0,[6],true)] }) (by kernel_rfl) (by kernel_rfl) ?_ g12 ?_)
 ·simp[bD,zpQ,zsQ,EIm]
 intro a8 w8 g13;have g14:=g13.settle (fun w m φ ids h=>⟨⟨MK.free h.1.1 fun _=>eD.ASD ids,h.1.2.free fun _=>eD.ASD ids⟩,h.2.free fun _=>eD.ASD ids⟩) [4,5]
 have hset2:Av.settle [4,5] 0 (upd (upd (aJ (EIm p sts .junk .junk (.own 2 0) (.own 3 0) .junk .junk (.own 6 0) (.own 7 0) .junk .junk .junk .junk .junk .junk .junk .junk .junk)) 46 (.i (.agg [.lit v0, .lit v1, .lit v2, .lit v3, .lit v4]))) 47 (.i (.agg [.lit u0, .lit u1]))) (upd (upd (upd (upd (aR [none,none,zpQ,zsQ]) 6 (some (.box (bD (v0::v1::v2::v3::v4::post))))) 7 (some (.box (bD (u0::u1::post2))))) 2 (some (.box (bD [v0,v1,v2,v3,v4])))) 3 (some (.box (bD [u0,u1]))))={ env:=[(4, .own 0 0),(5, .own 1 0)],st:=[some (.box (bD [v0,v1,v2,v3,v4])),some (.box (bD [u0,u1]))] }:=by
  simp[EIm,bD,zpQ,zsQ,upd,aR]
 rw[hset2]at g14;have hdf:(TD ds a8).defers=ds:=by unfold TD;simp[g13.defers]
 show Code.wp Tryz.prog .ret _ _ _;refine wp_ret ?_;show LeavesInM Fence.wide 0 Tryz.prog Tryz.f9 (TD ds a8).tmps _ (TD ds a8).defers .returning w8;rw[hdf];refine GR.leave (C:=CJ) (R:=fun w m φ=>OWN wi B.p.cells [v0,v1,v2,v3,v4] F8 w m φ∧OWN wi [.int B.s.1, .isl (aF B.s.2)] [u0,u1] F9 w m φ) (fun w m φ D h hD=>⟨h.1.put hD fun f hf=>h.1.cells.ALK f hf,h.2.put hD fun f hf=>h.2.cells.ALK f hf⟩) (a:=a8) (g14.turn fun m φ h1 h2 h3 h4 h5=>⟨m,φ,h1,h2,h3,h4,⟨h5.1.2,h5.2⟩,h5.1.1⟩) ?_;intro a9 w9 ht g15;obtain⟨⟨m,φ,q1,q2,q3,q4,q5⟩,q6,q7⟩:=g15
 obtain⟨v,k1,k2⟩:=fJ (C:=CJ) (fn:=Tryz.f9) (keep:=false) (na:=0) (S:={ env:=[(4, .own 0 0),(5, .own 1 0)],st:=[some (.box (bD [v0,v1,v2,v3,v4])),some (.box (bD [u0,u1]))] }) (r:=.tup [.i (.agg [.lit v0, .lit v1, .lit v2, .lit v3, .lit v4]), .i (.agg [.lit u0, .lit u1])]) (stl':=[]) (fun id h=>absurd rfl h) ⟨⟨⟨m,φ,q1,q2,q3,q4, .nil _ _ _⟩,q6,q7⟩,zB9 _⟩ (by
  show finish CJ false [ResultVar.cell 4 33,ResultVar.cell 5 35] 0 _=_;have hz:bD [v0,v1,v2,v3,v4]=[.i (.lit v0), .i (.lit v1), .i (.lit v2), .i (.lit v3), .i (.lit v4)]:=rfl;have hz2:bD [u0,u1]=[.i (.lit u0), .i (.lit u1)]:=rfl;rw[hz,hz2]
  simp)
 have hv:v=.tuple #[.agg #[v0,v1,v2,v3,v4], .agg #[u0,u1]]:=by
  obtain⟨_,_,_,e,r,_⟩:=k2;injection e with e;subst e
  cases r with
  | tup r =>
   cases r with|cons b0 r=>cases r with|cons b1 r =>
   cases r
   cases b0 with
   | i r0=>cases r0 with
    | agg r =>
     cases r with|cons a0 _ r=>cases r with|cons a1 _ r=>cases r with|cons a2 _ r=>cases r with|cons a3 _ r=>cases r with|cons a4 _ r =>
     cases r
     cases b1 with
     | i r1=>cases r1 with
      | agg r =>
       cases r with|cons c0 _ r=>cases r with|cons c1 _ r =>
       cases r
       rw[eO a0,eO a1,eO a2,eO a3,eO a4,eO c0,eO c1]
 subst hv;exact⟨_,k1,ALY q1.mem q1.kn ⟨q3.size,q3.os,q3.tape,q3.output,q3.block,q3.mle,q3.mnew, .refl _,fun _ _ _ _ e=>by cases e⟩ q5.1 q5.2 hd (fun v hv=>ho8 v (yL post hv)) (fun v hv=>ho9 v (yL post2 hv))⟩
end Go.Proofs.YtgiepjdnkonkgaaGreat.P
namespace Go.Proofs.YtgiepjdnkonkgaaGreat.P
open Go Go.Av Go.Av.Mk
set_option maxRecDepth 4000
set_option maxHeartbeats 1000000
theorem AAK (l:List Int) (k:Int) {i:Nat} (h:i<l.length):(tN k l)[i]?=some (k+i):=by
 have h3:=zX h;have:=DW AUC AP5 l k h3;rw[lX,xY,yM (by omega)]at this;exact this
def HIX (l:List Int) (k:Int) (i:Nat):AS :=
 { env:=[(0, .i (.isl (aF (tN k l)))),(1, .int (k+i)),(4, .int 0),(5, .int i),(9,jk i (.bool true)),(17,jk i (.bool false))],st:=[] }
theorem R4 (l:List Int) (k:Int) (h0:0≤k) (h1:k+(l.length:Nat)<1000000000000):aH C0 44 [.i (.isl (aF (tN k l))), .int k] []=some (.int (k+(l.length:Nat)),[]):=by
 rw[aD rfl Tryz.func44 rfl rfl];have hlen:=dV AUC AP5 l k;simp;rw[aS (HIX l k) l.length (by simp[HIX])]
 ·rw[aG];simp[HIX,hlen]
 ·intro i hi;have r2:=aX (AAK l k hi);have w2:IntKind.i64.wrap ((i:Int)+1)=i+1:=wrO;have w3:IntKind.i64.wrap (k+i+1)=k+(i+1):=by rw[wrO];omega
  simp[HIX,hlen,hi,r2,w2,w3]
end Go.Proofs.YtgiepjdnkonkgaaGreat.P
namespace Go.Av
theorem AJU {w:World} {a:Addr} {v:Value} (h:w.cell? (a.add 0)=some v):∃ b off,a=⟨b,off,none⟩:=by
 obtain⟨b,off,spot⟩:=a;simp only[Addr.add,if_true,World.cell?]at h
 cases spot with
 | none=>exact⟨b,off,rfl⟩
 | some s=>split at h<;>simp at h
theorem AVN {cs:List Value} (h:cs.length=5):∃ c0 c1 c2 c3 c4,cs=[c0,c1,c2,c3,c4]:=by
 match cs,h with
 | [c0,c1,c2,c3,c4],_=>exact⟨c0,c1,c2,c3,c4,rfl⟩
end Go.Av
namespace Go.Proofs.YtgiepjdnkonkgaaGreat.P
open Go Go.Av
set_option maxRecDepth 4000
variable {H:Type} {enc:TypeId×Value→H} {w:World} {sp:Nat→Bool}
theorem ce3:Tryz.prog.cellsOf 3=1:=by kernel_rfl
theorem ce4:Tryz.prog.cellsOf 4=1:=by kernel_rfl
theorem AdT:Tryz.prog.cellsOf 79=2:=by kernel_rfl
theorem AdS:Tryz.prog.cellsOf 22=1:=by kernel_rfl
theorem Ac5:Tryz.prog.cellsOf 81=5:=by kernel_rfl
theorem AXY {fuel:Nat} {cs:List Value} {r:DataW H×List MemPlace} (h:DataW.trod enc Tryz.prog w 0 sp true fuel 79 cs=some r):∃ v:Val,cs=[.bool v.null, .int .i64 v.n]:=by
 obtain⟨xs,n,rfl,_,hl,hx,hf⟩:=DataW.trod_struct Tryz.underlying79 h;rw[AdT]at hl;have h0:DataW.trod enc Tryz.prog w 0 sp true n 4 ((cs.drop 0).take (Tryz.prog.cellsOf 4))=xs[0]?:=hf 0 _ rfl;have h1:DataW.trod enc Tryz.prog w 0 sp true n 3 ((cs.drop 1).take (Tryz.prog.cellsOf 3))=xs[1]?:=hf 1 _ rfl;rw[ce4]at h0;rw[ce3]at h1;have hx:xs.length=2:=hx;rw[zX (by omega)]at h0 h1;obtain⟨b,hb,_⟩:=DataW.trod_bool Tryz.underlying4 h0;obtain⟨k,hk,_⟩:=DataW.trod_int Tryz.underlying3 h1
 match cs,hl with
 | [c0,c1],_ =>
  simp at hb hk;exact⟨⟨b,k⟩,by rw[hb,hk]⟩
theorem AAY {b:Nat} {P:List Value→List IV→Prop} {k:Nat} (hk:∀ cs l,P cs l→l.length=k∧ICells (dR w) l cs):∀ (n off:Nat),(∀ i,i<n→∃ cs l,P cs l∧∀ j v,cs[j]?=some v→w.cell? ⟨b,off+k*i+j,none⟩=some v) →
 ∃ es:List (List IV),es.length=n∧IElems (dR w) b off k es∧∀ e∈es,∃ cs,P cs e
 | 0,off,_=>⟨[],rfl, .nil _ _ _,by simp⟩
 | n+1,off,h=>by
  obtain⟨cs,l,h1,h2⟩:=h 0 (by omega);obtain⟨k1,k2⟩:=hk cs l h1
  obtain⟨es,e1,e2,e3⟩:=AAY hk n (off+k) (fun i hi=>by
   obtain⟨cs,l,h3,h4⟩:=h (i+1) (by omega)
   exact⟨cs,l,h3,fun j v hj=>by rw[← h4 j v hj];congr 2;rw[zC];omega⟩)
  refine⟨l::es,by simp[e1], .cons (IAt.mk off k2 fun j v hj=>?_) k1 e2,?_⟩
  ·have:=h2 j v hj;show w.cell? ⟨b,off+j,none⟩=some v;simpa using this
  ·intro e he
   rcases zS.1 he with rfl|he
   ·exact⟨cs,h1⟩
   ·exact e3 e he
theorem E5 {fuel:Nat} {t e:TypeId} {c:Value} {r:DataW H×List MemPlace} {k:Nat} {P:List Value→List IV→Prop} (ht:Tryz.prog.underlying t=some (.slice e)) (hce:Tryz.prog.cellsOf e=k) (hk0:0<k) (hk:∀ cs l,P cs l→l.length=k∧ICells (dR w) l cs)
 (ih:∀ n,n<fuel→∀ cs x,DataW.trod enc Tryz.prog w 0 sp true n e cs=some x→∃ l,P cs l) (h:DataW.trod enc Tryz.prog w 0 sp true fuel t [c]=some r) :
 ∃ es:List (List IV),IRep (dR w) (.isl es) c∧es.length<9223372036854775808∧∀ x∈es,∃ cs,P cs x:=by
 rcases DataW.trod_slice ht h with ⟨h1,_⟩|⟨a,len,cap,elems,rest,n,rfl,h1,_,_,hlc,hcm,hel,hat,_,_⟩
 ·injection h1 with h1;subst h1;exact⟨[], .isl0 _ _ fun _=>rfl,by simp,by simp⟩
 ·injection h1 with h1;subst h1;by_cases h0:len=0
  ·subst h0;exact⟨[], .isl0 _ _ (by simp),by simp,by simp⟩
  ·rw[hce]at hat
   have get:∀ i,i<len→∃ cs l,P cs l∧cs.length=k∧∀ j,j<k→w.cell? ((a.add (i*k)).add j)=cs[j]?:=by
    intro i hi;have h2:=hat i hi;rw[zX (by omega)]at h2;obtain⟨cs,h3,h4⟩:=Option.bind_eq_some_iff.1 h2;obtain⟨_,h5,h6⟩:=World.cells?_some h3;obtain⟨l,h7⟩:=ih n (by omega) cs _ h4;exact⟨cs,l,h7,h5,h6⟩
   obtain⟨b,off,rfl⟩:∃ b off,a=⟨b,off,none⟩:=by
    obtain⟨cs,l,_,h5,h6⟩:=get 0 (by omega);have h7:=h6 0 hk0;rw[zX (by omega)]at h7;refine AJU (v:=cs[0]'(by omega)) (w:=w) ?_;rw[← h7,Nat.zero_mul];congr 1
   obtain⟨es,e1,e2,e3⟩:=AAY (b:=b) hk len off (fun i hi=>by
    obtain⟨cs,l,h4,h5,h6⟩:=get i hi;refine⟨cs,l,h4,fun j v hj=>?_⟩;have hjl:=(zZ.1 hj).1;have:=h6 j (by omega);rw[hj,Addr.dP,Addr.dP]at this
    rw[← this,yU k i])
   refine⟨es,?_,by rw[e1];unfold maxLen at hcm;omega,e3⟩;have hne:es≠[]:=fun h=>by rw[h]at e1;simp at e1;omega
   have:=IRep.isl (m:=dR w) (cap:=cap) hne e2 (by omega)
   rwa [e1]at this
theorem AXZ:∀ (fuel:Nat) (cs:List Value) (r:DataW H×List MemPlace),DataW.trod enc Tryz.prog w 0 sp true fuel 81 cs=some r→∃ e:Ex,e.fat∧ICells (dR w) e.cells cs:=by
 intro fuel
 induction fuel using Nat.strongRecOn with
 | _ fuel ih =>
  intro cs r h;obtain⟨xs,n,rfl,_,hl,hx,hf⟩:=DataW.trod_struct Tryz.underlying81 h;rw[Ac5]at hl;have h0:DataW.trod enc Tryz.prog w 0 sp true n 3 ((cs.drop 0).take (Tryz.prog.cellsOf 3))=xs[0]?:=hf 0 _ rfl;have h1:DataW.trod enc Tryz.prog w 0 sp true n 3 ((cs.drop 1).take (Tryz.prog.cellsOf 3))=xs[1]?:=hf 1 _ rfl;have h2:DataW.trod enc Tryz.prog w 0 sp true n 79 ((cs.drop 2).take (Tryz.prog.cellsOf 79))=xs[2]?:=hf 2 _ rfl;have h3:DataW.trod enc Tryz.prog w 0 sp true n 22 ((cs.drop 4).take (Tryz.prog.cellsOf 22))=xs[3]?:=hf 3 _ rfl;rw[ce3]at h0 h1;rw[AdT]at h2;rw[AdS]at h3;have hx:xs.length=4:=hx;rw[zX (by omega)]at h0 h1 h2 h3;obtain⟨c0,c1,c2,c3,c4,rfl⟩:=AVN hl;obtain⟨k0,hk0,_⟩:=DataW.trod_int Tryz.underlying3 h0;obtain⟨k1,hk1,_⟩:=DataW.trod_int Tryz.underlying3 h1;obtain⟨v,hv⟩:=AXY h2;simp at hk0 hk1 hv;obtain⟨rfl,rfl⟩:=hv;subst hk0;subst hk1;simp at h3
  obtain⟨es,e1,e2,e3⟩:=E5 (P:=fun cs l=>∃ e:Ex,e.fat∧l=e.cells∧ICells (dR w) l cs) Tryz.underlying22 Ac5 (by omega) (fun cs l ⟨e,_,h5,h6⟩=>⟨by rw[h5,Ex.aA];rfl,h6⟩)
   (fun m hm cs x hx=>by
    obtain⟨e,h5,h6⟩:=ih m (by omega) cs x hx
    exact⟨e.cells,e,h5,rfl,h6⟩) h3
  have hl:∃ l:List Ex,Ex.aB l=es∧∀ a∈l,a.fat:=by
   have key:∀ es:List (List IV),(∀ x∈es,∃ cs,∃ e:Ex,e.fat∧x=e.cells∧ICells (dR w) x cs)→∃ l:List Ex,Ex.aB l=es∧∀ a∈l,a.fat:=by
    intro es
    induction es with
    | nil=>intro _;exact⟨[],rfl,by simp⟩
    | cons x es ihe =>
     intro h;obtain⟨_,e,h5,h6,_⟩:=h x (by simp);obtain⟨l,h7,h8⟩:=ihe fun y hy=>h y (by simp[hy])
     exact⟨e::l,by simp[Ex.aB,h6,h7],fun a ha=>by
      rcases zS.1 ha with rfl|ha
      ·exact h5
      ·exact h8 a ha⟩
   exact key es e3
  obtain⟨l,rfl,hfat⟩:=hl;refine⟨.mk k0 k1 v l,(Ex.rX _).2 ⟨by simpa [Ex.kids]using e2,hfat⟩,?_⟩;rw[show(Ex.mk k0 k1 v l).cells=[.int k0, .int k1, .bool v.null, .int v.n, .isl (Ex.aB l)]by simp[Ex.cells]];exact .cons (.lit _) rfl (.cons (.lit _) rfl (.cons (.lit _) rfl (.cons (.lit _) rfl (.cons e1 (pO e1) .nil))))
theorem ceI:Tryz.prog.cellsOf 3=1:=by kernel_rfl
theorem AjI:Tryz.prog.cellsOf 24=1:=by kernel_rfl
theorem AdR:Tryz.prog.cellsOf 23=1:=by kernel_rfl
theorem ceP:Tryz.prog.cellsOf 26=5:=by kernel_rfl
theorem YI {fuel:Nat} {c:Value} {r:DataW H×List MemPlace} (h:DataW.trod enc Tryz.prog w 0 sp true fuel 23 [c]=some r):∃ l:List Int,l.length<9223372036854775808∧IRep (dR w) (.isl (aF l)) c:=by
 obtain⟨es,e1,e2,e3⟩:=E5 (P:=fun cs l=>∃ n:Int,l=[.int n]∧cs=[.int .i64 n]) Tryz.underlying23 ceI (by omega) (fun cs l ⟨v,h5,h6⟩=>⟨by rw[h5];rfl,by rw[h5,h6];exact .cons (.lit _) rfl .nil⟩)
  (fun m hm cs x hx=>by
   obtain⟨k,hk,_⟩:=DataW.trod_int Tryz.underlying3 hx
   exact⟨[.int k],k,rfl,hk⟩) h
 have key:∀ es:List (List IV),(∀ x∈es,∃ cs:List Value,∃ n:Int,x=[.int n]∧cs=[.int .i64 n])→∃ l:List Int,aF l=es:=by
  intro es
  induction es with
  | nil=>intro _;exact⟨[],rfl⟩
  | cons x es ihe =>
   intro h;obtain⟨_,v,h5,_⟩:=h x (by simp);obtain⟨l,h7⟩:=ihe fun y hy=>h y (by simp[hy])
   exact⟨v::l,by simp[aF,h5,h7]⟩
 obtain⟨l,rfl⟩:=key es e3;exact⟨l,by simpa using e2,e1⟩
theorem ASZ {fuel:Nat} {c:Value} {r:DataW H×List MemPlace} (h:DataW.trod enc Tryz.prog w 0 sp true fuel 22 [c]=some r):∃ l:List Ex,l.length<9223372036854775808∧(∀ a∈l,a.fat)∧IRep (dR w) (.isl (Ex.aB l)) c:=by
 obtain⟨es,e1,e2,e3⟩:=E5 (P:=fun cs l=>∃ e:Ex,e.fat∧l=e.cells∧ICells (dR w) l cs) Tryz.underlying22 Ac5 (by omega) (fun cs l ⟨e,_,h5,h6⟩=>⟨by rw[h5,Ex.aA];rfl,h6⟩)
  (fun m hm cs x hx=>by
   obtain⟨e,h5,h6⟩:=AXZ m cs x hx
   exact⟨e.cells,e,h5,rfl,h6⟩) h
 have key:∀ es:List (List IV),(∀ x∈es,∃ cs,∃ e:Ex,e.fat∧x=e.cells∧ICells (dR w) x cs)→∃ l:List Ex,Ex.aB l=es∧∀ a∈l,a.fat:=by
  intro es
  induction es with
  | nil=>intro _;exact⟨[],rfl,by simp⟩
  | cons x es ihe =>
   intro h;obtain⟨_,e,h5,h6,_⟩:=h x (by simp);obtain⟨l,h7,h8⟩:=ihe fun y hy=>h y (by simp[hy])
   exact⟨e::l,by simp[Ex.aB,h6,h7],fun a ha=>by
    rcases zS.1 ha with rfl|ha
    ·exact h5
    ·exact h8 a ha⟩
 obtain⟨l,rfl,hfat⟩:=key es e3;exact⟨l,by simpa using e2,hfat,e1⟩
theorem ASY:∀ (fuel:Nat) (cs:List Value) (r:DataW H×List MemPlace),DataW.trod enc Tryz.prog w 0 sp true fuel 26 cs=some r→∃ p:Pn,p.fat∧ICells (dR w) p.cells cs:=by
 intro fuel
 induction fuel using Nat.strongRecOn with
 | _ fuel ih =>
  intro cs r h;obtain⟨xs,n,rfl,_,hl,hx,hf⟩:=DataW.trod_struct Tryz.underlying26 h;rw[ceP]at hl;have h0:DataW.trod enc Tryz.prog w 0 sp true n 3 ((cs.drop 0).take (Tryz.prog.cellsOf 3))=xs[0]?:=hf 0 _ rfl;have h1:DataW.trod enc Tryz.prog w 0 sp true n 3 ((cs.drop 1).take (Tryz.prog.cellsOf 3))=xs[1]?:=hf 1 _ rfl;have h2:DataW.trod enc Tryz.prog w 0 sp true n 22 ((cs.drop 2).take (Tryz.prog.cellsOf 22))=xs[2]?:=hf 2 _ rfl;have h3:DataW.trod enc Tryz.prog w 0 sp true n 23 ((cs.drop 3).take (Tryz.prog.cellsOf 23))=xs[3]?:=hf 3 _ rfl;have h4:DataW.trod enc Tryz.prog w 0 sp true n 24 ((cs.drop 4).take (Tryz.prog.cellsOf 24))=xs[4]?:=hf 4 _ rfl;rw[ceI]at h0 h1;rw[AdS]at h2;rw[AdR]at h3;rw[AjI]at h4;have hx:xs.length=5:=hx;rw[zX (by omega)]at h0 h1 h2 h3 h4;obtain⟨c0,c1,c2,c3,c4,rfl⟩:=AVN hl;obtain⟨k0,hk0,_⟩:=DataW.trod_int Tryz.underlying3 h0;obtain⟨k1,hk1,_⟩:=DataW.trod_int Tryz.underlying3 h1;simp at hk0 hk1;subst hk0;subst hk1;simp at h2 h3 h4;obtain⟨es,le,fe,re⟩:=ASZ h2;obtain⟨is,li,ri⟩:=YI h3
  obtain⟨ps,e1,e2,e3⟩:=E5 (P:=fun cs l=>∃ e:Pn,e.fat∧l=e.cells∧ICells (dR w) l cs) Tryz.underlying24 ceP (by omega) (fun cs l ⟨e,_,h5,h6⟩=>⟨by rw[h5,Pn.aA];rfl,h6⟩)
   (fun m hm cs x hx=>by
    obtain⟨e,h5,h6⟩:=ih m (by omega) cs x hx
    exact⟨e.cells,e,h5,rfl,h6⟩) h4
  have key:∀ es:List (List IV),(∀ x∈es,∃ cs,∃ e:Pn,e.fat∧x=e.cells∧ICells (dR w) x cs)→∃ l:List Pn,Pn.aB l=es∧∀ a∈l,a.fat:=by
   intro es
   induction es with
   | nil=>intro _;exact⟨[],rfl,by simp⟩
   | cons x es ihe =>
    intro h;obtain⟨_,e,h5,h6,_⟩:=h x (by simp);obtain⟨l,h7,h8⟩:=ihe fun y hy=>h y (by simp[hy])
    exact⟨e::l,by simp[Pn.aB,h6,h7],fun a ha=>by
     rcases zS.1 ha with rfl|ha
     ·exact h5
     ·exact h8 a ha⟩
  obtain⟨l,rfl,hfat⟩:=key ps e3;refine⟨.mk k0 k1 es is l,(Pn.rX _).2 ⟨le,fe,li,by simpa using e2,hfat⟩,?_⟩;rw[Pn.bF];exact .cons (.lit _) rfl (.cons (.lit _) rfl (.cons re (pO re) (.cons ri (pO ri) (.cons e1 (pO e1) .nil))))
end Go.Proofs.YtgiepjdnkonkgaaGreat.P
namespace Go.Av
open Go.Av.Mk
def vJ:List Sts→Nat
 | []=>0
 | s::l=>1+(s.d.length+s.n.length)+vJ l
theorem vL:∀ (l:List Sts),l.length≤vJ l
 | []=>by simp
 | s::l=>by have:=vL l;simp only[zP,vJ];omega
theorem AGC:∀ {l:List Sts} {s:Sts},s∈l→(s.d.length+s.n.length)≤vJ l
 | a::l,p,h=>by
  simp only[vJ]
  rcases zS.1 h with rfl|h
  ·omega
  ·have:=AGC h;omega
theorem AA5:∀ (l:List Sts) {i:Nat} {a:Sts},l[i]?=some a→vJ (l.take (i+1))=vJ (l.take i)+(1+(a.d.length+a.n.length))
 | [],i,a,h=>by simp at h
 | b::l,0,a,h=>by simp at h;subst h;simp[vJ]
 | b::l,i+1,a,h=>by have:=AA5 l (i:=i) (a:=a) (by simpa using h);simp only[yR,vJ]at this ⊢;omega
theorem U5:∀ (n:Nat) (l:List Sts),vJ l=vJ (l.take n)+vJ (l.drop n)
 | 0,l=>by simp[vJ]
 | n+1,[]=>by simp[vJ]
 | n+1,b::l=>by simp only[yR,zC2,vJ];have:=U5 n l;omega
theorem XP:∀ (l:List Sts) (i:Nat),i≤l.length→i≤vJ (l.take i)
 | [],i,h=>by simp at h;subst h;simp
 | a::l,0,_=>by simp
 | a::l,i+1,h=>by
  have:=XP l i (by simpa using h);simp only[yR,vJ];omega
def AOX (k:Int) (s:Sts):Sts:=⟨k,tN (k+1) s.d,tN (k+1+(s.d.length:Nat)) s.n⟩
def ssZ (s:Sts):Nat:=1+(s.d.length+s.n.length)
def AGB:List IV:=[.int 0, .isl [], .isl []]
theorem Sts.lM (s:Sts):jI s.cells=true:=rfl
theorem Sts.qJ {a b:Sts} (h:a.cells=b.cells):a=b:=by
 cases a;cases b
 simp[Sts.cells]at h;rw[h.1,uM h.2.1,uM h.2.2]
end Go.Av
namespace Go.Proofs.YtgiepjdnkonkgaaGreat.P
open Go Go.Av Go.Av.Mk
set_option maxRecDepth 4000
set_option maxHeartbeats 2000000
theorem ACG (s:Sts) (hl:s.d.length<9223372036854775808∧s.n.length<9223372036854775808) (left:Int) (h0:0≤left) (h1:left<1000000000):aH C0 21 [.i (.agg [.int s.rows, .isl (aF s.d), .isl (aF s.n)]), .int left] []=some (.int (cB left (s.d.length+s.n.length)),[]):=by
 rw[aD rfl Tryz.func21 rfl rfl];have e:=Q5 s.d (by omega) left h0 h1;by_cases hc:cB left s.d.length<0
 ·have:=(uJ hc s.n.length).2;simp[e,hc,this]
 ·have hd:cB left s.d.length=left-s.d.length:=by unfold cB at hc ⊢;split at hc<;>simp_all
  rw[hd]at e hc;have e2:=Q5 s.n (by omega) (left-s.d.length) (by omega) (by omega)
  have hs:cB (left-s.d.length) s.n.length=cB left (s.d.length+s.n.length):=by unfold cB;split<;>split<;>(try omega)<;>(push_cast;omega)
  rw[hs]at e2;by_cases hc2:cB left (s.d.length+s.n.length)<0
  ·have:=(uJ hc2 0).1;simp[e,hc,e2,hc2,this]
  ·simp[e,hc,e2,hc2]
def ssT (l:List Sts) (left:Int) (i:Nat):Int:=left-l.length-(vJ (l.take i)-i)
def SSZ (l:List Sts) (left:Int) (i:Nat):AS :=
 { env:=[(0, .i (.isl (gM l))),(1, .int (ssT l left i)),(4, .int 0),(5, .int i),(11, .bool false),(15,jk i (.bool true)),(25,jk i (.bool false))],st:=[] }
theorem XM {l:List Sts} {left:Int} (h0:0≤left) (h1:left<1000000000) (hl:l.length<9223372036854775808) (hs:∀ s∈l,s.d.length<9223372036854775808∧s.n.length<9223372036854775808) :
 aH C0 5 [.i (.isl (gM l)), .int left] []=some (.int (cB left (vJ l)),[]):=by
 rw[aD rfl Tryz.func5 rfl rfl];have w1:IntKind.i64.wrap (left-l.length)=left-l.length:=wrO;have hsl:=vL l;have hlen:(gM l).length=l.length:=by simp[gM]
 by_cases hc:left-l.length<0
 ·have:¬ ((vJ l:Nat):Int)≤left:=by omega
  simp[hlen,w1,hc,cB,this]
 simp[hlen,w1,hc]
 have hround:∀ i,i<l.length→0≤ssT l left i→∃ a:Sts,fT (gM l) i=some [.int a.rows, .isl (aF a.d), .isl (aF a.n)]∧aH C0 21 [.i (.agg [.int a.rows, .isl (aF a.d), .isl (aF a.n)]), .int (ssT l left i)] []=some (.int (if 0≤ssT l left (i+1)then ssT l left (i+1)else -1),[]):=by
  intro i hi hq;have h3:=zX hi;have hm:=zU h3;generalize l[i]=a at h3 hm;have hz:=AA5 l h3;have hn:=gI h3;have hti:=XP l i (by omega);refine⟨a,hn,?_⟩;rw[ACG a (hs a hm) _ hq (by unfold ssT;omega)];congr 2;unfold cB;congr 1;by_cases hle:(((a.d.length+a.n.length):Nat):Int)≤ssT l left i
  ·rw[if_pos hle,if_pos (by unfold ssT at hle ⊢;omega)];unfold ssT;omega
  ·rw[if_neg hle,if_neg (by unfold ssT at hle ⊢;omega)]
 rcases EA (fun i=>0≤ssT l left (i+1)) l.length with hall|⟨j,hj,hlt,hbad⟩
 ·rw[aS (SSZ l left) l.length (by simp[SSZ,ssT,vJ])]
  ·rw[aG]
   have hfin:cB left (vJ l)=ssT l left l.length:=by
    have hT:l.take l.length=l:=zY (by simp)
    have hge:0≤ssT l left l.length:=by
     cases hn:l.length with
     | zero=>unfold ssT;rw[hn];simp[vJ];omega
     | succ n=>exact hn ▸ hall n (by omega)
    unfold cB;unfold ssT at hge ⊢;rw[hT]at hge ⊢;rw[if_pos (by omega)];omega
   rw[hfin];simp[SSZ,hlen]
  ·intro i hi
   have hq:0≤ssT l left i:=by
    cases i with
    | zero=>unfold ssT;simp[vJ];omega
    | succ i=>exact hall i (by omega)
   obtain⟨a,hn,hc⟩:=hround i hi hq;have hs1:=hall i hi;have hs1:0≤ssT l left (i+1):=hs1;rw[if_pos hs1]at hc;have w2:IntKind.i64.wrap ((i:Int)+1)=i+1:=wrO;simp[SSZ,hlen,hi,hn,hc,w2,show ¬ ssT l left (i+1)<0 by omega]
 ·have hsl2:cB left (vJ l)=-1:=by
   have hbad:¬ 0≤ssT l left (j+1):=hbad;have e1:=U5 (j+1) l;have e2:=vL (l.drop (j+1));have e3:=XP l (j+1) (by omega);simp at e2;unfold cB;unfold ssT at hbad;rw[if_neg (by omega)]
  rw[hsl2,aS (SSZ l left) j (by simp[SSZ,ssT,vJ])]
  ·rw[aG]
   have hq:0≤ssT l left j:=by
    cases j with
    | zero=>unfold ssT;simp[vJ];omega
    | succ j=>exact hlt j (by omega)
   obtain⟨a,hn,hc⟩:=hround j hj hq;have hbad:¬ 0≤ssT l left (j+1):=hbad;rw[if_neg hbad]at hc;simp[SSZ,hlen,hj,hn,hc]
  ·intro i hi
   have hq:0≤ssT l left i:=by
    cases i with
    | zero=>unfold ssT;simp[vJ];omega
    | succ i=>exact hlt i (by omega)
   obtain⟨a,hn,hc⟩:=hround i (by omega) hq;have hs1:0≤ssT l left (i+1):=hlt i hi;rw[if_pos hs1]at hc;have w2:IntKind.i64.wrap ((i:Int)+1)=i+1:=wrO;simp[SSZ,hlen,show i<l.length by omega,hn,hc,w2,show ¬ ssT l left (i+1)<0 by omega]
theorem VT (s:Sts) (hl:s.d.length<9223372036854775808∧s.n.length<9223372036854775808):aH C0 39 [.i (.agg [.int s.rows, .isl (aF s.d), .isl (aF s.n)]), .i (.agg [.int s.rows, .isl (aF s.d), .isl (aF s.n)])] []=some (.bool true,[]):=by
 have h:=rZ s.d (by omega);have h2:=rZ s.n (by omega);rw[aD rfl Tryz.func39 rfl rfl];simp[h,h2]
def ESS (l:List Sts) (i:Nat):AS :=
 { env:=[(0, .i (.isl (gM l))),(1, .i (.isl (gM l))),(4, .bool false),(5, .int i),(10, .bool false),(14,jk i (.bool true)),(26,jk i (.bool false))],st:=[] }
theorem RI (l:List Sts) (hl:l.length<9223372036854775808) (hs:∀ s∈l,s.d.length<9223372036854775808∧s.n.length<9223372036854775808):aH C0 12 [.i (.isl (gM l)), .i (.isl (gM l))] []=some (.bool true,[]):=by
 rw[aD rfl Tryz.func12 rfl rfl];have hlen:(gM l).length=l.length:=by simp[gM]
 simp[hlen];rw[aS (ESS l) l.length (by simp[ESS])]
 ·rw[aG];simp[ESS,hlen]
 ·intro i hi;have h3:=zX hi;have hm:=zU h3;have r2:=gI h3;generalize l[i]=a at h3 r2 hm;have hc:=VT a (hs a hm);have w2:IntKind.i64.wrap ((i:Int)+1)=i+1:=wrO;simp[ESS,hlen,hi,r2,hc,w2]
noncomputable def AH0:FuncId→Option (List AV→StL→Option (AV×StL))
 | 28=>some (aH CT 28)
 | _=>none
def AXR:FuncId→Bool:=fun _=>true
noncomputable def CT2:Ctx:={ P:=Tryz.prog,G:=GS,ownArgs:=bU,keepRes:=AXR,eqT:=ED,prim:=AH0,tree:=true }
@[simp] theorem AjS:CT2.P=Tryz.prog:=(rfl)
@[simp] theorem AjT (f):CT2.G f=GS f:=(rfl)
@[simp] theorem AjP (f):CT2.ownArgs f=bU f:=(rfl)
@[simp] theorem AjQ (f):CT2.keepRes f=true:=(rfl)
@[simp] theorem AjR (f):CT2.eqT f=ED f:=(rfl)
@[simp] theorem AjO:CT2.tree=true:=(rfl)
theorem ARN:PrimOk CT2:=by
 have hT:=aY AOY
 have key:∀ g q,CT2.prim g=some q→g=28∧q=aH CT 28:=by
  intro g q h;have h:AH0 g=some q:=h;unfold AH0 at h;split at h
  ·injection h with h;exact⟨rfl,h.symm⟩
  ·cases h
 constructor
 ·intro g args st p h;unfold bV at h
  cases hq:CT2.prim g with
  | none=>rw[hq]at h;cases h
  | some q=>rw[hq]at h;obtain⟨rfl,rfl⟩:=key g q hq;exact hT.name _ args st p (by decide) h
 ·intro g args st r st' h;unfold bV at h
  cases hq:CT2.prim g with
  | none=>rw[hq]at h;cases h
  | some q=>rw[hq]at h;obtain⟨rfl,rfl⟩:=key g q hq;exact hT.calls _ args st r st' (by decide) h
theorem AR2:SoundOk CT2:=iU (C:=CT2) ft nt eqS mo ARN
def tSt (s:Sts) (j:Nat):AV:=.agg [.int s.rows, .osl j 1 0 s.d.length, .osl (j+1) 1 0 s.n.length]
theorem AaJ {s:Sts} (hd:s.d.length<1000000000) (hn:s.n.length<1000000000):aH CT2 30 [.i (.agg [.int s.rows, .isl (aF s.d), .isl (aF s.n)])] []=some (tSt s 0,[some (.arr 1 (aF s.d)),some (.arr 1 (aF s.n))]):=by
 rw[aD rfl Tryz.func30 rfl rfl];have h1:=AFR s.d hd;have h2:=AFR s.n hn;have e1:aH CT2 28=aH CT 28:=by funext a st;exact aT (C:=CT2) rfl a st
 rw[← e1]at h1 h2;simp[h1,h2,tSt]
def AaD (l:List Sts) (i:Nat):AS :=
 { env:=[(0, .i (.isl (gM l))),(2, .nils),(3, .osl 0 3 0 l.length),(4, .int i),(11,jk i (.bool true))],st:=[some (wI Sts.cells 3 AGB l l.length i)] }
theorem AaI {l:List Sts} (hl:l.length<1000000000) (ih:∀ a∈l,a.d.length<1000000000∧a.n.length<1000000000):aH CT2 8 [.i (.isl (gM l))] []=some (.osl 0 3 0 l.length,[some (jG Sts.cells 3 l)]):=by
 rw[aD rfl Tryz.func8 rfl rfl];have hb:56*(l.length:Int)≤281474976710656:=by omega
 have hlen:(gM l).length=l.length:=by simp[gM]
 simp[hb,hlen];rw[aS (AaD l) l.length (by simp[AaD,wI,AGB])]
 ·rw[aG];simp[AaD,LW,hlen]
 ·intro i hi;have h3:=zX hi;have hc:=ih _ (zU h3);have r2:=gI h3;have hput:=LV (cells:=Sts.cells) (W:=3) (z:=AGB) (n:=l.length) h3 hi (by simp[AGB]) (by simp[AGB,Sts.cells]) (by simp[Sts.cells,DY,AI0]);generalize l[i]=a at h3 hc r2 hput;have ht:=AaJ hc.1 hc.2;have w2:IntKind.i64.wrap ((i:Int)+1)=i+1:=wrO;simp only[Sts.cells]at hput;simp[AaD,hi,r2,ht,tSt,w2,hput,hlen]
theorem AaN {w:World} {s:Sts} {vs:List Value} {F:List Nat} (h:TCells w s.cells vs F):∃ u1 u2 F1 F2,vs=[.int .i64 s.rows,u1,u2]∧F=F1++F2∧TCells w [.isl (aF s.d)] [u1] F1∧TCells w [.isl (aF s.n)] [u2] F2:=by
 simp only[Sts.cells]at h
 cases h with
 | @lit _ _ v1 _ o1 h1 =>
  obtain⟨u1,r1,F1,G1,rfl,rfl,k1,h3⟩:=one_cell h1;obtain⟨u2,r2,F2,G2,rfl,rfl,k2,h4⟩:=one_cell h3
  cases h4
  exact⟨u1,u2,F1,F2,rfl,by simp,k1,k2⟩
theorem AQZ:∃ c0 c1 cc body c3 cend,MLoop C0 14 3 34 (GS 14) Tryz.f14 c0 c1 cc body c3 cend∧∀ x:Sts,X3 C0 Sts.cells AOX ssZ 3 34 body x:=by
 refine⟨_,_,_,_,_,_,{ func:=Tryz.func14,code:=rfl,ntmps:=rfl,big:=by omega,results:=rfl,ok0:=⟨by kernel_rfl,rfl⟩,ok1:=⟨by kernel_rfl,rfl⟩,okc:=⟨by kernel_rfl,rfl⟩,ok3:=⟨by kernel_rfl,rfl⟩,oke:=⟨by kernel_rfl,rfl⟩,x0:=?_,x1:=?_,xc:=?_,xo:=?_,x3:=?_,xe:=?_,xf:=?_,nil:=?_ },?_⟩
 ·intro n R q;simp[MS]
 ·intro n R q;simp[MS]
 ·intro n i R q hi;simp[MS,hi]
 ·intro n R q;simp[MS]
 ·intro n i R q hi;have w6:IntKind.i64.wrap ((i:Int)+1)=i+1:=wrO;simp[MS,w6]
 ·intro n R q;simp[MS]
 ·intro n R q;simp[MS]
 ·intro k;rw[aD rfl Tryz.func14 rfl rfl];simp;rw[aG];simp
 ·intro x b N n i us vs q F a w hin g hvs hT hnd hbF h0 h1;have hlen:=g.len;have hfit:=g.fit;have h1:q+((1+(x.d.length+x.n.length):Nat):Int)<1000000000000:=h1;obtain⟨u1,u2,F1,F2,rfl,rfl,t1,t2⟩:=AaN hT;have nd1:=zJ.1 hnd;have b1:b ∉ F1:=fun h=>hbF (by simp[h])
  have b2:b ∉ F2:=fun h=>hbF (by simp[h])
  have d12:∀ f∈F1,f ∉ F2:=fun f h h'=>nd1.2.2 f h f h' rfl
  have hR:=jQ 3 n us i hin;rw[hvs]at hR;have hset:=pY 3 n us [.int .i64 q,u1,u2] i hin (by omega) rfl;simp only[yS,zA7]at hR hset;have w2:IntKind.i64.wrap (q+1)=q+1:=wrO;have rr:=g.to;generalize hRR:rowsOf 3 n us=R at hR hset rr;have hRl:R.length=n:=by rw[← hRR,fG]
  have hRs:∀ r:List IV,fT (R.set i r) i=some r:=fun r=>by rw[fA,zE2 (by omega)]
  refine wp_seq (wp_mono (oI dG (oF b N) (G:=GS 14) (S':=MS 3 n (R.set i [.int q, .lit u1, .lit u2]) q .junk (.int i) .junk) (e:=.normal) (by kernel_rfl) (by simp[MS,hin,hR,hRs,w2]) rr) ?_);rintro _ x1 y1 ⟨rfl,r1⟩;refine wp_seq (wp_mono (oI dG (oF b N) (G:=GS 14) (S':=MS 3 n (R.set i [.int q, .lit u1, .lit u2]) (q+1) .junk (.int i) .junk) (e:=.normal) (by kernel_rfl) (by simp[MS,hin,hR,hRs,w2]) r1) ?_);rintro _ x2 y2 ⟨rfl,r2⟩;obtain⟨us8,g8,e8,f8⟩:=g.of (vs:=us.take (3*i)++[.int .i64 q,u1,u2]++us.drop (3*(i+1))) (q':=q+1) (i':=i) r2.1 rfl rfl rfl (by rw[← hset];rfl);rw[J4 (W:=3) (us:=us) (V:=[.int .i64 q,u1,u2]) hin (by omega) rfl]at e8
  have rowU:∀ us9:List Value,us9.take (3*n)=us8.take (3*n)→fT (rowsOf 3 n us9) i=some [.int q, .lit u1, .lit u2]:=by
   intro us9 e9;have hR8:=jQ 3 n us9 i hin
   have hrow8:(us9.drop (3*i)).take 3=[.int .i64 q,u1,u2]:=by
    have:(us9.drop (3*i)).take 3=((us9.take (3*n)).drop (3*i)).take 3:=by rw[xW,zK,yM (by omega)]
    rw[this,e9,e8,yZ,zB0 (by simp;omega)];rfl
   rw[hrow8]at hR8;exact hR8
  have keep:∀ {w1 w2:World} {cs:List IV} {vs:List Value} {A B:List Nat},Fr w1 w2 B→TCells w1 cs vs A→(∀ f∈A,f ∉ B)→TCells w2 cs vs A:=fun fr h hd=>h.mono fun f hf=>fr.same f (tlt h f hf) (hd f hf)
  have nb:∀ {A:List Nat},b ∉ A→∀ f∈A,f ∉ [b]:=fun h f hf hh=>h (by simp at hh;exact hh ▸ hf)
  have hR8:=rowU us8 rfl
  refine wp_seq (wp_mono (wC dG (s:=x.d.length) (K:=fun _ w2=>TCells w2 [.isl ((tN (q+1) x.d).map AS0)] [u1] F1) (u:=u1) (Fu:=F1) g8 (os1:=[_,_,_,_,_,_]) rfl (by kernel_rfl) (zO 1)
   (R1:=⟨upd (upd (upd (upd (upd (upd (aJ (MS 3 n (rowsOf 3 n us8) (q+1) .junk (.int i) .junk).env) 19 (.osl 0 3 0 n)) 20 (.int i)) 21 (.ownE 0 3 i 0)) 22 (.ownE 0 3 i 1)) 23 (.i (.lit u1))) 24 (.int (q+1)),aR (MS 3 n (rowsOf 3 n us8) (q+1) .junk (.int i) .junk).st,[]⟩)
   (by simp[MS,hin,hR8]) rfl rfl rfl rfl rfl rfl (by decide) (by decide) (by decide) (by decide) (by decide) Tryz.func41 (by decide) (by intro h;cases h) ?_ b1) ?_)
  ·intro w1 f1;have hu1:=keep f1 (keep f8 t1 (nb b1)) (nb b1);rw[mF]at hu1;refine(Y6 x.d w1 u1 F1 _ hu1 nd1.1 (by omega) (by rw[lX];push_cast at h1 ⊢;omega)).mono ?_;rintro en w2 ⟨p1,p2,p3,_⟩;rw[lX]at p1;exact⟨p1,p2,p3⟩
  rintro e a9 y9 ⟨rfl,us9,g9,e9,wa,fa,fb,hK1⟩;have hR9:=rowU us9 e9;have t2a:=keep fb (keep fa (keep f8 t2 (nb b2)) (nb b2)) (fun f h h'=>d12 f h' h)
  refine wp_mono (wC dG (s:=x.n.length) (K:=fun _ w2=>TCells w2 [.isl ((tN (q+1+(x.d.length:Nat)) x.n).map AS0)] [u2] F2) (u:=u2) (Fu:=F2) g9 (os1:=[_,_,_,_,_,_]) rfl (by kernel_rfl) (zO 1)
   (R1:=⟨upd (upd (upd (upd (upd (upd (aJ (MS 3 n (rowsOf 3 n us9) (q+1+(x.d.length:Nat)) .junk (.int i) .junk).env) 26 (.osl 0 3 0 n)) 27 (.int i)) 28 (.ownE 0 3 i 0)) 29 (.ownE 0 3 i 2)) 30 (.i (.lit u2))) 31 (.int (q+1+(x.d.length:Nat))),aR (MS 3 n (rowsOf 3 n us9) (q+1+(x.d.length:Nat)) .junk (.int i) .junk).st,[]⟩)
   (by simp[MS,hin,hR9]) rfl rfl rfl rfl rfl rfl (by decide) (by decide) (by decide) (by decide) (by decide) Tryz.func41 (by decide) (by intro h;cases h) ?_ b2) ?_
  ·intro w1 f1;have hu1:=keep f1 t2a (nb b2);rw[mF]at hu1;refine(Y6 x.n w1 u2 F2 _ hu1 nd1.2.1 (by omega) (by rw[lX];push_cast at h1 ⊢;omega)).mono ?_;rintro en w2 ⟨p1,p2,p3,_⟩;rw[lX]at p1;exact⟨p1,p2,p3⟩
  rintro e a' w' ⟨rfl,us',g',e',w1,f1,f2,hK2⟩;have hq:q+1+(x.d.length:Nat)+(x.n.length:Nat)=q+(ssZ x:Nat):=by unfold ssZ;push_cast;omega
  rw[hq]at g';have k1b:=keep f2 (keep f1 hK1 (nb b1)) (fun f h h'=>d12 f h h');refine⟨rfl,us',_,g',by rw[e',e9,e8],?_,(f8.sub (by simp)).trans ((fa.sub (by simp)).trans ((fb.sub fun f hf=>by simp[hf]).trans ((f1.sub (by simp)).trans (f2.sub fun f hf=>by simp[hf]))))⟩;simp only[Sts.cells,AOX,mF];exact .lit rfl (k1b.append hK2)
theorem AaO:vH C0 Sts.cells AOX ssZ 14:=by
 obtain⟨c0,c1,cc,body,c3,cend,L,hR⟩:=AQZ;exact vH.of dG (by decide) L (fun _=>rfl) (by omega) (fun e=>by unfold ssZ;omega) hR
end Go.Proofs.YtgiepjdnkonkgaaGreat.P
namespace Go.Av
def imX (sts:List Sts) (p:Pn):Pn×Stp:=if J6 sts p=true then((X8 sts p (stI (stW sts) [] p)).p,(X8 sts p (stI (stW sts) [] p)).s)else(Pn.zero,(0,[]))
def imT (x:Pn×Stp):AV×StL:=(.tup [.agg (rqZ x.1 0),stZ x.2 (rqB x.1).length],rqB x.1++J5 x.2)
def imA (args:List AV) (x:Pn×List Sts):Prop:=args=[.i (.agg x.1.cells), .i (.isl (gM x.2))]∧x.2.length<2000000∧∀ s∈x.2,s.d.length<1000000000∧s.n.length<1000000000
noncomputable def pE:List AV→StL→Option (AV×StL)
 | args,[]=>open Classical in if h:∃ x,imA args x then some (imT (imX h.choose.2 h.choose.1))else none
 | _,_=>none
theorem AA3:∀ {a b:List Sts},gM a=gM b→a=b
 | [],[],_=>rfl
 | [],_::_,h=>by simp[gM]at h
 | _::_,[],h=>by simp[gM]at h
 | x::a,y::b,h=>by
  simp only[gM,yS,List.cons.injEq]at h;rw[Sts.qJ h.1,AA3 (a:=a) (b:=b) h.2]
theorem YK (p:Pn) (sts:List Sts) (hl:sts.length<2000000) (hd:∀ s∈sts,s.d.length<1000000000∧s.n.length<1000000000):pE [.i (.agg p.cells), .i (.isl (gM sts))] []=some (imT (imX sts p)):=by
 have h:∃ x,imA [.i (.agg p.cells), .i (.isl (gM sts))] x:=⟨(p,sts),rfl,hl,hd⟩
 unfold pE;simp only;rw[dif_pos h];have hc:=h.choose_spec.1;generalize h.choose=y at hc;simp only[List.cons.injEq,AV.i.injEq,IV.agg.injEq,IV.isl.injEq,and_true]at hc;rw[Pn.qJ _ _ hc.1,AA3 hc.2]
theorem R3 {args:List AV} {st:StL} {q:AV×StL} (h:pE args st=some q):∃ p sts,args=[.i (.agg (Pn.cells p)), .i (.isl (gM sts))]∧(sts.length<2000000∧∀ s∈sts,s.d.length<1000000000∧s.n.length<1000000000)∧st=[]∧q=imT (imX sts p):=by
 unfold pE at h;split at h
 ·split at h
  ·rename_i hx;injection h with h;exact⟨_,_,hx.choose_spec.1,hx.choose_spec.2,rfl,h.symm⟩
  ·cases h
 ·cases h
end Go.Av
namespace Go.Proofs.YtgiepjdnkonkgaaGreat.P
open Go Go.Av Go.Av.Mk
set_option maxRecDepth 4000
set_option maxHeartbeats 4000000
theorem QZ {p:Pn} {sts:List Sts} (hq:J6 sts p=false) (hl:sts.length<2000000) (hd:∀ s∈sts,s.d.length<1000000000∧s.n.length<1000000000):AEF CJ 9 [.i (.agg p.cells), .i (.isl (gM sts))] []=some (.tup [rqA Pn.zero 0, .agg [.int 0, .nils]],[]):=by
 have c1:=ABN p sts hl hd;unfold AN9 at c1;rw[hq]at c1;rw[ABR Tryz.func9 rfl rfl];simp only[Pn.aA p]at c1 ⊢;simp at c1;simp[c1,Pn.zero,rqA]
theorem NL {args:List AV} {st st':StL} {r:AV} (h:pE args st=some (r,st')):∀ (w:World) (m:Mem) (φ:Pl) (vs:List Value),Inv w m φ (aR st)→RepL m φ args vs→(∀ id,φ id≠none→id<st.length)→Calls Tryz.prog 9 vs.toArray w (bS w m φ r st'):=by
 intro w m φ vs hi hr h0;obtain⟨p,sts,rfl,⟨hl,hd⟩,rfl,hq⟩:=R3 h
 cases ho:J6 sts p with
 | false =>
  simp only[imX,ho,imT]at hq;injection hq with h1 h2;subst h1;subst h2;refine((MO GZ (QZ ho hl hd)).2 w m φ vs hi hr h0).mono ?_;rintro e w' ⟨v,m',φ',rfl,k1,k2⟩;refine⟨v,m',φ',rfl,?_,by simpa [rqB,Pn.zero,J5]using k2⟩
  cases k1 with
  | tup r =>
   cases r with|cons a r=>cases r with|cons b r =>
   cases r
   simp only[rqA,Pn.zero,Pn.dW,Pn.gH,Pn.bR,Pn.dZ,Pn.fB,if_true]at a
   cases a with
   | agg a =>
    cases a with|cons a0 o0 a=>cases a with|cons a1 o1 a=>cases a with|cons a2 o2 a=>cases a with|cons a3 o3 a=>cases a with|cons a4 o4 a =>
    cases a
    cases a2;cases a3;cases a4
    cases b with
    | agg b =>
     cases b with|cons b0 p0 b=>cases b with|cons b1 p1 b =>
     cases b
     cases b1
     have z:Rep m' φ' (.i (.isl [])) (.slice none 0 0):=.i (.isl0 _ _ fun _=>rfl);refine .tup (.cons ?_ (.cons ?_ .nil))
     ·simp only[rqZ,Pn.zero,Pn.dW,Pn.gH,Pn.bR,Pn.dZ,Pn.fB,if_true];exact .agg (.cons a0 o0 (.cons a1 o1 (.cons z rfl (.cons z rfl (.cons z rfl .nil)))))
     ·simp only[stZ,if_true];exact .agg (.cons b0 p0 (.cons z rfl .nil))
 | true =>
  simp only[imX,ho,if_true,imT]at hq;injection hq with h1 h2;subst h1;subst h2
  obtain rfl:φ=fun _=>none:=by
   funext id
   cases h:φ id with
   | none=>rfl
   | some p=>exact absurd (h0 id (by rw[h];simp)) (xS _)
  exact QY ho hl hd hi hr
noncomputable def ART:FuncId→Option (List AV→StL→Option (AV×StL))
 | 9=>some pE
 | _=>none
noncomputable def C9:Ctx:={ P:=Tryz.prog,G:=GS,ownArgs:=bU,keepRes:=keepR,eqT:=ED,prim:=ART,tree:=true }
theorem ALS:PrimOk C9:=by
 have key:∀ g q,C9.prim g=some q→g=9∧q=pE:=by
  intro g q h;have h:ART g=some q:=h;unfold ART at h;split at h
  ·injection h with h;exact⟨rfl,h.symm⟩
  ·cases h
 constructor
 ·intro g args st p h;unfold bV at h
  cases hq:C9.prim g with
  | none=>rw[hq]at h;cases h
  | some q =>
   obtain⟨rfl,rfl⟩:=key g q hq;exact⟨Tryz.f9,Tryz.func9,by decide,rfl⟩
 ·intro g args st r st' h w m φ vs hi hr hb;unfold bV at h
  cases hq:C9.prim g with
  | none=>rw[hq]at h;cases h
  | some q =>
   obtain⟨rfl,rfl⟩:=key g q hq;rw[hq]at h;exact NL h w m φ vs hi hr hb
theorem AWE:SoundOk C9:=iU (C:=C9) ft nt eqS mo ALS
theorem AEE (p:Pn) (sts:List Sts) (hl:sts.length<2000000) (hd:∀ s∈sts,s.d.length<1000000000∧s.n.length<1000000000):aH C9 9 [.i (.agg p.cells), .i (.isl (gM sts))] []=some (imT (imX sts p)):=by
 rw[aT (C:=C9) (p:=pE) rfl];exact YK p sts hl hd
set_option maxHeartbeats 1000000
theorem APJ (l:List Ex) (k:Int) (h0:0≤k) (h1:k+4*(Ex.aL l:Nat)<1000000000000):aH C0 43 [.i (.isl (Ex.aB (Ex.kT k l))), .int k] []=some (.int (k+4*(Ex.aL l:Nat)),[]):=by
 have:=AMT (.mk 0 0 Val.zero l) k h0 (by simpa [Ex.kids]using h1);simpa [Ex.kids]using this
def HPX (l:List Pn) (k:Int) (i:Nat):AS :=
 { env:=[(0, .i (.isl (Pn.aB (fP Pn.tQ Pn.mz k l)))),(1, .int (k+(bY Pn.mz (l.take i):Nat))),(4, .int 0),(5, .int i),(9,jk i (.bool true)),(18,jk i (.bool false)),(27,jk i (.bool false)),(38,jk i (.bool false)),(47,jk i (.bool false)),(56,jk i (.bool false))],st:=[] }
theorem AMU {l:List Pn} {k:Int} (h0:0≤k) (h1:k+(bY Pn.mz l:Nat)<1000000000000) (ih:∀ p∈l,∀ q:Int,0≤q→q+(Pn.mzL p.kids:Nat)<1000000000000→aH C0 45 [.i (.isl (Pn.aB (Pn.mD q p.kids))), .int q] []=some (.int (q+(Pn.mzL p.kids:Nat)),[])) :
 aH C0 45 [.i (.isl (Pn.aB (fP Pn.tQ Pn.mz k l))), .int k] []=some (.int (k+(bY Pn.mz l:Nat)),[]):=by
 rw[aD rfl Tryz.func45 rfl rfl];have hlen:=dV Pn.tQ Pn.mz l k;have hle:=uB (sz:=Pn.mz) (fun e=>by have:=Pn.AHD e;omega) l;simp;rw[aS (HPX l k) l.length (by simp[HPX,bY])]
 ·rw[aG];have hT:l.take l.length=l:=zY (by simp);simp[HPX,hlen,hT]
 ·intro i hi;have h3:=zX hi;have hm:=zU h3;generalize l[i]=a at h3 hm;have r2:=Pn.aO (DW Pn.tQ Pn.mz l k h3);have hz:=AJ Pn.mz l h3;have hmono:=FB Pn.mz l (i+1);have hza:=Pn.AHD a;have w2:IntKind.i64.wrap ((i:Int)+1)=i+1:=wrO;have hzz:k+((bY Pn.mz (l.take (i+1)):Nat):Int)=k+(bY Pn.mz (l.take i):Nat)+1+1+4*(Ex.aL a.exprs:Nat)+(a.cols.length:Nat)+(Pn.mzL a.kids:Nat):=by rw[hz,hza];push_cast;omega
  generalize hq:k+((bY Pn.mz (l.take i):Nat):Int)=q at r2 hzz;have hq0:0≤q:=by omega
  have hlim:q+1+1+4*(Ex.aL a.exprs:Nat)+(a.cols.length:Nat)+(Pn.mzL a.kids:Nat)<1000000000000:=by omega
  have w3:IntKind.i64.wrap (q+1)=q+1:=wrO;have w4:IntKind.i64.wrap (q+1+1)=q+1+1:=wrO;have c1:=APJ a.exprs (q+1+1) (by omega) (by omega);have c2:=R4 a.cols (q+1+1+4*(Ex.aL a.exprs:Nat)) (by omega) (by omega);have c3:=ih a hm (q+1+1+4*(Ex.aL a.exprs:Nat)+(a.cols.length:Nat)) (by omega) (by omega);have n1:¬ q+1+1+4*(Ex.aL a.exprs:Int)<0:=by omega
  have n2:¬ q+1+1+4*(Ex.aL a.exprs:Int)+(a.cols.length:Int)<0:=by omega
  have n3:¬ q+1+1+4*(Ex.aL a.exprs:Int)+(a.cols.length:Int)+(Pn.mzL a.kids:Int)<0:=by omega
  rw[Pn.KZ]at r2;push_cast at r2 c1 c2 c3 hzz;simp[HPX,hlen,hi,r2,hq,hzz,c1,c2,c3,n1,n2,n3,w2,w3,w4]
theorem ADQ:∀ (p:Pn) (k:Int),0≤k→k+(Pn.mzL p.kids:Nat)<1000000000000→aH C0 45 [.i (.isl (Pn.aB (Pn.mD k p.kids))), .int k] []=some (.int (k+(Pn.mzL p.kids:Nat)),[]):=by
 intro p
 induction p using Pn.ind with
 | h k t es cs ks ih =>
  intro q h0 h1;simp only[Pn.kids]at h1 ⊢;rw[uI,← vN];rw[← vN]at h1;exact AMU h0 h1 ih
end Go.Proofs.YtgiepjdnkonkgaaGreat.P
