import Derived.Test.YtdipecpdjeehoaaGreatQk11
open Go.Proofs
set_option maxRecDepth 8000
namespace Go.Lk
open Asn renaming cells→Cl,row→Rw,kn→Kk,all→Al
theorem sz228:∀ (w:World),(sizeOf 228).run Tryz.prog w = .ok 1 w:=fun _=>by kernel_rfl
theorem fa230_0:∀ (b k:Nat) (w:World),(Instr.fieldAt 230 (vptr b k) 0).run Tryz.prog w = .ok (vptr b (k)) w:=fun _ _ _=>by kernel_rfl
theorem fa230_4:∀ (b k:Nat) (w:World),(Instr.fieldAt 230 (vptr b k) 4).run Tryz.prog w = .ok (vptr b (k+7)) w:=fun _ _ _=>by kernel_rfl
theorem Tally_fn (cl:Nat) (sp:Nat) (c:Cli) (sv:Value) (rp:Nat) (pv:Value) (pcs:List Value) (hf:c.fine):Fn Tryz.prog 40 #[vptr cl 0] [Cl cl 230 (ccs sp c sv rp pv),KB sv c.rep.secret,ReplayR rp sp c.rep,Rw 236 10 pv pcs,Kk (CellsRel Enc.waits pcs c.pend)] (fun v M=>Spec.tal (c.rep.chain.links.length:Int) (c.pend.length:Int)=v∧M=[Cl cl 230 (ccs sp c sv rp pv),KB sv c.rep.secret,ReplayR rp sp c.rep,Rw 236 10 pv pcs,Kk (CellsRel Enc.waits pcs c.pend)]):=by
 refine Fi 21 Tryz.func40 fun g R=>?_
 refine Ww [(0,vptr cl 0)] [Cl cl 230 (ccs sp c sv rp pv),KB sv c.rep.secret,ReplayR rp sp c.rep,Rw 236 10 pv pcs,Kx Enc.waits pcs c.pend,Al R] ?_
 refine W.fact (fun _ _ s=>replay_chain64 (i:=2) rfl s) (fun h64=>?_); have hf8:=hf.1
 refine Wr 3 fun hr1a hr1b hr1c=>?_
 try simp only [La,Lc,Ln] at hr1a
 refine W.fact (fun _ _ s=>cr_len (i:=4) rfl s) (fun hc2=>?_)
 replace hc2:pcs.length=c.pend.length*10:=hc2
 have hsl:slen pv=c.pend.length:=by omega
 refine Sn (Qa (k:=Nl [(0,vptr cl 0),(2,.complex .f64 0 0)] ?_))
 refine W.seq (W.drawG mixed ?_)
 refine Gq 0 [] rfl (OpQ.move rfl rfl) ?_
 refine Gq 1 [] rfl (OpQ.nilCheck rfl rfl) ?_
 refine Gq 2 [] rfl (Of (fa230_2 _ _)) ?_
 refine WG.hold (Cl cl 230 (ccs sp c sv rp pv),[]) ?_
 refine Gq 3 [0] rfl (Ol 0 ld41) ?_
 refine Gq 6 [0] rfl (OpQ.move rfl rfl) ?_
 refine Gq 7 [0] rfl (OpQ.nilCheck rfl rfl) ?_
 refine Gq 8 [0] rfl (Of (fa230_3 _ _)) ?_
 refine Gq 9 [0] rfl (Ol 0 ld228) ?_
 refine WG.hold (Rw 236 10 pv pcs,[]) ?_
 refine Gq 10 [3,0] rfl (OpQ.lenRow (i:=0) rfl rfl rfl (len228 _)) ?_
 refine WG.one (i:=4) (by kernel_rfl) (UpG.call rfl rfl rfl (OpCall.mk (xs:=[.tmp 9]) (vs:=[vptr rp 0]) rfl ⟨rfl,trivial⟩ Tryz.call52) (repChain_fn rp sp c.rep) (ep [2] rfl) ?_)
 rintro _ _ ⟨cp3,rfl,rfl⟩
 refine ⟨es [4,2] rfl,?_⟩
 refine WG.one (i:=5) (by kernel_rfl) (UpG.call rfl rfl rfl (OpCall.mk (xs:=[.tmp 10]) (vs:=[vptr cp3 0]) rfl ⟨rfl,trivial⟩ Tryz.call53) (chainLen_fn cp3 sp c.rep.chain) (ep [1] rfl) ?_)
 rintro _ _ ⟨rfl,rfl⟩
 refine ⟨es [4,2] rfl,?_⟩
 refine WG.one (i:=11) (by kernel_rfl) (UpG.call rfl rfl rfl (OpCall.mk (xs:=[.tmp 11,.tmp 16]) (vs:=[vint (c.rep.chain.links.length:Int),vint (slen pv:Int)]) rfl ⟨rfl,rfl,trivial⟩ Tryz.call124) (Make_fn (c.rep.chain.links.length:Int) (slen pv:Int) (by first | omega | (simp; done) | (simp; omega) | (simp at *; omega))) (ep [] rfl) ?_)
 rintro _ _ ⟨rfl,rfl⟩
 refine ⟨es [4,2] rfl,?_⟩
 refine Gq 12 [4,2] rfl (OpQ.move rfl rfl) ?_
 refine Gq 13 [4,2] rfl (OpQ.extract rfl rfl rfl) ?_
 refine Gq 14 [4,2] rfl (OpQ.extract rfl rfl rfl) ?_
 refine Gq 15 [4,2] rfl (OpQ.assign rfl rfl) ?_
 refine Gq 16 [4,2] rfl (OpQ.assign rfl rfl) ?_
 refine WG.done (by kernel_rfl) ?_
 refine thn_n (Ww [(2,.complex .f64 0 0),(3,Spec.tal (c.rep.chain.links.length:Int) (slen pv:Int))] [ChainR cp3 sp c.rep.chain,ReplayO rp sp cp3 c.rep,Cl cl 230 (ccs sp c sv rp pv),KB sv c.rep.secret,Rw 236 10 pv pcs,Kx Enc.waits pcs c.pend,Al R] ?_)
 refine Sn (Qm (k:=Qa (k:=Nl [(2,Spec.tal (c.rep.chain.links.length:Int) (slen pv:Int))] ?_)))
 refine W.ent (L':=[ReplayO rp sp cp3 c.rep,ChainR cp3 sp c.rep.chain,Cl cl 230 (ccs sp c sv rp pv),KB sv c.rep.secret,Rw 236 10 pv pcs,Kx Enc.waits pcs c.pend,Al R]) (es [1,0,0,0,0,0,0] rfl) ?_
 refine W.ent (L':=[ReplayR rp sp c.rep,Cl cl 230 (ccs sp c sv rp pv),KB sv c.rep.secret,Rw 236 10 pv pcs,Kx Enc.waits pcs c.pend,Al R]) (Ent.rep' cp3 rfl trivial rfl) ?_
 refine W.ret (ret1 (M:=[Cl cl 230 (ccs sp c sv rp pv),KB sv c.rep.secret,ReplayR rp sp c.rep,Rw 236 10 pv pcs,Kx Enc.waits pcs c.pend]) rfl rfl (⟨(by rw [hsl]),rfl⟩) (es [1,1,0,0,0,0] rfl))
theorem cseal_fn (cl:Nat) (sp:Nat) (c:Cli) (sv:Value) (rp:Nat) (pv:Value) (pcs:List Value) (e:Entry) (nv:Value) (vv:Value) (wv:Value) (epoch:Int) (A:List Thing) (hf:c.fine) (h8:c.pend.length < 8) (hA:A.length < 1099511627700):Fn Tryz.prog 123 #[vptr cl 0,.agg #[vint e.kind,vint e.writer,vint e.seq,nv,vv,vint e.who,vint e.rights,vint e.epoch,wv],vint epoch] [Cl cl 230 (ccs sp c sv rp pv),KB sv c.rep.secret,ReplayR rp sp c.rep,Rw 236 10 pv pcs,Kk (CellsRel Enc.waits pcs c.pend),SuiteR sp A,KB nv e.name,KB vv e.value,KW wv e.wraps] (fun v M=>∃ (x:Int) (c':Cli) (pv':Value) (pcs':List Value) (A':List Thing),Spec.cseal A c e epoch=(x,c',A')∧A'.length≤A.length+3∧c'.fine∧vint x=v∧M=[Cl cl 230 (ccs sp c' sv rp pv'),KB sv c'.rep.secret,ReplayR rp sp c'.rep,Rw 236 10 pv' pcs',Kk (CellsRel Enc.waits pcs' c'.pend),SuiteR sp A']):=by
 refine Fi 88 Tryz.func123 fun g R=>?_
 refine Ww [(0,vptr cl 0),(1,.agg #[vint e.kind,vint e.writer,vint e.seq,nv,vv,vint e.who,vint e.rights,vint e.epoch,wv]),(2,vint epoch)] [Cl cl 230 (ccs sp c sv rp pv),KB sv c.rep.secret,ReplayR rp sp c.rep,Rw 236 10 pv pcs,Kx Enc.waits pcs c.pend,SuiteR sp A,KB nv e.name,KB vv e.value,KW wv e.wraps,Al R] ?_
 have hfc:=hf.2.2
 refine Sn (Ru (OpRun.box rfl rfl rfl) ?_)
 rintro _ _ ⟨b1,rfl,rfl⟩
 refine Qa (k:=Nw [(0,vptr cl 0),(2,vint epoch),(4,vptr b1 0),(6,vint 0)] [Cl b1 33 (ecs e nv vv wv),Cl cl 230 (ccs sp c sv rp pv),KB sv c.rep.secret,ReplayR rp sp c.rep,Rw 236 10 pv pcs,Kx Enc.waits pcs c.pend,SuiteR sp A,KB nv e.name,KB vv e.value,KW wv e.wraps,Al R] ?_)
 refine Sn (Qm (k:=Qu (OpQ.nilCheck rfl rfl) (k:=Qu (Of (fa230_2 _ _)) (k:=Qu (Ol 1 ld41) (k:=Qm (k:=?_))))))
 refine Wc [.tmp 17,.tmp 18] [vptr rp 0,vint epoch] Tryz.call100 (repKey_fn rp sp c.rep epoch) (ep [3] rfl) ?_
 rintro _ _ (⟨z2,k3,h4,h5,rfl,rfl⟩ | ⟨h6,rfl,rfl⟩)
 ·refine Qm (k:=Qe (k:=Qe (k:=Qa (k:=Qa (k:=Nw [(0,vptr cl 0),(2,vint epoch),(4,vptr b1 0),(6,vint 0),(7,z2),(8,.bool true)] [KB z2 k3,ReplayR rp sp c.rep,Cl b1 33 (ecs e nv vv wv),Cl cl 230 (ccs sp c sv rp pv),KB sv c.rep.secret,Rw 236 10 pv pcs,Kx Enc.waits pcs c.pend,SuiteR sp A,KB nv e.name,KB vv e.value,KW wv e.wraps,Al R] ?_)))))
  refine W.seq (Sn (Qm (k:=?_)))
  refine Qu (OpQ.not rfl rfl) (k:=Nl [(0,vptr cl 0),(2,vint epoch),(4,vptr b1 0),(6,vint 0),(7,z2),(23,.bool false)] ?_)
  refine W.condF rfl ?_
  refine W.skip (thn_n (Wl [(0,vptr cl 0),(2,vint epoch),(4,vptr b1 0),(6,vint 0),(7,z2)] ?_))
  refine W.cut (X:=Record × Value × (List Thing) × Nat) (φ:=fun x=>match x with | (r17,b18,A19,b27)=>(Spec.sseal A c.rep.secret k3 (⟨c.rep.coll,epoch,c.rep.who,c.count+1,[]⟩:Record) e = .ok (r17,A19))∧(A19.length≤A.length+3)∧(r17.collection=(⟨c.rep.coll,epoch,c.rep.who,c.count+1,[]⟩:Record).collection∧r17.epoch=(⟨c.rep.coll,epoch,c.rep.who,c.count+1,[]⟩:Record).epoch∧r17.writer=(⟨c.rep.coll,epoch,c.rep.who,c.count+1,[]⟩:Record).writer∧r17.count=(⟨c.rep.coll,epoch,c.rep.who,c.count+1,[]⟩:Record).count)∧(80≤r17.box.length∧r17.box.length≤2064)) (E:=fun x=>match x with | (r17,b18,A19,b27)=>[(0,vptr cl 0),(4,vptr b1 0),(6,vint 0),(9,vptr b27 0),(10,vint 0)]) (F:=fun x=>match x with | (r17,b18,A19,b27)=>[Cl b27 203 [vint r17.collection,vint r17.epoch,vint r17.writer,vint r17.count,b18],KB b18 r17.box,SuiteR sp A19,KB (N0) ([]),KB z2 k3,ReplayR rp sp c.rep,Cl b1 33 (ecs e nv vv wv),Cl cl 230 (ccs sp c sv rp pv),KB sv c.rep.secret,Rw 236 10 pv pcs,Kx Enc.waits pcs c.pend,KB nv e.name,KB vv e.value,KW wv e.wraps,Al R]) (fun x hx=>?_) (fun K1006=>?_)
  ·obtain ⟨r17,b18,A19,b27⟩:=x
   obtain ⟨h29,h30,h31,h32⟩:=hx
   refine Ww [(0,vptr cl 0),(4,vptr b1 0),(6,vint 0),(9,vptr b27 0),(10,vint 0)] [Cl b27 203 [vint r17.collection,vint r17.epoch,vint r17.writer,vint r17.count,b18],KB b18 r17.box,SuiteR sp A19,KB (N0) ([]),KB z2 k3,ReplayR rp sp c.rep,Cl b1 33 (ecs e nv vv wv),Cl cl 230 (ccs sp c sv rp pv),KB sv c.rep.secret,Rw 236 10 pv pcs,Kx Enc.waits pcs c.pend,KB nv e.name,KB vv e.value,KW wv e.wraps,Al R] ?_
   refine W.seq (Sn (Qm (k:=?_)))
   refine Qu (OpQ.neq rfl rfl rfl) (k:=Nl [(0,vptr cl 0),(4,vptr b1 0),(6,vint 0),(9,vptr b27 0),(10,vint 0),(57,.bool (decide ((0:Int)≠0)))] ?_)
   refine Cp rfl (fun h33=>absurd h33 (by decide)) (fun h33=>?_)
   refine W.skip (thn_n (Wl [(0,vptr cl 0),(4,vptr b1 0),(6,vint 0),(9,vptr b27 0)] ?_))
   refine W.seq (W.region ?_)
   have hnm:=Spec.sseal_numbers h29; have hbx:=h32; have hre:=Spec.sseal_right h29; have hrs:=Spec.right_seq hre
   have hcn:=h31; dsimp only at hcn; have hrr:Spec.rright r17:=⟨hnm,hbx.1,hbx.2⟩; have hnm2:=hnm; unfold Spec.numbers at hnm2
   refine Qu (OpQ.loadN (i:=0) rfl rfl ld203 rfl rfl rfl) (k:=?_)
   refine Wc [.tmp 60] [.agg #[vint r17.collection,vint r17.epoch,vint r17.writer,vint r17.count,b18]] Tryz.call185 (REncode_fn r17 b18) ((ed 1 rfl).trans (ep [0] rfl)) ?_
   rintro _ _ (⟨z34,bs35,h36,h37,rfl,rfl⟩ | ⟨h38,rfl,rfl⟩)
   ·refine Qm (k:=Qe (k:=Qe (k:=Qa (k:=Qa (k:=Nw [(0,vptr cl 0),(4,vptr b1 0),(6,vint 0),(11,z34)] [KB z34 bs35,Cl b27 203 [vint r17.collection,vint r17.epoch,vint r17.writer,vint r17.count,b18],KB b18 r17.box,SuiteR sp A19,KB (N0) ([]),KB z2 k3,ReplayR rp sp c.rep,Cl b1 33 (ecs e nv vv wv),Cl cl 230 (ccs sp c sv rp pv),KB sv c.rep.secret,Rw 236 10 pv pcs,Kx Enc.waits pcs c.pend,KB nv e.name,KB vv e.value,KW wv e.wraps,Al R] ?_)))))
    refine W.seq (W.region ?_)
    have hbl:=Spec.rencode_length h36
    refine Nr 10 fun hr39a hr39b hr39c=>?_
    try simp only [La,Lc,Ln] at hr39a
    refine WN.fact (fun _ _ s=>cr_len (i:=11) rfl s) (fun hc40=>?_)
    replace hc40:pcs.length=c.pend.length*10:=hc40
    have hsl:slen pv=c.pend.length:=by omega
    refine Qm (k:=Qu (OpQ.nilCheck rfl rfl) (k:=Qu (Of (fa230_4 _ _)) (k:=Qu (Ol 8 ld3) (k:=Qu (OpQ.add rfl rfl rfl ⟨by omega,by omega⟩) (k:=Qu (OpQ.nilCheck rfl rfl) (k:=Qu (Of (fa230_4 _ _)) (k:=Rn (OpRun.store (i:=8) (vs:=[vint (c.count+1)]) (cs':=[vptr sp 0,vint c.rep.coll,vint c.rep.founder,vint c.rep.who,sv,vptr rp 0,pv,vint (c.count+1),vint c.last,.bool c.alarm]) rfl rfl rfl sz3 rfl rfl (one_cons rfl one_nil) rfl (Lb rfl) rfl) (k:=Nw [(0,vptr cl 0),(4,vptr b1 0),(6,vint 0),(11,z34)] [Cl cl 230 [vptr sp 0,vint c.rep.coll,vint c.rep.founder,vint c.rep.who,sv,vptr rp 0,pv,vint (c.count+1),vint c.last,.bool c.alarm],KB z34 bs35,Cl b27 203 [vint r17.collection,vint r17.epoch,vint r17.writer,vint r17.count,b18],KB b18 r17.box,SuiteR sp A19,KB (N0) ([]),KB z2 k3,ReplayR rp sp c.rep,Cl b1 33 (ecs e nv vv wv),KB sv c.rep.secret,Rw 236 10 pv pcs,Kx Enc.waits pcs c.pend,KB nv e.name,KB vv e.value,KW wv e.wraps,Al R] ?_))))))))
    refine Sn (Qm (k:=Qu (Of (fa33_2 _ _)) (k:=Qu (Ol 8 ld3) (k:=Qu (OpQ.nilCheck rfl rfl) (k:=Qu (Of (fa230_5 _ _)) (k:=Rn (OpRun.store (i:=0) (vs:=[vint e.seq]) (cs':=[vptr sp 0,vint c.rep.coll,vint c.rep.founder,vint c.rep.who,sv,vptr rp 0,pv,vint (c.count+1),vint e.seq,.bool c.alarm]) rfl rfl rfl sz3 rfl rfl (one_cons rfl one_nil) rfl (Lb rfl) rfl) (k:=Nw [(0,vptr cl 0),(4,vptr b1 0),(6,vint 0),(11,z34)] [Cl cl 230 [vptr sp 0,vint c.rep.coll,vint c.rep.founder,vint c.rep.who,sv,vptr rp 0,pv,vint (c.count+1),vint e.seq,.bool c.alarm],KB z34 bs35,Cl b27 203 [vint r17.collection,vint r17.epoch,vint r17.writer,vint r17.count,b18],KB b18 r17.box,SuiteR sp A19,KB (N0) ([]),KB z2 k3,ReplayR rp sp c.rep,Cl b1 33 (ecs e nv vv wv),KB sv c.rep.secret,Rw 236 10 pv pcs,Kx Enc.waits pcs c.pend,KB nv e.name,KB vv e.value,KW wv e.wraps,Al R] ?_)))))))
    refine W.seq (W.drawG mixed ?_)
    refine Gq 0 [] rfl (OpQ.move rfl rfl) ?_
    refine Gq 1 [] rfl (OpQ.move rfl rfl) ?_
    refine Gq 2 [] rfl (OpQ.nilCheck rfl rfl) ?_
    refine Gq 3 [] rfl (Of (fa230_3 _ _)) ?_
    refine WG.hold (Cl cl 230 [vptr sp 0,vint c.rep.coll,vint c.rep.founder,vint c.rep.who,sv,vptr rp 0,pv,vint (c.count+1),vint e.seq,.bool c.alarm],[12]) ?_
    refine Gq 4 [0] rfl (Ol 0 ld228) ?_
    refine WG.hold (Cl b1 33 (ecs e nv vv wv),[]) ?_
    refine Gq 5 [8,0] rfl (OpQ.loadN (i:=0) rfl rfl ld33 rfl rfl rfl) ?_
    refine Gq 6 [8,0] rfl (OpQ.move rfl rfl) ?_
    refine WG.fact (fun _ _ s=>sl_isS (i:=12) rfl s) (fun hS41=>?_)
    refine WG.fact (fun _ _ s=>sl_isS (i:=13) rfl s) (fun hS42=>?_)
    refine WG.fact (fun _ _ s=>sl_isS (i:=14) rfl s) (fun hS43=>?_)
    refine WG.fact (fun _ _ s=>sl_isS (i:=1) rfl s) (fun hS44=>?_)
    refine Gq 7 [8,0] rfl (OpQ.build (qs:=[(0,.agg #[vint e.kind,vint e.writer,vint e.seq,nv,vv,vint e.who,vint e.rights,vint e.epoch,wv]),(1,z34)]) (v:=.agg #[vint e.kind,vint e.writer,vint e.seq,nv,vv,vint e.who,vint e.rights,vint e.epoch,wv,z34]) rfl ⟨rfl,rfl,rfl,rfl,trivial⟩ (fun _=>by obtain ⟨_,_,_,e1⟩:=hS41; rw [e1]; obtain ⟨_,_,_,e2⟩:=hS42; rw [e2]; obtain ⟨_,_,_,e3⟩:=hS43; rw [e3]; obtain ⟨_,_,_,e4⟩:=hS44; rw [e4]; kernel_rfl)) ?_
    refine WG.fact (fun _ _ s=>(sl_facts (i:=1) rfl s).2.2) (fun ho47=>?_)
    refine WG.fact (fun _ _ s=>(sl_facts (i:=14) rfl s).2.2) (fun ho48=>?_)
    refine WG.fact (fun _ _ s=>(sl_facts (i:=13) rfl s).2.2) (fun ho49=>?_)
    refine WG.fact (fun _ _ s=>(sl_facts (i:=12) rfl s).2.2) (fun ho50=>?_)
    refine WG.one (i:=8) (by kernel_rfl) (UpG.run rfl rfl rfl (OpRun.buildSlice (qs:=[(0,.agg #[vint e.kind,vint e.writer,vint e.seq,nv,vv,vint e.who,vint e.rights,vint e.epoch,wv,z34])]) (cs:=[vint e.kind,vint e.writer,vint e.seq,nv,vv,vint e.who,vint e.rights,vint e.epoch,wv,z34]) (E:=236) (sz:=10) rfl ⟨rfl,rfl,trivial⟩ (fun _=>by obtain ⟨_,_,_,e1⟩:=hS41; rw [e1]; obtain ⟨_,_,_,e2⟩:=hS42; rw [e2]; obtain ⟨_,_,_,e3⟩:=hS43; rw [e3]; obtain ⟨_,_,_,e4⟩:=hS44; rw [e4]; kernel_rfl) (O3 (one_cons ho50 (one_cons ho49 (O3 (one_cons ho48 (one_cons ho47 one_nil)))))) rfl (by decide)) ?_)
    rintro v45 _ ⟨h46a,h46b,h46c,rfl⟩
    refine ⟨es [9,1] rfl,?_⟩
    refine WG.ent (Ent.know (m:=CellsRel Enc.waits ([vint e.kind,vint e.writer,vint e.seq,nv,vv,vint e.who,vint e.rights,vint e.epoch,wv,z34]) ([(e,bs35)])) (fun K h s=>(CellsRel.cons (cs:=[vint e.kind,vint e.writer,vint e.seq,nv,vv,vint e.who,vint e.rights,vint e.epoch,wv,z34]) (ds:=[]) rfl (Enc.waits_mk (e:=(e,bs35)) (kat 13 s rfl) (kat 14 s rfl) (kat 15 s rfl) (kat 2 s rfl)) CellsRel.nil))) ?_
    refine WG.ent (L':=[Kx Enc.waits ([vint e.kind,vint e.writer,vint e.seq,nv,vv,vint e.who,vint e.rights,vint e.epoch,wv,z34]) ([(e,bs35)]),Rw 236 10 v45 ([vint e.kind,vint e.writer,vint e.seq,nv,vv,vint e.who,vint e.rights,vint e.epoch,wv,z34]),Cl cl 230 [vptr sp 0,vint c.rep.coll,vint c.rep.founder,vint c.rep.who,sv,vptr rp 0,pv,vint (c.count+1),vint e.seq,.bool c.alarm],KB z34 bs35,Cl b27 203 [vint r17.collection,vint r17.epoch,vint r17.writer,vint r17.count,b18],KB b18 r17.box,SuiteR sp A19,KB (N0) ([]),KB z2 k3,ReplayR rp sp c.rep,Cl b1 33 (ecs e nv vv wv),KB sv c.rep.secret,Rw 236 10 pv pcs,Kx Enc.waits pcs c.pend,KB nv e.name,KB vv e.value,KW wv e.wraps,Al R]) er ?_
    refine WG.fact (fun _ _ s=>row_facts (i:=1) rfl s) (fun hr53=>?_)
    obtain ⟨hr53a,hr53b,hr53c⟩:=hr53; try simp only [La,Lc,Ln] at hr53a
    refine WG.one (i:=9) (by kernel_rfl) (UpG.run rfl rfl rfl (OpRun.appendRow (i:=12) (j:=1) rfl rfl rfl rfl rfl Tryz.underlying228 (inf:=Tryz.t236) (by kernel_rfl) rfl rfl rfl (by_:=144) rfl (by first | omega | (simp; omega)) (by first | omega | (simp; omega))) ?_)
    rintro v51 _ ⟨h52a,h52b,rfl⟩
    refine ⟨es [10,2] rfl,?_⟩
    refine WG.ent (Ent.know (m:=CellsRel Enc.waits (pcs++([vint e.kind,vint e.writer,vint e.seq,nv,vv,vint e.who,vint e.rights,vint e.epoch,wv,z34])) (c.pend++([(e,bs35)]))) (fun K h s=>CellsRel.append (e:=Enc.waits) (cs:=pcs) (ds:=[vint e.kind,vint e.writer,vint e.seq,nv,vv,vint e.who,vint e.rights,vint e.epoch,wv,z34]) (xs:=c.pend) (ys:=[(e,bs35)]) (kat 12 s rfl) (kat 1 s rfl))) ?_
    refine WG.ent (L':=[Kx Enc.waits (pcs++([vint e.kind,vint e.writer,vint e.seq,nv,vv,vint e.who,vint e.rights,vint e.epoch,wv,z34])) (c.pend++([(e,bs35)])),Rw 236 10 v51 (pcs++([vint e.kind,vint e.writer,vint e.seq,nv,vv,vint e.who,vint e.rights,vint e.epoch,wv,z34])),Kx Enc.waits ([vint e.kind,vint e.writer,vint e.seq,nv,vv,vint e.who,vint e.rights,vint e.epoch,wv,z34]) ([(e,bs35)]),Cl cl 230 [vptr sp 0,vint c.rep.coll,vint c.rep.founder,vint c.rep.who,sv,vptr rp 0,pv,vint (c.count+1),vint e.seq,.bool c.alarm],KB z34 bs35,Cl b27 203 [vint r17.collection,vint r17.epoch,vint r17.writer,vint r17.count,b18],KB b18 r17.box,SuiteR sp A19,KB (N0) ([]),KB z2 k3,ReplayR rp sp c.rep,Cl b1 33 (ecs e nv vv wv),KB sv c.rep.secret,Kx Enc.waits pcs c.pend,KB nv e.name,KB vv e.value,KW wv e.wraps,Al R]) er ?_
    refine Gq 10 [11,3] rfl (OpQ.nilCheck rfl rfl) ?_
    refine Gq 11 [11,3] rfl (Of (fa230_3 _ _)) ?_
    refine WG.one (i:=12) (by kernel_rfl) (UpG.run rfl rfl rfl (OpRun.store (i:=3) (vs:=[v51]) (cs':=[vptr sp 0,vint c.rep.coll,vint c.rep.founder,vint c.rep.who,sv,vptr rp 0,v51,vint (c.count+1),vint e.seq,.bool c.alarm]) rfl rfl rfl sz228 (cells_one h52b) rfl (one_cons h52b one_nil) rfl (Lb rfl) rfl) ?_)
    rintro _ _ ⟨rfl,rfl⟩
    refine ⟨es [11] rfl,?_⟩
    refine WG.done (by kernel_rfl) ?_
    refine thn_n (Ww [(6,vint 0)] [Cl cl 230 [vptr sp 0,vint c.rep.coll,vint c.rep.founder,vint c.rep.who,sv,vptr rp 0,v51,vint (c.count+1),vint e.seq,.bool c.alarm],Kx Enc.waits (pcs++([vint e.kind,vint e.writer,vint e.seq,nv,vv,vint e.who,vint e.rights,vint e.epoch,wv,z34])) (c.pend++([(e,bs35)])),Rw 236 10 v51 (pcs++([vint e.kind,vint e.writer,vint e.seq,nv,vv,vint e.who,vint e.rights,vint e.epoch,wv,z34])),Kx Enc.waits ([vint e.kind,vint e.writer,vint e.seq,nv,vv,vint e.who,vint e.rights,vint e.epoch,wv,z34]) ([(e,bs35)]),KB z34 bs35,Cl b27 203 [vint r17.collection,vint r17.epoch,vint r17.writer,vint r17.count,b18],KB b18 r17.box,SuiteR sp A19,KB (N0) ([]),KB z2 k3,ReplayR rp sp c.rep,Cl b1 33 (ecs e nv vv wv),KB sv c.rep.secret,Kx Enc.waits pcs c.pend,KB nv e.name,KB vv e.value,KW wv e.wraps,Al R] ?_)
    refine Sn (Qa (k:=Nl [(6,vint 0)] ?_))
    refine Wr 2 fun hr54a hr54b hr54c=>?_
    try simp only [La,Lc,Ln] at hr54a
    have hf2:({ c with pend:=c.pend++[(e,bs35)],count:=c.count+1,last:=e.seq }:Cli).fine:=⟨by simp; omega,fun p hp=>by (rcases List.mem_append.1 hp with h7 | h7; exact hf.2.1 p h7; (simp at h7; subst h7; exact ⟨hre,by simp only; omega,by simp only; omega⟩)),by simp only; omega,by simp only; omega,by simp only; omega,by simp only; omega⟩
    refine W.ret (ret1 (M:=[Cl cl 230 (ccs sp ({ c with pend:=c.pend++[(e,bs35)],count:=c.count+1,last:=e.seq }:Cli) sv rp v51),KB sv (({ c with pend:=c.pend++[(e,bs35)],count:=c.count+1,last:=e.seq }:Cli).rep.secret),ReplayR rp sp (({ c with pend:=c.pend++[(e,bs35)],count:=c.count+1,last:=e.seq }:Cli).rep),Rw 236 10 v51 (pcs++([vint e.kind,vint e.writer,vint e.seq,nv,vv,vint e.who,vint e.rights,vint e.epoch,wv,z34])),Kx Enc.waits (pcs++([vint e.kind,vint e.writer,vint e.seq,nv,vv,vint e.who,vint e.rights,vint e.epoch,wv,z34])) (({ c with pend:=c.pend++[(e,bs35)],count:=c.count+1,last:=e.seq }:Cli).pend),SuiteR sp A19]) rfl rfl (⟨0,({ c with pend:=c.pend++[(e,bs35)],count:=c.count+1,last:=e.seq }:Cli),v51,pcs++([vint e.kind,vint e.writer,vint e.seq,nv,vv,vint e.who,vint e.rights,vint e.epoch,wv,z34]),A19,(by unfold Spec.cseal; simp only [h4,h29,h36]),(by omega),(by exact hf2),rfl,rfl⟩) (es [0,11,9,1,0,4,11] rfl))
   exfalso; unfold Spec.rencode at h38; rw [if_pos hrr] at h38; cases h38
  refine W.cut (X:=Int × Nat) (φ:=fun x=>match x with | (e24,b29)=>(Spec.sseal A c.rep.secret k3 (⟨c.rep.coll,epoch,c.rep.who,c.count+1,[]⟩:Record) e = .error e24)∧(e24≠0)) (E:=fun x=>match x with | (e24,b29)=>[(0,vptr cl 0),(4,vptr b1 0),(6,vint 0),(9,vptr b29 0),(10,vint e24)]) (F:=fun x=>match x with | (e24,b29)=>[Cl b29 203 [vint 0,vint 0,vint 0,vint 0,N0],SuiteR sp A,KB (N0) ([]),KB z2 k3,ReplayR rp sp c.rep,Cl b1 33 (ecs e nv vv wv),Cl cl 230 (ccs sp c sv rp pv),KB sv c.rep.secret,Rw 236 10 pv pcs,Kx Enc.waits pcs c.pend,KB nv e.name,KB vv e.value,KW wv e.wraps,Al R]) (fun x hx=>?_) (fun K1055=>?_)
  ·obtain ⟨e24,b29⟩:=x
   obtain ⟨h31,h32⟩:=hx
   refine Ww [(0,vptr cl 0),(4,vptr b1 0),(6,vint 0),(9,vptr b29 0),(10,vint e24)] [Cl b29 203 [vint 0,vint 0,vint 0,vint 0,N0],SuiteR sp A,KB (N0) ([]),KB z2 k3,ReplayR rp sp c.rep,Cl b1 33 (ecs e nv vv wv),Cl cl 230 (ccs sp c sv rp pv),KB sv c.rep.secret,Rw 236 10 pv pcs,Kx Enc.waits pcs c.pend,KB nv e.name,KB vv e.value,KW wv e.wraps,Al R] ?_
   refine W.seq (Sn (Qm (k:=?_)))
   refine Qu (OpQ.neq rfl rfl rfl) (k:=Nl [(0,vptr cl 0),(4,vptr b1 0),(6,vint 0),(9,vptr b29 0),(10,vint e24),(57,.bool (decide (e24≠0)))] ?_)
   refine Cp rfl (fun h33=>?_) (fun h33=>absurd h32 h33)
   refine Sn (Qm (k:=Qa (k:=Nl [(0,vptr cl 0),(4,vptr b1 0),(6,vint e24),(9,vptr b29 0)] ?_)))
   refine Wr 8 fun hr34a hr34b hr34c=>?_
   try simp only [La,Lc,Ln] at hr34a
   have hf2:=hf
   refine W.ret (thn_r (ret1 (M:=[Cl cl 230 (ccs sp c sv rp pv),KB sv c.rep.secret,ReplayR rp sp c.rep,Rw 236 10 pv pcs,Kx Enc.waits pcs c.pend,SuiteR sp A]) rfl rfl (⟨e24,c,pv,pcs,A,(by unfold Spec.cseal; simp only [h4,h31]),(by omega),(by exact hf2),rfl,rfl⟩) (es [6,6,4,5,5,1,7] rfl)))
  refine W.seq (W.drawG mixed ?_)
  refine Gq 0 [] rfl (OpQ.move rfl rfl) ?_
  refine Gq 1 [] rfl (OpQ.nilCheck rfl rfl) ?_
  refine Gq 2 [] rfl (Of (fa230_0 _ _)) ?_
  refine WG.hold (Cl cl 230 (ccs sp c sv rp pv),[]) ?_
  refine Gq 3 [3] rfl (Ol 0 ld40) ?_
  refine Gq 4 [3] rfl (OpQ.move rfl rfl) ?_
  refine Gq 5 [3] rfl (OpQ.nilCheck rfl rfl) ?_
  refine Gq 6 [3] rfl (Of (fa230_1 _ _)) ?_
  refine Gq 7 [3] rfl (Of (fa24_3 _ _)) ?_
  refine Gq 8 [3] rfl (Ol 0 ld22) ?_
  refine Gq 9 [3] rfl (OpQ.move rfl rfl) ?_
  refine Gq 10 [3] rfl (OpQ.move rfl rfl) ?_
  refine Gq 11 [3] rfl (OpQ.nilCheck rfl rfl) ?_
  refine Gq 12 [3] rfl (Of (fa230_1 _ _)) ?_
  refine Gq 13 [3] rfl (Of (fa24_0 _ _)) ?_
  refine Gq 14 [3] rfl (Ol 0 ld3) ?_
  refine Gq 15 [3] rfl (OpQ.move rfl rfl) ?_
  refine Gq 16 [3] rfl (OpQ.move rfl rfl) ?_
  refine Gq 17 [3] rfl (OpQ.nilCheck rfl rfl) ?_
  refine Gq 18 [3] rfl (Of (fa230_1 _ _)) ?_
  refine Gq 19 [3] rfl (Of (fa24_2 _ _)) ?_
  refine Gq 20 [3] rfl (Ol 0 ld3) ?_
  refine Gq 21 [3] rfl (OpQ.move rfl rfl) ?_
  refine Gq 22 [3] rfl (OpQ.nilCheck rfl rfl) ?_
  refine Gq 23 [3] rfl (Of (fa230_4 _ _)) ?_
  refine Gq 24 [3] rfl (Ol 0 ld3) ?_
  refine Gq 25 [3] rfl (OpQ.add rfl rfl rfl ⟨by omega,by omega⟩) ?_
  refine Gq 26 [3] rfl (OpQ.build (qs:=[(0,vint c.rep.coll),(1,vint epoch),(2,vint c.rep.who),(3,vint (c.count+1))]) (v:=.agg #[vint c.rep.coll,vint epoch,vint c.rep.who,vint (c.count+1),N0]) rfl ⟨rfl,rfl,rfl,rfl,rfl,rfl,rfl,rfl,trivial⟩ (fun _=>by kernel_rfl)) ?_
  refine WG.hold (Cl b1 33 (ecs e nv vv wv),[]) ?_
  refine Gq 27 [2,2] rfl (OpQ.loadN (i:=0) rfl rfl ld33 rfl rfl rfl) ?_
  refine WG.ent (Ent.slNil (e:=Enc.u8) (T:=5)) ?_
  refine WG.two (i:=28) (j:=32) (by kernel_rfl) ?_ ?_
  ·refine UpG.call rfl rfl rfl (OpCall.mk (xs:=[.tmp 28,.tmp 33,.tmp 34,.tmp 51,.tmp 52]) (vs:=[vptr sp 0,sv,z2,.agg #[vint c.rep.coll,vint epoch,vint c.rep.who,vint (c.count+1),N0],.agg #[vint e.kind,vint e.writer,vint e.seq,nv,vv,vint e.who,vint e.rights,vint e.epoch,wv]]) rfl ⟨rfl,rfl,rfl,rfl,rfl,trivial⟩ Tryz.call184) (SSeal_fn sp A sv c.rep.secret z2 k3 (⟨c.rep.coll,epoch,c.rep.who,c.count+1,[]⟩:Record) (N0) e nv vv wv (by first | omega | (simp; done) | (simp; omega) | (simp at *; omega))) ((ed 5 rfl).trans ((ed 2 rfl).trans ((ed 2 rfl).trans ((ed 12 rfl).trans ((ed 14 rfl).trans ((ed 16 rfl).trans (ep [14,5,4,3,2,1,0] rfl))))))) ?_
   rintro _ _ (⟨r17,b18,A19,h20,h21,h22,h23,rfl,rfl⟩ | ⟨e24,h25,h26,rfl,rfl⟩)
   ·refine ⟨es [5,5] rfl,?_⟩
    refine Gq 29 [5,5] rfl (OpQ.move rfl rfl) ?_
    refine Gq 30 [5,5] rfl (OpQ.extract rfl rfl rfl) ?_
    refine Gq 31 [5,5] rfl (OpQ.extract rfl rfl rfl) ?_
    refine WG.one (i:=32) (by kernel_rfl) (UpG.run rfl rfl rfl (OpRun.alloc rfl zv203 rfl) ?_)
    rintro _ _ ⟨b27,rfl,rfl⟩
    refine ⟨es [6,6] rfl,?_⟩
    refine WG.fact (fun _ _ s=>(sl_facts (i:=1) rfl s).2.2) (fun ho28=>?_)
    refine WG.one (i:=33) (by kernel_rfl) (UpG.run rfl rfl rfl (OpRun.store (i:=0) (vs:=[vint r17.collection,vint r17.epoch,vint r17.writer,vint r17.count,b18]) (cs':=[vint r17.collection,vint r17.epoch,vint r17.writer,vint r17.count,b18]) rfl rfl rfl sz203 rfl rfl (O3 (one_cons rfl (one_cons ho28 one_nil))) rfl (Lb rfl) rfl) ?_)
    rintro _ _ ⟨rfl,rfl⟩
    refine ⟨es [6,6] rfl,?_⟩
    refine Gq 34 [6,6] rfl (OpQ.assign rfl rfl) ?_
    refine WG.done (by kernel_rfl) ?_
    refine thn_n ?_
    exact W.weak (by exact ⟨rfl,rfl,rfl,rfl,rfl,trivial⟩) (es [0,0,0,0,0,0,0,0,0,0,0,0,0,0,0] rfl) (K1006 (r17,b18,A19,b27) ⟨h20,h21,h22,h23⟩)
   refine ⟨es [4,4] rfl,?_⟩
   refine Gq 29 [4,4] rfl (OpQ.move rfl rfl) ?_
   refine Gq 30 [4,4] rfl (OpQ.extract rfl rfl rfl) ?_
   refine Gq 31 [4,4] rfl (OpQ.extract rfl rfl rfl) ?_
   refine WG.one (i:=32) (by kernel_rfl) (UpG.run rfl rfl rfl (OpRun.alloc rfl zv203 rfl) ?_)
   rintro _ _ ⟨b29,rfl,rfl⟩
   refine ⟨es [5,5] rfl,?_⟩
   refine WG.one (i:=33) (by kernel_rfl) (UpG.run rfl rfl rfl (OpRun.store (i:=0) (vs:=[vint 0,vint 0,vint 0,vint 0,N0]) (cs':=[vint 0,vint 0,vint 0,vint 0,N0]) rfl rfl rfl sz203 rfl rfl (O3 (one_cons rfl (one_cons rfl one_nil))) rfl (Lb rfl) rfl) ?_)
   rintro _ _ ⟨rfl,rfl⟩
   refine ⟨es [5,5] rfl,?_⟩
   refine Gq 34 [5,5] rfl (OpQ.assign rfl rfl) ?_
   refine WG.done (by kernel_rfl) ?_
   refine thn_n ?_
   exact W.weak (by exact ⟨rfl,rfl,rfl,rfl,rfl,trivial⟩) (es [0,0,0,0,0,0,0,0,0,0,0,0,0,0] rfl) (K1055 (e24,b29) ⟨h25,h26⟩)
  refine UpG.run rfl rfl rfl (OpRun.alloc rfl zv203 rfl) ?_
  rintro _ _ ⟨b30,rfl,rfl⟩
  refine ⟨es [4,4] rfl,?_⟩
  refine WG.one (i:=28) (by kernel_rfl) (UpG.call rfl rfl rfl (OpCall.mk (xs:=[.tmp 28,.tmp 33,.tmp 34,.tmp 51,.tmp 52]) (vs:=[vptr sp 0,sv,z2,.agg #[vint c.rep.coll,vint epoch,vint c.rep.who,vint (c.count+1),N0],.agg #[vint e.kind,vint e.writer,vint e.seq,nv,vv,vint e.who,vint e.rights,vint e.epoch,wv]]) rfl ⟨rfl,rfl,rfl,rfl,rfl,trivial⟩ Tryz.call184) (SSeal_fn sp A sv c.rep.secret z2 k3 (⟨c.rep.coll,epoch,c.rep.who,c.count+1,[]⟩:Record) (N0) e nv vv wv (by first | omega | (simp; done) | (simp; omega) | (simp at *; omega))) ((ed 6 rfl).trans ((ed 3 rfl).trans ((ed 3 rfl).trans ((ed 13 rfl).trans ((ed 15 rfl).trans ((ed 17 rfl).trans (ep [15,5,4,3,2,1,0] rfl))))))) ?_)
  rintro _ _ (⟨r31,b32,A33,h34,h35,h36,h37,rfl,rfl⟩ | ⟨e38,h39,h40,rfl,rfl⟩)
  ·refine ⟨es [6,6] rfl,?_⟩
   refine Gq 29 [6,6] rfl (OpQ.move rfl rfl) ?_
   refine Gq 30 [6,6] rfl (OpQ.extract rfl rfl rfl) ?_
   refine Gq 31 [6,6] rfl (OpQ.extract rfl rfl rfl) ?_
   refine WG.fact (fun _ _ s=>(sl_facts (i:=0) rfl s).2.2) (fun ho41=>?_)
   refine WG.one (i:=33) (by kernel_rfl) (UpG.run rfl rfl rfl (OpRun.store (i:=2) (vs:=[vint r31.collection,vint r31.epoch,vint r31.writer,vint r31.count,b32]) (cs':=[vint r31.collection,vint r31.epoch,vint r31.writer,vint r31.count,b32]) rfl rfl rfl sz203 rfl rfl (O3 (one_cons rfl (one_cons ho41 one_nil))) rfl (Lb rfl) rfl) ?_)
   rintro _ _ ⟨rfl,rfl⟩
   refine ⟨es [6,6] rfl,?_⟩
   refine Gq 34 [6,6] rfl (OpQ.assign rfl rfl) ?_
   refine WG.done (by kernel_rfl) ?_
   refine thn_n ?_
   exact W.weak (by exact ⟨rfl,rfl,rfl,rfl,rfl,trivial⟩) (es [0,0,0,0,0,0,0,0,0,0,0,0,0,0,0] rfl) (K1006 (r31,b32,A33,b30) ⟨h34,h35,h36,h37⟩)
  refine ⟨es [5,5] rfl,?_⟩
  refine Gq 29 [5,5] rfl (OpQ.move rfl rfl) ?_
  refine Gq 30 [5,5] rfl (OpQ.extract rfl rfl rfl) ?_
  refine Gq 31 [5,5] rfl (OpQ.extract rfl rfl rfl) ?_
  refine WG.one (i:=33) (by kernel_rfl) (UpG.run rfl rfl rfl (OpRun.store (i:=1) (vs:=[vint 0,vint 0,vint 0,vint 0,N0]) (cs':=[vint 0,vint 0,vint 0,vint 0,N0]) rfl rfl rfl sz203 rfl rfl (O3 (one_cons rfl (one_cons rfl one_nil))) rfl (Lb rfl) rfl) ?_)
  rintro _ _ ⟨rfl,rfl⟩
  refine ⟨es [5,5] rfl,?_⟩
  refine Gq 34 [5,5] rfl (OpQ.assign rfl rfl) ?_
  refine WG.done (by kernel_rfl) ?_
  refine thn_n ?_
  exact W.weak (by exact ⟨rfl,rfl,rfl,rfl,rfl,trivial⟩) (es [0,0,0,0,0,0,0,0,0,0,0,0,0,0] rfl) (K1055 (e38,b30) ⟨h39,h40⟩)
 refine Qm (k:=Qe (k:=Qe (k:=Qa (k:=Qa (k:=Nw [(0,vptr cl 0),(2,vint epoch),(4,vptr b1 0),(6,vint 0),(7,N0),(8,.bool false)] [ReplayR rp sp c.rep,Cl b1 33 (ecs e nv vv wv),Cl cl 230 (ccs sp c sv rp pv),KB sv c.rep.secret,Rw 236 10 pv pcs,Kx Enc.waits pcs c.pend,SuiteR sp A,KB nv e.name,KB vv e.value,KW wv e.wraps,Al R] ?_)))))
 refine W.seq (Sn (Qm (k:=?_)))
 refine Qu (OpQ.not rfl rfl) (k:=Nl [(0,vptr cl 0),(2,vint epoch),(4,vptr b1 0),(6,vint 0),(7,N0),(23,.bool true)] ?_)
 refine W.condT rfl ?_
 refine Sn (Qa (k:=Nl [(0,vptr cl 0),(2,vint epoch),(4,vptr b1 0),(6,vint 21),(7,N0)] ?_))
 refine Wr 4 fun hr42a hr42b hr42c=>?_
 try simp only [La,Lc,Ln] at hr42a
 have hf2:=hf
 refine W.ret (thn_r (ret1 (M:=[Cl cl 230 (ccs sp c sv rp pv),KB sv c.rep.secret,ReplayR rp sp c.rep,Rw 236 10 pv pcs,Kx Enc.waits pcs c.pend,SuiteR sp A]) rfl rfl (⟨21,c,pv,pcs,A,(by unfold Spec.cseal; simp only [h6]),(by omega),(by exact hf2),rfl,rfl⟩) (es [2,2,0,1,1,1,4] rfl)))
end Go.Lk
open Go.Proofs
set_option maxRecDepth 8000
namespace Go.Lk
open Asn renaming cells→Cl,row→Rw,kn→Kk,all→Al
theorem Issue_fn (cl:Nat) (sp:Nat) (c:Cli) (e:Entry) (nv:Value) (vv:Value) (wv:Value) (A:List Thing) (hA:A.length < 1099511627700):Fn Tryz.prog 36 #[vptr cl 0,.agg #[vint e.kind,vint e.writer,vint e.seq,nv,vv,vint e.who,vint e.rights,vint e.epoch,wv]] [ClientR cl sp c,SuiteR sp A,KB nv e.name,KB vv e.value,KW wv e.wraps] (fun v M=>∃ (x:Int) (c':Cli) (A':List Thing),Spec.issue A c e=(x,c',A')∧A'.length≤A.length+3∧vint x=v∧M=[ClientR cl sp c',SuiteR sp A']):=by
 refine Fi 66 Tryz.func36 fun g R=>?_
 refine Ww [(0,vptr cl 0),(1,.agg #[vint e.kind,vint e.writer,vint e.seq,nv,vv,vint e.who,vint e.rights,vint e.epoch,wv])] [ClientR cl sp c,SuiteR sp A,KB nv e.name,KB vv e.value,KW wv e.wraps,Al R] ?_
 refine W.opens Opens.rep (i:=0) rfl (fun x1 hcf1=>?_)
 obtain ⟨sv1,rp1,pv1,pcs1⟩:=x1
 refine We [Cl cl 230 (ccs sp c sv1 rp1 pv1),KB sv1 c.rep.secret,ReplayR rp1 sp c.rep,Rw 236 10 pv1 pcs1,Kx Enc.waits pcs1 c.pend,SuiteR sp A,KB nv e.name,KB vv e.value,KW wv e.wraps,Al R] ?_
 replace hcf1:c.fine:=hcf1
 refine Wr 3 fun hr2a hr2b hr2c=>?_
 try simp only [La,Lc,Ln] at hr2a
 refine W.fact (fun _ _ s=>cr_len (i:=4) rfl s) (fun hc3=>?_)
 replace hc3:pcs1.length=c.pend.length*10:=hc3
 have hsl:slen pv1=c.pend.length:=by omega
 have hc8:=hcf1.1
 refine Sn (Ru (OpRun.box rfl rfl rfl) ?_)
 rintro _ _ ⟨b4,rfl,rfl⟩
 refine Qa (k:=Nw [(0,vptr cl 0),(3,vptr b4 0),(4,vint 0)] [Cl b4 33 (ecs e nv vv wv),Cl cl 230 (ccs sp c sv1 rp1 pv1),KB sv1 c.rep.secret,ReplayR rp1 sp c.rep,Rw 236 10 pv1 pcs1,Kx Enc.waits pcs1 c.pend,SuiteR sp A,KB nv e.name,KB vv e.value,KW wv e.wraps,Al R] ?_)
 refine W.seq (W.drawG mixed ?_)
 refine Gq 0 [] rfl (OpQ.move rfl rfl) ?_
 refine Gq 1 [] rfl (OpQ.nilCheck rfl rfl) ?_
 refine Gq 2 [] rfl (Of (fa230_1 _ _)) ?_
 refine Gq 3 [] rfl (Of (fa24_2 _ _)) ?_
 refine WG.hold (Cl cl 230 (ccs sp c sv1 rp1 pv1),[]) ?_
 refine Gq 4 [1] rfl (Ol 0 ld3) ?_
 refine Gq 5 [1] rfl (OpQ.move rfl rfl) ?_
 refine Gq 7 [1] rfl (Of (fa33_1 _ _)) ?_
 refine WG.one (i:=6) (by kernel_rfl) (UpG.call rfl rfl rfl (OpCall.mk (xs:=[.tmp 15]) (vs:=[vptr cl 0]) rfl ⟨rfl,trivial⟩ Tryz.call119) (cseq_fn cl sp c sv1 rp1 pv1 pcs1 (by assumption)) ((ed 2 rfl).trans ((ed 6 rfl).trans (ep [3,1,3,3,0] rfl))) ?_)
 rintro _ _ ⟨h5,rfl,rfl⟩
 refine ⟨es [0] rfl,?_⟩
 refine WG.one (i:=8) (by kernel_rfl) (UpG.run rfl rfl rfl (OpRun.store (i:=5) (vs:=[vint c.rep.who]) (cs':=[vint e.kind,vint c.rep.who,vint e.seq,nv,vv,vint e.who,vint e.rights,vint e.epoch,wv]) rfl rfl rfl sz3 rfl rfl (one_cons rfl one_nil) rfl (Lb rfl) rfl) ?_)
 rintro _ _ ⟨rfl,rfl⟩
 refine ⟨es [1] rfl,?_⟩
 refine Gq 9 [1] rfl (Of (fa33_2 _ _)) ?_
 refine WG.one (i:=10) (by kernel_rfl) (UpG.run rfl rfl rfl (OpRun.store (i:=0) (vs:=[vint (Spec.cseq c)]) (cs':=[vint e.kind,vint c.rep.who,vint (Spec.cseq c),nv,vv,vint e.who,vint e.rights,vint e.epoch,wv]) rfl rfl rfl sz3 rfl rfl (one_cons rfl one_nil) rfl (Lb rfl) rfl) ?_)
 rintro _ _ ⟨rfl,rfl⟩
 refine ⟨es [1] rfl,?_⟩
 refine WG.done (by kernel_rfl) ?_
 refine thn_n (Ww [(0,vptr cl 0),(3,vptr b4 0),(4,vint 0)] [Cl b4 33 [vint e.kind,vint c.rep.who,vint (Spec.cseq c),nv,vv,vint e.who,vint e.rights,vint e.epoch,wv],Cl cl 230 (ccs sp c sv1 rp1 pv1),KB sv1 c.rep.secret,ReplayR rp1 sp c.rep,Rw 236 10 pv1 pcs1,Kx Enc.waits pcs1 c.pend,KB sv1 c.rep.secret,Kx Enc.waits pcs1 c.pend,SuiteR sp A,KB nv e.name,KB vv e.value,KW wv e.wraps,Al R] ?_)
 refine Sn (Qm (k:=?_))
 refine Wc [.tmp 20] [vptr cl 0] Tryz.call64 (See_fn cl sp c sv1 rp1 pv1 pcs1 (by assumption)) ((ed 2 rfl).trans ((ed 6 rfl).trans (ep [3,1,3,3,0] rfl))) ?_
 rintro _ _ ⟨p6,mz7,dq8,d9,h10,h11,rfl,rfl⟩
 refine Qm (k:=Qe (k:=Qe (k:=?_)))
 refine Ru (OpRun.alloc rfl zv53 rfl) ?_
 rintro _ _ ⟨b12,rfl,rfl⟩
 refine Nf 1 fun ho13=>?_
 refine Rn (OpRun.store (i:=0) (vs:=[vint p6.founder,vint p6.epoch,mz7]) (cs':=[vint p6.founder,vint p6.epoch,mz7]) rfl rfl rfl sz53 rfl rfl (one_cons rfl (one_cons rfl (one_cons ho13 one_nil))) rfl (Lb rfl) rfl) (k:=Qa (k:=Nw [(0,vptr cl 0),(3,vptr b4 0),(4,vint 0),(5,vptr b12 0)] [Cl b12 53 [vint p6.founder,vint p6.epoch,mz7],KM mz7 p6.members,DocsR dq8 d9,Cl cl 230 (ccs sp c sv1 rp1 pv1),KB sv1 c.rep.secret,ReplayR rp1 sp c.rep,Rw 236 10 pv1 pcs1,Kx Enc.waits pcs1 c.pend,Cl b4 33 [vint e.kind,vint c.rep.who,vint (Spec.cseq c),nv,vv,vint e.who,vint e.rights,vint e.epoch,wv],KB sv1 c.rep.secret,Kx Enc.waits pcs1 c.pend,KB sv1 c.rep.secret,Kx Enc.waits pcs1 c.pend,SuiteR sp A,KB nv e.name,KB vv e.value,KW wv e.wraps,Al R] ?_))
 refine Sn (Qu (OpQ.loadN (i:=0) rfl rfl ld53 rfl rfl rfl) (k:=Qu (OpQ.loadN (i:=8) rfl rfl ld33 rfl rfl rfl) (k:=?_)))
 refine Wc [.tmp 24,.tmp 25] [.agg #[vint p6.founder,vint p6.epoch,mz7],.agg #[vint e.kind,vint c.rep.who,vint (Spec.cseq c),nv,vv,vint e.who,vint e.rights,vint e.epoch,wv]] Tryz.call120 (May_fn p6 mz7 (⟨e.kind,c.rep.who,Spec.cseq c,e.name,e.value,e.who,e.rights,e.epoch,e.wraps⟩:Entry) nv vv wv (by first | omega | (simp; done) | (simp; omega) | (simp at *; omega))) ((ed 1 rfl).trans ((ed 15 rfl).trans ((ed 17 rfl).trans ((ed 19 rfl).trans (ep [3,2,1,0] rfl))))) ?_
 rintro _ _ ⟨rfl,rfl⟩
 refine Qa (k:=Nw [(0,vptr cl 0),(3,vptr b4 0),(4,vint 0),(5,vptr b12 0),(7,vint (Spec.may p6 (⟨e.kind,c.rep.who,Spec.cseq c,e.name,e.value,e.who,e.rights,e.epoch,e.wraps⟩:Entry)))] [Cl b12 53 [vint p6.founder,vint p6.epoch,mz7],KM mz7 p6.members,DocsR dq8 d9,Cl cl 230 (ccs sp c sv1 rp1 pv1),KB sv1 c.rep.secret,ReplayR rp1 sp c.rep,Rw 236 10 pv1 pcs1,Kx Enc.waits pcs1 c.pend,Cl b4 33 [vint e.kind,vint c.rep.who,vint (Spec.cseq c),nv,vv,vint e.who,vint e.rights,vint e.epoch,wv],KB sv1 c.rep.secret,Kx Enc.waits pcs1 c.pend,KB sv1 c.rep.secret,Kx Enc.waits pcs1 c.pend,SuiteR sp A,KB nv e.name,KB vv e.value,KW wv e.wraps,Al R] ?_)
 refine W.seq (W.block (Sn (Qm (k:=?_))))
 refine Qu (OpQ.nilCheck rfl rfl) (k:=Qu (Of (fa230_6 _ _)) (k:=Qu (Ol 3 ld4) (k:=Qa (k:=Nl [(0,vptr cl 0),(3,vptr b4 0),(4,vint 0),(5,vptr b12 0),(7,vint (Spec.may p6 (⟨e.kind,c.rep.who,Spec.cseq c,e.name,e.value,e.who,e.rights,e.epoch,e.wraps⟩:Entry))),(27,.bool c.alarm)] ?_))))
 refine W.cond rfl (fun h14=>?_) (fun h14=>?_)
 ·refine Sn (Qa (k:=Nl [(0,vptr cl 0),(3,vptr b4 0),(4,vint 42),(5,vptr b12 0)] ?_))
  refine Wr 6 fun hr15a hr15b hr15c=>?_
  try simp only [La,Lc,Ln] at hr15a
  refine W.ent (L':=[Cl cl 230 (ccs sp c sv1 rp1 pv1),KB sv1 c.rep.secret,ReplayR rp1 sp c.rep,Rw 236 10 pv1 pcs1,Kx Enc.waits pcs1 c.pend,Cl b12 53 [vint p6.founder,vint p6.epoch,mz7],KM mz7 p6.members,DocsR dq8 d9,Cl b4 33 [vint e.kind,vint c.rep.who,vint (Spec.cseq c),nv,vv,vint e.who,vint e.rights,vint e.epoch,wv],KB sv1 c.rep.secret,Kx Enc.waits pcs1 c.pend,KB sv1 c.rep.secret,Kx Enc.waits pcs1 c.pend,SuiteR sp A,KB nv e.name,KB vv e.value,KW wv e.wraps,Al R]) (es [3,3,3,3,3,0,0,0,0,0,0,0,0,0,0,0,0,0] rfl) ?_
  refine W.ent (L':=[ClientR cl sp c,Cl b12 53 [vint p6.founder,vint p6.epoch,mz7],KM mz7 p6.members,DocsR dq8 d9,Cl b4 33 [vint e.kind,vint c.rep.who,vint (Spec.cseq c),nv,vv,vint e.who,vint e.rights,vint e.epoch,wv],KB sv1 c.rep.secret,Kx Enc.waits pcs1 c.pend,KB sv1 c.rep.secret,Kx Enc.waits pcs1 c.pend,SuiteR sp A,KB nv e.name,KB vv e.value,KW wv e.wraps,Al R]) (Ent.rep' (sv1,rp1,pv1,pcs1) rfl (by assumption) rfl) ?_
  refine W.ret (inblk_r (thn_r (ret1 (M:=[ClientR cl sp c,SuiteR sp A]) rfl rfl (⟨42,c,A,(by unfold Spec.issue Spec.asIssued; rw [if_pos h14]),(by omega),rfl,rfl⟩) (es [0,8,11] rfl))))
 refine Sn (Qm (k:=Qu (OpQ.eql rfl rfl rfl) (k:=Qa (k:=Nl [(0,vptr cl 0),(3,vptr b4 0),(4,vint 0),(5,vptr b12 0),(7,vint (Spec.may p6 (⟨e.kind,c.rep.who,Spec.cseq c,e.name,e.value,e.who,e.rights,e.epoch,e.wraps⟩:Entry))),(32,.bool (decide (Spec.may p6 (⟨e.kind,c.rep.who,Spec.cseq c,e.name,e.value,e.who,e.rights,e.epoch,e.wraps⟩:Entry)=10)))] ?_))))
 refine Cp rfl (fun h16=>?_) (fun h16=>?_)
 ·refine Sn (Qm (k:=Qa (k:=Nl [(0,vptr cl 0),(3,vptr b4 0),(4,vint (Spec.may p6 (⟨e.kind,c.rep.who,Spec.cseq c,e.name,e.value,e.who,e.rights,e.epoch,e.wraps⟩:Entry))),(5,vptr b12 0)] ?_)))
  refine Wr 6 fun hr17a hr17b hr17c=>?_
  try simp only [La,Lc,Ln] at hr17a
  refine W.ent (L':=[Cl cl 230 (ccs sp c sv1 rp1 pv1),KB sv1 c.rep.secret,ReplayR rp1 sp c.rep,Rw 236 10 pv1 pcs1,Kx Enc.waits pcs1 c.pend,Cl b12 53 [vint p6.founder,vint p6.epoch,mz7],KM mz7 p6.members,DocsR dq8 d9,Cl b4 33 [vint e.kind,vint c.rep.who,vint (Spec.cseq c),nv,vv,vint e.who,vint e.rights,vint e.epoch,wv],KB sv1 c.rep.secret,Kx Enc.waits pcs1 c.pend,KB sv1 c.rep.secret,Kx Enc.waits pcs1 c.pend,SuiteR sp A,KB nv e.name,KB vv e.value,KW wv e.wraps,Al R]) (es [3,3,3,3,3,0,0,0,0,0,0,0,0,0,0,0,0,0] rfl) ?_
  refine W.ent (L':=[ClientR cl sp c,Cl b12 53 [vint p6.founder,vint p6.epoch,mz7],KM mz7 p6.members,DocsR dq8 d9,Cl b4 33 [vint e.kind,vint c.rep.who,vint (Spec.cseq c),nv,vv,vint e.who,vint e.rights,vint e.epoch,wv],KB sv1 c.rep.secret,Kx Enc.waits pcs1 c.pend,KB sv1 c.rep.secret,Kx Enc.waits pcs1 c.pend,SuiteR sp A,KB nv e.name,KB vv e.value,KW wv e.wraps,Al R]) (Ent.rep' (sv1,rp1,pv1,pcs1) rfl (by assumption) rfl) ?_
  refine W.ret (inblk_r (thn_r (ret1 (M:=[ClientR cl sp c,SuiteR sp A]) rfl rfl (⟨Spec.may p6 (⟨e.kind,c.rep.who,Spec.cseq c,e.name,e.value,e.who,e.rights,e.epoch,e.wraps⟩:Entry),c,A,(by unfold Spec.issue Spec.asIssued; rw [if_neg (by rw [h14]; simp)]; simp only [h10]; rw [if_pos h16,h16]),(by omega),rfl,rfl⟩) (es [0,8,11] rfl))))
 refine Sn (Qu (Of (fa33_0 _ _)) (k:=Qu (Ol 8 ld3) (k:=Qu (OpQ.eql rfl rfl rfl) (k:=Qa (k:=Nl [(0,vptr cl 0),(3,vptr b4 0),(4,vint 0),(5,vptr b12 0),(7,vint (Spec.may p6 (⟨e.kind,c.rep.who,Spec.cseq c,e.name,e.value,e.who,e.rights,e.epoch,e.wraps⟩:Entry))),(36,.bool (decide (e.kind=5)))] ?_)))))
 refine Cp rfl (fun h18=>?_) (fun h18=>?_)
 ·refine Sn (Qa (k:=Nl [(0,vptr cl 0),(3,vptr b4 0),(4,vint 13),(5,vptr b12 0)] ?_))
  refine Wr 6 fun hr19a hr19b hr19c=>?_
  try simp only [La,Lc,Ln] at hr19a
  refine W.ent (L':=[Cl cl 230 (ccs sp c sv1 rp1 pv1),KB sv1 c.rep.secret,ReplayR rp1 sp c.rep,Rw 236 10 pv1 pcs1,Kx Enc.waits pcs1 c.pend,Cl b12 53 [vint p6.founder,vint p6.epoch,mz7],KM mz7 p6.members,DocsR dq8 d9,Cl b4 33 [vint e.kind,vint c.rep.who,vint (Spec.cseq c),nv,vv,vint e.who,vint e.rights,vint e.epoch,wv],KB sv1 c.rep.secret,Kx Enc.waits pcs1 c.pend,KB sv1 c.rep.secret,Kx Enc.waits pcs1 c.pend,SuiteR sp A,KB nv e.name,KB vv e.value,KW wv e.wraps,Al R]) (es [3,3,3,3,3,0,0,0,0,0,0,0,0,0,0,0,0,0] rfl) ?_
  refine W.ent (L':=[ClientR cl sp c,Cl b12 53 [vint p6.founder,vint p6.epoch,mz7],KM mz7 p6.members,DocsR dq8 d9,Cl b4 33 [vint e.kind,vint c.rep.who,vint (Spec.cseq c),nv,vv,vint e.who,vint e.rights,vint e.epoch,wv],KB sv1 c.rep.secret,Kx Enc.waits pcs1 c.pend,KB sv1 c.rep.secret,Kx Enc.waits pcs1 c.pend,SuiteR sp A,KB nv e.name,KB vv e.value,KW wv e.wraps,Al R]) (Ent.rep' (sv1,rp1,pv1,pcs1) rfl (by assumption) rfl) ?_
  refine W.ret (inblk_r (thn_r (ret1 (M:=[ClientR cl sp c,SuiteR sp A]) rfl rfl (⟨13,c,A,(by unfold Spec.issue Spec.asIssued; rw [if_neg (by rw [h14]; simp)]; simp only [h10]; rw [if_neg h16]; rw [if_pos (by omega)]),(by omega),rfl,rfl⟩) (es [0,8,11] rfl))))
 refine Sn (Qm (k:=Qu (OpQ.nilCheck rfl rfl) (k:=Qu (Of (fa230_3 _ _)) (k:=Qu (Ol 3 ld228) (k:=?_)))))
 refine Nr 6 fun hr20a hr20b hr20c=>?_
 try simp only [La,Lc,Ln] at hr20a
 refine WN.fact (fun _ _ s=>cr_len (i:=7) rfl s) (fun hc21=>?_)
 replace hc21:pcs1.length=c.pend.length*10:=hc21
 refine Qu (OpQ.lenRow (i:=6) rfl rfl rfl (len228 _)) (k:=Qu (OpQ.eql rfl rfl rfl) (k:=Qa (k:=Nl [(0,vptr cl 0),(3,vptr b4 0),(4,vint 0),(5,vptr b12 0),(7,vint (Spec.may p6 (⟨e.kind,c.rep.who,Spec.cseq c,e.name,e.value,e.who,e.rights,e.epoch,e.wraps⟩:Entry))),(40,.bool (decide ((slen pv1:Int)=8)))] ?_)))
 refine Cp rfl (fun h22=>?_) (fun h22=>?_)
 ·refine Sn (Qa (k:=Nl [(0,vptr cl 0),(3,vptr b4 0),(4,vint 33),(5,vptr b12 0)] ?_))
  refine W.ent (L':=[Cl cl 230 (ccs sp c sv1 rp1 pv1),KB sv1 c.rep.secret,ReplayR rp1 sp c.rep,Rw 236 10 pv1 pcs1,Kx Enc.waits pcs1 c.pend,Cl b12 53 [vint p6.founder,vint p6.epoch,mz7],KM mz7 p6.members,DocsR dq8 d9,Cl b4 33 [vint e.kind,vint c.rep.who,vint (Spec.cseq c),nv,vv,vint e.who,vint e.rights,vint e.epoch,wv],KB sv1 c.rep.secret,Kx Enc.waits pcs1 c.pend,KB sv1 c.rep.secret,Kx Enc.waits pcs1 c.pend,SuiteR sp A,KB nv e.name,KB vv e.value,KW wv e.wraps,Al R]) (es [3,3,3,3,3,0,0,0,0,0,0,0,0,0,0,0,0,0] rfl) ?_
  refine W.ent (L':=[ClientR cl sp c,Cl b12 53 [vint p6.founder,vint p6.epoch,mz7],KM mz7 p6.members,DocsR dq8 d9,Cl b4 33 [vint e.kind,vint c.rep.who,vint (Spec.cseq c),nv,vv,vint e.who,vint e.rights,vint e.epoch,wv],KB sv1 c.rep.secret,Kx Enc.waits pcs1 c.pend,KB sv1 c.rep.secret,Kx Enc.waits pcs1 c.pend,SuiteR sp A,KB nv e.name,KB vv e.value,KW wv e.wraps,Al R]) (Ent.rep' (sv1,rp1,pv1,pcs1) rfl (by assumption) rfl) ?_
  refine W.ret (inblk_r (thn_r (ret1 (M:=[ClientR cl sp c,SuiteR sp A]) rfl rfl (⟨33,c,A,(by unfold Spec.issue Spec.asIssued; rw [if_neg (by rw [h14]; simp)]; simp only [h10]; rw [if_neg h16]; rw [if_neg (by omega)]; rw [if_pos (by omega)]),(by omega),rfl,rfl⟩) (es [0,8,11] rfl))))
 refine Sn (Qm (k:=Qu (OpQ.neq rfl rfl rfl) (k:=Qa (k:=Nl [(0,vptr cl 0),(3,vptr b4 0),(4,vint 0),(5,vptr b12 0),(7,vint (Spec.may p6 (⟨e.kind,c.rep.who,Spec.cseq c,e.name,e.value,e.who,e.rights,e.epoch,e.wraps⟩:Entry))),(47,.bool (decide (Spec.may p6 (⟨e.kind,c.rep.who,Spec.cseq c,e.name,e.value,e.who,e.rights,e.epoch,e.wraps⟩:Entry)≠0)))] ?_))))
 refine Cp rfl (fun h23=>?_) (fun h23=>?_)
 ·refine Sn (Qm (k:=Qa (k:=Nl [(0,vptr cl 0),(3,vptr b4 0),(4,vint (Spec.may p6 (⟨e.kind,c.rep.who,Spec.cseq c,e.name,e.value,e.who,e.rights,e.epoch,e.wraps⟩:Entry))),(5,vptr b12 0)] ?_)))
  refine W.ent (L':=[Cl cl 230 (ccs sp c sv1 rp1 pv1),KB sv1 c.rep.secret,ReplayR rp1 sp c.rep,Rw 236 10 pv1 pcs1,Kx Enc.waits pcs1 c.pend,Cl b12 53 [vint p6.founder,vint p6.epoch,mz7],KM mz7 p6.members,DocsR dq8 d9,Cl b4 33 [vint e.kind,vint c.rep.who,vint (Spec.cseq c),nv,vv,vint e.who,vint e.rights,vint e.epoch,wv],KB sv1 c.rep.secret,Kx Enc.waits pcs1 c.pend,KB sv1 c.rep.secret,Kx Enc.waits pcs1 c.pend,SuiteR sp A,KB nv e.name,KB vv e.value,KW wv e.wraps,Al R]) (es [3,3,3,3,3,0,0,0,0,0,0,0,0,0,0,0,0,0] rfl) ?_
  refine W.ent (L':=[ClientR cl sp c,Cl b12 53 [vint p6.founder,vint p6.epoch,mz7],KM mz7 p6.members,DocsR dq8 d9,Cl b4 33 [vint e.kind,vint c.rep.who,vint (Spec.cseq c),nv,vv,vint e.who,vint e.rights,vint e.epoch,wv],KB sv1 c.rep.secret,Kx Enc.waits pcs1 c.pend,KB sv1 c.rep.secret,Kx Enc.waits pcs1 c.pend,SuiteR sp A,KB nv e.name,KB vv e.value,KW wv e.wraps,Al R]) (Ent.rep' (sv1,rp1,pv1,pcs1) rfl (by assumption) rfl) ?_
  refine W.ret (inblk_r (thn_r (ret1 (M:=[ClientR cl sp c,SuiteR sp A]) rfl rfl (⟨Spec.may p6 (⟨e.kind,c.rep.who,Spec.cseq c,e.name,e.value,e.who,e.rights,e.epoch,e.wraps⟩:Entry),c,A,(by unfold Spec.issue Spec.asIssued; rw [if_neg (by rw [h14]; simp)]; simp only [h10]; rw [if_neg h16]; rw [if_neg (by omega)]; rw [if_neg (by omega)]; rw [if_pos h23]),(by omega),rfl,rfl⟩) (es [0,8,11] rfl))))
 refine W.skip (inblk_n (thn_n (Wl [(0,vptr cl 0),(3,vptr b4 0),(4,vint 0),(5,vptr b12 0)] ?_)))
 refine W.seq (W.region ?_)
 have hm0:=Decidable.of_not_not h23; have hri:=(Spec.may_ok hm0).2; obtain ⟨b0,hb1,hb2⟩:=Spec.encode_decode hri; have hbl:=Spec.encode_length hb1
 refine Qu (OpQ.loadN (i:=8) rfl rfl ld33 rfl rfl rfl) (k:=?_)
 refine Wc [.tmp 52] [.agg #[vint e.kind,vint c.rep.who,vint (Spec.cseq c),nv,vv,vint e.who,vint e.rights,vint e.epoch,wv]] Tryz.call121 (Encode_fn (⟨e.kind,c.rep.who,Spec.cseq c,e.name,e.value,e.who,e.rights,e.epoch,e.wraps⟩:Entry) nv vv wv) ((ed 14 rfl).trans ((ed 16 rfl).trans ((ed 18 rfl).trans (ep [2,1,0] rfl)))) ?_
 rintro _ _ (⟨r24,bs25,h26,h27,rfl,rfl⟩ | ⟨e28,h29,h30,rfl,rfl⟩)
 ·refine Qm (k:=Qe (k:=Qe (k:=Qa (k:=Qa (k:=Nw [(0,vptr cl 0),(3,vptr b4 0),(4,vint 0),(5,vptr b12 0),(8,r24)] [KB r24 bs25,Cl b12 53 [vint p6.founder,vint p6.epoch,mz7],KM mz7 p6.members,DocsR dq8 d9,Cl cl 230 (ccs sp c sv1 rp1 pv1),KB sv1 c.rep.secret,ReplayR rp1 sp c.rep,Rw 236 10 pv1 pcs1,Kx Enc.waits pcs1 c.pend,Cl b4 33 [vint e.kind,vint c.rep.who,vint (Spec.cseq c),nv,vv,vint e.who,vint e.rights,vint e.epoch,wv],KB sv1 c.rep.secret,Kx Enc.waits pcs1 c.pend,KB sv1 c.rep.secret,Kx Enc.waits pcs1 c.pend,SuiteR sp A,KB nv e.name,KB vv e.value,KW wv e.wraps,Al R] ?_)))))
  refine W.seq (W.region ?_)
  obtain rfl:bs25=b0:=by rw [hb1] at h26; cases h26; rfl
  refine Qm (k:=?_)
  refine Wc [.tmp 57] [r24] Tryz.call122 (Decode_fn r24 bs25 (by first | omega | (simp; done) | (simp; omega) | (simp at *; omega))) ((ed 0 rfl).trans (ep [0] rfl)) ?_
  rintro _ _ (⟨e31,n32,v33,w34,h35,rfl,rfl⟩ | ⟨h36,rfl,rfl⟩)
  ·refine Qm (k:=Qe (k:=Qe (k:=?_)))
   refine Nf 2 fun ho37=>?_
   refine Nf 1 fun ho38=>?_
   refine Nf 0 fun ho39=>?_
   refine Rn (OpRun.store (i:=12) (vs:=[vint e31.kind,vint e31.writer,vint e31.seq,n32,v33,vint e31.who,vint e31.rights,vint e31.epoch,w34]) (cs':=[vint e31.kind,vint e31.writer,vint e31.seq,n32,v33,vint e31.who,vint e31.rights,vint e31.epoch,w34]) rfl rfl rfl sz33 rfl rfl (O3 (one_cons ho39 (one_cons ho38 (O3 (one_cons ho37 one_nil))))) rfl (Lb rfl) rfl) (k:=Nw [(0,vptr cl 0),(3,vptr b4 0),(4,vint 0),(5,vptr b12 0)] [Cl b4 33 (ecs e31 n32 v33 w34),KB n32 e31.name,KB v33 e31.value,KW w34 e31.wraps,KB r24 bs25,Cl b12 53 [vint p6.founder,vint p6.epoch,mz7],KM mz7 p6.members,DocsR dq8 d9,Cl cl 230 (ccs sp c sv1 rp1 pv1),KB sv1 c.rep.secret,ReplayR rp1 sp c.rep,Rw 236 10 pv1 pcs1,Kx Enc.waits pcs1 c.pend,KB sv1 c.rep.secret,Kx Enc.waits pcs1 c.pend,KB sv1 c.rep.secret,Kx Enc.waits pcs1 c.pend,SuiteR sp A,KB nv e.name,KB vv e.value,KW wv e.wraps,Al R] ?_)
   refine W.seq (W.region ?_)
   obtain rfl:e31=(⟨e.kind,c.rep.who,Spec.cseq c,e.name,e.value,e.who,e.rights,e.epoch,e.wraps⟩:Entry):=by rw [hb2] at h35; cases h35; rfl
   refine Qm (k:=Qu (OpQ.loadN (i:=0) rfl rfl ld33 rfl rfl rfl) (k:=Qu (Of (fa53_1 _ _)) (k:=Qu (Ol 5 ld3) (k:=?_))))
   refine Wc [.tmp 61,.tmp 62,.tmp 64] [vptr cl 0,.agg #[vint ((⟨e.kind,c.rep.who,Spec.cseq c,e.name,e.value,e.who,e.rights,e.epoch,e.wraps⟩:Entry).kind),vint ((⟨e.kind,c.rep.who,Spec.cseq c,e.name,e.value,e.who,e.rights,e.epoch,e.wraps⟩:Entry).writer),vint ((⟨e.kind,c.rep.who,Spec.cseq c,e.name,e.value,e.who,e.rights,e.epoch,e.wraps⟩:Entry).seq),n32,v33,vint ((⟨e.kind,c.rep.who,Spec.cseq c,e.name,e.value,e.who,e.rights,e.epoch,e.wraps⟩:Entry).who),vint ((⟨e.kind,c.rep.who,Spec.cseq c,e.name,e.value,e.who,e.rights,e.epoch,e.wraps⟩:Entry).rights),vint ((⟨e.kind,c.rep.who,Spec.cseq c,e.name,e.value,e.who,e.rights,e.epoch,e.wraps⟩:Entry).epoch),w34],vint p6.epoch] Tryz.call123 (cseal_fn cl sp c sv1 rp1 pv1 pcs1 (⟨e.kind,c.rep.who,Spec.cseq c,e.name,e.value,e.who,e.rights,e.epoch,e.wraps⟩:Entry) n32 v33 w34 p6.epoch A (by assumption) (by first | omega | (simp; done) | (simp; omega) | (simp at *; omega)) (by first | omega | (simp; done) | (simp; omega) | (simp at *; omega))) ((ed 9 rfl).trans ((ed 13 rfl).trans ((ed 3 rfl).trans ((ed 5 rfl).trans ((ed 7 rfl).trans (ep [13,4,13,13,3,17,2,1,0] rfl)))))) ?_
   rintro _ _ ⟨x40,c41,pv42,pcs43,A44,h45,h46,h47,rfl,rfl⟩
   refine Qa (k:=Nw [(4,vint x40)] [Cl cl 230 (ccs sp c41 sv1 rp1 pv42),KB sv1 c41.rep.secret,ReplayR rp1 sp c41.rep,Rw 236 10 pv42 pcs43,Kx Enc.waits pcs43 c41.pend,SuiteR sp A44,Cl b4 33 (ecs (⟨e.kind,c.rep.who,Spec.cseq c,e.name,e.value,e.who,e.rights,e.epoch,e.wraps⟩:Entry) n32 v33 w34),KB n32 ((⟨e.kind,c.rep.who,Spec.cseq c,e.name,e.value,e.who,e.rights,e.epoch,e.wraps⟩:Entry).name),KB v33 ((⟨e.kind,c.rep.who,Spec.cseq c,e.name,e.value,e.who,e.rights,e.epoch,e.wraps⟩:Entry).value),KW w34 ((⟨e.kind,c.rep.who,Spec.cseq c,e.name,e.value,e.who,e.rights,e.epoch,e.wraps⟩:Entry).wraps),KB r24 bs25,Cl b12 53 [vint p6.founder,vint p6.epoch,mz7],KM mz7 p6.members,DocsR dq8 d9,KB sv1 c.rep.secret,Kx Enc.waits pcs1 c.pend,KB sv1 c.rep.secret,Kx Enc.waits pcs1 c.pend,KB sv1 c.rep.secret,Kx Enc.waits pcs1 c.pend,KB nv e.name,KB vv e.value,KW wv e.wraps,Al R] ?_)
   refine Wr 3 fun hr48a hr48b hr48c=>?_
   try simp only [La,Lc,Ln] at hr48a
   refine W.ent (L':=[Cl cl 230 (ccs sp c41 sv1 rp1 pv42),KB sv1 c41.rep.secret,ReplayR rp1 sp c41.rep,Rw 236 10 pv42 pcs43,Kx Enc.waits pcs43 c41.pend,SuiteR sp A44,Cl b4 33 (ecs (⟨e.kind,c.rep.who,Spec.cseq c,e.name,e.value,e.who,e.rights,e.epoch,e.wraps⟩:Entry) n32 v33 w34),KB n32 ((⟨e.kind,c.rep.who,Spec.cseq c,e.name,e.value,e.who,e.rights,e.epoch,e.wraps⟩:Entry).name),KB v33 ((⟨e.kind,c.rep.who,Spec.cseq c,e.name,e.value,e.who,e.rights,e.epoch,e.wraps⟩:Entry).value),KW w34 ((⟨e.kind,c.rep.who,Spec.cseq c,e.name,e.value,e.who,e.rights,e.epoch,e.wraps⟩:Entry).wraps),KB r24 bs25,Cl b12 53 [vint p6.founder,vint p6.epoch,mz7],KM mz7 p6.members,DocsR dq8 d9,KB sv1 c.rep.secret,Kx Enc.waits pcs1 c.pend,KB sv1 c.rep.secret,Kx Enc.waits pcs1 c.pend,KB sv1 c.rep.secret,Kx Enc.waits pcs1 c.pend,KB nv e.name,KB vv e.value,KW wv e.wraps,Al R]) (es [0,0,0,0,0,0,0,0,0,0,0,0,0,0,0,0,0,0,0,0,0,0,0,0] rfl) ?_
   refine W.ent (L':=[ClientR cl sp c41,SuiteR sp A44,Cl b4 33 (ecs (⟨e.kind,c.rep.who,Spec.cseq c,e.name,e.value,e.who,e.rights,e.epoch,e.wraps⟩:Entry) n32 v33 w34),KB n32 ((⟨e.kind,c.rep.who,Spec.cseq c,e.name,e.value,e.who,e.rights,e.epoch,e.wraps⟩:Entry).name),KB v33 ((⟨e.kind,c.rep.who,Spec.cseq c,e.name,e.value,e.who,e.rights,e.epoch,e.wraps⟩:Entry).value),KW w34 ((⟨e.kind,c.rep.who,Spec.cseq c,e.name,e.value,e.who,e.rights,e.epoch,e.wraps⟩:Entry).wraps),KB r24 bs25,Cl b12 53 [vint p6.founder,vint p6.epoch,mz7],KM mz7 p6.members,DocsR dq8 d9,KB sv1 c.rep.secret,Kx Enc.waits pcs1 c.pend,KB sv1 c.rep.secret,Kx Enc.waits pcs1 c.pend,KB sv1 c.rep.secret,Kx Enc.waits pcs1 c.pend,KB nv e.name,KB vv e.value,KW wv e.wraps,Al R]) (Ent.rep' (sv1,rp1,pv42,pcs43) rfl (by assumption) rfl) ?_
   refine W.ret (ret1 (M:=[ClientR cl sp c41,SuiteR sp A44]) rfl rfl (⟨x40,c41,A44,(by unfold Spec.issue Spec.asIssued; rw [if_neg (by rw [h14]; simp)]; simp only [h10]; rw [if_neg h16]; rw [if_neg (by omega)]; rw [if_neg (by omega)]; rw [if_neg h23]; exact h45),(by omega),rfl,rfl⟩) (es [0,0,17] rfl))
  exfalso; rw [hb2] at h36; cases h36
 exfalso; rw [hb1] at h29; cases h29
end Go.Lk
open Go.Proofs
set_option maxRecDepth 8000
namespace Go.Lk
open Asn renaming cells→Cl,row→Rw,kn→Kk,all→Al
theorem clientNew_fn (sp:Nat) (A:List Thing) (coll:Int) (founder:Int) (who:Int) (sv:Value) (ks:Bytes) (hA:A.length < 1099511627760) (hs:ks.length≤1000000):Fn Tryz.prog 38 #[vptr sp 0,.agg #[vint coll,vint founder,vint who,sv]] [SuiteR sp A,KB sv ks] (fun v M=>(∃ (cl:Nat) (c:Cli) (A':List Thing),Spec.clientNew A coll founder who ks=(some c,A')∧A'.length≤A.length+2∧.tuple #[vptr cl 0,vint 0]=v∧M=[ClientR cl sp c,SuiteR sp A'])∨(Spec.clientNew A coll founder who ks=(none,A)∧.tuple #[.pointer none,vint 12]=v∧M=[SuiteR sp A])):=by
 refine Fi 26 Tryz.func38 fun g R=>?_
 refine Ww [(0,vptr sp 0),(1,.agg #[vint coll,vint founder,vint who,sv])] [SuiteR sp A,KB sv ks,Al R] ?_
 refine Sn (Ru (OpRun.box rfl rfl rfl) ?_)
 rintro _ _ ⟨b1,rfl,rfl⟩
 refine Qa (k:=Qa (k:=Nw [(0,vptr sp 0),(3,vptr b1 0),(4,.pointer none),(5,vint 0)] [Cl b1 24 [vint coll,vint founder,vint who,sv],SuiteR sp A,KB sv ks,Al R] ?_))
 refine Sn (Qm (k:=Qu (OpQ.loadN (i:=0) rfl rfl ld24 rfl rfl rfl) (k:=?_)))
 refine Wc [.tmp 9,.tmp 10] [vptr sp 0,.agg #[vint coll,vint founder,vint who,sv]] Tryz.call28 (repNew_fn sp A coll founder who sv ks (by first | omega | (simp; done) | (simp; omega) | (simp at *; omega)) (by first | omega | (simp; done) | (simp; omega) | (simp at *; omega))) ((ed 2 rfl).trans (ep [2,0] rfl)) ?_
 rintro _ _ (⟨rp2,q3,A4,h5,h6,rfl,rfl⟩ | ⟨h7,rfl,rfl⟩)
 ·refine Qm (k:=Qe (k:=Qe (k:=Qa (k:=Qa (k:=Nw [(0,vptr sp 0),(3,vptr b1 0),(4,.pointer none),(5,vint 0),(6,vptr rp2 0),(7,vint 0)] [ReplayR rp2 sp q3,SuiteR sp A4,Cl b1 24 [vint coll,vint founder,vint who,sv],KB sv ks,Al R] ?_)))))
  refine W.seq (Sn (Qm (k:=?_)))
  refine Qu (OpQ.neq rfl rfl rfl) (k:=Nl [(0,vptr sp 0),(3,vptr b1 0),(4,.pointer none),(5,vint 0),(6,vptr rp2 0),(7,vint 0),(15,.bool (decide ((0:Int)≠0)))] ?_)
  refine Cp rfl (fun h8=>absurd h8 (by decide)) (fun h8=>?_)
  refine W.skip (thn_n (Wl [(0,vptr sp 0),(3,vptr b1 0),(4,.pointer none),(5,vint 0),(6,vptr rp2 0)] ?_))
  refine Sn (Qu (Of (fa24_3 _ _)) (k:=Qu (Ol 2 ld22) (k:=?_)))
  refine WN.ent (Ent.rowNil (E:=5) (sz:=1)) ?_
  refine Ne [Rw 5 1 (N0) (bv []),ReplayR rp2 sp q3,SuiteR sp A4,Cl b1 24 [vint coll,vint founder,vint who,sv],KB sv ks,Al R] ?_
  refine Ru (OpRun.appendB (i:=0) (j:=4) rfl rfl rfl rfl rfl Tryz.underlying22 (inf:=Tryz.t5) (by kernel_rfl) rfl rfl rfl rfl (by first | omega | (simp; omega))) ?_
  rintro v9 _ ⟨h10a,h10b,h10c,rfl⟩
  refine Qu (Of (fa24_3 _ _)) (k:=Rn (OpRun.store (i:=3) (vs:=[v9]) (cs':=[vint coll,vint founder,vint who,v9]) rfl rfl rfl sz22 (cells_one h10b) rfl (one_cons h10b one_nil) rfl (Lb rfl) rfl) (k:=Nw [(0,vptr sp 0),(3,vptr b1 0),(4,.pointer none),(5,vint 0),(6,vptr rp2 0)] [Cl b1 24 [vint coll,vint founder,vint who,v9],Rw 5 1 v9 (bv (([])++ks)),ReplayR rp2 sp q3,SuiteR sp A4,KB sv ks,Al R] ?_))
  refine Sn (Qm (k:=Qu (OpQ.loadN (i:=0) rfl rfl ld24 rfl rfl rfl) (k:=Qm (k:=?_))))
  refine WN.fact (fun _ _ s=>row_isS (i:=1) rfl s) (fun hS11=>?_)
  refine Qu (OpQ.build (qs:=[(0,vptr sp 0),(1,.agg #[vint coll,vint founder,vint who,v9]),(2,vptr rp2 0)]) (v:=.agg #[vptr sp 0,vint coll,vint founder,vint who,v9,vptr rp2 0,N0,vint 0,vint 0,.bool false]) rfl ⟨rfl,rfl,rfl,rfl,rfl,rfl,trivial⟩ (fun _=>by obtain ⟨_,_,_,e1⟩:=hS11; rw [e1]; kernel_rfl)) (k:=?_)
  refine Ru (OpRun.box rfl rfl rfl) ?_
  rintro _ _ ⟨b12,rfl,rfl⟩
  refine Qa (k:=Qa (k:=Nw [(4,vptr b12 0),(5,vint 0)] [Cl b12 230 [vptr sp 0,vint coll,vint founder,vint who,v9,vptr rp2 0,N0,vint 0,vint 0,.bool false],Cl b1 24 [vint coll,vint founder,vint who,v9],Rw 5 1 v9 (bv (([])++ks)),ReplayR rp2 sp q3,SuiteR sp A4,KB sv ks,Al R] ?_))
  refine Wr 2 fun hr13a hr13b hr13c=>?_
  try simp only [La,Lc,Ln] at hr13a
  obtain ⟨hq1,hq2,hq3,hq4⟩:=Spec.repNew_has h5
  refine W.ent (L':=[Cl b12 230 [vptr sp 0,vint q3.coll,vint q3.founder,vint q3.who,v9,vptr rp2 0,N0,vint 0,vint 0,.bool false],Rw 5 1 v9 (bv q3.secret),Cl b1 24 [vint coll,vint founder,vint who,v9],ReplayR rp2 sp q3,SuiteR sp A4,KB sv ks,Al R]) ((es [0,1,0,0,0,0,0] rfl).trans (Ent.of_eq (by simp only [hq1,hq2,hq3,hq4,List.nil_append]))) ?_
  have hfi:(⟨q3,[],0,0,false⟩:Cli).fine:=⟨by simp,by simp,by simp,by simp,by simp,by simp⟩
  refine W.freezeB (bs:=q3.secret) (i:=1) rfl ?_
  refine W.ent (Ent.rowNil (E:=236) (sz:=10)) ?_
  refine We [Rw 236 10 (N0) ([]),KB v9 q3.secret,Cl b12 230 [vptr sp 0,vint q3.coll,vint q3.founder,vint q3.who,v9,vptr rp2 0,N0,vint 0,vint 0,.bool false],Cl b1 24 [vint coll,vint founder,vint who,v9],ReplayR rp2 sp q3,SuiteR sp A4,KB sv ks,Al R] ?_
  refine W.ent (Ent.know (m:=CellsRel Enc.waits [] []) (fun _ _ _=>CellsRel.nil)) ?_
  refine W.ent (L':=[Cl b12 230 [vptr sp 0,vint q3.coll,vint q3.founder,vint q3.who,v9,vptr rp2 0,N0,vint 0,vint 0,.bool false],KB v9 q3.secret,ReplayR rp2 sp q3,Rw 236 10 (N0) ([]),Kx Enc.waits ([]) ([]),Cl b1 24 [vint coll,vint founder,vint who,v9],SuiteR sp A4,KB sv ks,Al R]) (es [3,2,3,1,0,0,0,0,0] rfl) ?_
  refine W.ent (L':=[ClientR b12 sp (⟨q3,[],0,0,false⟩:Cli),Cl b1 24 [vint coll,vint founder,vint who,v9],SuiteR sp A4,KB sv ks,Al R]) (Ent.rep' (v9,rp2,N0,[]) rfl hfi rfl) ?_
  refine W.ret (ret2 (M:=[ClientR b12 sp (⟨q3,[],0,0,false⟩:Cli),SuiteR sp A4]) rfl rfl rfl (.inl ⟨b12,(⟨q3,[],0,0,false⟩:Cli),A4,(by unfold Spec.clientNew; simp only [h5]),(by omega),rfl,rfl⟩) (es [0,1,2] rfl))
 refine Qm (k:=Qe (k:=Qe (k:=Qa (k:=Qa (k:=Nw [(0,vptr sp 0),(3,vptr b1 0),(4,.pointer none),(5,vint 0),(6,.pointer none),(7,vint 12)] [SuiteR sp A,Cl b1 24 [vint coll,vint founder,vint who,sv],KB sv ks,Al R] ?_)))))
 refine W.seq (Sn (Qm (k:=?_)))
 refine Qu (OpQ.neq rfl rfl rfl) (k:=Nl [(0,vptr sp 0),(3,vptr b1 0),(4,.pointer none),(5,vint 0),(6,.pointer none),(7,vint 12),(15,.bool (decide ((12:Int)≠0)))] ?_)
 refine Cp rfl (fun h14=>?_) (fun h14=>absurd (by decide) h14)
 refine Sn (Qm (k:=Qa (k:=Qa (k:=Nl [(0,vptr sp 0),(3,vptr b1 0),(4,.pointer none),(5,vint 12),(6,.pointer none)] ?_))))
 refine W.ret (thn_r (ret2 (M:=[SuiteR sp A]) rfl rfl rfl (.inr (⟨(by unfold Spec.clientNew; simp only [h7]),rfl,rfl⟩)) (es [0,2] rfl)))
end Go.Lk
open Go.Proofs
set_option maxRecDepth 8000
namespace Go.Lk
open Asn renaming cells→Cl,row→Rw,kn→Kk,all→Al
theorem Compare_fn (cl:Nat) (sp:Nat) (c:Cli) (i:Int) (hv:Value) (hs:Bytes):Fn Tryz.prog 43 #[vptr cl 0,.agg #[vint i,hv]] [ClientR cl sp c,KB hv hs] (fun v M=>vint ((Spec.compare c i hs).1)=v∧M=[ClientR cl sp ((Spec.compare c i hs).2)]):=by
 refine Fi 25 Tryz.func43 fun g R=>?_
 refine Ww [(0,vptr cl 0),(1,.agg #[vint i,hv])] [ClientR cl sp c,KB hv hs,Al R] ?_
 refine W.opens Opens.rep (i:=0) rfl (fun x1 hcf1=>?_)
 obtain ⟨sv1,rp1,pv1,pcs1⟩:=x1
 refine We [Cl cl 230 (ccs sp c sv1 rp1 pv1),KB sv1 c.rep.secret,ReplayR rp1 sp c.rep,Rw 236 10 pv1 pcs1,Kx Enc.waits pcs1 c.pend,KB hv hs,Al R] ?_
 replace hcf1:c.fine:=hcf1
 refine Wr 3 fun hr2a hr2b hr2c=>?_
 try simp only [La,Lc,Ln] at hr2a
 refine W.fact (fun _ _ s=>cr_len (i:=4) rfl s) (fun hc3=>?_)
 replace hc3:pcs1.length=c.pend.length*10:=hc3
 have hsl:slen pv1=c.pend.length:=by omega
 have hc8:=hcf1.1
 refine Sn (Ru (OpRun.box rfl rfl rfl) ?_)
 rintro _ _ ⟨b4,rfl,rfl⟩
 refine Qa (k:=Nw [(0,vptr cl 0),(3,vptr b4 0),(4,vint 0)] [Cl b4 74 [vint i,hv],Cl cl 230 (ccs sp c sv1 rp1 pv1),KB sv1 c.rep.secret,ReplayR rp1 sp c.rep,Rw 236 10 pv1 pcs1,Kx Enc.waits pcs1 c.pend,KB hv hs,Al R] ?_)
 refine W.seq (W.drawG mixed ?_)
 refine Gq 0 [] rfl (OpQ.move rfl rfl) ?_
 refine Gq 1 [] rfl (OpQ.nilCheck rfl rfl) ?_
 refine Gq 2 [] rfl (Of (fa230_2 _ _)) ?_
 refine WG.hold (Cl cl 230 (ccs sp c sv1 rp1 pv1),[]) ?_
 refine Gq 3 [1] rfl (Ol 0 ld41) ?_
 refine WG.hold (Cl b4 74 [vint i,hv],[]) ?_
 refine Gq 5 [0,0] rfl (OpQ.loadN (i:=0) rfl rfl ld74 rfl rfl rfl) ?_
 refine WG.one (i:=4) (by kernel_rfl) (UpG.call rfl rfl rfl (OpCall.mk (xs:=[.tmp 9]) (vs:=[vptr rp1 0]) rfl ⟨rfl,trivial⟩ Tryz.call52) (repChain_fn rp1 sp c.rep) (ep [3] rfl) ?_)
 rintro _ _ ⟨cp5,rfl,rfl⟩
 refine ⟨es [2,2] rfl,?_⟩
 refine WG.one (i:=6) (by kernel_rfl) (UpG.call rfl rfl rfl (OpCall.mk (xs:=[.tmp 10,.tmp 11]) (vs:=[vptr cp5 0,.agg #[vint i,hv]]) rfl ⟨rfl,rfl,trivial⟩ Tryz.call127) (chainCheck_fn cp5 sp c.rep.chain i hv hs) ((ed 7 rfl).trans (ep [2,0] rfl)) ?_)
 rintro _ _ ⟨rfl,rfl⟩
 refine ⟨es [2,2] rfl,?_⟩
 refine Gq 7 [2,2] rfl (OpQ.assign rfl rfl) ?_
 refine WG.done (by kernel_rfl) ?_
 refine thn_n (Ww [(0,vptr cl 0),(4,vint 0),(5,vint (Spec.chainCheck c.rep.chain i hs))] [ChainR cp5 sp c.rep.chain,ReplayO rp1 sp cp5 c.rep,Cl b4 74 [vint i,hv],Cl cl 230 (ccs sp c sv1 rp1 pv1),KB sv1 c.rep.secret,Rw 236 10 pv1 pcs1,Kx Enc.waits pcs1 c.pend,KB hv hs,Al R] ?_)
 refine Sn (Qm (k:=Qm (k:=Qu (OpQ.nilCheck rfl rfl) (k:=Qu (Of (fa230_6 _ _)) (k:=Qu (Ol 3 ld4) (k:=Qm (k:=?_)))))))
 cases h6:c.alarm
 ·refine Qm (k:=Qu (OpQ.eql rfl rfl rfl) (k:=Qf (k:=Qu (OpQ.nilCheck rfl rfl) (k:=Qu (Of (fa230_6 _ _)) (k:=Rn (OpRun.store (i:=3) (vs:=[.bool (decide (Spec.chainCheck c.rep.chain i hs=24))]) (cs':=[vptr sp 0,vint c.rep.coll,vint c.rep.founder,vint c.rep.who,sv1,vptr rp1 0,pv1,vint c.count,vint c.last,.bool (decide (Spec.chainCheck c.rep.chain i hs=24))]) rfl rfl rfl sz4 rfl rfl (one_cons rfl one_nil) rfl (Lb rfl) rfl) (k:=Nw [(4,vint 0),(5,vint (Spec.chainCheck c.rep.chain i hs))] [Cl cl 230 [vptr sp 0,vint c.rep.coll,vint c.rep.founder,vint c.rep.who,sv1,vptr rp1 0,pv1,vint c.count,vint c.last,.bool (decide (Spec.chainCheck c.rep.chain i hs=24))],ChainR cp5 sp c.rep.chain,ReplayO rp1 sp cp5 c.rep,Cl b4 74 [vint i,hv],KB sv1 c.rep.secret,Rw 236 10 pv1 pcs1,Kx Enc.waits pcs1 c.pend,KB hv hs,Al R] ?_))))))
  refine Sn (Qm (k:=Qa (k:=Nl [(4,vint (Spec.chainCheck c.rep.chain i hs))] ?_)))
  refine W.ent (L':=[Cl cl 230 (ccs sp (Spec.compare c i hs).2 sv1 rp1 pv1),ChainR cp5 sp c.rep.chain,ReplayO rp1 sp cp5 c.rep,Cl b4 74 [vint i,hv],KB sv1 c.rep.secret,Rw 236 10 pv1 pcs1,Kx Enc.waits pcs1 c.pend,KB hv hs,Al R]) ((es [0,0,0,0,0,0,0,0,0] rfl).trans (Ent.of_eq (by unfold Spec.compare; first | rfl | (simp [*]; done)))) ?_
  refine W.ent (L':=[ReplayO rp1 sp cp5 c.rep,ChainR cp5 sp c.rep.chain,Cl cl 230 (ccs sp (Spec.compare c i hs).2 sv1 rp1 pv1),Cl b4 74 [vint i,hv],KB sv1 c.rep.secret,Rw 236 10 pv1 pcs1,Kx Enc.waits pcs1 c.pend,KB hv hs,Al R]) (es [2,1,0,0,0,0,0,0,0] rfl) ?_
  refine W.ent (L':=[ReplayR rp1 sp c.rep,Cl cl 230 (ccs sp (Spec.compare c i hs).2 sv1 rp1 pv1),Cl b4 74 [vint i,hv],KB sv1 c.rep.secret,Rw 236 10 pv1 pcs1,Kx Enc.waits pcs1 c.pend,KB hv hs,Al R]) (Ent.rep' cp5 rfl trivial rfl) ?_
  have hfi:(Spec.compare c i hs).2.fine:=hcf1
  refine W.ent (L':=[Cl cl 230 (ccs sp (Spec.compare c i hs).2 sv1 rp1 pv1),KB sv1 c.rep.secret,ReplayR rp1 sp c.rep,Rw 236 10 pv1 pcs1,Kx Enc.waits pcs1 c.pend,Cl b4 74 [vint i,hv],KB hv hs,Al R]) (es [1,2,0,1,1,0,0,0] rfl) ?_
  refine W.ent (L':=[ClientR cl sp ((Spec.compare c i hs).2),Cl b4 74 [vint i,hv],KB hv hs,Al R]) (Ent.rep' (sv1,rp1,pv1,pcs1) rfl hfi rfl) ?_
  refine W.ret (ret1 (M:=[ClientR cl sp ((Spec.compare c i hs).2)]) rfl rfl (⟨rfl,rfl⟩) (es [0,2] rfl))
 refine Qs (k:=Qs (k:=Qt (k:=Qu (OpQ.nilCheck rfl rfl) (k:=Qu (Of (fa230_6 _ _)) (k:=Rn (OpRun.store (i:=3) (vs:=[.bool true]) (cs':=[vptr sp 0,vint c.rep.coll,vint c.rep.founder,vint c.rep.who,sv1,vptr rp1 0,pv1,vint c.count,vint c.last,.bool true]) rfl rfl rfl sz4 rfl rfl (one_cons rfl one_nil) rfl (Lb rfl) rfl) (k:=Nw [(4,vint 0),(5,vint (Spec.chainCheck c.rep.chain i hs))] [Cl cl 230 [vptr sp 0,vint c.rep.coll,vint c.rep.founder,vint c.rep.who,sv1,vptr rp1 0,pv1,vint c.count,vint c.last,.bool true],ChainR cp5 sp c.rep.chain,ReplayO rp1 sp cp5 c.rep,Cl b4 74 [vint i,hv],KB sv1 c.rep.secret,Rw 236 10 pv1 pcs1,Kx Enc.waits pcs1 c.pend,KB hv hs,Al R] ?_))))))
 refine Sn (Qm (k:=Qa (k:=Nl [(4,vint (Spec.chainCheck c.rep.chain i hs))] ?_)))
 refine W.ent (L':=[Cl cl 230 (ccs sp (Spec.compare c i hs).2 sv1 rp1 pv1),ChainR cp5 sp c.rep.chain,ReplayO rp1 sp cp5 c.rep,Cl b4 74 [vint i,hv],KB sv1 c.rep.secret,Rw 236 10 pv1 pcs1,Kx Enc.waits pcs1 c.pend,KB hv hs,Al R]) ((es [0,0,0,0,0,0,0,0,0] rfl).trans (Ent.of_eq (by unfold Spec.compare; first | rfl | (simp [*]; done)))) ?_
 refine W.ent (L':=[ReplayO rp1 sp cp5 c.rep,ChainR cp5 sp c.rep.chain,Cl cl 230 (ccs sp (Spec.compare c i hs).2 sv1 rp1 pv1),Cl b4 74 [vint i,hv],KB sv1 c.rep.secret,Rw 236 10 pv1 pcs1,Kx Enc.waits pcs1 c.pend,KB hv hs,Al R]) (es [2,1,0,0,0,0,0,0,0] rfl) ?_
 refine W.ent (L':=[ReplayR rp1 sp c.rep,Cl cl 230 (ccs sp (Spec.compare c i hs).2 sv1 rp1 pv1),Cl b4 74 [vint i,hv],KB sv1 c.rep.secret,Rw 236 10 pv1 pcs1,Kx Enc.waits pcs1 c.pend,KB hv hs,Al R]) (Ent.rep' cp5 rfl trivial rfl) ?_
 have hfi:(Spec.compare c i hs).2.fine:=hcf1
 refine W.ent (L':=[Cl cl 230 (ccs sp (Spec.compare c i hs).2 sv1 rp1 pv1),KB sv1 c.rep.secret,ReplayR rp1 sp c.rep,Rw 236 10 pv1 pcs1,Kx Enc.waits pcs1 c.pend,Cl b4 74 [vint i,hv],KB hv hs,Al R]) (es [1,2,0,1,1,0,0,0] rfl) ?_
 refine W.ent (L':=[ClientR cl sp ((Spec.compare c i hs).2),Cl b4 74 [vint i,hv],KB hv hs,Al R]) (Ent.rep' (sv1,rp1,pv1,pcs1) rfl hfi rfl) ?_
 refine W.ret (ret1 (M:=[ClientR cl sp ((Spec.compare c i hs).2)]) rfl rfl (⟨rfl,rfl⟩) (es [0,2] rfl))
theorem check_fn (cl:Nat) (sp:Nat) (c:Cli) (sv:Value) (rp:Nat) (pv:Value) (pcs:List Value) (f:Frame) (lv:Value) (fs:Value) (hlen:∀ i,i < f.links.length→(f.links.getD i []).length≤1000000) (hl:f.links.length≤1000000):Fn Tryz.prog 126 #[vptr cl 0,.agg #[vint f.kind,vint f.coll,vint f.index,lv,fs]] [Cl cl 230 (ccs sp c sv rp pv),KB sv c.rep.secret,ReplayR rp sp c.rep,Rw 236 10 pv pcs,Kk (CellsRel Enc.waits pcs c.pend),KS lv f.links,KB fs f.sum] (fun v M=>vint (Spec.check c f)=v∧M=[Cl cl 230 (ccs sp c sv rp pv),KB sv c.rep.secret,ReplayR rp sp c.rep,Rw 236 10 pv pcs,Kk (CellsRel Enc.waits pcs c.pend)]):=by
 refine Fi 70 Tryz.func126 fun g R=>?_
 refine Ww [(0,vptr cl 0),(1,.agg #[vint f.kind,vint f.coll,vint f.index,lv,fs])] [Cl cl 230 (ccs sp c sv rp pv),KB sv c.rep.secret,ReplayR rp sp c.rep,Rw 236 10 pv pcs,Kx Enc.waits pcs c.pend,KS lv f.links,KB fs f.sum,Al R] ?_
 refine W.fact (fun _ _ s=>replay_chain64 (i:=2) rfl s) (fun h64=>?_)
 refine Sn (Ru (OpRun.box rfl rfl rfl) ?_)
 rintro _ _ ⟨b1,rfl,rfl⟩
 refine Qa (k:=Nw [(0,vptr cl 0),(3,vptr b1 0),(4,vint 0)] [Cl b1 122 [vint f.kind,vint f.coll,vint f.index,lv,fs],Cl cl 230 (ccs sp c sv rp pv),KB sv c.rep.secret,ReplayR rp sp c.rep,Rw 236 10 pv pcs,Kx Enc.waits pcs c.pend,KS lv f.links,KB fs f.sum,Al R] ?_)
 refine Sn (Qm (k:=Qu (OpQ.nilCheck rfl rfl) (k:=Qu (Of (fa230_2 _ _)) (k:=Qu (Ol 1 ld41) (k:=?_)))))
 refine Wc [.tmp 13] [vptr rp 0] Tryz.call52 (repChain_fn rp sp c.rep) (ep [3] rfl) ?_
 rintro _ _ ⟨cp2,rfl,rfl⟩
 refine Wc [.tmp 14] [vptr cp2 0] Tryz.call53 (chainLen_fn cp2 sp c.rep.chain) (ep [1] rfl) ?_
 rintro _ _ ⟨rfl,rfl⟩
 refine Qa (k:=Nw [(0,vptr cl 0),(3,vptr b1 0),(4,vint 0),(5,vint (c.rep.chain.links.length:Int))] [ChainR cp2 sp c.rep.chain,ReplayO rp sp cp2 c.rep,Cl b1 122 [vint f.kind,vint f.coll,vint f.index,lv,fs],Cl cl 230 (ccs sp c sv rp pv),KB sv c.rep.secret,Rw 236 10 pv pcs,Kx Enc.waits pcs c.pend,KS lv f.links,KB fs f.sum,Al R] ?_)
 refine W.seq (W.block (Sn (Qu (Of (fa122_0 _ _)) (k:=?_))))
 refine Qu (Ol 2 ld3) (k:=Qu (OpQ.neq rfl rfl rfl) (k:=Qa (k:=Nl [(0,vptr cl 0),(3,vptr b1 0),(4,vint 0),(5,vint (c.rep.chain.links.length:Int)),(16,.bool (decide (f.kind≠3)))] ?_)))
 refine Cp rfl (fun h3=>?_) (fun h3=>?_)
 ·refine Sn (Qa (k:=Nl [(0,vptr cl 0),(3,vptr b1 0),(4,vint 13),(5,vint (c.rep.chain.links.length:Int))] ?_))
  refine Wr 5 fun hr4a hr4b hr4c=>?_
  try simp only [La,Lc,Ln] at hr4a
  refine W.ent (L':=[ReplayO rp sp cp2 c.rep,ChainR cp2 sp c.rep.chain,Cl b1 122 [vint f.kind,vint f.coll,vint f.index,lv,fs],Cl cl 230 (ccs sp c sv rp pv),KB sv c.rep.secret,Rw 236 10 pv pcs,Kx Enc.waits pcs c.pend,KS lv f.links,KB fs f.sum,Al R]) (es [1,0,0,0,0,0,0,0,0,0] rfl) ?_
  refine W.ent (L':=[ReplayR rp sp c.rep,Cl b1 122 [vint f.kind,vint f.coll,vint f.index,lv,fs],Cl cl 230 (ccs sp c sv rp pv),KB sv c.rep.secret,Rw 236 10 pv pcs,Kx Enc.waits pcs c.pend,KS lv f.links,KB fs f.sum,Al R]) (Ent.rep' cp2 rfl trivial rfl) ?_
  refine W.ret (inblk_r (thn_r (ret1 (M:=[Cl cl 230 (ccs sp c sv rp pv),KB sv c.rep.secret,ReplayR rp sp c.rep,Rw 236 10 pv pcs,Kx Enc.waits pcs c.pend]) rfl rfl (⟨(congrArg vint (by unfold Spec.check; rw [if_pos (by omega)])),rfl⟩) (es [2,2,0,1,1,3] rfl))))
 refine W.seq (W.drawG mixed ?_)
 refine Gq 0 [] rfl (Of (fa122_1 _ _)) ?_
 refine WG.hold (Cl b1 122 [vint f.kind,vint f.coll,vint f.index,lv,fs],[]) ?_
 refine Gq 1 [2] rfl (Ol 0 ld3) ?_
 refine Gq 2 [2] rfl (OpQ.move rfl rfl) ?_
 refine Gq 3 [2] rfl (OpQ.nilCheck rfl rfl) ?_
 refine Gq 4 [2] rfl (Of (fa230_1 _ _)) ?_
 refine Gq 5 [2] rfl (Of (fa24_0 _ _)) ?_
 refine WG.hold (Cl cl 230 (ccs sp c sv rp pv),[]) ?_
 refine Gq 6 [3,2] rfl (Ol 0 ld3) ?_
 refine Gq 7 [3,2] rfl (OpQ.neq rfl rfl rfl) ?_
 refine Gq 8 [3,2] rfl (OpQ.assign rfl rfl) ?_
 refine WG.done (by kernel_rfl) ?_
 refine thn_n (Wl [(0,vptr cl 0),(3,vptr b1 0),(4,vint 0),(5,vint (c.rep.chain.links.length:Int)),(20,.bool (decide (f.coll≠c.rep.coll)))] ?_)
 refine Cp rfl (fun h5=>?_) (fun h5=>?_)
 ·refine Sn (Qa (k:=Nl [(0,vptr cl 0),(3,vptr b1 0),(4,vint 40),(5,vint (c.rep.chain.links.length:Int))] ?_))
  refine Wr 5 fun hr6a hr6b hr6c=>?_
  try simp only [La,Lc,Ln] at hr6a
  refine W.ent (L':=[ReplayO rp sp cp2 c.rep,ChainR cp2 sp c.rep.chain,Cl b1 122 [vint f.kind,vint f.coll,vint f.index,lv,fs],Cl cl 230 (ccs sp c sv rp pv),KB sv c.rep.secret,Rw 236 10 pv pcs,Kx Enc.waits pcs c.pend,KS lv f.links,KB fs f.sum,Al R]) (es [1,0,0,0,0,0,0,0,0,0] rfl) ?_
  refine W.ent (L':=[ReplayR rp sp c.rep,Cl b1 122 [vint f.kind,vint f.coll,vint f.index,lv,fs],Cl cl 230 (ccs sp c sv rp pv),KB sv c.rep.secret,Rw 236 10 pv pcs,Kx Enc.waits pcs c.pend,KS lv f.links,KB fs f.sum,Al R]) (Ent.rep' cp2 rfl trivial rfl) ?_
  refine W.ret (inblk_r (thn_r (ret1 (M:=[Cl cl 230 (ccs sp c sv rp pv),KB sv c.rep.secret,ReplayR rp sp c.rep,Rw 236 10 pv pcs,Kx Enc.waits pcs c.pend]) rfl rfl (⟨(congrArg vint (by unfold Spec.check; rw [if_neg (by omega)]; rw [if_pos (by omega)])),rfl⟩) (es [2,2,0,1,1,3] rfl))))
 refine Sn (Qm (k:=Qu (OpQ.nilCheck rfl rfl) (k:=Qu (Of (fa230_6 _ _)) (k:=Qu (Ol 3 ld4) (k:=Qa (k:=Nl [(0,vptr cl 0),(3,vptr b1 0),(4,vint 0),(5,vint (c.rep.chain.links.length:Int)),(29,.bool c.alarm)] ?_))))))
 refine W.cond rfl (fun h7=>?_) (fun h7=>?_)
 ·refine Sn (Qa (k:=Nl [(0,vptr cl 0),(3,vptr b1 0),(4,vint 42),(5,vint (c.rep.chain.links.length:Int))] ?_))
  refine Wr 5 fun hr8a hr8b hr8c=>?_
  try simp only [La,Lc,Ln] at hr8a
  refine W.ent (L':=[ReplayO rp sp cp2 c.rep,ChainR cp2 sp c.rep.chain,Cl b1 122 [vint f.kind,vint f.coll,vint f.index,lv,fs],Cl cl 230 (ccs sp c sv rp pv),KB sv c.rep.secret,Rw 236 10 pv pcs,Kx Enc.waits pcs c.pend,KS lv f.links,KB fs f.sum,Al R]) (es [1,0,0,0,0,0,0,0,0,0] rfl) ?_
  refine W.ent (L':=[ReplayR rp sp c.rep,Cl b1 122 [vint f.kind,vint f.coll,vint f.index,lv,fs],Cl cl 230 (ccs sp c sv rp pv),KB sv c.rep.secret,Rw 236 10 pv pcs,Kx Enc.waits pcs c.pend,KS lv f.links,KB fs f.sum,Al R]) (Ent.rep' cp2 rfl trivial rfl) ?_
  refine W.ret (inblk_r (thn_r (ret1 (M:=[Cl cl 230 (ccs sp c sv rp pv),KB sv c.rep.secret,ReplayR rp sp c.rep,Rw 236 10 pv pcs,Kx Enc.waits pcs c.pend]) rfl rfl (⟨(congrArg vint (by unfold Spec.check; rw [if_neg (by omega)]; rw [if_neg (by omega)]; rw [if_pos h7])),rfl⟩) (es [2,2,0,1,1,3] rfl))))
 refine Sn (Qu (Of (fa122_2 _ _)) (k:=Qu (Ol 2 ld3) (k:=Qm (k:=Qu (OpQ.neq rfl rfl rfl) (k:=Qa (k:=Nl [(0,vptr cl 0),(3,vptr b1 0),(4,vint 0),(5,vint (c.rep.chain.links.length:Int)),(34,.bool (decide (f.index≠(c.rep.chain.links.length:Int))))] ?_))))))
 refine Cp rfl (fun h9=>?_) (fun h9=>?_)
 ·refine Sn (Qa (k:=Nl [(0,vptr cl 0),(3,vptr b1 0),(4,vint 41),(5,vint (c.rep.chain.links.length:Int))] ?_))
  refine Wr 5 fun hr10a hr10b hr10c=>?_
  try simp only [La,Lc,Ln] at hr10a
  refine W.ent (L':=[ReplayO rp sp cp2 c.rep,ChainR cp2 sp c.rep.chain,Cl b1 122 [vint f.kind,vint f.coll,vint f.index,lv,fs],Cl cl 230 (ccs sp c sv rp pv),KB sv c.rep.secret,Rw 236 10 pv pcs,Kx Enc.waits pcs c.pend,KS lv f.links,KB fs f.sum,Al R]) (es [1,0,0,0,0,0,0,0,0,0] rfl) ?_
  refine W.ent (L':=[ReplayR rp sp c.rep,Cl b1 122 [vint f.kind,vint f.coll,vint f.index,lv,fs],Cl cl 230 (ccs sp c sv rp pv),KB sv c.rep.secret,Rw 236 10 pv pcs,Kx Enc.waits pcs c.pend,KS lv f.links,KB fs f.sum,Al R]) (Ent.rep' cp2 rfl trivial rfl) ?_
  refine W.ret (inblk_r (thn_r (ret1 (M:=[Cl cl 230 (ccs sp c sv rp pv),KB sv c.rep.secret,ReplayR rp sp c.rep,Rw 236 10 pv pcs,Kx Enc.waits pcs c.pend]) rfl rfl (⟨(congrArg vint (by unfold Spec.check; rw [if_neg (by omega)]; rw [if_neg (by omega)]; rw [if_neg (by rw [h7]; simp)]; rw [if_pos (by omega)])),rfl⟩) (es [2,2,0,1,1,3] rfl))))
 refine W.skip (inblk_n (thn_n (Wl [(0,vptr cl 0),(3,vptr b1 0),(4,vint 0),(5,vint (c.rep.chain.links.length:Int))] ?_)))
 refine W.seq (Sn (Qu (Of (fa122_3 _ _)) (k:=?_)))
 refine Qu (Ol 2 ld30) (k:=?_)
 refine Nk 7 fun hl11=>?_
 refine Qu (OpQ.lenSl (i:=7) rfl rfl rfl (len30 _)) (k:=Qm (k:=Nl [(0,vptr cl 0),(3,vptr b1 0),(4,vint 0),(5,vint (c.rep.chain.links.length:Int)),(40,lv),(41,vint (f.links.length:Int)),(42,vint 0)] ?_))
 refine W.block (W.opens Opens.sl (i:=7) rfl (fun f12 _=>?_))
 refine We [Ka 22 1 lv f.links.length f12,Kr (Enc.sl Enc.u8 5) f12 f.links,ChainR cp2 sp c.rep.chain,ReplayO rp sp cp2 c.rep,Cl b1 122 [vint f.kind,vint f.coll,vint f.index,lv,fs],Cl cl 230 (ccs sp c sv rp pv),KB sv c.rep.secret,Rw 236 10 pv pcs,Kx Enc.waits pcs c.pend,KB fs f.sum,Al R] ?_
 refine W.loop (X:=Nat) (fun k=>[(0,vptr cl 0),(3,vptr b1 0),(4,vint 0),(5,vint (c.rep.chain.links.length:Int)),(40,lv),(41,vint (f.links.length:Int)),(42,vint (k:Int))]) (fun k=>[Asn.pure (k≤f.links.length∧(f.links.take k).all (Spec.linkIn c.rep.coll)=true),Ka 22 1 lv f.links.length f12,Kr (Enc.sl Enc.u8 5) f12 f.links,ChainR cp2 sp c.rep.chain,ReplayO rp sp cp2 c.rep,Cl b1 122 [vint f.kind,vint f.coll,vint f.index,lv,fs],Cl cl 230 (ccs sp c sv rp pv),KB sv c.rep.secret,Rw 236 10 pv pcs,Kx Enc.waits pcs c.pend,KB fs f.sum,Al R]) (fun k=>f.links.length - k) 0 ⟨rfl,rfl,rfl,rfl,rfl,rfl,rfl,trivial⟩ ((es [0,0,0,0,0,0,0,0,0,0,0] rfl).trans (Ent.pure_in (by exact ⟨Nat.zero_le _,rfl⟩))) (fun x=>?_)
 obtain ⟨k,rfl⟩:∃ y,y=x:=⟨x,rfl⟩
 show W _ _ _ _ _ [(0,vptr cl 0),(3,vptr b1 0),(4,vint 0),(5,vint (c.rep.chain.links.length:Int)),(40,lv),(41,vint (f.links.length:Int)),(42,vint (k:Int))] [Asn.pure (k≤f.links.length∧(f.links.take k).all (Spec.linkIn c.rep.coll)=true),Ka 22 1 lv f.links.length f12,Kr (Enc.sl Enc.u8 5) f12 f.links,ChainR cp2 sp c.rep.chain,ReplayO rp sp cp2 c.rep,Cl b1 122 [vint f.kind,vint f.coll,vint f.index,lv,fs],Cl cl 230 (ccs sp c sv rp pv),KB sv c.rep.secret,Rw 236 10 pv pcs,Kx Enc.waits pcs c.pend,KB fs f.sum,Al R]
 refine W.opens Opens.pure (i:=0) rfl (fun _ hI13=>?_)
 replace hI13:=hI13
 show W _ _ _ _ _ [(0,vptr cl 0),(3,vptr b1 0),(4,vint 0),(5,vint (c.rep.chain.links.length:Int)),(40,lv),(41,vint (f.links.length:Int)),(42,vint (k:Int))] [Ka 22 1 lv f.links.length f12,Kr (Enc.sl Enc.u8 5) f12 f.links,ChainR cp2 sp c.rep.chain,ReplayO rp sp cp2 c.rep,Cl b1 122 [vint f.kind,vint f.coll,vint f.index,lv,fs],Cl cl 230 (ccs sp c sv rp pv),KB sv c.rep.secret,Rw 236 10 pv pcs,Kx Enc.waits pcs c.pend,KB fs f.sum,Al R]
 refine Sn (Qu (OpQ.lss rfl rfl rfl) (k:=Nl [(0,vptr cl 0),(3,vptr b1 0),(4,vint 0),(5,vint (c.rep.chain.links.length:Int)),(40,lv),(41,vint (f.links.length:Int)),(42,vint (k:Int)),(43,.bool (decide ((k:Int) < (f.links.length:Int))))] ?_))
 refine W.seq (Cp rfl (fun h14=>?_) (fun h14=>?_))
 ·refine W.skip (thn_n (Wl [(0,vptr cl 0),(3,vptr b1 0),(4,vint 0),(5,vint (c.rep.chain.links.length:Int)),(40,lv),(41,vint (f.links.length:Int)),(42,vint (k:Int))] ?_))
  refine W.seq (W.block (Sn (WN.ent (Ent.der (i:=1) (m:=Sl Enc.u8 5 (f12 k) (f.links.getD k [])) rfl (elemSl (getD_some [] (by omega)))) ?_)))
  have hlk:=hlen k (by omega)
  refine Qu (OpQ.indexAddr (i:=1) (j:=k) rfl rfl rfl rfl (by omega) (by omega) (by omega) ix30) (k:=Qu (OpQ.loadE (i:=1) rfl rfl rfl (by omega) ld22) (k:=Qa (k:=Nw [(0,vptr cl 0),(3,vptr b1 0),(4,vint 0),(5,vint (c.rep.chain.links.length:Int)),(7,f12 k),(40,lv),(41,vint (f.links.length:Int)),(42,vint (k:Int))] [KB (f12 k) (f.links.getD k []),Ka 22 1 lv f.links.length f12,Kr (Enc.sl Enc.u8 5) f12 f.links,ChainR cp2 sp c.rep.chain,ReplayO rp sp cp2 c.rep,Cl b1 122 [vint f.kind,vint f.coll,vint f.index,lv,fs],Cl cl 230 (ccs sp c sv rp pv),KB sv c.rep.secret,Rw 236 10 pv pcs,Kx Enc.waits pcs c.pend,KB fs f.sum,Al R] ?_)))
  refine Sn (Qm (k:=?_))
  refine Wc [.tmp 47] [f12 k] Tryz.call108 (RDecode_fn (f12 k) (f.links.getD k []) (by first | omega | (simp; done) | (simp; omega) | (simp at *; omega))) ((ed 0 rfl).trans (ep [0] rfl)) ?_
  rintro _ _ (⟨r15,b16,h17,rfl,rfl⟩ | ⟨h18,rfl,rfl⟩)
  ·refine Qm (k:=Qe (k:=Qe (k:=?_)))
   refine Ru (OpRun.alloc rfl zv203 rfl) ?_
   rintro _ _ ⟨b19,rfl,rfl⟩
   refine Nf 1 fun ho20=>?_
   refine Rn (OpRun.store (i:=0) (vs:=[vint r15.collection,vint r15.epoch,vint r15.writer,vint r15.count,b16]) (cs':=[vint r15.collection,vint r15.epoch,vint r15.writer,vint r15.count,b16]) rfl rfl rfl sz203 rfl rfl (O3 (one_cons rfl (one_cons ho20 one_nil))) rfl (Lb rfl) rfl) (k:=Qa (k:=Nw [(0,vptr cl 0),(3,vptr b1 0),(4,vint 0),(5,vint (c.rep.chain.links.length:Int)),(8,vptr b19 0),(9,vint 0),(40,lv),(41,vint (f.links.length:Int)),(42,vint (k:Int))] [Cl b19 203 [vint r15.collection,vint r15.epoch,vint r15.writer,vint r15.count,b16],KB b16 r15.box,KB (f12 k) (f.links.getD k []),Ka 22 1 lv f.links.length f12,Kr (Enc.sl Enc.u8 5) f12 f.links,ChainR cp2 sp c.rep.chain,ReplayO rp sp cp2 c.rep,Cl b1 122 [vint f.kind,vint f.coll,vint f.index,lv,fs],Cl cl 230 (ccs sp c sv rp pv),KB sv c.rep.secret,Rw 236 10 pv pcs,Kx Enc.waits pcs c.pend,KB fs f.sum,Al R] ?_))
   refine W.seq (W.drawG mixed ?_)
   refine Gq 0 [] rfl (OpQ.move rfl rfl) ?_
   refine Gq 1 [] rfl (OpQ.decF (OpQ.neq rfl rfl rfl) (by decide)) ?_
   refine Gq 2 [] rfl (OpQ.move rfl rfl) ?_
   refine Gq 3 [] rfl (Of (fa203_0 _ _)) ?_
   refine WG.hold (Cl b19 203 [vint r15.collection,vint r15.epoch,vint r15.writer,vint r15.count,b16],[]) ?_
   refine Gq 4 [0] rfl (Ol 0 ld3) ?_
   refine Gq 5 [0] rfl (OpQ.move rfl rfl) ?_
   refine Gq 6 [0] rfl (OpQ.nilCheck rfl rfl) ?_
   refine Gq 7 [0] rfl (Of (fa230_1 _ _)) ?_
   refine Gq 8 [0] rfl (Of (fa24_0 _ _)) ?_
   refine WG.hold (Cl cl 230 (ccs sp c sv rp pv),[]) ?_
   refine Gq 9 [8,0] rfl (Ol 0 ld3) ?_
   refine Gq 10 [8,0] rfl (OpQ.neq rfl rfl rfl) ?_
   refine Gq 11 [8,0] rfl (OpQ.pickF rfl rfl rfl) ?_
   refine WG.done (by kernel_rfl) ?_
   refine thn_n (Wl [(0,vptr cl 0),(3,vptr b1 0),(4,vint 0),(5,vint (c.rep.chain.links.length:Int)),(40,lv),(41,vint (f.links.length:Int)),(42,vint (k:Int)),(62,.bool (decide (r15.collection≠c.rep.coll)))] ?_)
   refine Cp rfl (fun h21=>?_) (fun h21=>?_)
   ·refine Sn (Qa (k:=Nl [(0,vptr cl 0),(3,vptr b1 0),(4,vint 10),(5,vint (c.rep.chain.links.length:Int)),(40,lv),(41,vint (f.links.length:Int)),(42,vint (k:Int))] ?_))
    refine Wr 10 fun hr22a hr22b hr22c=>?_
    try simp only [La,Lc,Ln] at hr22a
    refine W.ent (L':=[ReplayO rp sp cp2 c.rep,ChainR cp2 sp c.rep.chain,Cl b19 203 [vint r15.collection,vint r15.epoch,vint r15.writer,vint r15.count,b16],KB b16 r15.box,KB (f12 k) (f.links.getD k []),Ka 22 1 lv f.links.length f12,Kr (Enc.sl Enc.u8 5) f12 f.links,Cl b1 122 [vint f.kind,vint f.coll,vint f.index,lv,fs],Cl cl 230 (ccs sp c sv rp pv),KB sv c.rep.secret,Rw 236 10 pv pcs,Kx Enc.waits pcs c.pend,KB fs f.sum,Al R]) (es [6,5,0,0,0,0,0,0,0,0,0,0,0,0] rfl) ?_
    refine W.ent (L':=[ReplayR rp sp c.rep,Cl b19 203 [vint r15.collection,vint r15.epoch,vint r15.writer,vint r15.count,b16],KB b16 r15.box,KB (f12 k) (f.links.getD k []),Ka 22 1 lv f.links.length f12,Kr (Enc.sl Enc.u8 5) f12 f.links,Cl b1 122 [vint f.kind,vint f.coll,vint f.index,lv,fs],Cl cl 230 (ccs sp c sv rp pv),KB sv c.rep.secret,Rw 236 10 pv pcs,Kx Enc.waits pcs c.pend,KB fs f.sum,Al R]) (Ent.rep' cp2 rfl trivial rfl) ?_
    refine W.ret (inblk_r (thn_r (thn_r (inblk_r (thn_r (ret1 (M:=[Cl cl 230 (ccs sp c sv rp pv),KB sv c.rep.secret,ReplayR rp sp c.rep,Rw 236 10 pv pcs,Kx Enc.waits pcs c.pend]) rfl rfl (⟨(congrArg vint (by unfold Spec.check; rw [if_neg (by omega)]; rw [if_neg (by omega)]; rw [if_neg (by rw [h7]; simp)]; rw [if_neg (by omega)]; rw [if_pos (Spec.all_not (k:=k) (by omega) (by unfold Spec.linkIn; simp only [h17]; exact decide_eq_false h21))])),rfl⟩) (es [7,7,0,6,6,7] rfl)))))))
   refine W.skip (inblk_n (thn_n (Wl [(0,vptr cl 0),(3,vptr b1 0),(4,vint 0),(5,vint (c.rep.chain.links.length:Int)),(40,lv),(41,vint (f.links.length:Int)),(42,vint (k:Int))] ?_)))
   refine W.region (Qu (OpQ.add rfl rfl rfl ⟨by omega,by omega⟩) (k:=?_))
   refine Qm (k:=?_)
   refine WN.nil (thn_n ⟨(k+1),by (show f.links.length - (k+1) < f.links.length - k); omega,⟨rfl,rfl,rfl,rfl,rfl,rfl,(Eq.trans (b:=some (vint ((k:Int)+1))) rfl (by first | rfl | (congr 2; omega))),trivial⟩,?_⟩)
   exact (es [3,3,3,3,3,3,3,3,3,3,3] rfl).trans (Ent.pure_in (by exact ⟨by omega,Spec.all_take_succ (by omega) hI13.2 (by unfold Spec.linkIn; simp only [h17]; exact decide_eq_true (Decidable.of_not_not h21))⟩))
  refine Qm (k:=Qe (k:=Qe (k:=?_)))
  refine Ru (OpRun.alloc rfl zv203 rfl) ?_
  rintro _ _ ⟨b23,rfl,rfl⟩
  refine Rn (OpRun.store (i:=0) (vs:=[vint 0,vint 0,vint 0,vint 0,N0]) (cs':=[vint 0,vint 0,vint 0,vint 0,N0]) rfl rfl rfl sz203 rfl rfl (O3 (one_cons rfl (one_cons rfl one_nil))) rfl (Lb rfl) rfl) (k:=Qa (k:=Nw [(0,vptr cl 0),(3,vptr b1 0),(4,vint 0),(5,vint (c.rep.chain.links.length:Int)),(8,vptr b23 0),(9,vint 10),(40,lv),(41,vint (f.links.length:Int)),(42,vint (k:Int))] [Cl b23 203 [vint 0,vint 0,vint 0,vint 0,N0],KB (f12 k) (f.links.getD k []),Ka 22 1 lv f.links.length f12,Kr (Enc.sl Enc.u8 5) f12 f.links,ChainR cp2 sp c.rep.chain,ReplayO rp sp cp2 c.rep,Cl b1 122 [vint f.kind,vint f.coll,vint f.index,lv,fs],Cl cl 230 (ccs sp c sv rp pv),KB sv c.rep.secret,Rw 236 10 pv pcs,Kx Enc.waits pcs c.pend,KB fs f.sum,Al R] ?_))
  refine W.seq (W.drawG mixed ?_)
  refine Gq 0 [] rfl (OpQ.move rfl rfl) ?_
  refine Gq 1 [] rfl (OpQ.decT (OpQ.neq rfl rfl rfl) (by decide)) ?_
  refine Gq 2 [] rfl (OpQ.move rfl rfl) ?_
  refine Gs 3 [] ?_
  refine Gs 4 [] ?_
  refine Gs 5 [] ?_
  refine Gs 6 [] ?_
  refine Gs 7 [] ?_
  refine Gs 8 [] ?_
  refine Gs 9 [] ?_
  refine Gs 10 [] ?_
  refine Gq 11 [] rfl (OpQ.pickT rfl rfl rfl) ?_
  refine WG.done (by kernel_rfl) ?_
  refine thn_n (Wl [(0,vptr cl 0),(3,vptr b1 0),(4,vint 0),(5,vint (c.rep.chain.links.length:Int)),(40,lv),(41,vint (f.links.length:Int)),(42,vint (k:Int)),(62,.bool true)] ?_)
  refine W.condT rfl ?_
  refine Sn (Qa (k:=Nl [(0,vptr cl 0),(3,vptr b1 0),(4,vint 10),(5,vint (c.rep.chain.links.length:Int)),(40,lv),(41,vint (f.links.length:Int)),(42,vint (k:Int))] ?_))
  refine Wr 9 fun hr24a hr24b hr24c=>?_
  try simp only [La,Lc,Ln] at hr24a
  refine W.ent (L':=[ReplayO rp sp cp2 c.rep,ChainR cp2 sp c.rep.chain,Cl b23 203 [vint 0,vint 0,vint 0,vint 0,N0],KB (f12 k) (f.links.getD k []),Ka 22 1 lv f.links.length f12,Kr (Enc.sl Enc.u8 5) f12 f.links,Cl b1 122 [vint f.kind,vint f.coll,vint f.index,lv,fs],Cl cl 230 (ccs sp c sv rp pv),KB sv c.rep.secret,Rw 236 10 pv pcs,Kx Enc.waits pcs c.pend,KB fs f.sum,Al R]) (es [5,4,0,0,0,0,0,0,0,0,0,0,0] rfl) ?_
  refine W.ent (L':=[ReplayR rp sp c.rep,Cl b23 203 [vint 0,vint 0,vint 0,vint 0,N0],KB (f12 k) (f.links.getD k []),Ka 22 1 lv f.links.length f12,Kr (Enc.sl Enc.u8 5) f12 f.links,Cl b1 122 [vint f.kind,vint f.coll,vint f.index,lv,fs],Cl cl 230 (ccs sp c sv rp pv),KB sv c.rep.secret,Rw 236 10 pv pcs,Kx Enc.waits pcs c.pend,KB fs f.sum,Al R]) (Ent.rep' cp2 rfl trivial rfl) ?_
  refine W.ret (inblk_r (thn_r (thn_r (inblk_r (thn_r (ret1 (M:=[Cl cl 230 (ccs sp c sv rp pv),KB sv c.rep.secret,ReplayR rp sp c.rep,Rw 236 10 pv pcs,Kx Enc.waits pcs c.pend]) rfl rfl (⟨(congrArg vint (by unfold Spec.check; rw [if_neg (by omega)]; rw [if_neg (by omega)]; rw [if_neg (by rw [h7]; simp)]; rw [if_neg (by omega)]; rw [if_pos (Spec.all_not (k:=k) (by omega) (by unfold Spec.linkIn; simp only [h18]))])),rfl⟩) (es [6,6,0,5,5,6] rfl)))))))
 obtain rfl:k=f.links.length:=by omega
 have hall:=hI13.2; rw [List.take_length] at hall
 refine W.exit (thn_x (thn_x (inblk_x (thn_n (Wl [(3,vptr b1 0),(4,vint 0),(5,vint (c.rep.chain.links.length:Int))] ?_)))))
 refine W.seq (Sn (Qm (k:=?_)))
 refine Qu (Of (fa122_3 _ _)) (k:=Qu (Ol 4 ld30) (k:=?_))
 refine WN.fact (fun _ _ s=>(slat_facts (i:=0) rfl s).2.1) (fun hl25=>?_)
 refine Qu (OpQ.lenAt (i:=0) rfl rfl rfl (len30 _)) (k:=Qu (OpQ.add rfl rfl rfl ⟨by omega,by omega⟩) (k:=Qu (OpQ.gtr rfl rfl rfl) (k:=Nl [(4,vint 0),(69,.bool (decide ((c.rep.chain.links.length:Int)+(f.links.length:Int) > 64)))] ?_)))
 refine Cp rfl (fun h26=>?_) (fun h26=>?_)
 ·refine Sn (Qa (k:=Nl [(4,vint 33)] ?_))
  refine Wr 7 fun hr27a hr27b hr27c=>?_
  try simp only [La,Lc,Ln] at hr27a
  refine W.ent (L':=[ReplayO rp sp cp2 c.rep,ChainR cp2 sp c.rep.chain,Ka 22 1 lv f.links.length f12,Kr (Enc.sl Enc.u8 5) f12 f.links,Cl b1 122 [vint f.kind,vint f.coll,vint f.index,lv,fs],Cl cl 230 (ccs sp c sv rp pv),KB sv c.rep.secret,Rw 236 10 pv pcs,Kx Enc.waits pcs c.pend,KB fs f.sum,Al R]) (es [3,2,0,0,0,0,0,0,0,0,0] rfl) ?_
  refine W.ent (L':=[ReplayR rp sp c.rep,Ka 22 1 lv f.links.length f12,Kr (Enc.sl Enc.u8 5) f12 f.links,Cl b1 122 [vint f.kind,vint f.coll,vint f.index,lv,fs],Cl cl 230 (ccs sp c sv rp pv),KB sv c.rep.secret,Rw 236 10 pv pcs,Kx Enc.waits pcs c.pend,KB fs f.sum,Al R]) (Ent.rep' cp2 rfl trivial rfl) ?_
  refine W.ret (thn_r (ret1 (M:=[Cl cl 230 (ccs sp c sv rp pv),KB sv c.rep.secret,ReplayR rp sp c.rep,Rw 236 10 pv pcs,Kx Enc.waits pcs c.pend]) rfl rfl (⟨(congrArg vint (by unfold Spec.check; rw [if_neg (by omega)]; rw [if_neg (by omega)]; rw [if_neg (by rw [h7]; simp)]; rw [if_neg (by omega)]; rw [if_neg (by rw [hall]; simp)]; rw [if_pos (by omega)])),rfl⟩) (es [4,4,0,3,3,4] rfl)))
 refine W.skip (thn_n (Wl [(4,vint 0)] ?_))
 refine Sn (Qa (k:=Nl [(4,vint 0)] ?_))
 refine Wr 7 fun hr28a hr28b hr28c=>?_
 try simp only [La,Lc,Ln] at hr28a
 refine W.ent (L':=[ReplayO rp sp cp2 c.rep,ChainR cp2 sp c.rep.chain,Ka 22 1 lv f.links.length f12,Kr (Enc.sl Enc.u8 5) f12 f.links,Cl b1 122 [vint f.kind,vint f.coll,vint f.index,lv,fs],Cl cl 230 (ccs sp c sv rp pv),KB sv c.rep.secret,Rw 236 10 pv pcs,Kx Enc.waits pcs c.pend,KB fs f.sum,Al R]) (es [3,2,0,0,0,0,0,0,0,0,0] rfl) ?_
 refine W.ent (L':=[ReplayR rp sp c.rep,Ka 22 1 lv f.links.length f12,Kr (Enc.sl Enc.u8 5) f12 f.links,Cl b1 122 [vint f.kind,vint f.coll,vint f.index,lv,fs],Cl cl 230 (ccs sp c sv rp pv),KB sv c.rep.secret,Rw 236 10 pv pcs,Kx Enc.waits pcs c.pend,KB fs f.sum,Al R]) (Ent.rep' cp2 rfl trivial rfl) ?_
 refine W.ret (ret1 (M:=[Cl cl 230 (ccs sp c sv rp pv),KB sv c.rep.secret,ReplayR rp sp c.rep,Rw 236 10 pv pcs,Kx Enc.waits pcs c.pend]) rfl rfl (⟨(congrArg vint (by unfold Spec.check; rw [if_neg (by omega)]; rw [if_neg (by omega)]; rw [if_neg (by rw [h7]; simp)]; rw [if_neg (by omega)]; rw [if_neg (by rw [hall]; simp)]; rw [if_neg (by omega)])),rfl⟩) (es [4,4,0,3,3,4] rfl))
end Go.Lk
open Go.Proofs
set_option maxRecDepth 8000
namespace Go.Lk
open Asn renaming cells→Cl,row→Rw,kn→Kk,all→Al
theorem fa236_1:∀ (b k:Nat) (w:World),(Instr.fieldAt 236 (vptr b k) 1).run Tryz.prog w = .ok (vptr b (k+9)) w:=fun _ _ _=>by kernel_rfl
theorem sla228:∀ v lo hi mx w,(Instr.sliceAt 228 v lo hi mx).run Tryz.prog w=(Instr.slice 228 v lo hi mx).run Tryz.prog w:=fun _ _ _ _ _=>by kernel_rfl
theorem Push_fn (cl:Nat) (sp:Nat) (c:Cli):Fn Tryz.prog 37 #[vptr cl 0] [ClientR cl sp c] (fun v M=>∃ (z:Value) (x:Int) (outs:List Bytes),Spec.push c=(outs,x)∧.tuple #[z,vint x]=v∧M=[KS z outs,ClientR cl sp c]):=by
 refine Fi 67 Tryz.func37 fun g R=>?_
 refine Ww [(0,vptr cl 0)] [ClientR cl sp c,Al R] ?_
 refine W.opens Opens.rep (i:=0) rfl (fun x1 hcf1=>?_)
 obtain ⟨sv1,rp1,pv1,pcs1⟩:=x1
 refine We [Cl cl 230 (ccs sp c sv1 rp1 pv1),KB sv1 c.rep.secret,ReplayR rp1 sp c.rep,Rw 236 10 pv1 pcs1,Kx Enc.waits pcs1 c.pend,Al R] ?_
 replace hcf1:c.fine:=hcf1
 refine Wr 3 fun hr2a hr2b hr2c=>?_
 try simp only [La,Lc,Ln] at hr2a
 refine W.fact (fun _ _ s=>cr_len (i:=4) rfl s) (fun hc3=>?_)
 replace hc3:pcs1.length=c.pend.length*10:=hc3
 have hsl:slen pv1=c.pend.length:=by omega
 have hc8:=hcf1.1
 refine Sn (Qa (k:=Qa (k:=Nl [(0,vptr cl 0),(2,N0),(3,vint 0)] ?_)))
 refine W.seq (Sn (Qm (k:=?_)))
 refine Qu (OpQ.nilCheck rfl rfl) (k:=Qu (Of (fa230_6 _ _)) (k:=Qu (Ol 0 ld4) (k:=Nl [(0,vptr cl 0),(2,N0),(3,vint 0),(14,.bool c.alarm)] ?_)))
 refine W.cond rfl (fun h4=>?_) (fun h4=>?_)
 ·refine Sn (Qa (k:=Qa (k:=Nl [(0,vptr cl 0),(2,N0),(3,vint 42)] ?_)))
  refine W.ent (Ent.slNil (e:=Enc.sl Enc.u8 5) (T:=22)) ?_
  refine We [KS (N0) ([]),Cl cl 230 (ccs sp c sv1 rp1 pv1),KB sv1 c.rep.secret,ReplayR rp1 sp c.rep,Rw 236 10 pv1 pcs1,Kx Enc.waits pcs1 c.pend,Al R] ?_
  refine W.ent (L':=[Cl cl 230 (ccs sp c sv1 rp1 pv1),KB sv1 c.rep.secret,ReplayR rp1 sp c.rep,Rw 236 10 pv1 pcs1,Kx Enc.waits pcs1 c.pend,KS (N0) ([]),Al R]) (es [1,1,1,1,1,0,0] rfl) ?_
  refine W.ent (L':=[ClientR cl sp c,KS (N0) ([]),Al R]) (Ent.rep' (sv1,rp1,pv1,pcs1) rfl (by assumption) rfl) ?_
  refine W.ret (thn_r (ret2 (M:=[KS (N0) ([]),ClientR cl sp c]) rfl rfl rfl (⟨N0,42,[],(by unfold Spec.push; rw [if_pos h4]),rfl,rfl⟩) (es [1,0,0] rfl)))
 refine W.skip (thn_n (Wl [(0,vptr cl 0),(2,N0),(3,vint 0)] ?_))
 refine Sn (Qa (k:=Nl [(0,vptr cl 0),(2,N0),(3,vint 0),(4,N0)] ?_))
 refine W.seq (Sn (Qa (k:=?_)))
 refine Nl [(0,vptr cl 0),(2,N0),(3,vint 0),(4,N0),(5,vint 0)] ?_
 refine W.block (W.ent (Ent.rowNil (E:=22) (sz:=1)) ?_)
 refine W.ent (Ent.know (m:=CellsRel (Enc.sl Enc.u8 5) [] []) (fun _ _ _=>CellsRel.nil)) ?_
 refine W.ent (L':=[Kx (Enc.sl Enc.u8 5) ([]) ([]),Rw 22 1 (N0) ([]),Cl cl 230 (ccs sp c sv1 rp1 pv1),KB sv1 c.rep.secret,ReplayR rp1 sp c.rep,Rw 236 10 pv1 pcs1,Kx Enc.waits pcs1 c.pend,Al R]) (es [0,0,0,0,0,0,0,0] rfl) ?_
 refine W.loop (X:=Nat × Value × List Value × List Bytes) (fun x=>match x with | (j,o,cs,outs)=>[(0,vptr cl 0),(2,N0),(3,vint 0),(4,o),(5,vint (8*(j:Int)))]) (fun x=>match x with | (j,o,cs,outs)=>[Asn.pure (j≤1∧cs.length=j∧(j=0→outs=[])∧(j=1→0 < c.pend.length∧Spec.push c=(outs,0))),Rw 22 1 o cs,Kx (Enc.sl Enc.u8 5) cs outs,Cl cl 230 (ccs sp c sv1 rp1 pv1),KB sv1 c.rep.secret,ReplayR rp1 sp c.rep,Rw 236 10 pv1 pcs1,Kx Enc.waits pcs1 c.pend,Al R]) (fun x=>match x with | (j,o,cs,outs)=>1 - j) (0,(N0),[],[]) ⟨rfl,rfl,rfl,rfl,rfl,trivial⟩ ((es [1,0,0,0,0,0,0,0] rfl).trans (Ent.pure_in (by exact ⟨by omega,rfl,fun _=>rfl,fun h=>by omega⟩))) (fun x=>?_)
 obtain ⟨j,o,cs,outs⟩:=x
 show W _ _ _ _ _ [(0,vptr cl 0),(2,N0),(3,vint 0),(4,o),(5,vint (8*(j:Int)))] [Asn.pure (j≤1∧cs.length=j∧(j=0→outs=[])∧(j=1→0 < c.pend.length∧Spec.push c=(outs,0))),Rw 22 1 o cs,Kx (Enc.sl Enc.u8 5) cs outs,Cl cl 230 (ccs sp c sv1 rp1 pv1),KB sv1 c.rep.secret,ReplayR rp1 sp c.rep,Rw 236 10 pv1 pcs1,Kx Enc.waits pcs1 c.pend,Al R]
 refine W.opens Opens.pure (i:=0) rfl (fun _ hI5=>?_)
 replace hI5:=hI5
 show W _ _ _ _ _ [(0,vptr cl 0),(2,N0),(3,vint 0),(4,o),(5,vint (8*(j:Int)))] [Rw 22 1 o cs,Kx (Enc.sl Enc.u8 5) cs outs,Cl cl 230 (ccs sp c sv1 rp1 pv1),KB sv1 c.rep.secret,ReplayR rp1 sp c.rep,Rw 236 10 pv1 pcs1,Kx Enc.waits pcs1 c.pend,Al R]
 refine W.seq (Sn (Qm (k:=?_)))
 refine Qm (k:=Qu (OpQ.nilCheck rfl rfl) (k:=Qu (Of (fa230_3 _ _)) (k:=Qu (Ol 2 ld228) (k:=?_))))
 refine Nr 5 fun hr6a hr6b hr6c=>?_
 try simp only [La,Lc,Ln] at hr6a
 refine WN.fact (fun _ _ s=>cr_len (i:=6) rfl s) (fun hc7=>?_)
 replace hc7:pcs1.length=c.pend.length*10:=hc7
 refine Qu (OpQ.lenRow (i:=5) rfl rfl rfl (len228 _)) (k:=Qu (OpQ.lss rfl rfl rfl) (k:=Nl [(0,vptr cl 0),(2,N0),(3,vint 0),(4,o),(5,vint (8*(j:Int))),(21,.bool (decide (8*(j:Int) < (slen pv1:Int))))] ?_))
 refine Cp rfl (fun h8=>?_) (fun h8=>?_)
 ·refine W.skip (thn_n (Wl [(0,vptr cl 0),(2,N0),(3,vint 0),(4,o),(5,vint (8*(j:Int)))] ?_))
  refine W.seq (W.block (W.seq (W.region ?_)))
  obtain rfl:j=0:=by omega
  obtain rfl:outs=[]:=hI5.2.2.1 rfl
  obtain rfl:cs=[]:=List.eq_nil_of_length_eq_zero hI5.2.1
  refine WN.ent (L':=[Rw 22 1 o ([]),Kx (Enc.sl Enc.u8 5) ([]) ([]),Cl cl 230 (ccs sp c sv1 rp1 pv1),KB sv1 c.rep.secret,ReplayR rp1 sp c.rep,Rw 236 10 pv1 pcs1,Kx Enc.waits pcs1 c.pend,Al R]) (es [0,0,0,0,0,0,0,0] rfl) ?_
  refine WN.weak (l':=[(0,vptr cl 0),(2,N0),(3,vint 0),(4,o),(5,vint 0)]) ⟨rfl,rfl,rfl,rfl,rfl,trivial⟩ er ?_
  refine Qm (k:=Qu (OpQ.nilCheck rfl rfl) (k:=Qu (Of (fa230_1 _ _)) (k:=Qu (Of (fa24_0 _ _)) (k:=Qu (Ol 2 ld3) (k:=Qu (OpQ.build (qs:=[(0,vint 1),(1,vint c.rep.coll)]) (v:=.agg #[vint 1,vint c.rep.coll,vint 0,N0,N0]) rfl ⟨rfl,rfl,rfl,rfl,trivial⟩ (fun _=>by kernel_rfl)) (k:=?_))))))
  refine Ru (OpRun.alloc rfl zv122 rfl) ?_
  rintro _ _ ⟨b9,rfl,rfl⟩
  refine Rn (OpRun.store (i:=0) (vs:=[vint 1,vint c.rep.coll,vint 0,N0,N0]) (cs':=[vint 1,vint c.rep.coll,vint 0,N0,N0]) rfl rfl rfl sz122 rfl rfl (O3 (one_cons rfl (one_cons rfl one_nil))) rfl (Lb rfl) rfl) (k:=Nw [(0,vptr cl 0),(2,N0),(3,vint 0),(4,o),(5,vint 0),(6,vptr b9 0)] [Cl b9 122 [vint 1,vint c.rep.coll,vint 0,N0,N0],Rw 22 1 o ([]),Kx (Enc.sl Enc.u8 5) ([]) ([]),Cl cl 230 (ccs sp c sv1 rp1 pv1),KB sv1 c.rep.secret,ReplayR rp1 sp c.rep,Rw 236 10 pv1 pcs1,Kx Enc.waits pcs1 c.pend,Al R] ?_)
  refine W.seq (W.seq (W.drawG mixed ?_))
  refine Gq 0 [] rfl (OpQ.move rfl rfl) ?_
  refine Gq 1 [] rfl (OpQ.nilCheck rfl rfl) ?_
  refine Gq 2 [] rfl (Of (fa230_3 _ _)) ?_
  refine WG.hold (Cl cl 230 (ccs sp c sv1 rp1 pv1),[]) ?_
  refine Gq 3 [3] rfl (Ol 0 ld228) ?_
  refine Gq 4 [3] rfl (OpQ.move rfl rfl) ?_
  refine Gq 5 [3] rfl (OpQ.move rfl rfl) ?_
  refine Gq 6 [3] rfl (OpQ.add rfl rfl rfl ⟨by omega,by omega⟩) ?_
  refine Gq 7 [3] rfl (OpQ.move rfl rfl) ?_
  refine Gq 8 [3] rfl (OpQ.nilCheck rfl rfl) ?_
  refine Gq 9 [3] rfl (Of (fa230_3 _ _)) ?_
  refine Gq 10 [3] rfl (Ol 0 ld228) ?_
  refine WG.hold (Rw 236 10 pv1 pcs1,[]) ?_
  refine WG.fact (fun _ _ s=>row_facts (i:=6) rfl s) (fun hr10=>?_)
  obtain ⟨hr10a,hr10b,hr10c⟩:=hr10; try simp only [La,Lc,Ln] at hr10a
  refine WG.fact (fun _ _ s=>cr_len (i:=7) rfl s) (fun hc11=>?_)
  replace hc11:pcs1.length=c.pend.length*10:=hc11
  refine Gq 11 [6,3] rfl (OpQ.lenRow (i:=0) rfl rfl rfl (len228 _)) ?_
  refine Gq 12 [6,3] rfl (OpQ.minI rfl rfl rfl) ?_
  have hmin:min (0+8) (slen pv1:Int)=(slen pv1:Int):=by omega
  rw [hmin]
  refine WG.fact (fun _ _ s=>row_cap (i:=6) rfl s) (fun hcap12=>?_)
  refine Gq 13 [6,3] rfl (OpQ.sliceRow (i:=0) (p:=0) (q:=slen pv1) (r:=scap pv1) rfl rfl rfl (Eq.trans (b:=some (vint 0)) rfl (by first | rfl | (congr 2; omega))) (Eq.trans (b:=some (vint (slen pv1:Int))) rfl (by first | rfl | (congr 2; omega))) rfl (by omega) (by omega) (by omega) (by first | (intro h; cases h; done) | exact fun _=>rfl) sla228 Tryz.runUnderlying228 sz236) ?_
  refine Gq 14 [6,3] rfl (OpQ.lenCut (i:=0) rfl rfl rfl (len228 _)) ?_
  refine Gq 15 [6,3] rfl (OpQ.move rfl rfl) ?_
  refine WG.done (by kernel_rfl) ?_
  refine thn_n (Wl [(0,vptr cl 0),(2,N0),(3,vint 0),(4,o),(5,vint 0),(6,vptr b9 0),(43,slv pv1 0 (slen pv1) (scap pv1) 10),(44,vint (slen pv1:Int)),(45,vint 0)] ?_)
  refine W.block (W.ent (Ent.rowNil (E:=22) (sz:=1)) ?_)
  refine W.ent (Ent.know (m:=CellsRel (Enc.sl Enc.u8 5) [] []) (fun _ _ _=>CellsRel.nil)) ?_
  refine W.ent (L':=[Kx (Enc.sl Enc.u8 5) ([]) ([]),Rw 22 1 (N0) ([]),Cl b9 122 [vint 1,vint c.rep.coll,vint 0,N0,N0],Rw 22 1 o ([]),Kx (Enc.sl Enc.u8 5) ([]) ([]),Cl cl 230 (ccs sp c sv1 rp1 pv1),KB sv1 c.rep.secret,ReplayR rp1 sp c.rep,Rw 236 10 pv1 pcs1,Kx Enc.waits pcs1 c.pend,Al R]) (es [0,0,0,0,0,0,0,0,0,0,0] rfl) ?_
  refine W.loop (X:=Nat × Value × List Value) (fun x=>match x with | (k,o2,cs2)=>[(0,vptr cl 0),(2,N0),(3,vint 0),(4,o),(5,vint 0),(6,vptr b9 0),(43,slv pv1 0 (slen pv1) (scap pv1) 10),(44,vint (slen pv1:Int)),(45,vint (k:Int))]) (fun x=>match x with | (k,o2,cs2)=>[Asn.pure (k≤c.pend.length∧cs2.length=k),Cl b9 122 [vint 1,vint c.rep.coll,vint 0,o2,N0],Rw 22 1 o2 cs2,Kx (Enc.sl Enc.u8 5) cs2 ((c.pend.take k).map Prod.snd),Rw 22 1 o ([]),Kx (Enc.sl Enc.u8 5) ([]) ([]),Cl cl 230 (ccs sp c sv1 rp1 pv1),KB sv1 c.rep.secret,ReplayR rp1 sp c.rep,Rw 236 10 pv1 pcs1,Kx Enc.waits pcs1 c.pend,Al R]) (fun x=>match x with | (k,o2,cs2)=>c.pend.length - k) (0,(N0),[]) ⟨rfl,rfl,rfl,rfl,rfl,rfl,rfl,rfl,rfl,trivial⟩ (((es [2,1,0,0,0,0,0,0,0,0,0] rfl).trans (Ent.of_eq (by rfl))).trans (Ent.pure_in (by exact ⟨Nat.zero_le _,rfl⟩))) (fun x=>?_)
  obtain ⟨k,o2,cs2⟩:=x
  show W _ _ _ _ _ [(0,vptr cl 0),(2,N0),(3,vint 0),(4,o),(5,vint 0),(6,vptr b9 0),(43,slv pv1 0 (slen pv1) (scap pv1) 10),(44,vint (slen pv1:Int)),(45,vint (k:Int))] [Asn.pure (k≤c.pend.length∧cs2.length=k),Cl b9 122 [vint 1,vint c.rep.coll,vint 0,o2,N0],Rw 22 1 o2 cs2,Kx (Enc.sl Enc.u8 5) cs2 ((c.pend.take k).map Prod.snd),Rw 22 1 o ([]),Kx (Enc.sl Enc.u8 5) ([]) ([]),Cl cl 230 (ccs sp c sv1 rp1 pv1),KB sv1 c.rep.secret,ReplayR rp1 sp c.rep,Rw 236 10 pv1 pcs1,Kx Enc.waits pcs1 c.pend,Al R]
  refine W.opens Opens.pure (i:=0) rfl (fun _ hI13=>?_)
  replace hI13:=hI13
  show W _ _ _ _ _ [(0,vptr cl 0),(2,N0),(3,vint 0),(4,o),(5,vint 0),(6,vptr b9 0),(43,slv pv1 0 (slen pv1) (scap pv1) 10),(44,vint (slen pv1:Int)),(45,vint (k:Int))] [Cl b9 122 [vint 1,vint c.rep.coll,vint 0,o2,N0],Rw 22 1 o2 cs2,Kx (Enc.sl Enc.u8 5) cs2 ((c.pend.take k).map Prod.snd),Rw 22 1 o ([]),Kx (Enc.sl Enc.u8 5) ([]) ([]),Cl cl 230 (ccs sp c sv1 rp1 pv1),KB sv1 c.rep.secret,ReplayR rp1 sp c.rep,Rw 236 10 pv1 pcs1,Kx Enc.waits pcs1 c.pend,Al R]
  refine Sn (Qu (OpQ.lss rfl rfl rfl) (k:=Nl [(0,vptr cl 0),(2,N0),(3,vint 0),(4,o),(5,vint 0),(6,vptr b9 0),(43,slv pv1 0 (slen pv1) (scap pv1) 10),(44,vint (slen pv1:Int)),(45,vint (k:Int)),(46,.bool (decide ((k:Int) < (slen pv1:Int))))] ?_))
  refine W.seq (Cp rfl (fun h14=>?_) (fun h14=>?_))
  ·refine W.skip (thn_n (Wl [(0,vptr cl 0),(2,N0),(3,vint 0),(4,o),(5,vint 0),(6,vptr b9 0),(43,slv pv1 0 (slen pv1) (scap pv1) 10),(44,vint (slen pv1:Int)),(45,vint (k:Int))] ?_))
   refine W.seq (W.block (Sn (WN.opens (Opens.waits (xs:=c.pend) (i:=k) (by omega)) (i:=9) rfl (fun zz he15=>?_))))
   obtain ⟨wa,wb,wc,wd⟩:=zz; dsimp only at he15
   refine Ne [KB wa ((c.pend.getD k default).1.name),KB wb ((c.pend.getD k default).1.value),KW wc ((c.pend.getD k default).1.wraps),KB wd ((c.pend.getD k default).2),Kx Enc.waits pcs1 c.pend,Cl b9 122 [vint 1,vint c.rep.coll,vint 0,o2,N0],Rw 22 1 o2 cs2,Kx (Enc.sl Enc.u8 5) cs2 ((c.pend.take k).map Prod.snd),Rw 22 1 o ([]),Kx (Enc.sl Enc.u8 5) ([]) ([]),Cl cl 230 (ccs sp c sv1 rp1 pv1),KB sv1 c.rep.secret,ReplayR rp1 sp c.rep,Rw 236 10 pv1 pcs1,Al R] ?_
   refine Nr 13 fun hr16a hr16b hr16c=>?_
   try simp only [La,Lc,Ln] at hr16a
   refine WN.fact (fun _ _ s=>cr_len (i:=4) rfl s) (fun hc17=>?_)
   replace hc17:pcs1.length=c.pend.length*10:=hc17
   refine Qu (OpQ.indexCut (i:=13) (j:=k*10) rfl rfl rfl rfl (by omega) (by omega) (by omega) (by omega) (by omega) ix228) (k:=Qu (OpQ.loadRowN (i:=13) (vs:=[vint ((c.pend.getD k default).1.kind),vint ((c.pend.getD k default).1.writer),vint ((c.pend.getD k default).1.seq),wa,wb,vint ((c.pend.getD k default).1.who),vint ((c.pend.getD k default).1.rights),vint ((c.pend.getD k default).1.epoch),wc,wd]) rfl rfl rfl he15 rfl (by decide) ld236) (k:=?_))
   refine Ru (OpRun.alloc rfl zv236 rfl) ?_
   rintro _ _ ⟨b18,rfl,rfl⟩
   refine Nf 4 fun ho19=>?_
   refine Nf 3 fun ho20=>?_
   refine Nf 2 fun ho21=>?_
   refine Nf 1 fun ho22=>?_
   refine Rn (OpRun.store (i:=0) (vs:=[vint ((c.pend.getD k default).1.kind),vint ((c.pend.getD k default).1.writer),vint ((c.pend.getD k default).1.seq),wa,wb,vint ((c.pend.getD k default).1.who),vint ((c.pend.getD k default).1.rights),vint ((c.pend.getD k default).1.epoch),wc,wd]) (cs':=[vint ((c.pend.getD k default).1.kind),vint ((c.pend.getD k default).1.writer),vint ((c.pend.getD k default).1.seq),wa,wb,vint ((c.pend.getD k default).1.who),vint ((c.pend.getD k default).1.rights),vint ((c.pend.getD k default).1.epoch),wc,wd]) rfl rfl rfl sz236 rfl rfl (O3 (one_cons ho22 (one_cons ho21 (O3 (one_cons ho20 (one_cons ho19 one_nil)))))) rfl (Lb rfl) rfl) (k:=Nw [(0,vptr cl 0),(2,N0),(3,vint 0),(4,o),(5,vint 0),(6,vptr b9 0),(8,vptr b18 0),(43,slv pv1 0 (slen pv1) (scap pv1) 10),(44,vint (slen pv1:Int)),(45,vint (k:Int))] [Cl b18 236 [vint ((c.pend.getD k default).1.kind),vint ((c.pend.getD k default).1.writer),vint ((c.pend.getD k default).1.seq),wa,wb,vint ((c.pend.getD k default).1.who),vint ((c.pend.getD k default).1.rights),vint ((c.pend.getD k default).1.epoch),wc,wd],KB wa ((c.pend.getD k default).1.name),KB wb ((c.pend.getD k default).1.value),KW wc ((c.pend.getD k default).1.wraps),KB wd ((c.pend.getD k default).2),Kx Enc.waits pcs1 c.pend,Cl b9 122 [vint 1,vint c.rep.coll,vint 0,o2,N0],Rw 22 1 o2 cs2,Kx (Enc.sl Enc.u8 5) cs2 ((c.pend.take k).map Prod.snd),Rw 22 1 o ([]),Kx (Enc.sl Enc.u8 5) ([]) ([]),Cl cl 230 (ccs sp c sv1 rp1 pv1),KB sv1 c.rep.secret,ReplayR rp1 sp c.rep,Rw 236 10 pv1 pcs1,Al R] ?_)
   refine W.region (Qu (Of (fa122_3 _ _)) (k:=?_))
   refine Qu (Ol 6 ld30) (k:=Qu (Of (fa236_1 _ _)) (k:=Qu (Ol 0 ld22) (k:=?_)))
   refine WN.fact (fun _ _ s=>sl_isS (i:=4) rfl s) (fun hS25=>?_)
   refine Ru (OpRun.buildSlice (qs:=[(0,wd)]) (cs:=[wd]) (E:=22) (sz:=1) rfl ⟨rfl,rfl,trivial⟩ (fun _=>by obtain ⟨_,_,_,e1⟩:=hS25; rw [e1]; kernel_rfl) (one_cons ho19 one_nil) rfl (by decide)) ?_
   rintro v23 _ ⟨h24a,h24b,h24c,rfl⟩
   refine WN.ent (Ent.know (m:=CellsRel (Enc.sl Enc.u8 5) ([wd]) ([(c.pend.getD k default).2])) (fun K h s=>(CellsRel.cons (cs:=[wd]) (ds:=[]) rfl (Enc.sl_mk (kat 5 s rfl)) CellsRel.nil))) ?_
   refine Ne [Kx (Enc.sl Enc.u8 5) ([wd]) ([(c.pend.getD k default).2]),Rw 22 1 v23 ([wd]),Cl b18 236 [vint ((c.pend.getD k default).1.kind),vint ((c.pend.getD k default).1.writer),vint ((c.pend.getD k default).1.seq),wa,wb,vint ((c.pend.getD k default).1.who),vint ((c.pend.getD k default).1.rights),vint ((c.pend.getD k default).1.epoch),wc,wd],KB wa ((c.pend.getD k default).1.name),KB wb ((c.pend.getD k default).1.value),KW wc ((c.pend.getD k default).1.wraps),KB wd ((c.pend.getD k default).2),Kx Enc.waits pcs1 c.pend,Cl b9 122 [vint 1,vint c.rep.coll,vint 0,o2,N0],Rw 22 1 o2 cs2,Kx (Enc.sl Enc.u8 5) cs2 ((c.pend.take k).map Prod.snd),Rw 22 1 o ([]),Kx (Enc.sl Enc.u8 5) ([]) ([]),Cl cl 230 (ccs sp c sv1 rp1 pv1),KB sv1 c.rep.secret,ReplayR rp1 sp c.rep,Rw 236 10 pv1 pcs1,Al R] ?_
   refine Nr 9 fun hr28a hr28b hr28c=>?_
   try simp only [La,Lc,Ln] at hr28a
   refine Nr 1 fun hr29a hr29b hr29c=>?_
   try simp only [La,Lc,Ln] at hr29a
   refine Ru (OpRun.appendRow (i:=9) (j:=1) rfl rfl rfl rfl rfl Tryz.underlying30 (inf:=Tryz.t22) (by kernel_rfl) rfl rfl rfl (by_:=24) rfl (by first | omega | (simp; omega)) (by first | omega | (simp; omega))) ?_
   rintro v26 _ ⟨h27a,h27b,rfl⟩
   refine WN.ent (Ent.know (m:=CellsRel (Enc.sl Enc.u8 5) (cs2++([wd])) (((c.pend.take k).map Prod.snd)++([(c.pend.getD k default).2]))) (fun K h s=>CellsRel.append (e:=Enc.sl Enc.u8 5) (cs:=cs2) (ds:=[wd]) (xs:=(c.pend.take k).map Prod.snd) (ys:=[(c.pend.getD k default).2]) (kat 9 s rfl) (kat 1 s rfl))) ?_
   refine Ne [Kx (Enc.sl Enc.u8 5) (cs2++([wd])) (((c.pend.take k).map Prod.snd)++([(c.pend.getD k default).2])),Rw 22 1 v26 (cs2++([wd])),Kx (Enc.sl Enc.u8 5) ([wd]) ([(c.pend.getD k default).2]),Cl b18 236 [vint ((c.pend.getD k default).1.kind),vint ((c.pend.getD k default).1.writer),vint ((c.pend.getD k default).1.seq),wa,wb,vint ((c.pend.getD k default).1.who),vint ((c.pend.getD k default).1.rights),vint ((c.pend.getD k default).1.epoch),wc,wd],KB wa ((c.pend.getD k default).1.name),KB wb ((c.pend.getD k default).1.value),KW wc ((c.pend.getD k default).1.wraps),KB wd ((c.pend.getD k default).2),Kx Enc.waits pcs1 c.pend,Cl b9 122 [vint 1,vint c.rep.coll,vint 0,o2,N0],Kx (Enc.sl Enc.u8 5) cs2 ((c.pend.take k).map Prod.snd),Rw 22 1 o ([]),Kx (Enc.sl Enc.u8 5) ([]) ([]),Cl cl 230 (ccs sp c sv1 rp1 pv1),KB sv1 c.rep.secret,ReplayR rp1 sp c.rep,Rw 236 10 pv1 pcs1,Al R] (Qu (Of (fa122_3 _ _)) (k:=?_))
   refine Rn (OpRun.store (i:=9) (vs:=[v26]) (cs':=[vint 1,vint c.rep.coll,vint 0,v26,N0]) rfl rfl rfl sz30 (cells_one h27b) rfl (one_cons h27b one_nil) rfl (Lb rfl) rfl) (k:=?_)
   refine WN.nil (inblk_n (thn_n (Ww [(0,vptr cl 0),(2,N0),(3,vint 0),(4,o),(5,vint 0),(6,vptr b9 0),(43,slv pv1 0 (slen pv1) (scap pv1) 10),(44,vint (slen pv1:Int)),(45,vint (k:Int))] [Cl b9 122 [vint 1,vint c.rep.coll,vint 0,v26,N0],Kx (Enc.sl Enc.u8 5) (cs2++([wd])) (((c.pend.take k).map Prod.snd)++([(c.pend.getD k default).2])),Rw 22 1 v26 (cs2++([wd])),Kx (Enc.sl Enc.u8 5) ([wd]) ([(c.pend.getD k default).2]),Cl b18 236 [vint ((c.pend.getD k default).1.kind),vint ((c.pend.getD k default).1.writer),vint ((c.pend.getD k default).1.seq),wa,wb,vint ((c.pend.getD k default).1.who),vint ((c.pend.getD k default).1.rights),vint ((c.pend.getD k default).1.epoch),wc,wd],KB wa ((c.pend.getD k default).1.name),KB wb ((c.pend.getD k default).1.value),KW wc ((c.pend.getD k default).1.wraps),KB wd ((c.pend.getD k default).2),Kx Enc.waits pcs1 c.pend,Kx (Enc.sl Enc.u8 5) cs2 ((c.pend.take k).map Prod.snd),Rw 22 1 o ([]),Kx (Enc.sl Enc.u8 5) ([]) ([]),Cl cl 230 (ccs sp c sv1 rp1 pv1),KB sv1 c.rep.secret,ReplayR rp1 sp c.rep,Rw 236 10 pv1 pcs1,Al R] ?_)))
   refine W.region (Qu (OpQ.add rfl rfl rfl ⟨by omega,by omega⟩) (k:=?_))
   refine Qm (k:=?_)
   refine WN.nil (thn_n ⟨(k+1,v26,cs2++([wd])),by (show c.pend.length - (k+1) < c.pend.length - k); omega,⟨rfl,rfl,rfl,rfl,rfl,rfl,rfl,rfl,(Eq.trans (b:=some (vint ((k:Int)+1))) rfl (by first | rfl | (congr 2; omega))),trivial⟩,?_⟩)
   exact ((es [0,1,0,8,8,8,8,8,8,6,7] rfl).trans (Ent.of_eq (by rw [map_snd_succ (by omega)]))).trans (Ent.pure_in (by exact ⟨by omega,by have:=hI13.2; simp; omega⟩))
  obtain rfl:k=c.pend.length:=by omega
  refine W.exit (thn_x (thn_x (inblk_x (thn_n (Ww [(0,vptr cl 0),(2,N0),(3,vint 0),(4,o),(5,vint 0),(6,vptr b9 0)] [Cl b9 122 [vint 1,vint c.rep.coll,vint 0,o2,N0],Rw 22 1 o2 cs2,Kx (Enc.sl Enc.u8 5) cs2 ((c.pend.take c.pend.length).map Prod.snd),Rw 22 1 o ([]),Kx (Enc.sl Enc.u8 5) ([]) ([]),Cl cl 230 (ccs sp c sv1 rp1 pv1),KB sv1 c.rep.secret,ReplayR rp1 sp c.rep,Rw 236 10 pv1 pcs1,Kx Enc.waits pcs1 c.pend,Al R] ?_)))))
  refine Sn (Qu (OpQ.loadN (i:=0) rfl rfl ld122 rfl rfl rfl) (k:=?_))
  refine WN.freezeRel (e:=Enc.sl Enc.u8 5) (i:=1) (j:=1) (Lb rfl) rfl rfl ?_
  refine Ne [KS o2 ((c.pend.take c.pend.length).map Prod.snd),Cl b9 122 [vint 1,vint c.rep.coll,vint 0,o2,N0],Kx (Enc.sl Enc.u8 5) cs2 ((c.pend.take c.pend.length).map Prod.snd),Rw 22 1 o ([]),Kx (Enc.sl Enc.u8 5) ([]) ([]),Cl cl 230 (ccs sp c sv1 rp1 pv1),KB sv1 c.rep.secret,ReplayR rp1 sp c.rep,Rw 236 10 pv1 pcs1,Kx Enc.waits pcs1 c.pend,Al R] ?_
  refine WN.ent (Ent.slNil (e:=Enc.u8) (T:=5)) ?_
  refine Wc [.tmp 58] [.agg #[vint 1,vint c.rep.coll,vint 0,o2,N0]] Tryz.call66 (FEncode_fn (⟨1,c.rep.coll,0,(c.pend.take c.pend.length).map Prod.snd,[]⟩:Frame) o2 (N0)) ((ed 1 rfl).trans ((ed 1 rfl).trans (ep [1,0] rfl))) ?_
  rintro _ _ (⟨r30,bs31,h32,h33,rfl,rfl⟩ | ⟨e34,h35,h36,rfl,rfl⟩)
  ·refine Qm (k:=Qe (k:=Qe (k:=Qa (k:=Qa (k:=Nw [(0,vptr cl 0),(2,N0),(3,vint 0),(4,o),(5,vint 0),(9,r30)] [KB r30 bs31,KB (N0) ([]),KS o2 ((c.pend.take c.pend.length).map Prod.snd),Cl b9 122 [vint 1,vint c.rep.coll,vint 0,o2,N0],Kx (Enc.sl Enc.u8 5) cs2 ((c.pend.take c.pend.length).map Prod.snd),Rw 22 1 o ([]),Kx (Enc.sl Enc.u8 5) ([]) ([]),Cl cl 230 (ccs sp c sv1 rp1 pv1),KB sv1 c.rep.secret,ReplayR rp1 sp c.rep,Rw 236 10 pv1 pcs1,Kx Enc.waits pcs1 c.pend,Al R] ?_)))))
   refine W.region (Qm (k:=?_))
   refine Qm (k:=?_)
   refine WN.fact (fun _ _ s=>sl_isS (i:=0) rfl s) (fun hS39=>?_)
   refine Nf 0 fun ho40=>?_
   refine Ru (OpRun.buildSlice (qs:=[(0,r30)]) (cs:=[r30]) (E:=22) (sz:=1) rfl ⟨rfl,rfl,trivial⟩ (fun _=>by obtain ⟨_,_,_,e1⟩:=hS39; rw [e1]; kernel_rfl) (one_cons ho40 one_nil) rfl (by decide)) ?_
   rintro v37 _ ⟨h38a,h38b,h38c,rfl⟩
   refine WN.ent (Ent.know (m:=CellsRel (Enc.sl Enc.u8 5) ([r30]) ([bs31])) (fun K h s=>(CellsRel.cons (cs:=[r30]) (ds:=[]) rfl (Enc.sl_mk (kat 1 s rfl)) CellsRel.nil))) ?_
   refine Ne [Kx (Enc.sl Enc.u8 5) ([r30]) ([bs31]),Rw 22 1 v37 ([r30]),KB r30 bs31,KB (N0) ([]),KS o2 ((c.pend.take c.pend.length).map Prod.snd),Cl b9 122 [vint 1,vint c.rep.coll,vint 0,o2,N0],Kx (Enc.sl Enc.u8 5) cs2 ((c.pend.take c.pend.length).map Prod.snd),Rw 22 1 o ([]),Kx (Enc.sl Enc.u8 5) ([]) ([]),Cl cl 230 (ccs sp c sv1 rp1 pv1),KB sv1 c.rep.secret,ReplayR rp1 sp c.rep,Rw 236 10 pv1 pcs1,Kx Enc.waits pcs1 c.pend,Al R] ?_
   refine Nr 7 fun hr43a hr43b hr43c=>?_
   try simp only [La,Lc,Ln] at hr43a
   refine Nr 1 fun hr44a hr44b hr44c=>?_
   try simp only [La,Lc,Ln] at hr44a
   refine Ru (OpRun.appendRow (i:=7) (j:=1) rfl rfl rfl rfl rfl Tryz.underlying30 (inf:=Tryz.t22) (by kernel_rfl) rfl rfl rfl (by_:=24) rfl (by first | omega | (simp; omega)) (by first | omega | (simp; omega))) ?_
   rintro v41 _ ⟨h42a,h42b,rfl⟩
   refine WN.ent (Ent.know (m:=CellsRel (Enc.sl Enc.u8 5) (([])++([r30])) (([])++([bs31]))) (fun K h s=>CellsRel.append (e:=Enc.sl Enc.u8 5) (cs:=[]) (ds:=[r30]) (xs:=[]) (ys:=[bs31]) (kat 7 s rfl) (kat 1 s rfl))) ?_
   refine Ne [Kx (Enc.sl Enc.u8 5) (([])++([r30])) (([])++([bs31])),Rw 22 1 v41 (([])++([r30])),Kx (Enc.sl Enc.u8 5) ([r30]) ([bs31]),KB r30 bs31,KB (N0) ([]),KS o2 ((c.pend.take c.pend.length).map Prod.snd),Cl b9 122 [vint 1,vint c.rep.coll,vint 0,o2,N0],Kx (Enc.sl Enc.u8 5) cs2 ((c.pend.take c.pend.length).map Prod.snd),Kx (Enc.sl Enc.u8 5) ([]) ([]),Cl cl 230 (ccs sp c sv1 rp1 pv1),KB sv1 c.rep.secret,ReplayR rp1 sp c.rep,Rw 236 10 pv1 pcs1,Kx Enc.waits pcs1 c.pend,Al R] (Qa (k:=?_))
   refine WN.nil (inblk_n (thn_n (Wl [(0,vptr cl 0),(2,N0),(3,vint 0),(4,v41),(5,vint 0)] ?_)))
   refine W.region (Qm (k:=?_))
   refine Qu (OpQ.add rfl rfl rfl ⟨by omega,by omega⟩) (k:=Qa (k:=?_))
   refine WN.nil (thn_n ⟨(1,v41,([])++([r30]),([])++([bs31])),by (show 1 - 1 < 1 - 0); omega,⟨rfl,rfl,rfl,rfl,(Eq.trans (b:=some (vint (0+8))) rfl (by first | rfl | (congr 2; omega))),trivial⟩,?_⟩)
   exact (es [1,0,7,7,7,7,7,7] rfl).trans (Ent.pure_in (by refine ⟨by omega,by simp,by omega,fun _=>⟨by omega,?_⟩⟩; have h8:=h32; rw [List.take_length] at h8; unfold Spec.push Spec.pushFrame; rw [if_neg (by rw [h4]; simp),if_neg (by omega)]; simp only [h8]; rfl))
  refine Qm (k:=Qe (k:=Qe (k:=Qa (k:=Qa (k:=Nw [(0,vptr cl 0),(2,N0),(3,vint 0),(4,o),(5,vint 0),(9,N0)] [KB (N0) ([]),KS o2 ((c.pend.take c.pend.length).map Prod.snd),Cl b9 122 [vint 1,vint c.rep.coll,vint 0,o2,N0],Kx (Enc.sl Enc.u8 5) cs2 ((c.pend.take c.pend.length).map Prod.snd),Rw 22 1 o ([]),Kx (Enc.sl Enc.u8 5) ([]) ([]),Cl cl 230 (ccs sp c sv1 rp1 pv1),KB sv1 c.rep.secret,ReplayR rp1 sp c.rep,Rw 236 10 pv1 pcs1,Kx Enc.waits pcs1 c.pend,Al R] ?_)))))
  refine W.region (Qm (k:=?_))
  refine Qm (k:=?_)
  refine Ru (OpRun.buildSlice (qs:=[(0,N0)]) (cs:=[Value.slice none 0 0]) (E:=22) (sz:=1) rfl ⟨rfl,rfl,trivial⟩ (fun _=>by kernel_rfl) (one_cons rfl one_nil) rfl (by decide)) ?_
  rintro v45 _ ⟨h46a,h46b,h46c,rfl⟩
  refine WN.ent (Ent.know (m:=CellsRel (Enc.sl Enc.u8 5) ([Value.slice none 0 0]) ([[]])) (fun K h s=>(CellsRel.cons (cs:=[N0]) (ds:=[]) rfl (Enc.sl_mk (kat 1 s rfl)) CellsRel.nil))) ?_
  refine Ne [Kx (Enc.sl Enc.u8 5) ([Value.slice none 0 0]) ([[]]),Rw 22 1 v45 ([Value.slice none 0 0]),KB (N0) ([]),KS o2 ((c.pend.take c.pend.length).map Prod.snd),Cl b9 122 [vint 1,vint c.rep.coll,vint 0,o2,N0],Kx (Enc.sl Enc.u8 5) cs2 ((c.pend.take c.pend.length).map Prod.snd),Rw 22 1 o ([]),Kx (Enc.sl Enc.u8 5) ([]) ([]),Cl cl 230 (ccs sp c sv1 rp1 pv1),KB sv1 c.rep.secret,ReplayR rp1 sp c.rep,Rw 236 10 pv1 pcs1,Kx Enc.waits pcs1 c.pend,Al R] ?_
  refine Nr 6 fun hr49a hr49b hr49c=>?_
  try simp only [La,Lc,Ln] at hr49a
  refine Nr 1 fun hr50a hr50b hr50c=>?_
  try simp only [La,Lc,Ln] at hr50a
  refine Ru (OpRun.appendRow (i:=6) (j:=1) rfl rfl rfl rfl rfl Tryz.underlying30 (inf:=Tryz.t22) (by kernel_rfl) rfl rfl rfl (by_:=24) rfl (by first | omega | (simp; omega)) (by first | omega | (simp; omega))) ?_
  rintro v47 _ ⟨h48a,h48b,rfl⟩
  refine WN.ent (Ent.know (m:=CellsRel (Enc.sl Enc.u8 5) (([])++([Value.slice none 0 0])) (([])++([[]]))) (fun K h s=>CellsRel.append (e:=Enc.sl Enc.u8 5) (cs:=[]) (ds:=[Value.slice none 0 0]) (xs:=[]) (ys:=[[]]) (kat 6 s rfl) (kat 1 s rfl))) ?_
  refine Ne [Kx (Enc.sl Enc.u8 5) (([])++([Value.slice none 0 0])) (([])++([[]])),Rw 22 1 v47 (([])++([Value.slice none 0 0])),Kx (Enc.sl Enc.u8 5) ([Value.slice none 0 0]) ([[]]),KB (N0) ([]),KS o2 ((c.pend.take c.pend.length).map Prod.snd),Cl b9 122 [vint 1,vint c.rep.coll,vint 0,o2,N0],Kx (Enc.sl Enc.u8 5) cs2 ((c.pend.take c.pend.length).map Prod.snd),Kx (Enc.sl Enc.u8 5) ([]) ([]),Cl cl 230 (ccs sp c sv1 rp1 pv1),KB sv1 c.rep.secret,ReplayR rp1 sp c.rep,Rw 236 10 pv1 pcs1,Kx Enc.waits pcs1 c.pend,Al R] (Qa (k:=?_))
  refine WN.nil (inblk_n (thn_n (Wl [(0,vptr cl 0),(2,N0),(3,vint 0),(4,v47),(5,vint 0)] ?_)))
  refine W.region (Qm (k:=?_))
  refine Qu (OpQ.add rfl rfl rfl ⟨by omega,by omega⟩) (k:=Qa (k:=?_))
  refine WN.nil (thn_n ⟨(1,v47,([])++([Value.slice none 0 0]),([])++([[]])),by (show 1 - 1 < 1 - 0); omega,⟨rfl,rfl,rfl,rfl,(Eq.trans (b:=some (vint (0+8))) rfl (by first | rfl | (congr 2; omega))),trivial⟩,?_⟩)
  exact (es [1,0,6,6,6,6,6,6] rfl).trans (Ent.pure_in (by refine ⟨by omega,by simp,by omega,fun _=>⟨by omega,?_⟩⟩; have h8:=h35; rw [List.take_length] at h8; unfold Spec.push Spec.pushFrame; rw [if_neg (by rw [h4]; simp),if_neg (by omega)]; simp only [h8]; rfl))
 have hpush:Spec.push c=(outs,0):=by (rcases (show j=0∨j=1 by omega) with hj | hj; (rw [hI5.2.2.1 hj]; unfold Spec.push; rw [if_neg (by rw [h4]; simp),if_pos (by omega)]); (exact (hI5.2.2.2 hj).2))
 refine W.exit (thn_x (thn_x (inblk_x (thn_n (Wl [(2,N0),(3,vint 0),(4,o)] ?_)))))
 refine Sn (Qm (k:=Qa (k:=Qa (k:=Nl [(2,o),(3,vint 0)] ?_))))
 refine Wr 0 fun hr51a hr51b hr51c=>?_
 try simp only [La,Lc,Ln] at hr51a
 refine W.freezeRel (e:=Enc.sl Enc.u8 5) (i:=0) (j:=0) (Lb rfl) rfl rfl ?_
 refine We [KS o outs,Kx (Enc.sl Enc.u8 5) cs outs,Cl cl 230 (ccs sp c sv1 rp1 pv1),KB sv1 c.rep.secret,ReplayR rp1 sp c.rep,Rw 236 10 pv1 pcs1,Kx Enc.waits pcs1 c.pend,Al R] ?_
 refine W.ent (L':=[Cl cl 230 (ccs sp c sv1 rp1 pv1),KB sv1 c.rep.secret,ReplayR rp1 sp c.rep,Rw 236 10 pv1 pcs1,Kx Enc.waits pcs1 c.pend,KS o outs,Kx (Enc.sl Enc.u8 5) cs outs,Al R]) (es [2,2,2,2,2,0,0,0] rfl) ?_
 refine W.ent (L':=[ClientR cl sp c,KS o outs,Kx (Enc.sl Enc.u8 5) cs outs,Al R]) (Ent.rep' (sv1,rp1,pv1,pcs1) rfl (by assumption) rfl) ?_
 refine W.ret (ret2 (M:=[KS o outs,ClientR cl sp c]) rfl rfl rfl (⟨o,0,outs,(by exact hpush),rfl,rfl⟩) (es [1,0,1] rfl))
end Go.Lk
open Go.Proofs
set_option maxRecDepth 8000
namespace Go.Lk
open Asn renaming cells→Cl,row→Rw,kn→Kk,all→Al
theorem Take_fn (cl:Nat) (sp:Nat) (c:Cli) (bv:Value) (bs:Bytes) (A:List Thing) (hA:A.length < 1099511627500) (hb:bs.length≤1000000):Fn Tryz.prog 42 #[vptr cl 0,bv] [ClientR cl sp c,SuiteR sp A,KB bv bs] (fun v M=>∃ (x:Int) (z:Value) (outs:List Int) (c':Cli) (A':List Thing),Spec.ctake A c bs=(x,outs,c',A')∧A'.length≤A.length+168∧.tuple #[vint x,z]=v∧M=[Kk (Sl Enc.num 38 z outs),ClientR cl sp c',SuiteR sp A']):=by
 refine Fi 85 Tryz.func42 fun g R=>?_
 refine Ww [(0,vptr cl 0),(1,bv)] [ClientR cl sp c,SuiteR sp A,KB bv bs,Al R] ?_
 refine W.opens Opens.rep (i:=0) rfl (fun x1 hcf1=>?_)
 obtain ⟨sv1,rp1,pv1,pcs1⟩:=x1
 refine We [Cl cl 230 (ccs sp c sv1 rp1 pv1),KB sv1 c.rep.secret,ReplayR rp1 sp c.rep,Rw 236 10 pv1 pcs1,Kx Enc.waits pcs1 c.pend,SuiteR sp A,KB bv bs,Al R] ?_
 replace hcf1:c.fine:=hcf1
 refine Wr 3 fun hr2a hr2b hr2c=>?_
 try simp only [La,Lc,Ln] at hr2a
 refine W.fact (fun _ _ s=>cr_len (i:=4) rfl s) (fun hc3=>?_)
 replace hc3:pcs1.length=c.pend.length*10:=hc3
 have hsl:slen pv1=c.pend.length:=by omega
 have hc8:=hcf1.1
 refine Sn (Qa (k:=Qa (k:=Nl [(0,vptr cl 0),(1,bv),(4,vint 0),(5,N0)] ?_)))
 refine Sn (Qm (k:=?_))
 refine Wc [.tmp 18] [bv] Tryz.call65 (FDecode_fn bv bs (by first | omega | (simp; done) | (simp; omega) | (simp at *; omega))) ((ed 6 rfl).trans (ep [0] rfl)) ?_
 rintro _ _ (⟨f4,lv5,sv6,h7,rfl,rfl⟩ | ⟨x8,h9,h10,rfl,rfl⟩)
 ·refine Qm (k:=Qe (k:=Qe (k:=?_)))
  refine Ru (OpRun.alloc rfl zv122 rfl) ?_
  rintro _ _ ⟨b11,rfl,rfl⟩
  refine Nf 2 fun ho12=>?_
  refine Nf 1 fun ho13=>?_
  refine Rn (OpRun.store (i:=0) (vs:=[vint f4.kind,vint f4.coll,vint f4.index,lv5,sv6]) (cs':=[vint f4.kind,vint f4.coll,vint f4.index,lv5,sv6]) rfl rfl rfl sz122 rfl rfl (O3 (one_cons ho13 (one_cons ho12 one_nil))) rfl (Lb rfl) rfl) (k:=Qa (k:=Nw [(0,vptr cl 0),(4,vint 0),(5,N0),(6,vptr b11 0),(7,vint 0)] [Cl b11 122 [vint f4.kind,vint f4.coll,vint f4.index,lv5,sv6],KS lv5 f4.links,KB sv6 f4.sum,Cl cl 230 (ccs sp c sv1 rp1 pv1),KB sv1 c.rep.secret,ReplayR rp1 sp c.rep,Rw 236 10 pv1 pcs1,Kx Enc.waits pcs1 c.pend,SuiteR sp A,KB bv bs,Al R] ?_))
  refine W.seq (Sn (Qm (k:=?_)))
  refine Qu (OpQ.eql rfl rfl rfl) (k:=Nl [(0,vptr cl 0),(4,vint 0),(5,N0),(6,vptr b11 0),(7,vint 0),(23,.bool (decide ((0:Int)=0)))] ?_)
  refine Cp rfl (fun h14=>?_) (fun h14=>absurd (by decide) h14)
  refine W.region ?_
  have hfr:=Spec.fdecode_right h7; have hlens:=Spec.fright_lens hfr; have hl8:=(Spec.fright_has hfr).2.2.2.2.2.2.1
  refine Qm (k:=Qu (OpQ.loadN (i:=0) rfl rfl ld122 rfl rfl rfl) (k:=?_))
  refine Wc [.tmp 24,.tmp 25] [vptr cl 0,.agg #[vint f4.kind,vint f4.coll,vint f4.index,lv5,sv6]] Tryz.call126 (check_fn cl sp c sv1 rp1 pv1 pcs1 f4 lv5 sv6 (by assumption) (by first | omega | (simp; done) | (simp; omega) | (simp at *; omega))) ((ed 4 rfl).trans ((ed 8 rfl).trans ((ed 3 rfl).trans ((ed 5 rfl).trans (ep [7,3,7,7,2,1,0] rfl))))) ?_
  rintro _ _ ⟨rfl,rfl⟩
  refine Qa (k:=Nw [(0,vptr cl 0),(4,vint 0),(5,N0),(6,vptr b11 0),(7,vint (Spec.check c f4))] [Cl cl 230 (ccs sp c sv1 rp1 pv1),KB sv1 c.rep.secret,ReplayR rp1 sp c.rep,Rw 236 10 pv1 pcs1,Kx Enc.waits pcs1 c.pend,Cl b11 122 [vint f4.kind,vint f4.coll,vint f4.index,lv5,sv6],KS lv5 f4.links,KB sv6 f4.sum,KB sv1 c.rep.secret,Kx Enc.waits pcs1 c.pend,SuiteR sp A,KB bv bs,Al R] ?_)
  refine W.seq (Sn (Qm (k:=?_)))
  refine Qu (OpQ.neq rfl rfl rfl) (k:=Nl [(0,vptr cl 0),(4,vint 0),(5,N0),(6,vptr b11 0),(7,vint (Spec.check c f4)),(28,.bool (decide (Spec.check c f4≠0)))] ?_)
  refine Cp rfl (fun h15=>?_) (fun h15=>?_)
  ·refine Sn (Qm (k:=Qa (k:=Qa (k:=Nl [(0,vptr cl 0),(4,vint (Spec.check c f4)),(5,N0),(6,vptr b11 0)] ?_))))
   refine Wr 3 fun hr16a hr16b hr16c=>?_
   try simp only [La,Lc,Ln] at hr16a
   refine W.ent (Ent.slNil (e:=Enc.num) (T:=38)) ?_
   refine W.ent (L':=[Kk (Sl Enc.num 38 (N0) ([])),Cl cl 230 (ccs sp c sv1 rp1 pv1),KB sv1 c.rep.secret,ReplayR rp1 sp c.rep,Rw 236 10 pv1 pcs1,Kx Enc.waits pcs1 c.pend,Cl b11 122 [vint f4.kind,vint f4.coll,vint f4.index,lv5,sv6],KS lv5 f4.links,KB sv6 f4.sum,KB sv1 c.rep.secret,Kx Enc.waits pcs1 c.pend,SuiteR sp A,KB bv bs,Al R]) (es [0,0,0,0,0,0,0,0,0,0,0,0,0,0] rfl) ?_
   refine W.ent (L':=[Cl cl 230 (ccs sp c sv1 rp1 pv1),KB sv1 c.rep.secret,ReplayR rp1 sp c.rep,Rw 236 10 pv1 pcs1,Kx Enc.waits pcs1 c.pend,Kk (Sl Enc.num 38 (N0) ([])),Cl b11 122 [vint f4.kind,vint f4.coll,vint f4.index,lv5,sv6],KS lv5 f4.links,KB sv6 f4.sum,KB sv1 c.rep.secret,Kx Enc.waits pcs1 c.pend,SuiteR sp A,KB bv bs,Al R]) (es [1,1,1,1,1,0,0,0,0,0,0,0,0,0] rfl) ?_
   refine W.ent (L':=[ClientR cl sp c,Kk (Sl Enc.num 38 (N0) ([])),Cl b11 122 [vint f4.kind,vint f4.coll,vint f4.index,lv5,sv6],KS lv5 f4.links,KB sv6 f4.sum,KB sv1 c.rep.secret,Kx Enc.waits pcs1 c.pend,SuiteR sp A,KB bv bs,Al R]) (Ent.rep' (sv1,rp1,pv1,pcs1) rfl (by assumption) rfl) ?_
   refine W.ret (thn_r (ret2 (M:=[Kk (Sl Enc.num 38 (N0) ([])),ClientR cl sp c,SuiteR sp A]) rfl rfl rfl (⟨Spec.check c f4,N0,[],c,A,(by unfold Spec.ctake; simp only [h7]; rw [if_pos h15]),(by omega),rfl,rfl⟩) (es [1,0,5,6] rfl)))
  refine W.skip (thn_n (Wl [(0,vptr cl 0),(4,vint 0),(5,N0),(6,vptr b11 0)] ?_))
  refine Sn (Qa (k:=Nl [(0,vptr cl 0),(4,vint 0),(5,N0),(6,vptr b11 0),(8,N0)] ?_))
  refine W.seq (Sn (Qu (Of (fa122_3 _ _)) (k:=?_)))
  refine Qu (Ol 5 ld30) (k:=?_)
  refine Nk 6 fun hl17=>?_
  refine Qu (OpQ.lenSl (i:=6) rfl rfl rfl (len30 _)) (k:=Qm (k:=Nl [(0,vptr cl 0),(4,vint 0),(5,N0),(8,N0),(31,lv5),(32,vint (f4.links.length:Int)),(33,vint 0)] ?_))
  refine W.block ?_
  have hfr2:=Spec.fdecode_right h7; have hlens2:=Spec.fright_lens hfr2; have hl82:=(Spec.fright_has hfr2).2.2.2.2.2.2.1
  refine W.opens Opens.sl (i:=6) rfl (fun f18 _=>?_)
  refine We [Ka 22 1 lv5 f4.links.length f18,Kr (Enc.sl Enc.u8 5) f18 f4.links,Cl cl 230 (ccs sp c sv1 rp1 pv1),KB sv1 c.rep.secret,ReplayR rp1 sp c.rep,Rw 236 10 pv1 pcs1,Kx Enc.waits pcs1 c.pend,Cl b11 122 [vint f4.kind,vint f4.coll,vint f4.index,lv5,sv6],KB sv6 f4.sum,KB sv1 c.rep.secret,Kx Enc.waits pcs1 c.pend,SuiteR sp A,KB bv bs,Al R] ?_
  refine W.ent (Ent.rowNil (E:=38) (sz:=1)) ?_
  refine W.ent (Ent.know (m:=CellsRel (Enc.num) [] []) (fun _ _ _=>CellsRel.nil)) ?_
  refine W.ent (L':=[Kx Enc.num ([]) ([]),Rw 38 1 (N0) ([]),Ka 22 1 lv5 f4.links.length f18,Kr (Enc.sl Enc.u8 5) f18 f4.links,Cl cl 230 (ccs sp c sv1 rp1 pv1),KB sv1 c.rep.secret,ReplayR rp1 sp c.rep,Rw 236 10 pv1 pcs1,Kx Enc.waits pcs1 c.pend,Cl b11 122 [vint f4.kind,vint f4.coll,vint f4.index,lv5,sv6],KB sv6 f4.sum,KB sv1 c.rep.secret,Kx Enc.waits pcs1 c.pend,SuiteR sp A,KB bv bs,Al R]) (es [0,0,0,0,0,0,0,0,0,0,0,0,0,0,0,0] rfl) ?_
  refine W.loop (X:=Nat × Value × List Value × List Int × Rep × List Thing) (fun x=>match x with | (k,o,cs,outs,r2,A2)=>[(0,vptr cl 0),(4,vint 0),(5,N0),(8,o),(31,lv5),(32,vint (f4.links.length:Int)),(33,vint (k:Int))]) (fun x=>match x with | (k,o,cs,outs,r2,A2)=>[Asn.pure (k≤f4.links.length∧Spec.commits f4.links A c.rep=(outs++(Spec.commits (f4.links.drop k) A2 r2).1,(Spec.commits (f4.links.drop k) A2 r2).2)∧cs.length=k∧A2.length≤A.length+21*k∧(r2.coll=c.rep.coll∧r2.founder=c.rep.founder∧r2.who=c.rep.who∧r2.secret=c.rep.secret)),Rw 38 1 o cs,Kx Enc.num cs outs,ReplayR rp1 sp r2,SuiteR sp A2,Ka 22 1 lv5 f4.links.length f18,Kr (Enc.sl Enc.u8 5) f18 f4.links,Cl cl 230 (ccs sp c sv1 rp1 pv1),KB sv1 c.rep.secret,Rw 236 10 pv1 pcs1,Kx Enc.waits pcs1 c.pend,Cl b11 122 [vint f4.kind,vint f4.coll,vint f4.index,lv5,sv6],KB sv6 f4.sum,KB sv1 c.rep.secret,Kx Enc.waits pcs1 c.pend,KB bv bs,Al R]) (fun x=>match x with | (k,o,cs,outs,r2,A2)=>f4.links.length - k) (0,(N0),[],[],c.rep,A) ⟨rfl,rfl,rfl,rfl,rfl,rfl,rfl,trivial⟩ ((es [1,0,4,10,0,0,0,0,0,0,0,0,0,0,0,0] rfl).trans (Ent.pure_in (by exact ⟨Nat.zero_le _,by simp,rfl,by omega,rfl,rfl,rfl,rfl⟩))) (fun x=>?_)
  obtain ⟨k,o,cs,outs,r2,A2⟩:=x
  show W _ _ _ _ _ [(0,vptr cl 0),(4,vint 0),(5,N0),(8,o),(31,lv5),(32,vint (f4.links.length:Int)),(33,vint (k:Int))] [Asn.pure (k≤f4.links.length∧Spec.commits f4.links A c.rep=(outs++(Spec.commits (f4.links.drop k) A2 r2).1,(Spec.commits (f4.links.drop k) A2 r2).2)∧cs.length=k∧A2.length≤A.length+21*k∧(r2.coll=c.rep.coll∧r2.founder=c.rep.founder∧r2.who=c.rep.who∧r2.secret=c.rep.secret)),Rw 38 1 o cs,Kx Enc.num cs outs,ReplayR rp1 sp r2,SuiteR sp A2,Ka 22 1 lv5 f4.links.length f18,Kr (Enc.sl Enc.u8 5) f18 f4.links,Cl cl 230 (ccs sp c sv1 rp1 pv1),KB sv1 c.rep.secret,Rw 236 10 pv1 pcs1,Kx Enc.waits pcs1 c.pend,Cl b11 122 [vint f4.kind,vint f4.coll,vint f4.index,lv5,sv6],KB sv6 f4.sum,KB sv1 c.rep.secret,Kx Enc.waits pcs1 c.pend,KB bv bs,Al R]
  refine W.opens Opens.pure (i:=0) rfl (fun _ hI19=>?_)
  replace hI19:=hI19
  show W _ _ _ _ _ [(0,vptr cl 0),(4,vint 0),(5,N0),(8,o),(31,lv5),(32,vint (f4.links.length:Int)),(33,vint (k:Int))] [Rw 38 1 o cs,Kx Enc.num cs outs,ReplayR rp1 sp r2,SuiteR sp A2,Ka 22 1 lv5 f4.links.length f18,Kr (Enc.sl Enc.u8 5) f18 f4.links,Cl cl 230 (ccs sp c sv1 rp1 pv1),KB sv1 c.rep.secret,Rw 236 10 pv1 pcs1,Kx Enc.waits pcs1 c.pend,Cl b11 122 [vint f4.kind,vint f4.coll,vint f4.index,lv5,sv6],KB sv6 f4.sum,KB sv1 c.rep.secret,Kx Enc.waits pcs1 c.pend,KB bv bs,Al R]
  refine Sn (Qu (OpQ.lss rfl rfl rfl) (k:=Nl [(0,vptr cl 0),(4,vint 0),(5,N0),(8,o),(31,lv5),(32,vint (f4.links.length:Int)),(33,vint (k:Int)),(34,.bool (decide ((k:Int) < (f4.links.length:Int))))] ?_))
  refine W.seq (Cp rfl (fun h20=>?_) (fun h20=>?_))
  ·refine W.skip (thn_n (Wl [(0,vptr cl 0),(4,vint 0),(5,N0),(8,o),(31,lv5),(32,vint (f4.links.length:Int)),(33,vint (k:Int))] ?_))
   refine W.seq (W.block (W.seq (W.region ?_)))
   have hIA:=hI19.2.2.2.1; have hIc:=hI19.2.2.1; have hlk:=hlens2 k (by omega)
   refine WN.ent (Ent.der (i:=5) (m:=Sl Enc.u8 5 (f18 k) (f4.links.getD k [])) rfl (elemSl (getD_some [] (by omega)))) ?_
   refine Qu (OpQ.indexAddr (i:=5) (j:=k) rfl rfl rfl rfl (by omega) (by omega) (by omega) ix30) (k:=Qu (OpQ.loadE (i:=5) rfl rfl rfl (by omega) ld22) (k:=Qa (k:=Nw [(0,vptr cl 0),(4,vint 0),(5,N0),(8,o),(10,f18 k),(31,lv5),(32,vint (f4.links.length:Int)),(33,vint (k:Int))] [KB (f18 k) (f4.links.getD k []),Rw 38 1 o cs,Kx Enc.num cs outs,ReplayR rp1 sp r2,SuiteR sp A2,Ka 22 1 lv5 f4.links.length f18,Kr (Enc.sl Enc.u8 5) f18 f4.links,Cl cl 230 (ccs sp c sv1 rp1 pv1),KB sv1 c.rep.secret,Rw 236 10 pv1 pcs1,Kx Enc.waits pcs1 c.pend,Cl b11 122 [vint f4.kind,vint f4.coll,vint f4.index,lv5,sv6],KB sv6 f4.sum,KB sv1 c.rep.secret,Kx Enc.waits pcs1 c.pend,KB bv bs,Al R] ?_)))
   refine Sn (Qm (k:=Qu (OpQ.nilCheck rfl rfl) (k:=Qu (Of (fa230_2 _ _)) (k:=Qu (Ol 7 ld41) (k:=Qm (k:=?_))))))
   refine Wc [.tmp 41,.tmp 42] [vptr rp1 0,f18 k] Tryz.call26 (commit_fn rp1 sp r2 (f18 k) (f4.links.getD k []) A2 (by first | omega | (simp; done) | (simp; omega) | (simp at *; omega)) (by first | omega | (simp; done) | (simp; omega) | (simp at *; omega))) ((ed 0 rfl).trans (ep [4,4,0] rfl)) ?_
   rintro _ _ ⟨y21,x22,q23,A24,h25,h26,rfl,rfl⟩
   refine Qm (k:=Qe (k:=Qe (k:=Qa (k:=Qa (k:=Nw [(0,vptr cl 0),(4,vint 0),(5,N0),(8,o),(12,vint x22),(31,lv5),(32,vint (f4.links.length:Int)),(33,vint (k:Int))] [ReplayR rp1 sp q23,SuiteR sp A24,KB (f18 k) (f4.links.getD k []),Rw 38 1 o cs,Kx Enc.num cs outs,Ka 22 1 lv5 f4.links.length f18,Kr (Enc.sl Enc.u8 5) f18 f4.links,Cl cl 230 (ccs sp c sv1 rp1 pv1),KB sv1 c.rep.secret,Rw 236 10 pv1 pcs1,Kx Enc.waits pcs1 c.pend,Cl b11 122 [vint f4.kind,vint f4.coll,vint f4.index,lv5,sv6],KB sv6 f4.sum,KB sv1 c.rep.secret,Kx Enc.waits pcs1 c.pend,KB bv bs,Al R] ?_)))))
   refine W.region (Qm (k:=?_))
   refine Qm (k:=?_)
   refine Ru (OpRun.buildSlice (qs:=[(0,vint x22)]) (cs:=[vint x22]) (E:=38) (sz:=1) rfl ⟨rfl,rfl,trivial⟩ (fun _=>by kernel_rfl) (one_cons rfl one_nil) rfl (by decide)) ?_
   rintro v27 _ ⟨h28a,h28b,h28c,rfl⟩
   refine WN.ent (Ent.know (m:=CellsRel Enc.num ([vint x22]) ([x22])) (fun K h s=>(CellsRel.cons (cs:=[vint x22]) (ds:=[]) rfl Enc.num_mk CellsRel.nil))) ?_
   refine Ne [Kx Enc.num ([vint x22]) ([x22]),Rw 38 1 v27 ([vint x22]),ReplayR rp1 sp q23,SuiteR sp A24,KB (f18 k) (f4.links.getD k []),Rw 38 1 o cs,Kx Enc.num cs outs,Ka 22 1 lv5 f4.links.length f18,Kr (Enc.sl Enc.u8 5) f18 f4.links,Cl cl 230 (ccs sp c sv1 rp1 pv1),KB sv1 c.rep.secret,Rw 236 10 pv1 pcs1,Kx Enc.waits pcs1 c.pend,Cl b11 122 [vint f4.kind,vint f4.coll,vint f4.index,lv5,sv6],KB sv6 f4.sum,KB sv1 c.rep.secret,Kx Enc.waits pcs1 c.pend,KB bv bs,Al R] ?_
   refine Nr 5 fun hr31a hr31b hr31c=>?_
   try simp only [La,Lc,Ln] at hr31a
   refine Nr 1 fun hr32a hr32b hr32c=>?_
   try simp only [La,Lc,Ln] at hr32a
   refine Ru (OpRun.appendRow (i:=5) (j:=1) rfl rfl rfl rfl rfl Tryz.underlying76 (inf:=Tryz.t38) (by kernel_rfl) rfl rfl rfl (by_:=8) rfl (by first | omega | (simp; omega)) (by first | omega | (simp; omega))) ?_
   rintro v29 _ ⟨h30a,h30b,rfl⟩
   refine WN.ent (Ent.know (m:=CellsRel Enc.num (cs++([vint x22])) (outs++([x22]))) (fun K h s=>CellsRel.append (e:=Enc.num) (cs:=cs) (ds:=[vint x22]) (xs:=outs) (ys:=[x22]) (kat 5 s rfl) (kat 1 s rfl))) ?_
   refine Ne [Kx Enc.num (cs++([vint x22])) (outs++([x22])),Rw 38 1 v29 (cs++([vint x22])),Kx Enc.num ([vint x22]) ([x22]),ReplayR rp1 sp q23,SuiteR sp A24,KB (f18 k) (f4.links.getD k []),Kx Enc.num cs outs,Ka 22 1 lv5 f4.links.length f18,Kr (Enc.sl Enc.u8 5) f18 f4.links,Cl cl 230 (ccs sp c sv1 rp1 pv1),KB sv1 c.rep.secret,Rw 236 10 pv1 pcs1,Kx Enc.waits pcs1 c.pend,Cl b11 122 [vint f4.kind,vint f4.coll,vint f4.index,lv5,sv6],KB sv6 f4.sum,KB sv1 c.rep.secret,Kx Enc.waits pcs1 c.pend,KB bv bs,Al R] (Qa (k:=?_))
   refine WN.nil (inblk_n (thn_n (Wl [(0,vptr cl 0),(4,vint 0),(5,N0),(8,v29),(31,lv5),(32,vint (f4.links.length:Int)),(33,vint (k:Int))] ?_)))
   refine W.region (Qu (OpQ.add rfl rfl rfl ⟨by omega,by omega⟩) (k:=?_))
   refine Qm (k:=?_)
   refine WN.nil (thn_n ⟨(k+1,v29,cs++([vint x22]),outs++([x22]),q23,A24),by (show f4.links.length - (k+1) < f4.links.length - k); omega,⟨rfl,rfl,rfl,rfl,rfl,rfl,(Eq.trans (b:=some (vint ((k:Int)+1))) rfl (by first | rfl | (congr 2; omega))),trivial⟩,?_⟩)
   exact (es [1,0,1,1,3,3,3,3,3,3,3,3,3,3,3,3] rfl).trans (Ent.pure_in (by obtain ⟨hi1,hi2,hi3,hi4,hi5,hi6,hi7,hi8⟩:=hI19; obtain ⟨hs1,hs2,hs3,hs4⟩:=Spec.commit_same h25; refine ⟨by omega,?_,by simp; omega,by omega,⟨hs1.trans hi5,hs2.trans hi6,hs3.trans hi7,hs4.trans hi8⟩⟩; rw [hi2,Spec.commits_at (by omega)]; simp only [h25]; simp))
  obtain rfl:k=f4.links.length:=by omega
  obtain ⟨_,hcm,_,hA9,hs1,hs2,hs3,hs4⟩:=hI19; rw [List.drop_length] at hcm; simp only [Spec.commits,List.append_nil] at hcm
  refine W.exit (thn_x (thn_x (inblk_x (thn_n (Wl [(0,vptr cl 0),(4,vint 0),(5,N0),(8,o)] ?_)))))
  refine W.seq (W.drawG mixed ?_)
  refine Gq 0 [] rfl (OpQ.move rfl rfl) ?_
  refine Gq 1 [] rfl (OpQ.nilCheck rfl rfl) ?_
  refine Gq 2 [] rfl (Of (fa230_2 _ _)) ?_
  refine WG.hold (Cl cl 230 (ccs sp c sv1 rp1 pv1),[]) ?_
  refine Gq 3 [6] rfl (Ol 0 ld41) ?_
  refine Gq 4 [6] rfl (OpQ.move rfl rfl) ?_
  refine Gq 5 [6] rfl (OpQ.nilCheck rfl rfl) ?_
  refine Gq 6 [6] rfl (Of (fa230_1 _ _)) ?_
  refine Gq 7 [6] rfl (Of (fa24_2 _ _)) ?_
  refine Gq 8 [6] rfl (Ol 0 ld3) ?_
  refine WG.one (i:=9) (by kernel_rfl) (UpG.call rfl rfl rfl (OpCall.mk (xs:=[.tmp 54,.tmp 59]) (vs:=[vptr rp1 0,vint c.rep.who]) rfl ⟨rfl,rfl,trivial⟩ Tryz.call104) (repSeen_fn rp1 sp r2 c.rep.who) (ep [2] rfl) ?_)
  rintro _ _ ⟨rfl,rfl⟩
  refine ⟨es [6] rfl,?_⟩
  refine Gq 10 [6] rfl (OpQ.assign rfl rfl) ?_
  refine WG.done (by kernel_rfl) ?_
  refine thn_n (Ww [(0,vptr cl 0),(4,vint 0),(5,N0),(8,o),(13,vint (Spec.seenOf r2 c.rep.who))] [ReplayR rp1 sp r2,Rw 38 1 o cs,Kx Enc.num cs outs,SuiteR sp A2,Ka 22 1 lv5 f4.links.length f18,Kr (Enc.sl Enc.u8 5) f18 f4.links,Cl cl 230 (ccs sp c sv1 rp1 pv1),KB sv1 c.rep.secret,Rw 236 10 pv1 pcs1,Kx Enc.waits pcs1 c.pend,Cl b11 122 [vint f4.kind,vint f4.coll,vint f4.index,lv5,sv6],KB sv6 f4.sum,KB sv1 c.rep.secret,Kx Enc.waits pcs1 c.pend,KB bv bs,Al R] ?_)
  refine Sn (Qa (k:=Nl [(0,vptr cl 0),(4,vint 0),(5,N0),(8,o),(13,vint (Spec.seenOf r2 c.rep.who)),(14,N0)] ?_))
  refine W.seq (Sn (Qm (k:=?_)))
  refine Qu (OpQ.nilCheck rfl rfl) (k:=Qu (Of (fa230_3 _ _)) (k:=Qu (Ol 6 ld228) (k:=?_)))
  refine Nr 8 fun hr33a hr33b hr33c=>?_
  try simp only [La,Lc,Ln] at hr33a
  refine WN.fact (fun _ _ s=>cr_len (i:=9) rfl s) (fun hc34=>?_)
  replace hc34:pcs1.length=c.pend.length*10:=hc34
  refine Qu (OpQ.lenRow (i:=8) rfl rfl rfl (len228 _)) (k:=Qm (k:=Nl [(0,vptr cl 0),(4,vint 0),(5,N0),(8,o),(13,vint (Spec.seenOf r2 c.rep.who)),(14,N0),(64,pv1),(65,vint (slen pv1:Int)),(66,vint 0)] ?_))
  refine W.block (W.ent (Ent.rowNil (E:=236) (sz:=10)) ?_)
  refine W.ent (Ent.know (m:=CellsRel (Enc.waits) [] []) (fun _ _ _=>CellsRel.nil)) ?_
  refine W.ent (L':=[Kx Enc.waits ([]) ([]),Rw 236 10 (N0) ([]),ReplayR rp1 sp r2,Rw 38 1 o cs,Kx Enc.num cs outs,SuiteR sp A2,Ka 22 1 lv5 f4.links.length f18,Kr (Enc.sl Enc.u8 5) f18 f4.links,Cl cl 230 (ccs sp c sv1 rp1 pv1),KB sv1 c.rep.secret,Rw 236 10 pv1 pcs1,Kx Enc.waits pcs1 c.pend,Cl b11 122 [vint f4.kind,vint f4.coll,vint f4.index,lv5,sv6],KB sv6 f4.sum,KB sv1 c.rep.secret,Kx Enc.waits pcs1 c.pend,KB bv bs,Al R]) (es [0,0,0,0,0,0,0,0,0,0,0,0,0,0,0,0,0,0] rfl) ?_
  refine W.loop (X:=Nat × Value × List Value) (fun x=>match x with | (k,o3,cs3)=>[(0,vptr cl 0),(4,vint 0),(5,N0),(8,o),(13,vint (Spec.seenOf r2 c.rep.who)),(14,o3),(64,pv1),(65,vint (slen pv1:Int)),(66,vint (k:Int))]) (fun x=>match x with | (k,o3,cs3)=>[Asn.pure (k≤c.pend.length∧cs3.length≤10*k),Rw 236 10 o3 cs3,Kx Enc.waits cs3 ((c.pend.take k).filter (fun w=>decide (w.1.seq > Spec.seenOf r2 c.rep.who))),ReplayR rp1 sp r2,Rw 38 1 o cs,Kx Enc.num cs outs,SuiteR sp A2,Ka 22 1 lv5 f4.links.length f18,Kr (Enc.sl Enc.u8 5) f18 f4.links,Cl cl 230 (ccs sp c sv1 rp1 pv1),KB sv1 c.rep.secret,Rw 236 10 pv1 pcs1,Kx Enc.waits pcs1 c.pend,Cl b11 122 [vint f4.kind,vint f4.coll,vint f4.index,lv5,sv6],KB sv6 f4.sum,KB sv1 c.rep.secret,Kx Enc.waits pcs1 c.pend,KB bv bs,Al R]) (fun x=>match x with | (k,o3,cs3)=>c.pend.length - k) (0,(N0),[]) ⟨rfl,rfl,rfl,rfl,rfl,rfl,rfl,rfl,rfl,trivial⟩ (((es [1,0,0,0,0,0,0,0,0,0,0,0,0,0,0,0,0,0] rfl).trans (Ent.of_eq (by rfl))).trans (Ent.pure_in (by exact ⟨Nat.zero_le _,by simp⟩))) (fun x=>?_)
  obtain ⟨k,o3,cs3⟩:=x
  show W _ _ _ _ _ [(0,vptr cl 0),(4,vint 0),(5,N0),(8,o),(13,vint (Spec.seenOf r2 c.rep.who)),(14,o3),(64,pv1),(65,vint (slen pv1:Int)),(66,vint (k:Int))] [Asn.pure (k≤c.pend.length∧cs3.length≤10*k),Rw 236 10 o3 cs3,Kx Enc.waits cs3 ((c.pend.take k).filter (fun w=>decide (w.1.seq > Spec.seenOf r2 c.rep.who))),ReplayR rp1 sp r2,Rw 38 1 o cs,Kx Enc.num cs outs,SuiteR sp A2,Ka 22 1 lv5 f4.links.length f18,Kr (Enc.sl Enc.u8 5) f18 f4.links,Cl cl 230 (ccs sp c sv1 rp1 pv1),KB sv1 c.rep.secret,Rw 236 10 pv1 pcs1,Kx Enc.waits pcs1 c.pend,Cl b11 122 [vint f4.kind,vint f4.coll,vint f4.index,lv5,sv6],KB sv6 f4.sum,KB sv1 c.rep.secret,Kx Enc.waits pcs1 c.pend,KB bv bs,Al R]
  refine W.opens Opens.pure (i:=0) rfl (fun _ hI35=>?_)
  replace hI35:=hI35
  show W _ _ _ _ _ [(0,vptr cl 0),(4,vint 0),(5,N0),(8,o),(13,vint (Spec.seenOf r2 c.rep.who)),(14,o3),(64,pv1),(65,vint (slen pv1:Int)),(66,vint (k:Int))] [Rw 236 10 o3 cs3,Kx Enc.waits cs3 ((c.pend.take k).filter (fun w=>decide (w.1.seq > Spec.seenOf r2 c.rep.who))),ReplayR rp1 sp r2,Rw 38 1 o cs,Kx Enc.num cs outs,SuiteR sp A2,Ka 22 1 lv5 f4.links.length f18,Kr (Enc.sl Enc.u8 5) f18 f4.links,Cl cl 230 (ccs sp c sv1 rp1 pv1),KB sv1 c.rep.secret,Rw 236 10 pv1 pcs1,Kx Enc.waits pcs1 c.pend,Cl b11 122 [vint f4.kind,vint f4.coll,vint f4.index,lv5,sv6],KB sv6 f4.sum,KB sv1 c.rep.secret,Kx Enc.waits pcs1 c.pend,KB bv bs,Al R]
  refine Sn (Qu (OpQ.lss rfl rfl rfl) (k:=Nl [(0,vptr cl 0),(4,vint 0),(5,N0),(8,o),(13,vint (Spec.seenOf r2 c.rep.who)),(14,o3),(64,pv1),(65,vint (slen pv1:Int)),(66,vint (k:Int)),(67,.bool (decide ((k:Int) < (slen pv1:Int))))] ?_))
  refine W.seq (Cp rfl (fun h36=>?_) (fun h36=>?_))
  ·refine W.skip (thn_n (Wl [(0,vptr cl 0),(4,vint 0),(5,N0),(8,o),(13,vint (Spec.seenOf r2 c.rep.who)),(14,o3),(64,pv1),(65,vint (slen pv1:Int)),(66,vint (k:Int))] ?_))
   refine W.seq (W.block (Sn (WN.opens (Opens.waits (xs:=c.pend) (i:=k) (by omega)) (i:=11) rfl (fun zz he37=>?_))))
   obtain ⟨wa,wb,wc,wd⟩:=zz; dsimp only at he37
   refine Ne [KB wa ((c.pend.getD k default).1.name),KB wb ((c.pend.getD k default).1.value),KW wc ((c.pend.getD k default).1.wraps),KB wd ((c.pend.getD k default).2),Kx Enc.waits pcs1 c.pend,Rw 236 10 o3 cs3,Kx Enc.waits cs3 ((c.pend.take k).filter (fun w=>decide (w.1.seq > Spec.seenOf r2 c.rep.who))),ReplayR rp1 sp r2,Rw 38 1 o cs,Kx Enc.num cs outs,SuiteR sp A2,Ka 22 1 lv5 f4.links.length f18,Kr (Enc.sl Enc.u8 5) f18 f4.links,Cl cl 230 (ccs sp c sv1 rp1 pv1),KB sv1 c.rep.secret,Rw 236 10 pv1 pcs1,Cl b11 122 [vint f4.kind,vint f4.coll,vint f4.index,lv5,sv6],KB sv6 f4.sum,KB sv1 c.rep.secret,Kx Enc.waits pcs1 c.pend,KB bv bs,Al R] ?_
   refine Nr 15 fun hr38a hr38b hr38c=>?_
   try simp only [La,Lc,Ln] at hr38a
   refine WN.fact (fun _ _ s=>cr_len (i:=4) rfl s) (fun hc39=>?_)
   replace hc39:pcs1.length=c.pend.length*10:=hc39
   refine Qu (OpQ.indexRow (i:=15) (j:=k*10) rfl rfl rfl rfl (by omega) (by omega) (by omega) ix228) (k:=Qu (OpQ.loadRowN (i:=15) (vs:=[vint ((c.pend.getD k default).1.kind),vint ((c.pend.getD k default).1.writer),vint ((c.pend.getD k default).1.seq),wa,wb,vint ((c.pend.getD k default).1.who),vint ((c.pend.getD k default).1.rights),vint ((c.pend.getD k default).1.epoch),wc,wd]) rfl rfl rfl he37 rfl (by decide) ld236) (k:=?_))
   refine Ru (OpRun.alloc rfl zv236 rfl) ?_
   rintro _ _ ⟨b40,rfl,rfl⟩
   refine Nf 4 fun ho41=>?_
   refine Nf 3 fun ho42=>?_
   refine Nf 2 fun ho43=>?_
   refine Nf 1 fun ho44=>?_
   refine Rn (OpRun.store (i:=0) (vs:=[vint ((c.pend.getD k default).1.kind),vint ((c.pend.getD k default).1.writer),vint ((c.pend.getD k default).1.seq),wa,wb,vint ((c.pend.getD k default).1.who),vint ((c.pend.getD k default).1.rights),vint ((c.pend.getD k default).1.epoch),wc,wd]) (cs':=[vint ((c.pend.getD k default).1.kind),vint ((c.pend.getD k default).1.writer),vint ((c.pend.getD k default).1.seq),wa,wb,vint ((c.pend.getD k default).1.who),vint ((c.pend.getD k default).1.rights),vint ((c.pend.getD k default).1.epoch),wc,wd]) rfl rfl rfl sz236 rfl rfl (O3 (one_cons ho44 (one_cons ho43 (O3 (one_cons ho42 (one_cons ho41 one_nil)))))) rfl (Lb rfl) rfl) (k:=Nw [(0,vptr cl 0),(4,vint 0),(5,N0),(8,o),(13,vint (Spec.seenOf r2 c.rep.who)),(14,o3),(16,vptr b40 0),(64,pv1),(65,vint (slen pv1:Int)),(66,vint (k:Int))] [Cl b40 236 [vint ((c.pend.getD k default).1.kind),vint ((c.pend.getD k default).1.writer),vint ((c.pend.getD k default).1.seq),wa,wb,vint ((c.pend.getD k default).1.who),vint ((c.pend.getD k default).1.rights),vint ((c.pend.getD k default).1.epoch),wc,wd],KB wa ((c.pend.getD k default).1.name),KB wb ((c.pend.getD k default).1.value),KW wc ((c.pend.getD k default).1.wraps),KB wd ((c.pend.getD k default).2),Kx Enc.waits pcs1 c.pend,Rw 236 10 o3 cs3,Kx Enc.waits cs3 ((c.pend.take k).filter (fun w=>decide (w.1.seq > Spec.seenOf r2 c.rep.who))),ReplayR rp1 sp r2,Rw 38 1 o cs,Kx Enc.num cs outs,SuiteR sp A2,Ka 22 1 lv5 f4.links.length f18,Kr (Enc.sl Enc.u8 5) f18 f4.links,Cl cl 230 (ccs sp c sv1 rp1 pv1),KB sv1 c.rep.secret,Rw 236 10 pv1 pcs1,Cl b11 122 [vint f4.kind,vint f4.coll,vint f4.index,lv5,sv6],KB sv6 f4.sum,KB sv1 c.rep.secret,Kx Enc.waits pcs1 c.pend,KB bv bs,Al R] ?_)
   refine Sn (Qu (Of (fa236_0 _ _)) (k:=Qu (Of (fa33_2 _ _)) (k:=Qu (Ol 0 ld3) (k:=Qm (k:=Qu (OpQ.gtr rfl rfl rfl) (k:=Nl [(0,vptr cl 0),(4,vint 0),(5,N0),(8,o),(13,vint (Spec.seenOf r2 c.rep.who)),(14,o3),(16,vptr b40 0),(64,pv1),(65,vint (slen pv1:Int)),(66,vint (k:Int)),(74,.bool (decide ((c.pend.getD k default).1.seq > Spec.seenOf r2 c.rep.who)))] ?_))))))
   refine Cp rfl (fun h45=>?_) (fun h45=>?_)
   ·refine W.region (Qm (k:=?_))
    refine Qu (OpQ.loadN (i:=0) rfl rfl ld236 rfl rfl rfl) (k:=?_)
    refine WN.fact (fun _ _ s=>sl_isS (i:=1) rfl s) (fun hS48=>?_)
    refine WN.fact (fun _ _ s=>sl_isS (i:=2) rfl s) (fun hS49=>?_)
    refine WN.fact (fun _ _ s=>sl_isS (i:=3) rfl s) (fun hS50=>?_)
    refine WN.fact (fun _ _ s=>sl_isS (i:=4) rfl s) (fun hS51=>?_)
    refine Ru (OpRun.buildSlice (qs:=[(0,.agg #[vint ((c.pend.getD k default).1.kind),vint ((c.pend.getD k default).1.writer),vint ((c.pend.getD k default).1.seq),wa,wb,vint ((c.pend.getD k default).1.who),vint ((c.pend.getD k default).1.rights),vint ((c.pend.getD k default).1.epoch),wc,wd])]) (cs:=[vint ((c.pend.getD k default).1.kind),vint ((c.pend.getD k default).1.writer),vint ((c.pend.getD k default).1.seq),wa,wb,vint ((c.pend.getD k default).1.who),vint ((c.pend.getD k default).1.rights),vint ((c.pend.getD k default).1.epoch),wc,wd]) (E:=236) (sz:=10) rfl ⟨rfl,rfl,trivial⟩ (fun _=>by obtain ⟨_,_,_,e1⟩:=hS48; rw [e1]; obtain ⟨_,_,_,e2⟩:=hS49; rw [e2]; obtain ⟨_,_,_,e3⟩:=hS50; rw [e3]; obtain ⟨_,_,_,e4⟩:=hS51; rw [e4]; kernel_rfl) (O3 (one_cons ho44 (one_cons ho43 (O3 (one_cons ho42 (one_cons ho41 one_nil)))))) rfl (by decide)) ?_
    rintro v46 _ ⟨h47a,h47b,h47c,rfl⟩
    refine WN.ent (Ent.know (m:=CellsRel Enc.waits ([vint ((c.pend.getD k default).1.kind),vint ((c.pend.getD k default).1.writer),vint ((c.pend.getD k default).1.seq),wa,wb,vint ((c.pend.getD k default).1.who),vint ((c.pend.getD k default).1.rights),vint ((c.pend.getD k default).1.epoch),wc,wd]) ([(c.pend.getD k default)])) (fun K h s=>(CellsRel.cons (cs:=[vint ((c.pend.getD k default).1.kind),vint ((c.pend.getD k default).1.writer),vint ((c.pend.getD k default).1.seq),wa,wb,vint ((c.pend.getD k default).1.who),vint ((c.pend.getD k default).1.rights),vint ((c.pend.getD k default).1.epoch),wc,wd]) (ds:=[]) rfl (Enc.waits_mk (e:=(c.pend.getD k default)) (kat 2 s rfl) (kat 3 s rfl) (kat 4 s rfl) (kat 5 s rfl)) CellsRel.nil))) ?_
    refine Ne [Kx Enc.waits ([vint ((c.pend.getD k default).1.kind),vint ((c.pend.getD k default).1.writer),vint ((c.pend.getD k default).1.seq),wa,wb,vint ((c.pend.getD k default).1.who),vint ((c.pend.getD k default).1.rights),vint ((c.pend.getD k default).1.epoch),wc,wd]) ([(c.pend.getD k default)]),Rw 236 10 v46 ([vint ((c.pend.getD k default).1.kind),vint ((c.pend.getD k default).1.writer),vint ((c.pend.getD k default).1.seq),wa,wb,vint ((c.pend.getD k default).1.who),vint ((c.pend.getD k default).1.rights),vint ((c.pend.getD k default).1.epoch),wc,wd]),Cl b40 236 [vint ((c.pend.getD k default).1.kind),vint ((c.pend.getD k default).1.writer),vint ((c.pend.getD k default).1.seq),wa,wb,vint ((c.pend.getD k default).1.who),vint ((c.pend.getD k default).1.rights),vint ((c.pend.getD k default).1.epoch),wc,wd],KB wa ((c.pend.getD k default).1.name),KB wb ((c.pend.getD k default).1.value),KW wc ((c.pend.getD k default).1.wraps),KB wd ((c.pend.getD k default).2),Kx Enc.waits pcs1 c.pend,Rw 236 10 o3 cs3,Kx Enc.waits cs3 ((c.pend.take k).filter (fun w=>decide (w.1.seq > Spec.seenOf r2 c.rep.who))),ReplayR rp1 sp r2,Rw 38 1 o cs,Kx Enc.num cs outs,SuiteR sp A2,Ka 22 1 lv5 f4.links.length f18,Kr (Enc.sl Enc.u8 5) f18 f4.links,Cl cl 230 (ccs sp c sv1 rp1 pv1),KB sv1 c.rep.secret,Rw 236 10 pv1 pcs1,Cl b11 122 [vint f4.kind,vint f4.coll,vint f4.index,lv5,sv6],KB sv6 f4.sum,KB sv1 c.rep.secret,Kx Enc.waits pcs1 c.pend,KB bv bs,Al R] ?_
    refine Nr 8 fun hr54a hr54b hr54c=>?_
    try simp only [La,Lc,Ln] at hr54a
    refine Nr 1 fun hr55a hr55b hr55c=>?_
    try simp only [La,Lc,Ln] at hr55a
    refine Ru (OpRun.appendRow (i:=8) (j:=1) rfl rfl rfl rfl rfl Tryz.underlying228 (inf:=Tryz.t236) (by kernel_rfl) rfl rfl rfl (by_:=144) rfl (by first | omega | (simp; omega)) (by first | omega | (simp; omega))) ?_
    rintro v52 _ ⟨h53a,h53b,rfl⟩
    refine WN.ent (Ent.know (m:=CellsRel Enc.waits (cs3++([vint ((c.pend.getD k default).1.kind),vint ((c.pend.getD k default).1.writer),vint ((c.pend.getD k default).1.seq),wa,wb,vint ((c.pend.getD k default).1.who),vint ((c.pend.getD k default).1.rights),vint ((c.pend.getD k default).1.epoch),wc,wd])) (((c.pend.take k).filter (fun w=>decide (w.1.seq > Spec.seenOf r2 c.rep.who)))++([(c.pend.getD k default)]))) (fun K h s=>CellsRel.append (e:=Enc.waits) (cs:=cs3) (ds:=[vint ((c.pend.getD k default).1.kind),vint ((c.pend.getD k default).1.writer),vint ((c.pend.getD k default).1.seq),wa,wb,vint ((c.pend.getD k default).1.who),vint ((c.pend.getD k default).1.rights),vint ((c.pend.getD k default).1.epoch),wc,wd]) (xs:=(c.pend.take k).filter (fun w=>decide (w.1.seq > Spec.seenOf r2 c.rep.who))) (ys:=[(c.pend.getD k default)]) (kat 8 s rfl) (kat 1 s rfl))) ?_
    refine Ne [Kx Enc.waits (cs3++([vint ((c.pend.getD k default).1.kind),vint ((c.pend.getD k default).1.writer),vint ((c.pend.getD k default).1.seq),wa,wb,vint ((c.pend.getD k default).1.who),vint ((c.pend.getD k default).1.rights),vint ((c.pend.getD k default).1.epoch),wc,wd])) (((c.pend.take k).filter (fun w=>decide (w.1.seq > Spec.seenOf r2 c.rep.who)))++([(c.pend.getD k default)])),Rw 236 10 v52 (cs3++([vint ((c.pend.getD k default).1.kind),vint ((c.pend.getD k default).1.writer),vint ((c.pend.getD k default).1.seq),wa,wb,vint ((c.pend.getD k default).1.who),vint ((c.pend.getD k default).1.rights),vint ((c.pend.getD k default).1.epoch),wc,wd])),Kx Enc.waits ([vint ((c.pend.getD k default).1.kind),vint ((c.pend.getD k default).1.writer),vint ((c.pend.getD k default).1.seq),wa,wb,vint ((c.pend.getD k default).1.who),vint ((c.pend.getD k default).1.rights),vint ((c.pend.getD k default).1.epoch),wc,wd]) ([(c.pend.getD k default)]),Cl b40 236 [vint ((c.pend.getD k default).1.kind),vint ((c.pend.getD k default).1.writer),vint ((c.pend.getD k default).1.seq),wa,wb,vint ((c.pend.getD k default).1.who),vint ((c.pend.getD k default).1.rights),vint ((c.pend.getD k default).1.epoch),wc,wd],KB wa ((c.pend.getD k default).1.name),KB wb ((c.pend.getD k default).1.value),KW wc ((c.pend.getD k default).1.wraps),KB wd ((c.pend.getD k default).2),Kx Enc.waits pcs1 c.pend,Kx Enc.waits cs3 ((c.pend.take k).filter (fun w=>decide (w.1.seq > Spec.seenOf r2 c.rep.who))),ReplayR rp1 sp r2,Rw 38 1 o cs,Kx Enc.num cs outs,SuiteR sp A2,Ka 22 1 lv5 f4.links.length f18,Kr (Enc.sl Enc.u8 5) f18 f4.links,Cl cl 230 (ccs sp c sv1 rp1 pv1),KB sv1 c.rep.secret,Rw 236 10 pv1 pcs1,Cl b11 122 [vint f4.kind,vint f4.coll,vint f4.index,lv5,sv6],KB sv6 f4.sum,KB sv1 c.rep.secret,Kx Enc.waits pcs1 c.pend,KB bv bs,Al R] ?_
    refine Qa (k:=?_)
    refine WN.nil (inblk_n (thn_n (Wl [(0,vptr cl 0),(4,vint 0),(5,N0),(8,o),(13,vint (Spec.seenOf r2 c.rep.who)),(14,v52),(64,pv1),(65,vint (slen pv1:Int)),(66,vint (k:Int))] ?_)))
    refine W.region (Qu (OpQ.add rfl rfl rfl ⟨by omega,by omega⟩) (k:=?_))
    refine Qm (k:=?_)
    refine WN.nil (thn_n ⟨(k+1,v52,cs3++([vint ((c.pend.getD k default).1.kind),vint ((c.pend.getD k default).1.writer),vint ((c.pend.getD k default).1.seq),wa,wb,vint ((c.pend.getD k default).1.who),vint ((c.pend.getD k default).1.rights),vint ((c.pend.getD k default).1.epoch),wc,wd])),by (show c.pend.length - (k+1) < c.pend.length - k); omega,⟨rfl,rfl,rfl,rfl,rfl,rfl,rfl,rfl,(Eq.trans (b:=some (vint ((k:Int)+1))) rfl (by first | rfl | (congr 2; omega))),trivial⟩,?_⟩)
    exact ((es [1,0,8,8,8,8,8,8,8,8,8,6,7,7,7,7,7,7] rfl).trans (Ent.of_eq (by rw [filter_succ_T (l:=c.pend) (k:=k) (p:=(fun w=>decide (w.1.seq > Spec.seenOf r2 c.rep.who))) (d:=default) (by omega) (decide_eq_true h45)]))).trans (Ent.pure_in (by exact ⟨by omega,by have h9:=hI35.2; first | omega | (simp; omega)⟩))
   refine W.skip (inblk_n (thn_n (Wl [(0,vptr cl 0),(4,vint 0),(5,N0),(8,o),(13,vint (Spec.seenOf r2 c.rep.who)),(14,o3),(64,pv1),(65,vint (slen pv1:Int)),(66,vint (k:Int))] ?_)))
   refine W.region (Qu (OpQ.add rfl rfl rfl ⟨by omega,by omega⟩) (k:=?_))
   refine Qm (k:=?_)
   refine WN.nil (thn_n ⟨(k+1,o3,cs3),by (show c.pend.length - (k+1) < c.pend.length - k); omega,⟨rfl,rfl,rfl,rfl,rfl,rfl,rfl,rfl,(Eq.trans (b:=some (vint ((k:Int)+1))) rfl (by first | rfl | (congr 2; omega))),trivial⟩,?_⟩)
   exact ((es [6,6,6,6,6,6,6,6,6,6,6,5,5,5,5,5,5,5] rfl).trans (Ent.of_eq (by rw [filter_succ_F (l:=c.pend) (k:=k) (p:=(fun w=>decide (w.1.seq > Spec.seenOf r2 c.rep.who))) (d:=default) (by omega) (decide_eq_false h45)]))).trans (Ent.pure_in (by exact ⟨by omega,by have h9:=hI35.2; first | omega | (simp; omega)⟩))
  obtain rfl:k=c.pend.length:=by omega
  refine W.exit (thn_x (thn_x (inblk_x (thn_n (Ww [(0,vptr cl 0),(4,vint 0),(5,N0),(8,o),(14,o3)] [Rw 236 10 o3 cs3,Kx Enc.waits cs3 ((c.pend.take c.pend.length).filter (fun w=>decide (w.1.seq > Spec.seenOf r2 c.rep.who))),ReplayR rp1 sp r2,Rw 38 1 o cs,Kx Enc.num cs outs,SuiteR sp A2,Ka 22 1 lv5 f4.links.length f18,Kr (Enc.sl Enc.u8 5) f18 f4.links,Cl cl 230 (ccs sp c sv1 rp1 pv1),KB sv1 c.rep.secret,Rw 236 10 pv1 pcs1,Kx Enc.waits pcs1 c.pend,Cl b11 122 [vint f4.kind,vint f4.coll,vint f4.index,lv5,sv6],KB sv6 f4.sum,KB sv1 c.rep.secret,Kx Enc.waits pcs1 c.pend,KB bv bs,Al R] ?_)))))
  refine Sn (Qm (k:=Qm (k:=Qu (OpQ.nilCheck rfl rfl) (k:=Qu (Of (fa230_3 _ _)) (k:=?_)))))
  refine WN.fact (fun _ _ s=>(row_facts (i:=0) rfl s).2.2) (fun ho56=>?_)
  refine Rn (OpRun.store (i:=8) (vs:=[o3]) (cs':=[vptr sp 0,vint c.rep.coll,vint c.rep.founder,vint c.rep.who,sv1,vptr rp1 0,o3,vint c.count,vint c.last,.bool c.alarm]) rfl rfl rfl sz228 (cells_one ho56) rfl (one_cons ho56 one_nil) rfl (Lb rfl) rfl) (k:=Nw [(4,vint 0),(5,N0),(8,o)] [Cl cl 230 (ccs sp c sv1 rp1 o3),Rw 236 10 o3 cs3,Kx Enc.waits cs3 ((c.pend.take c.pend.length).filter (fun w=>decide (w.1.seq > Spec.seenOf r2 c.rep.who))),ReplayR rp1 sp r2,Rw 38 1 o cs,Kx Enc.num cs outs,SuiteR sp A2,Ka 22 1 lv5 f4.links.length f18,Kr (Enc.sl Enc.u8 5) f18 f4.links,KB sv1 c.rep.secret,Rw 236 10 pv1 pcs1,Kx Enc.waits pcs1 c.pend,Cl b11 122 [vint f4.kind,vint f4.coll,vint f4.index,lv5,sv6],KB sv6 f4.sum,KB sv1 c.rep.secret,Kx Enc.waits pcs1 c.pend,KB bv bs,Al R] ?_)
  refine Sn (Qm (k:=Qa (k:=Qa (k:=Nl [(4,vint 0),(5,o)] ?_))))
  refine Wr 1 fun hr57a hr57b hr57c=>?_
  try simp only [La,Lc,Ln] at hr57a
  refine Wr 4 fun hr58a hr58b hr58c=>?_
  try simp only [La,Lc,Ln] at hr58a
  refine Wr 10 fun hr59a hr59b hr59c=>?_
  try simp only [La,Lc,Ln] at hr59a
  refine W.freezeRel (e:=Enc.num) (i:=4) (j:=4) (Lb rfl) rfl rfl ?_
  refine We [Kk (Sl Enc.num 38 o outs),Cl cl 230 (ccs sp c sv1 rp1 o3),Rw 236 10 o3 cs3,Kx Enc.waits cs3 ((c.pend.take c.pend.length).filter (fun w=>decide (w.1.seq > Spec.seenOf r2 c.rep.who))),ReplayR rp1 sp r2,Kx Enc.num cs outs,SuiteR sp A2,Ka 22 1 lv5 f4.links.length f18,Kr (Enc.sl Enc.u8 5) f18 f4.links,KB sv1 c.rep.secret,Rw 236 10 pv1 pcs1,Kx Enc.waits pcs1 c.pend,Cl b11 122 [vint f4.kind,vint f4.coll,vint f4.index,lv5,sv6],KB sv6 f4.sum,KB sv1 c.rep.secret,Kx Enc.waits pcs1 c.pend,KB bv bs,Al R] ?_
  have hle:Spec.left r2 c.pend=(c.pend.take c.pend.length).filter (fun w=>decide (w.1.seq > Spec.seenOf r2 c.rep.who)):=by unfold Spec.left; rw [List.take_length,hs3]
  have hfi:({ c with rep:=r2,pend:=Spec.left r2 c.pend }:Cli).fine:=⟨Nat.le_trans (List.length_filter_le ..) hcf1.1,fun p hp=>hcf1.2.1 p (List.mem_filter.1 hp).1,hcf1.2.2⟩
  refine W.ent (L':=[Cl cl 230 [vptr sp 0,vint r2.coll,vint r2.founder,vint r2.who,sv1,vptr rp1 0,o3,vint c.count,vint c.last,.bool c.alarm],Kx Enc.waits cs3 (Spec.left r2 c.pend),KB sv1 r2.secret,Kk (Sl Enc.num 38 o outs),Rw 236 10 o3 cs3,ReplayR rp1 sp r2,Kx Enc.num cs outs,SuiteR sp A2,Ka 22 1 lv5 f4.links.length f18,Kr (Enc.sl Enc.u8 5) f18 f4.links,Rw 236 10 pv1 pcs1,Kx Enc.waits pcs1 c.pend,Cl b11 122 [vint f4.kind,vint f4.coll,vint f4.index,lv5,sv6],KB sv6 f4.sum,KB sv1 c.rep.secret,Kx Enc.waits pcs1 c.pend,KB bv bs,Al R]) ((es [1,2,7,0,0,0,0,0,0,0,0,0,0,0,0,0,0,0] rfl).trans (Ent.of_eq (by rw [hle,hs1,hs2,hs3,hs4]))) ?_
  refine W.ent (L':=[Cl cl 230 [vptr sp 0,vint r2.coll,vint r2.founder,vint r2.who,sv1,vptr rp1 0,o3,vint c.count,vint c.last,.bool c.alarm],KB sv1 r2.secret,ReplayR rp1 sp r2,Rw 236 10 o3 cs3,Kx Enc.waits cs3 (Spec.left r2 c.pend),Kk (Sl Enc.num 38 o outs),Kx Enc.num cs outs,SuiteR sp A2,Ka 22 1 lv5 f4.links.length f18,Kr (Enc.sl Enc.u8 5) f18 f4.links,Rw 236 10 pv1 pcs1,Kx Enc.waits pcs1 c.pend,Cl b11 122 [vint f4.kind,vint f4.coll,vint f4.index,lv5,sv6],KB sv6 f4.sum,KB sv1 c.rep.secret,Kx Enc.waits pcs1 c.pend,KB bv bs,Al R]) (es [0,1,3,2,0,0,0,0,0,0,0,0,0,0,0,0,0,0] rfl) ?_
  refine W.ent (L':=[ClientR cl sp ({ c with rep:=r2,pend:=Spec.left r2 c.pend }:Cli),Kk (Sl Enc.num 38 o outs),Kx Enc.num cs outs,SuiteR sp A2,Ka 22 1 lv5 f4.links.length f18,Kr (Enc.sl Enc.u8 5) f18 f4.links,Rw 236 10 pv1 pcs1,Kx Enc.waits pcs1 c.pend,Cl b11 122 [vint f4.kind,vint f4.coll,vint f4.index,lv5,sv6],KB sv6 f4.sum,KB sv1 c.rep.secret,Kx Enc.waits pcs1 c.pend,KB bv bs,Al R]) (Ent.rep' (sv1,rp1,o3,cs3) rfl hfi rfl) ?_
  refine W.ret (ret2 (M:=[Kk (Sl Enc.num 38 o outs),ClientR cl sp ({ c with rep:=r2,pend:=Spec.left r2 c.pend }:Cli),SuiteR sp A2]) rfl rfl rfl (⟨0,o,outs,({ c with rep:=r2,pend:=Spec.left r2 c.pend }:Cli),A2,(by unfold Spec.ctake; simp only [h7]; rw [if_neg h15]; simp only [hcm]),(by omega),rfl,rfl⟩) (es [1,0,1,10] rfl))
 refine Qm (k:=Qe (k:=Qe (k:=?_)))
 refine Ru (OpRun.alloc rfl zv122 rfl) ?_
 rintro _ _ ⟨b60,rfl,rfl⟩
 refine Rn (OpRun.store (i:=0) (vs:=[vint 0,vint 0,vint 0,N0,N0]) (cs':=[vint 0,vint 0,vint 0,N0,N0]) rfl rfl rfl sz122 rfl rfl (O3 (one_cons rfl (one_cons rfl one_nil))) rfl (Lb rfl) rfl) (k:=Qa (k:=Nw [(0,vptr cl 0),(4,vint 0),(5,N0),(6,vptr b60 0),(7,vint x8)] [Cl b60 122 [vint 0,vint 0,vint 0,N0,N0],Cl cl 230 (ccs sp c sv1 rp1 pv1),KB sv1 c.rep.secret,ReplayR rp1 sp c.rep,Rw 236 10 pv1 pcs1,Kx Enc.waits pcs1 c.pend,SuiteR sp A,KB bv bs,Al R] ?_))
 refine W.seq (Sn (Qm (k:=?_)))
 refine Qu (OpQ.eql rfl rfl rfl) (k:=Nl [(0,vptr cl 0),(4,vint 0),(5,N0),(6,vptr b60 0),(7,vint x8),(23,.bool (decide (x8=0)))] ?_)
 refine Cp rfl (fun h61=>absurd h61 h10) (fun h61=>?_)
 refine W.skip (thn_n (Wl [(0,vptr cl 0),(4,vint 0),(5,N0),(6,vptr b60 0),(7,vint x8)] ?_))
 refine W.seq (Sn (Qm (k:=?_)))
 refine Qu (OpQ.neq rfl rfl rfl) (k:=Nl [(0,vptr cl 0),(4,vint 0),(5,N0),(6,vptr b60 0),(7,vint x8),(28,.bool (decide (x8≠0)))] ?_)
 refine Cp rfl (fun h62=>?_) (fun h62=>absurd h10 h62)
 refine Sn (Qm (k:=Qa (k:=Qa (k:=Nl [(0,vptr cl 0),(4,vint x8),(5,N0),(6,vptr b60 0)] ?_))))
 refine W.ent (Ent.slNil (e:=Enc.num) (T:=38)) ?_
 refine W.ent (L':=[Kk (Sl Enc.num 38 (N0) ([])),Cl b60 122 [vint 0,vint 0,vint 0,N0,N0],Cl cl 230 (ccs sp c sv1 rp1 pv1),KB sv1 c.rep.secret,ReplayR rp1 sp c.rep,Rw 236 10 pv1 pcs1,Kx Enc.waits pcs1 c.pend,SuiteR sp A,KB bv bs,Al R]) (es [0,0,0,0,0,0,0,0,0,0] rfl) ?_
 refine W.ent (L':=[Cl cl 230 (ccs sp c sv1 rp1 pv1),KB sv1 c.rep.secret,ReplayR rp1 sp c.rep,Rw 236 10 pv1 pcs1,Kx Enc.waits pcs1 c.pend,Kk (Sl Enc.num 38 (N0) ([])),Cl b60 122 [vint 0,vint 0,vint 0,N0,N0],SuiteR sp A,KB bv bs,Al R]) (es [2,2,2,2,2,0,0,0,0,0] rfl) ?_
 refine W.ent (L':=[ClientR cl sp c,Kk (Sl Enc.num 38 (N0) ([])),Cl b60 122 [vint 0,vint 0,vint 0,N0,N0],SuiteR sp A,KB bv bs,Al R]) (Ent.rep' (sv1,rp1,pv1,pcs1) rfl (by assumption) rfl) ?_
 refine W.ret (thn_r (ret2 (M:=[Kk (Sl Enc.num 38 (N0) ([])),ClientR cl sp c,SuiteR sp A]) rfl rfl rfl (⟨x8,N0,[],c,A,(by unfold Spec.ctake; simp only [h9]),(by omega),rfl,rfl⟩) (es [1,0,1,2] rfl)))
end Go.Lk
open Go.Proofs
namespace Go.Lk
section
variable {n:Nat} {g:G} {l:Env} {L M R:List Asn} {o:Oper} {T U E:TypeId} {x y z:Operand} {v u:Value} {i:Nat} {P:Program}
theorem OpRun.makeMapK (ho:o.op = .makeMap T none):OpRun P n g o l L (fun r M=>∃ b,r = .map (some b)∧M=Asn.known b [] :: L):=fun a w s tt=>by
  have t1:=Sat.alloc (w:=w) tt (.map #[] 0)
  refine ⟨.value (.map (some w.heap.size)),_,w.alloc (.map #[] 0),_,?_,.inl rfl,t1.ent (Ent.rep' (A:=Asn.known w.heap.size []) (φ:=fun x:Array MapEntry × Nat=>KnownRel x.1 []) (f:=fun x:Array MapEntry × Nat=>[Asn.obj w.heap.size (.map x.1 x.2)]) (#[],0) rfl rfl rfl),w.heap.size,rfl,rfl⟩
  simp [execOp,ho,Instr.makeMap,newObj,Sem.run]
end
namespace Spec
def batch (b:Bytes) (i:Int):Bytes:=match fencode (match fdecode b with | .ok f=>⟨3,f.coll,i,f.links,f.sum⟩ | .error _=>⟨3,0,i,[],[]⟩) with
  | .ok b=>b
  | .error _=>[]
def anE:Entry:=⟨1,0,0,[97],[120],0,0,0,[]⟩
def anC:Option Cli × List Thing:=clientNew [] 1 1 1 []
def anD:Cli:=anC.1.getD default
theorem an_some:anC.1.isSome=true:=by kernel_rfl
theorem an_links:anD.rep.chain.links.length=0:=by kernel_rfl
def anI:Int × Cli × List Thing:=issue anC.2 anD anE
theorem an_issue0:anI.1=0:=by kernel_rfl
theorem an_see:dget (see anI.2.1).2 [97]=some [120]:=by kernel_rfl
def anP:List Bytes × Int:=push anI.2.1
theorem an_push:anP.2=0∧anP.1.length=1:=⟨by kernel_rfl,by kernel_rfl⟩
theorem an_n {c:Cli} {A:List Thing} (h:clientNew [] 1 1 1 []=(some c,A)):c=anD∧A=anC.2:=by
  have e:anC=(some c,A):=h
  exact ⟨by unfold anD; rw [e]; rfl,by rw [e]⟩
theorem an_no {A:List Thing} (h:clientNew [] 1 1 1 []=(none,A)):False:=by
  have h9:=an_some; have e:anC=(none,A):=h; rw [e] at h9; cases h9
theorem an_i {x:Int} {c:Cli} {A:List Thing} (h:issue anC.2 anD anE=(x,c,A)):x=0∧c=anI.2.1∧A=anI.2.2:=by
  have e:anI=(x,c,A):=h
  exact ⟨by rw [← an_issue0,e],by rw [e],by rw [e]⟩
theorem an_tal1:tal (anI.2.1.rep.chain.links.length:Int) (anI.2.1.pend.length:Int) = .complex .f64 0 4607182418800017408:=by kernel_rfl
theorem an_see1 {p:Policy} {d:Dic} (h:see anI.2.1=(p,d)):(dget d [97]).isSome=true∧(dget d [97]).getD []=[120]:=by
  have:=an_see; rw [h] at this; dsimp only at this; rw [this]; exact ⟨rfl,rfl⟩
theorem an_p {o:List Bytes} {x:Int} (h:push anI.2.1=(o,x)):x=0∧o=anP.1:=by
  have e:anP=(o,x):=h
  exact ⟨by rw [← an_push.1,e],by rw [e]⟩
def anB:Bytes:=batch (anP.1.getD 0 []) 0
def anT:Int × List Int × Cli × List Thing:=ctake anI.2.2 anI.2.1 anB
theorem an_take:anT.1=0∧anT.2.1=[0]:=⟨by kernel_rfl,by kernel_rfl⟩
theorem an_t {x:Int} {o:List Int} {c:Cli} {A:List Thing} (h:ctake anI.2.2 anI.2.1 anB=(x,o,c,A)):x=0∧o=[0]∧c=anT.2.2.1:=by
  have e:anT=(x,o,c,A):=h
  have h1:=an_take; rw [e] at h1
  exact ⟨h1.1,h1.2,by rw [e]⟩
theorem an_tal2:tal (anT.2.2.1.rep.chain.links.length:Int) (anT.2.2.1.pend.length:Int) = .complex .f64 4607182418800017408 0:=by kernel_rfl
theorem an_hyps:anI.2.2.length < 100∧anB.length≤1000∧(anP.1.getD 0 []).length≤1000:=⟨Nat.lt_of_lt_of_le (Nat.lt_succ_of_le (Nat.le_of_ble_eq_true (m:=50) (by kernel_rfl))) (by decide),Nat.le_of_ble_eq_true (by kernel_rfl),Nat.le_of_ble_eq_true (by kernel_rfl)⟩
theorem cseal_alarm {A A':List Thing} {c c':Cli} {e:Entry} {ep x:Int} (h:cseal A c e ep=(x,c',A')):c'.alarm=c.alarm:=by
  unfold cseal at h
  repeat' split at h
  all_goals first
    | (cases h; rfl)
    | (dsimp only at h; repeat' split at h
       all_goals (cases h; rfl))
theorem issue_alarm {A A':List Thing} {c c':Cli} {e:Entry} {x:Int} (h:issue A c e=(x,c',A')):c'.alarm=c.alarm:=by
  unfold issue at h
  repeat' split at h
  all_goals first
    | (cases h; rfl)
    | exact cseal_alarm h
theorem an_al0:anD.alarm=false:=by kernel_rfl
end Spec
end Go.Lk
open Go.Proofs
set_option maxRecDepth 8000
namespace Go.Lk
open Asn renaming cells→Cl,row→Rw,kn→Kk,all→Al
theorem Signs_fn:Fn Tryz.prog 39 #[] [] (fun v M=>∃ (sp:Nat),vptr sp 0=v∧M=[SuiteR sp ([])]):=by
 refine Fi 4 Tryz.func39 fun g R=>?_
 refine Ww [] [Al R] ?_
 refine Sn (Qa (k:=Nl [(0,.pointer none)] ?_))
 refine Sn (Ru (OpRun.makeMapK rfl) ?_)
 rintro _ _ ⟨b1,rfl,rfl⟩
 refine Qu (OpQ.build (qs:=[(4,.map (some b1))]) (v:=.agg #[.bool false,N0,vint 0,N0,.map (some b1)]) rfl ⟨rfl,rfl,trivial⟩ (fun _=>by kernel_rfl)) (k:=?_)
 refine Ru (OpRun.box rfl rfl rfl) ?_
 rintro _ _ ⟨b2,rfl,rfl⟩
 refine Qa (k:=Nw [(0,vptr b2 0)] [Cl b2 240 [.bool false,N0,vint 0,N0,.map (some b1)],Asn.known b1 ([]),Al R] ?_)
 refine W.ent (Ent.rowNil (E:=339) (sz:=5)) ?_
 refine We [Rw 339 5 (N0) ([]),Cl b2 240 [.bool false,N0,vint 0,N0,.map (some b1)],Asn.known b1 ([]),Al R] ?_
 refine W.ent (L':=[Cl b2 240 [.bool false,N0,vint 0,N0,.map (some b1)],Rw 339 5 (N0) ([]),Asn.known b1 ([]),Al R]) (es [1,0,0,0] rfl) ?_
 refine W.ent (L':=[SuiteR b2 ([]),Al R]) (Ent.rep' (N0,b1) rfl ⟨by decide,fun _ h=>by cases h⟩ rfl) ?_
 refine W.ret (ret1 (M:=[SuiteR b2 ([])]) rfl rfl (⟨b2,rfl,rfl⟩) (es [0,0] rfl))
theorem lput_fn (ns:Bytes) (vs:Bytes) (hn:ns.length≤1000) (hv:vs.length≤1000):Fn Tryz.prog 45 #[.string (⟨(ns).toArray⟩),.string (⟨(vs).toArray⟩)] [] (fun v M=>∃ (nv:Value) (vv:Value),.agg #[vint 1,vint 0,vint 0,nv,vv,vint 0,vint 0,vint 0,.slice none 0 0]=v∧M=[KB nv ns,KB vv vs]):=by
 refine Fi 10 Tryz.func45 fun g R=>?_
 refine Ww [(0,.string (⟨(ns).toArray⟩)),(1,.string (⟨(vs).toArray⟩))] [Al R] ?_
 refine Sn (Ru (OpRun.alloc rfl zv33 rfl) ?_)
 rintro _ _ ⟨b1,rfl,rfl⟩
 refine Nw [(0,.string (⟨(ns).toArray⟩)),(1,.string (⟨(vs).toArray⟩)),(4,vptr b1 0)] [Cl b1 33 [vint 0,vint 0,vint 0,N0,N0,vint 0,vint 0,vint 0,N0],Al R] ?_
 refine Sn (Qm (k:=?_))
 refine Ru (OpRun.s2b (bs:=ns) rfl rfl rfl (by first | omega | (simp; done) | (simp; omega)) s2b9_22) ?_
 rintro v2 _ ⟨h3a,h3b,h3c,rfl⟩
 refine Qm (k:=?_)
 refine Ru (OpRun.s2b (bs:=vs) rfl rfl rfl (by first | omega | (simp; done) | (simp; omega)) s2b9_22) ?_
 rintro v4 _ ⟨h5a,h5b,h5c,rfl⟩
 refine WN.fact (fun _ _ s=>row_isS (i:=1) rfl s) (fun hS6=>?_)
 refine WN.fact (fun _ _ s=>row_isS (i:=0) rfl s) (fun hS7=>?_)
 refine Qu (OpQ.build (qs:=[(0,vint 1),(3,v2),(4,v4)]) (v:=.agg #[vint 1,vint 0,vint 0,v2,v4,vint 0,vint 0,vint 0,N0]) rfl ⟨rfl,rfl,rfl,rfl,rfl,rfl,trivial⟩ (fun _=>by obtain ⟨_,_,_,e1⟩:=hS6; rw [e1]; obtain ⟨_,_,_,e2⟩:=hS7; rw [e2]; kernel_rfl)) (k:=Rn (OpRun.store (i:=2) (vs:=[vint 1,vint 0,vint 0,v2,v4,vint 0,vint 0,vint 0,N0]) (cs':=[vint 1,vint 0,vint 0,v2,v4,vint 0,vint 0,vint 0,N0]) rfl rfl rfl sz33 rfl rfl (O3 (one_cons h3b (one_cons h5b (O3 (one_cons rfl one_nil))))) rfl (Lb rfl) rfl) (k:=Nw [(4,vptr b1 0)] [Cl b1 33 [vint 1,vint 0,vint 0,v2,v4,vint 0,vint 0,vint 0,N0],Rw 5 1 v4 (bv vs),Rw 5 1 v2 (bv ns),Al R] ?_))
 refine Wr 1 fun hr8a hr8b hr8c=>?_
 try simp only [La,Lc,Ln] at hr8a
 refine Wr 2 fun hr9a hr9b hr9c=>?_
 try simp only [La,Lc,Ln] at hr9a
 refine W.freezeB (bs:=ns) (i:=2) rfl ?_
 refine W.freezeB (bs:=vs) (i:=2) rfl ?_
 refine W.ret (retC (M:=[KB v2 ns,KB v4 vs]) (i:=2) rfl rfl rfl rfl ld33 (⟨v2,v4,rfl,rfl⟩) (es [1,0,1] rfl))
theorem batch_fn (v:Value) (bs:Bytes) (i:Int) (hb:bs.length≤1000000):Fn Tryz.prog 48 #[v,vint i] [KB v bs] (fun v M=>∃ (z:Value) (b2:Bytes),Spec.batch bs i=b2∧z=v∧M=[KB z b2]):=by
 refine Fi 23 Tryz.func48 fun g R=>?_
 refine Ww [(0,v),(1,vint i)] [KB v bs,Al R] ?_
 refine Sn (Qa (k:=Nl [(0,v),(1,vint i),(4,N0)] ?_))
 refine Sn (Qm (k:=?_))
 refine Wc [.tmp 10] [v] Tryz.call65 (FDecode_fn v bs (by first | omega | (simp; done) | (simp; omega) | (simp at *; omega))) ((ed 0 rfl).trans (ep [0] rfl)) ?_
 rintro _ _ (⟨f1,lv2,sv3,h4,rfl,rfl⟩ | ⟨x5,h6,h7,rfl,rfl⟩)
 ·refine Qm (k:=Qe (k:=Qe (k:=?_)))
  refine Ru (OpRun.alloc rfl zv122 rfl) ?_
  rintro _ _ ⟨b8,rfl,rfl⟩
  refine Nf 2 fun ho9=>?_
  refine Nf 1 fun ho10=>?_
  refine Rn (OpRun.store (i:=0) (vs:=[vint f1.kind,vint f1.coll,vint f1.index,lv2,sv3]) (cs':=[vint f1.kind,vint f1.coll,vint f1.index,lv2,sv3]) rfl rfl rfl sz122 rfl rfl (O3 (one_cons ho10 (one_cons ho9 one_nil))) rfl (Lb rfl) rfl) (k:=Qa (k:=Nw [(1,vint i),(4,N0),(5,vptr b8 0)] [Cl b8 122 [vint f1.kind,vint f1.coll,vint f1.index,lv2,sv3],KS lv2 f1.links,KB sv3 f1.sum,KB v bs,Al R] ?_))
  refine Sn (Qm (k:=Qu (Of (fa122_0 _ _)) (k:=Rn (OpRun.store (i:=0) (vs:=[vint 3]) (cs':=[vint 3,vint f1.coll,vint f1.index,lv2,sv3]) rfl rfl rfl sz3 rfl rfl (one_cons rfl one_nil) rfl (Lb rfl) rfl) (k:=Qu (Of (fa122_2 _ _)) (k:=Rn (OpRun.store (i:=0) (vs:=[vint i]) (cs':=[vint 3,vint f1.coll,vint i,lv2,sv3]) rfl rfl rfl sz3 rfl rfl (one_cons rfl one_nil) rfl (Lb rfl) rfl) (k:=Nw [(4,N0),(5,vptr b8 0)] [Cl b8 122 [vint 3,vint f1.coll,vint i,lv2,sv3],KS lv2 f1.links,KB sv3 f1.sum,KB v bs,Al R] ?_))))))
  refine Sn (Qu (OpQ.loadN (i:=0) rfl rfl ld122 rfl rfl rfl) (k:=?_))
  refine Wc [.tmp 18] [.agg #[vint 3,vint f1.coll,vint i,lv2,sv3]] Tryz.call66 (FEncode_fn (⟨3,f1.coll,i,f1.links,f1.sum⟩:Frame) lv2 sv3) ((ed 1 rfl).trans ((ed 3 rfl).trans (ep [1,0] rfl))) ?_
  rintro _ _ (⟨r11,bs12,h13,h14,rfl,rfl⟩ | ⟨e15,h16,h17,rfl,rfl⟩)
  ·refine Qm (k:=Qe (k:=Qe (k:=Qa (k:=Qa (k:=Nw [(4,N0),(7,r11)] [KB r11 bs12,Cl b8 122 [vint 3,vint f1.coll,vint i,lv2,sv3],KS lv2 f1.links,KB sv3 f1.sum,KB v bs,Al R] ?_)))))
   refine Sn (Qm (k:=Qa (k:=Nl [(4,r11)] ?_)))
   refine W.ret (ret1 (M:=[KB r11 bs12]) rfl rfl (⟨r11,bs12,(by unfold Spec.batch; simp only [h4,h13]),rfl,rfl⟩) (es [0,4] rfl))
  refine Qm (k:=Qe (k:=Qe (k:=Qa (k:=Qa (k:=Nw [(4,N0),(7,N0)] [Cl b8 122 [vint 3,vint f1.coll,vint i,lv2,sv3],KS lv2 f1.links,KB sv3 f1.sum,KB v bs,Al R] ?_)))))
  refine Sn (Qm (k:=Qa (k:=Nl [(4,N0)] ?_)))
  refine W.ent (Ent.slNil (e:=Enc.u8) (T:=5)) ?_
  refine W.ent (L':=[KB (N0) ([]),Cl b8 122 [vint 3,vint f1.coll,vint i,lv2,sv3],KS lv2 f1.links,KB sv3 f1.sum,KB v bs,Al R]) (es [0,0,0,0,0,0] rfl) ?_
  refine W.ret (ret1 (M:=[KB (N0) ([])]) rfl rfl (⟨N0,[],(by unfold Spec.batch; simp only [h4,h16]),rfl,rfl⟩) (es [0,4] rfl))
 refine Qm (k:=Qe (k:=Qe (k:=?_)))
 refine Ru (OpRun.alloc rfl zv122 rfl) ?_
 rintro _ _ ⟨b18,rfl,rfl⟩
 refine Rn (OpRun.store (i:=0) (vs:=[vint 0,vint 0,vint 0,N0,N0]) (cs':=[vint 0,vint 0,vint 0,N0,N0]) rfl rfl rfl sz122 rfl rfl (O3 (one_cons rfl (one_cons rfl one_nil))) rfl (Lb rfl) rfl) (k:=Qa (k:=Nw [(1,vint i),(4,N0),(5,vptr b18 0)] [Cl b18 122 [vint 0,vint 0,vint 0,N0,N0],KB v bs,Al R] ?_))
 refine Sn (Qm (k:=Qu (Of (fa122_0 _ _)) (k:=Rn (OpRun.store (i:=0) (vs:=[vint 3]) (cs':=[vint 3,vint 0,vint 0,N0,N0]) rfl rfl rfl sz3 rfl rfl (one_cons rfl one_nil) rfl (Lb rfl) rfl) (k:=Qu (Of (fa122_2 _ _)) (k:=Rn (OpRun.store (i:=0) (vs:=[vint i]) (cs':=[vint 3,vint 0,vint i,N0,N0]) rfl rfl rfl sz3 rfl rfl (one_cons rfl one_nil) rfl (Lb rfl) rfl) (k:=Nw [(4,N0),(5,vptr b18 0)] [Cl b18 122 [vint 3,vint 0,vint i,N0,N0],KB v bs,Al R] ?_))))))
 refine Sn (Qu (OpQ.loadN (i:=0) rfl rfl ld122 rfl rfl rfl) (k:=?_))
 refine WN.ent (Ent.slNil (e:=Enc.sl Enc.u8 5) (T:=22)) ?_
 refine WN.ent (Ent.slNil (e:=Enc.u8) (T:=5)) ?_
 refine Wc [.tmp 18] [.agg #[vint 3,vint 0,vint i,N0,N0]] Tryz.call66 (FEncode_fn (⟨3,0,i,[],[]⟩:Frame) (N0) (N0)) ((ed 1 rfl).trans ((ed 1 rfl).trans (ep [1,0] rfl))) ?_
 rintro _ _ (⟨r19,bs20,h21,h22,rfl,rfl⟩ | ⟨e23,h24,h25,rfl,rfl⟩)
 ·refine Qm (k:=Qe (k:=Qe (k:=Qa (k:=Qa (k:=Nw [(4,N0),(7,r19)] [KB r19 bs20,KB (N0) ([]),KS (N0) ([]),Cl b18 122 [vint 3,vint 0,vint i,N0,N0],KB v bs,Al R] ?_)))))
  refine Sn (Qm (k:=Qa (k:=Nl [(4,r19)] ?_)))
  refine W.ret (ret1 (M:=[KB r19 bs20]) rfl rfl (⟨r19,bs20,(by unfold Spec.batch; simp only [h6,h21]),rfl,rfl⟩) (es [0,4] rfl))
 refine Qm (k:=Qe (k:=Qe (k:=Qa (k:=Qa (k:=Nw [(4,N0),(7,N0)] [KB (N0) ([]),KS (N0) ([]),Cl b18 122 [vint 3,vint 0,vint i,N0,N0],KB v bs,Al R] ?_)))))
 refine Sn (Qm (k:=Qa (k:=Nl [(4,N0)] ?_)))
 refine W.ent (Ent.slNil (e:=Enc.u8) (T:=5)) ?_
 refine W.ent (L':=[KB (N0) ([]),KB (N0) ([]),KS (N0) ([]),Cl b18 122 [vint 3,vint 0,vint i,N0,N0],KB v bs,Al R]) (es [0,0,0,0,0,0] rfl) ?_
 refine W.ret (ret1 (M:=[KB (N0) ([])]) rfl rfl (⟨N0,[],(by unfold Spec.batch; simp only [h6,h24]),rfl,rfl⟩) (es [0,4] rfl))
theorem SmallEntry_fn (e:Entry) (nv:Value) (vv:Value) (wv:Value):Fn Tryz.prog 35 #[.agg #[vint e.kind,vint e.writer,vint e.seq,nv,vv,vint e.who,vint e.rights,vint e.epoch,wv]] [KB nv e.name,KB vv e.value,KW wv e.wraps] (fun v M=>∃ (bb:Bool),.bool bb=v∧M=[]):=by
 refine Fi 33 Tryz.func35 fun g R=>?_
 refine Ww [(0,.agg #[vint e.kind,vint e.writer,vint e.seq,nv,vv,vint e.who,vint e.rights,vint e.epoch,wv])] [KB nv e.name,KB vv e.value,KW wv e.wraps,Al R] ?_
 refine Sn (Ru (OpRun.box rfl rfl rfl) ?_)
 rintro _ _ ⟨b1,rfl,rfl⟩
 refine Qa (k:=Nw [(1,vptr b1 0),(2,.bool false)] [Cl b1 33 (ecs e nv vv wv),KB nv e.name,KB vv e.value,KW wv e.wraps,Al R] ?_)
 refine W.seq (Sn (Qu (Of (fa33_8 _ _)) (k:=?_)))
 refine Qu (Ol 0 ld31) (k:=?_)
 refine Nk 3 fun hl2=>?_
 refine Qu (OpQ.lenSl (i:=3) rfl rfl rfl (len31 _)) (k:=Qm (k:=Nl [(1,vptr b1 0),(2,.bool false),(6,wv),(7,vint (e.wraps.length:Int)),(8,vint 0)] ?_))
 refine W.block (W.opens Opens.sl (i:=3) rfl (fun f3 _=>?_))
 refine We [Ka 227 2 wv e.wraps.length f3,Kr Enc.wrap f3 e.wraps,Cl b1 33 (ecs e nv vv wv),KB nv e.name,KB vv e.value,Al R] ?_
 refine W.loop (X:=Nat) (fun k=>[(1,vptr b1 0),(6,wv),(7,vint (e.wraps.length:Int)),(8,vint (k:Int))]) (fun k=>[Asn.pure (k≤e.wraps.length),Ka 227 2 wv e.wraps.length f3,Kr Enc.wrap f3 e.wraps,Cl b1 33 (ecs e nv vv wv),KB nv e.name,KB vv e.value,Al R]) (fun k=>e.wraps.length - k) 0 ⟨rfl,rfl,rfl,rfl,trivial⟩ ((es [0,0,0,0,0,0] rfl).trans (Ent.pure_in (by omega))) (fun x=>?_)
 obtain ⟨k,rfl⟩:∃ y,y=x:=⟨x,rfl⟩
 show W _ _ _ _ _ [(1,vptr b1 0),(6,wv),(7,vint (e.wraps.length:Int)),(8,vint (k:Int))] [Asn.pure (k≤e.wraps.length),Ka 227 2 wv e.wraps.length f3,Kr Enc.wrap f3 e.wraps,Cl b1 33 (ecs e nv vv wv),KB nv e.name,KB vv e.value,Al R]
 refine W.opens Opens.pure (i:=0) rfl (fun _ hI4=>?_)
 replace hI4:=hI4
 show W _ _ _ _ _ [(1,vptr b1 0),(6,wv),(7,vint (e.wraps.length:Int)),(8,vint (k:Int))] [Ka 227 2 wv e.wraps.length f3,Kr Enc.wrap f3 e.wraps,Cl b1 33 (ecs e nv vv wv),KB nv e.name,KB vv e.value,Al R]
 refine Sn (Qu (OpQ.lss rfl rfl rfl) (k:=Nl [(1,vptr b1 0),(6,wv),(7,vint (e.wraps.length:Int)),(8,vint (k:Int)),(9,.bool (decide ((k:Int) < (e.wraps.length:Int))))] ?_))
 refine W.seq (Cp rfl (fun h5=>?_) (fun h5=>?_))
 ·refine W.skip (thn_n (Wl [(1,vptr b1 0),(6,wv),(7,vint (e.wraps.length:Int)),(8,vint (k:Int))] ?_))
  refine W.seq (W.block (Sn (WN.opens (Opens.wrap (xs:=e.wraps) (i:=k) (by omega)) (i:=1) rfl (fun z he6=>?_))))
  refine Ne [KB z ((e.wraps.getD k default).box),Kr Enc.wrap f3 e.wraps,Ka 227 2 wv e.wraps.length f3,Cl b1 33 (ecs e nv vv wv),KB nv e.name,KB vv e.value,Al R] (Qu (OpQ.indexAddr (i:=2) (j:=k*2) rfl rfl rfl rfl (by omega) (by omega) (by omega) ix31) (k:=Qu (OpQ.loadSubN (i:=2) rfl rfl rfl he6 rfl (by omega) (by decide) ld227) (k:=?_)))
  refine Ru (OpRun.alloc rfl zv227 rfl) ?_
  rintro _ _ ⟨b7,rfl,rfl⟩
  refine Nf 1 fun ho8=>?_
  refine Rn (OpRun.store (i:=0) (vs:=[vint ((e.wraps.getD k default).who),z]) (cs':=[vint ((e.wraps.getD k default).who),z]) rfl rfl rfl sz227 rfl rfl (one_cons rfl (one_cons ho8 one_nil)) rfl (Lb rfl) rfl) (k:=Nw [(1,vptr b1 0),(4,vptr b7 0),(6,wv),(7,vint (e.wraps.length:Int)),(8,vint (k:Int))] [Cl b7 227 [vint ((e.wraps.getD k default).who),z],KB z ((e.wraps.getD k default).box),Kr Enc.wrap f3 e.wraps,Ka 227 2 wv e.wraps.length f3,Cl b1 33 (ecs e nv vv wv),KB nv e.name,KB vv e.value,Al R] ?_)
  refine Sn (Qu (Of (fa227_1 _ _)) (k:=Qu (Ol 0 ld22) (k:=?_)))
  refine Nk 1 fun hl9=>?_
  refine Qu (OpQ.lenSl (i:=1) rfl rfl rfl (len22 _)) (k:=Qu (OpQ.gtr rfl rfl rfl) (k:=Nl [(1,vptr b1 0),(6,wv),(7,vint (e.wraps.length:Int)),(8,vint (k:Int)),(15,.bool (decide ((((e.wraps.getD k default).box).length:Int) > 100)))] ?_))
  refine Cp rfl (fun h10=>?_) (fun h10=>?_)
  ·refine Sn (Qa (k:=Nl [(1,vptr b1 0),(2,.bool false),(6,wv),(7,vint (e.wraps.length:Int)),(8,vint (k:Int))] ?_))
   refine W.ret (inblk_r (thn_r (thn_r (inblk_r (thn_r (ret1 (M:=[]) rfl rfl (⟨false,rfl,rfl⟩) (es [7] rfl)))))))
  refine W.skip (inblk_n (thn_n (Wl [(1,vptr b1 0),(6,wv),(7,vint (e.wraps.length:Int)),(8,vint (k:Int))] ?_)))
  refine W.region (Qu (OpQ.add rfl rfl rfl ⟨by omega,by omega⟩) (k:=?_))
  refine Qm (k:=?_)
  refine WN.nil (thn_n ⟨(k+1),by (show e.wraps.length - (k+1) < e.wraps.length - k); omega,⟨rfl,rfl,rfl,(Eq.trans (b:=some (vint ((k:Int)+1))) rfl (by first | rfl | (congr 2; omega))),trivial⟩,?_⟩)
  exact (es [3,2,2,2,2,2] rfl).trans (Ent.pure_in (by omega))
 refine W.exit (thn_x (thn_x (inblk_x (thn_n (Wl [(1,vptr b1 0)] ?_)))))
 refine Sn (Qu (Of (fa33_3 _ _)) (k:=Qu (Ol 2 ld22) (k:=?_)))
 refine Nk 3 fun hl11=>?_
 refine Qu (OpQ.lenSl (i:=3) rfl rfl rfl (len22 _)) (k:=?_)
 by_cases h12:(e.name.length:Int)≤100
 ·refine Qu (OpQ.decT (OpQ.leq rfl rfl rfl) h12) (k:=Qm (k:=Qu (Of (fa33_4 _ _)) (k:=Qu (Ol 2 ld22) (k:=?_))))
  refine Nk 4 fun hl13=>?_
  refine Qu (OpQ.lenSl (i:=4) rfl rfl rfl (len22 _)) (k:=Qu (OpQ.leq rfl rfl rfl) (k:=?_))
  by_cases h14:(e.value.length:Int)≤600
  ·refine Qu (OpQ.decT (OpQ.pickT rfl rfl rfl) h14) (k:=Qm (k:=Qu (Of (fa33_8 _ _)) (k:=Qu (Ol 2 ld31) (k:=?_))))
   refine WN.fact (fun _ _ s=>(slat_facts (i:=0) rfl s).2.1) (fun hl15=>?_)
   refine Qu (OpQ.lenAt (i:=0) rfl rfl rfl (len31 _)) (k:=Qu (OpQ.leq rfl rfl rfl) (k:=Qt (k:=Qa (k:=Nl [(2,.bool (decide ((e.wraps.length:Int)≤20)))] ?_))))
   refine W.ret (ret1 (M:=[]) rfl rfl (⟨(decide ((e.wraps.length:Int)≤20)),rfl,rfl⟩) (es [5] rfl))
  refine Qu (OpQ.decF (OpQ.pickT rfl rfl rfl) h14) (k:=Qm (k:=Qs (k:=Qs (k:=Qs (k:=Qs (k:=Qf (k:=Qa (k:=Nl [(2,.bool false)] ?_))))))))
  refine W.ret (ret1 (M:=[]) rfl rfl (⟨false,rfl,rfl⟩) (es [5] rfl))
 refine Qu (OpQ.decF (OpQ.leq rfl rfl rfl) h12) (k:=Qm (k:=Qs (k:=Qs (k:=Qs (k:=Qs (k:=Qf (k:=Qm (k:=Qs (k:=Qs (k:=Qs (k:=Qs (k:=Qf (k:=Qa (k:=?_))))))))))))))
 refine Nl [(2,.bool false)] ?_
 refine W.ret (ret1 (M:=[]) rfl rfl (⟨false,rfl,rfl⟩) (es [5] rfl))
end Go.Lk
open Go.Proofs
set_option maxRecDepth 8000
namespace Go.Lk
open Asn renaming cells→Cl,row→Rw,kn→Kk,all→Al
theorem sz38:∀ (w:World),(sizeOf 38).run Tryz.prog w = .ok 1 w:=fun _=>by kernel_rfl
theorem ix76:∀ (a:Addr) (m c:Nat) (p:Int) (w:World),0≤p→p < m→(Instr.indexAt 76 (.slice (some a) m c) (vint p)).run Tryz.prog w = .ok (.pointer (some (a.add (p.toNat*1)))) w:=run_indexAt_slice Tryz.runUnderlying76 sz38
theorem ld38:∀ (a:Addr) (w:World),(loadVar 38 a).run Tryz.prog w=(Go.load a).run Tryz.prog w:=fun _ _=>by kernel_rfl
theorem len76 (ty:TypeId):∀ (a:Option Addr) (n c:Nat) (w:World),(Builtin.len_ #[76] ty #[.slice a n c]).run Tryz.prog w = .ok (vint n) w:=fun _ _ _ _=>by kernel_rfl
theorem anchor_fn:Fn Tryz.prog 33 #[] [] (fun v M=>.bool true=v∧M=[]):=by
 refine Fi 114 Tryz.func33 fun g R=>?_
 refine Ww [] [Al R] ?_
 refine Sn (Qa (k:=Nl [(0,.bool false)] ?_))
 refine Sn (WN.call rfl rfl (OpCall.mk (xs:=[]) (vs:=[]) rfl trivial Tryz.call39) (Signs_fn) (ep [] rfl) ?_)
 rintro _ _ ⟨sp1,rfl,rfl⟩
 refine Qu (OpQ.build (qs:=[(0,vint 1),(1,vint 1),(2,vint 1)]) (v:=.agg #[vint 1,vint 1,vint 1,N0]) rfl ⟨rfl,rfl,rfl,rfl,rfl,rfl,trivial⟩ (fun _=>by kernel_rfl)) (k:=?_)
 refine WN.ent (Ent.slNil (e:=Enc.u8) (T:=5)) ?_
 refine Wc [.tmp 12,.tmp 13] [vptr sp1 0,.agg #[vint 1,vint 1,vint 1,N0]] Tryz.call38 (clientNew_fn sp1 ([]) 1 1 1 (N0) ([]) (by first | omega | (simp; done) | (simp; omega) | (simp at *; omega)) (by first | omega | (simp; done) | (simp; omega) | (simp at *; omega))) ((ed 0 rfl).trans (ep [2,0] rfl)) ?_
 rintro _ _ (⟨cl2,c3,A4,h5,h6,rfl,rfl⟩ | ⟨h7,rfl,rfl⟩)
 ·refine Qm (k:=Qe (k:=Qe (k:=Qa (k:=Qa (k:=Nw [(0,.bool false),(1,vptr cl2 0),(2,vint 0)] [ClientR cl2 sp1 c3,SuiteR sp1 A4,KB (N0) ([]),Al R] ?_)))))
  refine W.seq (W.seq (W.region ?_))
  obtain ⟨rfl,rfl⟩:=Spec.an_n h5; have hc0:Spec.anC.2.length≤2:=Lb (by kernel_rfl)
  refine Qm (k:=Qu (OpQ.decF (OpQ.neq rfl rfl rfl) (by decide)) (k:=Qm (k:=Qm (k:=Qu (OpQ.bin' (u:=vptr cl2 0) (v:=.pointer none) (r:=.bool false) rfl rfl rfl (fun _=>by kernel_rfl) (fun _=>by kernel_rfl)) (k:=Qf (k:=Qm (k:=Qm (k:=?_))))))))
  refine Wc [.const (.string ⟨#[97]⟩),.const (.string ⟨#[120]⟩)] [.string (⟨([97]:Bytes).toArray⟩),.string (⟨([120]:Bytes).toArray⟩)] Tryz.call45 (lput_fn ([97]:Bytes) ([120]:Bytes) (by first | omega | (simp; done) | (simp; omega) | (simp at *; omega)) (by first | omega | (simp; done) | (simp; omega) | (simp at *; omega))) (ep [] rfl) ?_
  rintro _ _ ⟨nv8,vv9,rfl,rfl⟩
  refine WN.ent (Ent.slNil (e:=Enc.wrap) (T:=227)) ?_
  refine Wc [.tmp 24,.tmp 25] [vptr cl2 0,.agg #[vint 1,vint 0,vint 0,nv8,vv9,vint 0,vint 0,vint 0,N0]] Tryz.call36 (Issue_fn cl2 sp1 Spec.anD (⟨1,0,0,([97]:Bytes),([120]:Bytes),0,0,0,[]⟩:Entry) nv8 vv9 (N0) Spec.anC.2 (by first | omega | (simp; done) | (simp; omega) | (simp at *; omega))) ((ed 1 rfl).trans ((ed 3 rfl).trans ((ed 2 rfl).trans (ep [6,6,2,1,0] rfl)))) ?_
  rintro _ _ ⟨x10,c11,A12,h13,h14,rfl,rfl⟩
  obtain ⟨rfl,rfl,rfl⟩:=Spec.an_i h13; have hyp:=Spec.an_hyps
  refine Qu (OpQ.neq rfl rfl rfl) (k:=Qu (OpQ.decF (OpQ.pickF rfl rfl rfl) (by decide)) (k:=Qm (k:=Qm (k:=?_))))
  refine WN.opens Opens.rep (i:=0) rfl (fun x15 hcf15=>?_)
  obtain ⟨sv15,rp15,pv15,pcs15⟩:=x15
  refine Ne [Cl cl2 230 (ccs sp1 Spec.anI.2.1 sv15 rp15 pv15),KB sv15 Spec.anI.2.1.rep.secret,ReplayR rp15 sp1 Spec.anI.2.1.rep,Rw 236 10 pv15 pcs15,Kx Enc.waits pcs15 Spec.anI.2.1.pend,SuiteR sp1 Spec.anI.2.2,KW (N0) ([]),KB nv8 ([97]:Bytes),KB vv9 ([120]:Bytes),KB (N0) ([]),Al R] ?_
  replace hcf15:Spec.anI.2.1.fine:=hcf15
  refine Wc [.tmp 30] [vptr cl2 0] Tryz.call40 (Tally_fn cl2 sp1 Spec.anI.2.1 sv15 rp15 pv15 pcs15 (by assumption)) ((ed 1 rfl).trans ((ed 5 rfl).trans (ep [2,1,2,2,0] rfl))) ?_
  rintro _ _ ⟨rfl,rfl⟩
  rw [Spec.an_tal1]
  refine Qu (OpQ.bin' (u:=.complex .f64 0 4607182418800017408) (v:=.complex .f64 0 4607182418800017408) (r:=.bool false) rfl rfl rfl (fun _=>by kernel_rfl) (fun _=>by kernel_rfl)) (k:=Qf (k:=Nw [(0,.bool false),(1,vptr cl2 0),(33,.bool false)] [Cl cl2 230 (ccs sp1 Spec.anI.2.1 sv15 rp15 pv15),KB sv15 Spec.anI.2.1.rep.secret,ReplayR rp15 sp1 Spec.anI.2.1.rep,Rw 236 10 pv15 pcs15,Kx Enc.waits pcs15 Spec.anI.2.1.pend,KB sv15 Spec.anI.2.1.rep.secret,Kx Enc.waits pcs15 Spec.anI.2.1.pend,SuiteR sp1 Spec.anI.2.2,KW (N0) ([]),KB nv8 ([97]:Bytes),KB vv9 ([120]:Bytes),KB (N0) ([]),Al R] ?_))
  refine W.condF rfl ?_
  refine W.skip (thn_n (Wl [(0,.bool false),(1,vptr cl2 0)] ?_))
  refine Sn (Qm (k:=?_))
  refine Wc [.tmp 35] [vptr cl2 0] Tryz.call64 (See_fn cl2 sp1 Spec.anI.2.1 sv15 rp15 pv15 pcs15 (by assumption)) ((ed 1 rfl).trans ((ed 5 rfl).trans (ep [2,1,2,2,0] rfl))) ?_
  rintro _ _ ⟨p16,mz17,dq18,d19,h20,h21,rfl,rfl⟩
  refine Qm (k:=Qe (k:=Qe (k:=?_)))
  refine Ru (OpRun.alloc rfl zv53 rfl) ?_
  rintro _ _ ⟨b22,rfl,rfl⟩
  refine Nf 1 fun ho23=>?_
  refine Rn (OpRun.store (i:=0) (vs:=[vint p16.founder,vint p16.epoch,mz17]) (cs':=[vint p16.founder,vint p16.epoch,mz17]) rfl rfl rfl sz53 rfl rfl (one_cons rfl (one_cons rfl (one_cons ho23 one_nil))) rfl (Lb rfl) rfl) (k:=Qa (k:=Nw [(0,.bool false),(1,vptr cl2 0),(4,vptr dq18 0)] [Cl b22 53 [vint p16.founder,vint p16.epoch,mz17],KM mz17 p16.members,DocsR dq18 d19,Cl cl2 230 (ccs sp1 Spec.anI.2.1 sv15 rp15 pv15),KB sv15 Spec.anI.2.1.rep.secret,ReplayR rp15 sp1 Spec.anI.2.1.rep,Rw 236 10 pv15 pcs15,Kx Enc.waits pcs15 Spec.anI.2.1.pend,KB sv15 Spec.anI.2.1.rep.secret,Kx Enc.waits pcs15 Spec.anI.2.1.pend,KB sv15 Spec.anI.2.1.rep.secret,Kx Enc.waits pcs15 Spec.anI.2.1.pend,SuiteR sp1 Spec.anI.2.2,KW (N0) ([]),KB nv8 ([97]:Bytes),KB vv9 ([120]:Bytes),KB (N0) ([]),Al R] ?_))
  refine W.seq (W.region ?_)
  obtain ⟨hg1,hg2⟩:=Spec.an_see1 h20; have hgl:=congrArg List.length hg2; simp only [List.length_cons,List.length_nil] at hgl
  refine Qm (k:=?_)
  refine Ru (OpRun.buildSlice (qs:=[(0,.int .u8 97)]) (cs:=bv [97]) (E:=5) (sz:=1) rfl ⟨rfl,rfl,trivial⟩ (fun _=>by kernel_rfl) (bv_one _) rfl (by decide)) ?_
  rintro v24 _ ⟨h25a,h25b,h25c,rfl⟩
  refine Ru (OpRun.convMark (i:=0) rfl rfl rfl rfl h25a cm22_22) ?_
  rintro _ _ ⟨rfl,rfl⟩
  refine WN.freezeB (bs:=([97])) (i:=0) rfl ?_
  refine Wc [.tmp 40,.tmp 42] [vptr dq18 0,v24] Tryz.call103 (docsGet_fn dq18 d19 v24 ([97]) (by first | omega | (simp; done) | (simp; omega) | (simp at *; omega))) ((ed 0 rfl).trans (ep [4,0] rfl)) ?_
  rintro _ _ ⟨z26,rfl,rfl⟩
  refine Qm (k:=Qe (k:=Qe (k:=Qa (k:=Qa (k:=Nw [(0,.bool false),(1,vptr cl2 0),(5,z26),(6,.bool ((Spec.dget d19 ([97])).isSome))] [KB z26 ((Spec.dget d19 ([97])).getD []),DocsR dq18 d19,KB v24 ([97]),Cl b22 53 [vint p16.founder,vint p16.epoch,mz17],KM mz17 p16.members,Cl cl2 230 (ccs sp1 Spec.anI.2.1 sv15 rp15 pv15),KB sv15 Spec.anI.2.1.rep.secret,ReplayR rp15 sp1 Spec.anI.2.1.rep,Rw 236 10 pv15 pcs15,Kx Enc.waits pcs15 Spec.anI.2.1.pend,KB sv15 Spec.anI.2.1.rep.secret,Kx Enc.waits pcs15 Spec.anI.2.1.pend,KB sv15 Spec.anI.2.1.rep.secret,Kx Enc.waits pcs15 Spec.anI.2.1.pend,SuiteR sp1 Spec.anI.2.2,KW (N0) ([]),KB nv8 ([97]:Bytes),KB vv9 ([120]:Bytes),KB (N0) ([]),Al R] ?_)))))
  refine Sn (Qm (k:=?_))
  refine WN.ent (L':=[Cl cl2 230 (ccs sp1 Spec.anI.2.1 sv15 rp15 pv15),KB sv15 Spec.anI.2.1.rep.secret,ReplayR rp15 sp1 Spec.anI.2.1.rep,Rw 236 10 pv15 pcs15,Kx Enc.waits pcs15 Spec.anI.2.1.pend,KB z26 ((Spec.dget d19 ([97])).getD []),DocsR dq18 d19,KB v24 ([97]),Cl b22 53 [vint p16.founder,vint p16.epoch,mz17],KM mz17 p16.members,KB sv15 Spec.anI.2.1.rep.secret,Kx Enc.waits pcs15 Spec.anI.2.1.pend,KB sv15 Spec.anI.2.1.rep.secret,Kx Enc.waits pcs15 Spec.anI.2.1.pend,SuiteR sp1 Spec.anI.2.2,KW (N0) ([]),KB nv8 ([97]:Bytes),KB vv9 ([120]:Bytes),KB (N0) ([]),Al R]) (es [5,5,5,5,5,0,0,0,0,0,0,0,0,0,0,0,0,0,0,0] rfl) ?_
  refine WN.ent (L':=[ClientR cl2 sp1 Spec.anI.2.1,KB z26 ((Spec.dget d19 ([97])).getD []),DocsR dq18 d19,KB v24 ([97]),Cl b22 53 [vint p16.founder,vint p16.epoch,mz17],KM mz17 p16.members,KB sv15 Spec.anI.2.1.rep.secret,Kx Enc.waits pcs15 Spec.anI.2.1.pend,KB sv15 Spec.anI.2.1.rep.secret,Kx Enc.waits pcs15 Spec.anI.2.1.pend,SuiteR sp1 Spec.anI.2.2,KW (N0) ([]),KB nv8 ([97]:Bytes),KB vv9 ([120]:Bytes),KB (N0) ([]),Al R]) (Ent.rep' (sv15,rp15,pv15,pcs15) rfl (by assumption) rfl) ?_
  refine Wc [.tmp 47] [vptr cl2 0] Tryz.call37 (Push_fn cl2 sp1 Spec.anI.2.1) (ep [0] rfl) ?_
  rintro _ _ ⟨z27,x28,outs29,h30,rfl,rfl⟩
  refine Qm (k:=?_)
  obtain ⟨rfl,rfl⟩:=Spec.an_p h30
  refine Qe (k:=Qe (k:=Qa (k:=Qa (k:=Nw [(0,.bool false),(1,vptr cl2 0),(5,z26),(6,.bool ((Spec.dget d19 ([97])).isSome)),(7,z27),(8,vint 0)] [KS z27 Spec.anP.1,ClientR cl2 sp1 Spec.anI.2.1,KB z26 ((Spec.dget d19 ([97])).getD []),DocsR dq18 d19,KB v24 ([97]),Cl b22 53 [vint p16.founder,vint p16.epoch,mz17],KM mz17 p16.members,KB sv15 Spec.anI.2.1.rep.secret,Kx Enc.waits pcs15 Spec.anI.2.1.pend,KB sv15 Spec.anI.2.1.rep.secret,Kx Enc.waits pcs15 Spec.anI.2.1.pend,SuiteR sp1 Spec.anI.2.2,KW (N0) ([]),KB nv8 ([97]:Bytes),KB vv9 ([120]:Bytes),KB (N0) ([]),Al R] ?_))))
  refine W.seq (W.seq (W.region ?_))
  obtain ⟨hg1,hg2⟩:=Spec.an_see1 h20; rw [hg1,hg2]
  refine Qm (k:=Qu (OpQ.not rfl rfl) (k:=Qm (k:=Qm (k:=Qu (OpQ.b2s (i:=2) rfl rfl rfl b2s22_9) (k:=Qu (OpQ.strNeq (a:=([120])) (b:=([120]:Bytes)) rfl rfl rfl) (k:=?_))))))
  by_cases h31:([120])≠([120]:Bytes)
  ·refine Qu (OpQ.decT (OpQ.pickF rfl rfl rfl) h31) (k:=Qm (k:=Qs (k:=Qs (k:=Qt (k:=Qm (k:=Qs (k:=Qs (k:=Qs (k:=Qt (k:=Qm (k:=Qs (k:=Qs (k:=Qs (k:=?_))))))))))))))
   refine Qs (k:=Qs (k:=Qt (k:=Nw [(0,.bool false),(1,vptr cl2 0),(7,z27),(73,.bool true)] [KS z27 Spec.anP.1,ClientR cl2 sp1 Spec.anI.2.1,KB z26 ([120]),DocsR dq18 d19,KB v24 ([97]),Cl b22 53 [vint p16.founder,vint p16.epoch,mz17],KM mz17 p16.members,KB sv15 Spec.anI.2.1.rep.secret,Kx Enc.waits pcs15 Spec.anI.2.1.pend,KB sv15 Spec.anI.2.1.rep.secret,Kx Enc.waits pcs15 Spec.anI.2.1.pend,SuiteR sp1 Spec.anI.2.2,KW (N0) ([]),KB nv8 ([97]:Bytes),KB vv9 ([120]:Bytes),KB (N0) ([]),Al R] ?_)))
   refine W.condT rfl ?_
   refine Sn (Qa (k:=Nl [(0,.bool false),(1,vptr cl2 0),(7,z27)] ?_))
   refine W.ret (thn_r (ret1 (M:=[]) rfl rfl (⟨(by first | rfl | exact bool_dec (by omega) | exact bool_F (by omega) | exact bool_T (by omega) | exact (bool_dec (by omega)).symm | exact (bool_F (by omega)).symm | exact (bool_T (by omega)).symm | simp [*]),rfl⟩) (es [16] rfl)))
  refine Qu (OpQ.decF (OpQ.pickF rfl rfl rfl) h31) (k:=Qm (k:=Qm (k:=Qu (OpQ.neq rfl rfl rfl) (k:=Qu (OpQ.decF (OpQ.pickF rfl rfl rfl) (by decide)) (k:=Qm (k:=Qm (k:=?_)))))))
  refine Nk 0 fun hl32=>?_
  refine Qu (OpQ.lenSl (i:=0) rfl rfl rfl (len30 _)) (k:=Qu (OpQ.neq rfl rfl rfl) (k:=?_))
  by_cases h33:(Spec.anP.1.length:Int)≠1
  ·refine Qu (OpQ.decT (OpQ.pickF rfl rfl rfl) h33) (k:=Qm (k:=Qs (k:=Qs (k:=Qs (k:=Qs (k:=Qs (k:=Qt (k:=Nw [(0,.bool false),(1,vptr cl2 0),(7,z27),(73,.bool true)] [KS z27 Spec.anP.1,ClientR cl2 sp1 Spec.anI.2.1,KB z26 ([120]),DocsR dq18 d19,KB v24 ([97]),Cl b22 53 [vint p16.founder,vint p16.epoch,mz17],KM mz17 p16.members,KB sv15 Spec.anI.2.1.rep.secret,Kx Enc.waits pcs15 Spec.anI.2.1.pend,KB sv15 Spec.anI.2.1.rep.secret,Kx Enc.waits pcs15 Spec.anI.2.1.pend,SuiteR sp1 Spec.anI.2.2,KW (N0) ([]),KB nv8 ([97]:Bytes),KB vv9 ([120]:Bytes),KB (N0) ([]),Al R] ?_))))))))
   refine W.condT rfl ?_
   refine Sn (Qa (k:=Nl [(0,.bool false),(1,vptr cl2 0),(7,z27)] ?_))
   refine W.ret (thn_r (ret1 (M:=[]) rfl rfl (⟨(by first | rfl | exact bool_dec (by omega) | exact bool_F (by omega) | exact bool_T (by omega) | exact (bool_dec (by omega)).symm | exact (bool_F (by omega)).symm | exact (bool_T (by omega)).symm | simp [*]),rfl⟩) (es [16] rfl)))
  refine Qu (OpQ.decF (OpQ.pickF rfl rfl rfl) h33) (k:=Qm (k:=Qm (k:=?_)))
  refine WN.opens Opens.rep (i:=1) rfl (fun x34 hcf34=>?_)
  obtain ⟨sv34,rp34,pv34,pcs34⟩:=x34
  refine Ne [Cl cl2 230 (ccs sp1 Spec.anI.2.1 sv34 rp34 pv34),KB sv34 Spec.anI.2.1.rep.secret,ReplayR rp34 sp1 Spec.anI.2.1.rep,Rw 236 10 pv34 pcs34,Kx Enc.waits pcs34 Spec.anI.2.1.pend,KS z27 Spec.anP.1,KB z26 ([120]),DocsR dq18 d19,KB v24 ([97]),Cl b22 53 [vint p16.founder,vint p16.epoch,mz17],KM mz17 p16.members,KB sv15 Spec.anI.2.1.rep.secret,Kx Enc.waits pcs15 Spec.anI.2.1.pend,KB sv15 Spec.anI.2.1.rep.secret,Kx Enc.waits pcs15 Spec.anI.2.1.pend,SuiteR sp1 Spec.anI.2.2,KW (N0) ([]),KB nv8 ([97]:Bytes),KB vv9 ([120]:Bytes),KB (N0) ([]),Al R] ?_
  replace hcf34:Spec.anI.2.1.fine:=hcf34
  refine Wc [.tmp 68] [vptr cl2 0] Tryz.call80 (cReplay_fn cl2 sp1 Spec.anI.2.1 sv34 rp34 pv34 pcs34) ((ed 1 rfl).trans ((ed 5 rfl).trans (ep [2,1,2,2,0] rfl))) ?_
  rintro _ _ ⟨rfl,rfl⟩
  refine Wc [.tmp 69] [vptr rp34 0] Tryz.call31 (repDocs_fn rp34 sp1 Spec.anI.2.1.rep) (ep [2] rfl) ?_
  rintro _ _ ⟨dq35,rfl,rfl⟩
  refine Wc [.tmp 70] [vptr dq35 0] Tryz.call50 (docsLen_fn dq35 Spec.anI.2.1.rep.docs) (ep [0] rfl) ?_
  rintro _ _ ⟨rfl,rfl⟩
  refine Qu (OpQ.neq rfl rfl rfl) (k:=Qf (k:=Nw [(0,.bool false),(1,vptr cl2 0),(7,z27),(73,.bool (decide ((Spec.anI.2.1.rep.docs.length:Int)≠0)))] [DocsR dq35 Spec.anI.2.1.rep.docs,ReplayR rp34 sp1 Spec.anI.2.1.rep,Cl cl2 230 (ccs sp1 Spec.anI.2.1 sv34 rp34 pv34),KB sv34 Spec.anI.2.1.rep.secret,Rw 236 10 pv34 pcs34,Kx Enc.waits pcs34 Spec.anI.2.1.pend,KB sv34 Spec.anI.2.1.rep.secret,Kx Enc.waits pcs34 Spec.anI.2.1.pend,KS z27 Spec.anP.1,KB z26 ([120]),DocsR dq18 d19,KB v24 ([97]),Cl b22 53 [vint p16.founder,vint p16.epoch,mz17],KM mz17 p16.members,KB sv15 Spec.anI.2.1.rep.secret,Kx Enc.waits pcs15 Spec.anI.2.1.pend,KB sv15 Spec.anI.2.1.rep.secret,Kx Enc.waits pcs15 Spec.anI.2.1.pend,SuiteR sp1 Spec.anI.2.2,KW (N0) ([]),KB nv8 ([97]:Bytes),KB vv9 ([120]:Bytes),KB (N0) ([]),Al R] ?_))
  refine Cp rfl (fun h36=>?_) (fun h36=>?_)
  ·refine Sn (Qa (k:=Nl [(0,.bool false),(1,vptr cl2 0),(7,z27)] ?_))
   refine Wr 4 fun hr37a hr37b hr37c=>?_
   try simp only [La,Lc,Ln] at hr37a
   refine W.ret (thn_r (ret1 (M:=[]) rfl rfl (⟨(by first | rfl | exact bool_dec (by omega) | exact bool_F (by omega) | exact bool_T (by omega) | exact (bool_dec (by omega)).symm | exact (bool_F (by omega)).symm | exact (bool_T (by omega)).symm | simp [*]),rfl⟩) (es [23] rfl)))
  refine W.skip (thn_n (Wl [(0,.bool false),(1,vptr cl2 0),(7,z27)] ?_))
  refine Sn (Qm (k:=Qm (k:=?_)))
  refine WN.opens Opens.sl (i:=8) rfl (fun f38 _=>?_)
  refine Ne [Ka 22 1 z27 Spec.anP.1.length f38,Kr (Enc.sl Enc.u8 5) f38 Spec.anP.1,DocsR dq35 Spec.anI.2.1.rep.docs,ReplayR rp34 sp1 Spec.anI.2.1.rep,Cl cl2 230 (ccs sp1 Spec.anI.2.1 sv34 rp34 pv34),KB sv34 Spec.anI.2.1.rep.secret,Rw 236 10 pv34 pcs34,Kx Enc.waits pcs34 Spec.anI.2.1.pend,KB sv34 Spec.anI.2.1.rep.secret,Kx Enc.waits pcs34 Spec.anI.2.1.pend,KB z26 ([120]),DocsR dq18 d19,KB v24 ([97]),Cl b22 53 [vint p16.founder,vint p16.epoch,mz17],KM mz17 p16.members,KB sv15 Spec.anI.2.1.rep.secret,Kx Enc.waits pcs15 Spec.anI.2.1.pend,KB sv15 Spec.anI.2.1.rep.secret,Kx Enc.waits pcs15 Spec.anI.2.1.pend,SuiteR sp1 Spec.anI.2.2,KW (N0) ([]),KB nv8 ([97]:Bytes),KB vv9 ([120]:Bytes),KB (N0) ([]),Al R] ?_
  have hpl:=Spec.an_push.2
  refine Qu (OpQ.indexAddr (i:=0) (j:=0) rfl rfl rfl rfl (by omega) (by omega) (by omega) ix30) (k:=?_)
  refine WN.ent (Ent.der (i:=1) (m:=Sl Enc.u8 5 (f38 0) (Spec.anP.1.getD 0 [])) rfl (elemSl (getD_some [] (by omega)))) ?_
  refine Qu (OpQ.loadE (i:=1) rfl rfl rfl (by omega) ld22) (k:=?_)
  refine Wc [.tmp 78,.const (.int .i64 0)] [f38 0,vint 0] Tryz.call48 (batch_fn (f38 0) (Spec.anP.1.getD 0 []) 0 (by first | omega | (simp; done) | (simp; omega) | (simp at *; omega))) ((ed 0 rfl).trans (ep [0] rfl)) ?_
  rintro _ _ ⟨z39,b40,h41,rfl,rfl⟩
  obtain rfl:b40=Spec.anB:=h41.symm
  refine WN.ent (L':=[Cl cl2 230 (ccs sp1 Spec.anI.2.1 sv34 rp34 pv34),KB sv34 Spec.anI.2.1.rep.secret,ReplayR rp34 sp1 Spec.anI.2.1.rep,Rw 236 10 pv34 pcs34,Kx Enc.waits pcs34 Spec.anI.2.1.pend,KB z39 Spec.anB,KB (f38 0) (Spec.anP.1.getD 0 []),Ka 22 1 z27 Spec.anP.1.length f38,Kr (Enc.sl Enc.u8 5) f38 Spec.anP.1,DocsR dq35 Spec.anI.2.1.rep.docs,KB sv34 Spec.anI.2.1.rep.secret,Kx Enc.waits pcs34 Spec.anI.2.1.pend,KB z26 ([120]),DocsR dq18 d19,KB v24 ([97]),Cl b22 53 [vint p16.founder,vint p16.epoch,mz17],KM mz17 p16.members,KB sv15 Spec.anI.2.1.rep.secret,Kx Enc.waits pcs15 Spec.anI.2.1.pend,KB sv15 Spec.anI.2.1.rep.secret,Kx Enc.waits pcs15 Spec.anI.2.1.pend,SuiteR sp1 Spec.anI.2.2,KW (N0) ([]),KB nv8 ([97]:Bytes),KB vv9 ([120]:Bytes),KB (N0) ([]),Al R]) (es [6,6,5,5,5,0,0,0,0,0,0,0,0,0,0,0,0,0,0,0,0,0,0,0,0,0,0] rfl) ?_
  refine WN.ent (L':=[ClientR cl2 sp1 Spec.anI.2.1,KB z39 Spec.anB,KB (f38 0) (Spec.anP.1.getD 0 []),Ka 22 1 z27 Spec.anP.1.length f38,Kr (Enc.sl Enc.u8 5) f38 Spec.anP.1,DocsR dq35 Spec.anI.2.1.rep.docs,KB sv34 Spec.anI.2.1.rep.secret,Kx Enc.waits pcs34 Spec.anI.2.1.pend,KB z26 ([120]),DocsR dq18 d19,KB v24 ([97]),Cl b22 53 [vint p16.founder,vint p16.epoch,mz17],KM mz17 p16.members,KB sv15 Spec.anI.2.1.rep.secret,Kx Enc.waits pcs15 Spec.anI.2.1.pend,KB sv15 Spec.anI.2.1.rep.secret,Kx Enc.waits pcs15 Spec.anI.2.1.pend,SuiteR sp1 Spec.anI.2.2,KW (N0) ([]),KB nv8 ([97]:Bytes),KB vv9 ([120]:Bytes),KB (N0) ([]),Al R]) (Ent.rep' (sv34,rp34,pv34,pcs34) rfl (by assumption) rfl) ?_
  refine Wc [.tmp 75,.tmp 79] [vptr cl2 0,z39] Tryz.call42 (Take_fn cl2 sp1 Spec.anI.2.1 z39 Spec.anB Spec.anI.2.2 (by first | omega | (simp; done) | (simp; omega) | (simp at *; omega)) (by first | omega | (simp; done) | (simp; omega) | (simp at *; omega))) ((ed 1 rfl).trans (ep [1,17,0] rfl)) ?_
  rintro _ _ ⟨x42,z43,outs44,c45,A46,h47,h48,rfl,rfl⟩
  refine Qm (k:=?_)
  obtain ⟨rfl,rfl,rfl⟩:=Spec.an_t h47
  refine Qe (k:=Qe (k:=Qa (k:=Qa (k:=Nw [(0,.bool false),(1,vptr cl2 0),(9,vint 0),(10,z43)] [Kk (Sl Enc.num 38 z43 ([0])),ClientR cl2 sp1 Spec.anT.2.2.1,SuiteR sp1 A46,KB z39 Spec.anB,KB (f38 0) (Spec.anP.1.getD 0 []),Ka 22 1 z27 Spec.anP.1.length f38,Kr (Enc.sl Enc.u8 5) f38 Spec.anP.1,DocsR dq35 Spec.anI.2.1.rep.docs,KB sv34 Spec.anI.2.1.rep.secret,Kx Enc.waits pcs34 Spec.anI.2.1.pend,KB z26 ([120]),DocsR dq18 d19,KB v24 ([97]),Cl b22 53 [vint p16.founder,vint p16.epoch,mz17],KM mz17 p16.members,KB sv15 Spec.anI.2.1.rep.secret,Kx Enc.waits pcs15 Spec.anI.2.1.pend,KB sv15 Spec.anI.2.1.rep.secret,Kx Enc.waits pcs15 Spec.anI.2.1.pend,KW (N0) ([]),KB nv8 ([97]:Bytes),KB vv9 ([120]:Bytes),KB (N0) ([]),Al R] ?_))))
  refine Sn (Qm (k:=Qu (OpQ.decT (OpQ.eql rfl rfl rfl) (by decide)) (k:=Qm (k:=Qm (k:=?_)))))
  refine Nk 0 fun hl49=>?_
  refine Qu (OpQ.lenSl (i:=0) rfl rfl rfl (len76 _)) (k:=Qu (OpQ.eql rfl rfl rfl) (k:=?_))
  by_cases h50:(([0]).length:Int)=1
  ·refine Qu (OpQ.decT (OpQ.pickT rfl rfl rfl) h50) (k:=Qm (k:=?_))
   refine WN.opens Opens.sl (i:=0) rfl (fun f51 _=>?_)
   refine Ne [Ka 38 1 z43 (([0]).length) f51,Kr Enc.num f51 ([0]),ClientR cl2 sp1 Spec.anT.2.2.1,SuiteR sp1 A46,KB z39 Spec.anB,KB (f38 0) (Spec.anP.1.getD 0 []),Ka 22 1 z27 Spec.anP.1.length f38,Kr (Enc.sl Enc.u8 5) f38 Spec.anP.1,DocsR dq35 Spec.anI.2.1.rep.docs,KB sv34 Spec.anI.2.1.rep.secret,Kx Enc.waits pcs34 Spec.anI.2.1.pend,KB z26 ([120]),DocsR dq18 d19,KB v24 ([97]),Cl b22 53 [vint p16.founder,vint p16.epoch,mz17],KM mz17 p16.members,KB sv15 Spec.anI.2.1.rep.secret,Kx Enc.waits pcs15 Spec.anI.2.1.pend,KB sv15 Spec.anI.2.1.rep.secret,Kx Enc.waits pcs15 Spec.anI.2.1.pend,KW (N0) ([]),KB nv8 ([97]:Bytes),KB vv9 ([120]:Bytes),KB (N0) ([]),Al R] (Qm (k:=Qu (OpQ.indexAddr (i:=0) (j:=0) rfl rfl rfl rfl (by omega) (by omega) (by omega) ix76) (k:=?_)))
   refine WN.opens (Opens.num (xs:=([0])) (i:=0) (by omega)) (i:=1) rfl (fun _ he52=>?_)
   refine Ne [Kr Enc.num f51 ([0]),Ka 38 1 z43 (([0]).length) f51,ClientR cl2 sp1 Spec.anT.2.2.1,SuiteR sp1 A46,KB z39 Spec.anB,KB (f38 0) (Spec.anP.1.getD 0 []),Ka 22 1 z27 Spec.anP.1.length f38,Kr (Enc.sl Enc.u8 5) f38 Spec.anP.1,DocsR dq35 Spec.anI.2.1.rep.docs,KB sv34 Spec.anI.2.1.rep.secret,Kx Enc.waits pcs34 Spec.anI.2.1.pend,KB z26 ([120]),DocsR dq18 d19,KB v24 ([97]),Cl b22 53 [vint p16.founder,vint p16.epoch,mz17],KM mz17 p16.members,KB sv15 Spec.anI.2.1.rep.secret,Kx Enc.waits pcs15 Spec.anI.2.1.pend,KB sv15 Spec.anI.2.1.rep.secret,Kx Enc.waits pcs15 Spec.anI.2.1.pend,KW (N0) ([]),KB nv8 ([97]:Bytes),KB vv9 ([120]:Bytes),KB (N0) ([]),Al R] (Qu (OpQ.loadSub (i:=1) (c:=0) rfl rfl rfl he52 (by omega) (by omega) rfl ld38) (k:=Qu (OpQ.eql rfl rfl rfl) (k:=Qu (OpQ.decT (OpQ.pickT rfl rfl rfl) (by decide)) (k:=Qm (k:=Qm (k:=?_))))))
   refine WN.opens Opens.rep (i:=2) rfl (fun x53 hcf53=>?_)
   obtain ⟨sv53,rp53,pv53,pcs53⟩:=x53
   refine Ne [Cl cl2 230 (ccs sp1 Spec.anT.2.2.1 sv53 rp53 pv53),KB sv53 Spec.anT.2.2.1.rep.secret,ReplayR rp53 sp1 Spec.anT.2.2.1.rep,Rw 236 10 pv53 pcs53,Kx Enc.waits pcs53 Spec.anT.2.2.1.pend,Kr Enc.num f51 ([0]),Ka 38 1 z43 (([0]).length) f51,SuiteR sp1 A46,KB z39 Spec.anB,KB (f38 0) (Spec.anP.1.getD 0 []),Ka 22 1 z27 Spec.anP.1.length f38,Kr (Enc.sl Enc.u8 5) f38 Spec.anP.1,DocsR dq35 Spec.anI.2.1.rep.docs,KB sv34 Spec.anI.2.1.rep.secret,Kx Enc.waits pcs34 Spec.anI.2.1.pend,KB z26 ([120]),DocsR dq18 d19,KB v24 ([97]),Cl b22 53 [vint p16.founder,vint p16.epoch,mz17],KM mz17 p16.members,KB sv15 Spec.anI.2.1.rep.secret,Kx Enc.waits pcs15 Spec.anI.2.1.pend,KB sv15 Spec.anI.2.1.rep.secret,Kx Enc.waits pcs15 Spec.anI.2.1.pend,KW (N0) ([]),KB nv8 ([97]:Bytes),KB vv9 ([120]:Bytes),KB (N0) ([]),Al R] ?_
   replace hcf53:Spec.anT.2.2.1.fine:=hcf53
   refine Wc [.tmp 97] [vptr cl2 0] Tryz.call63 (Pending_fn cl2 sp1 Spec.anT.2.2.1 sv53 rp53 pv53 pcs53 (by assumption)) ((ed 4 rfl).trans (ep [1,3,0] rfl)) ?_
   rintro _ _ ⟨z54,rfl,rfl⟩
   refine Nk 0 fun hl55=>?_
   refine Qu (OpQ.lenSl (i:=0) rfl rfl rfl (len60 _)) (k:=Qu (OpQ.eql rfl rfl rfl) (k:=?_))
   by_cases h56:((Spec.anT.2.2.1.pend.map Prod.fst).length:Int)=0
   ·refine Qu (OpQ.decT (OpQ.pickT rfl rfl rfl) h56) (k:=Qm (k:=Qm (k:=?_)))
    refine Wc [.tmp 103] [vptr cl2 0] Tryz.call40 (Tally_fn cl2 sp1 Spec.anT.2.2.1 sv53 rp53 pv53 pcs53 (by assumption)) ((ed 4 rfl).trans ((ed 4 rfl).trans (ep [3,1,5,2,0] rfl))) ?_
    rintro _ _ ⟨rfl,rfl⟩
    rw [Spec.an_tal2]
    refine Qu (OpQ.bin' (u:=.complex .f64 4607182418800017408 0) (v:=.complex .f64 4607182418800017408 0) (r:=.bool true) rfl rfl rfl (fun _=>by kernel_rfl) (fun _=>by kernel_rfl)) (k:=Qt (k:=Qm (k:=Qm (k:=?_))))
    refine Wc [.tmp 108] [vptr cl2 0] Tryz.call80 (cReplay_fn cl2 sp1 Spec.anT.2.2.1 sv53 rp53 pv53 pcs53) ((ed 1 rfl).trans ((ed 5 rfl).trans (ep [2,1,2,2,0] rfl))) ?_
    rintro _ _ ⟨rfl,rfl⟩
    refine Wc [.tmp 109] [vptr rp53 0] Tryz.call31 (repDocs_fn rp53 sp1 Spec.anT.2.2.1.rep) (ep [2] rfl) ?_
    rintro _ _ ⟨dq57,rfl,rfl⟩
    refine Wc [.tmp 110] [vptr dq57 0] Tryz.call50 (docsLen_fn dq57 Spec.anT.2.2.1.rep.docs) (ep [0] rfl) ?_
    rintro _ _ ⟨rfl,rfl⟩
    refine Qu (OpQ.eql rfl rfl rfl) (k:=Qt (k:=Qa (k:=Nw [(0,.bool (decide ((Spec.anT.2.2.1.rep.docs.length:Int)=1)))] [DocsR dq57 Spec.anT.2.2.1.rep.docs,ReplayR rp53 sp1 Spec.anT.2.2.1.rep,Cl cl2 230 (ccs sp1 Spec.anT.2.2.1 sv53 rp53 pv53),KB sv53 Spec.anT.2.2.1.rep.secret,Rw 236 10 pv53 pcs53,Kx Enc.waits pcs53 Spec.anT.2.2.1.pend,KB sv53 Spec.anT.2.2.1.rep.secret,Kx Enc.waits pcs53 Spec.anT.2.2.1.pend,KE z54 (Spec.anT.2.2.1.pend.map Prod.fst),Kx Enc.waits pcs53 Spec.anT.2.2.1.pend,KB sv53 Spec.anT.2.2.1.rep.secret,Kx Enc.waits pcs53 Spec.anT.2.2.1.pend,Kr Enc.num f51 ([0]),Ka 38 1 z43 (([0]).length) f51,SuiteR sp1 A46,KB z39 Spec.anB,KB (f38 0) (Spec.anP.1.getD 0 []),Ka 22 1 z27 Spec.anP.1.length f38,Kr (Enc.sl Enc.u8 5) f38 Spec.anP.1,DocsR dq35 Spec.anI.2.1.rep.docs,KB sv34 Spec.anI.2.1.rep.secret,Kx Enc.waits pcs34 Spec.anI.2.1.pend,KB z26 ([120]),DocsR dq18 d19,KB v24 ([97]),Cl b22 53 [vint p16.founder,vint p16.epoch,mz17],KM mz17 p16.members,KB sv15 Spec.anI.2.1.rep.secret,Kx Enc.waits pcs15 Spec.anI.2.1.pend,KB sv15 Spec.anI.2.1.rep.secret,Kx Enc.waits pcs15 Spec.anI.2.1.pend,KW (N0) ([]),KB nv8 ([97]:Bytes),KB vv9 ([120]:Bytes),KB (N0) ([]),Al R] ?_)))
    refine Wr 4 fun hr58a hr58b hr58c=>?_
    try simp only [La,Lc,Ln] at hr58a
    refine W.ret (ret1 (M:=[]) rfl rfl (⟨(by first | rfl | exact bool_dec (by omega) | exact bool_F (by omega) | exact bool_T (by omega) | exact (bool_dec (by omega)).symm | exact (bool_F (by omega)).symm | exact (bool_T (by omega)).symm | simp [*]),rfl⟩) (es [35] rfl))
   refine Qu (OpQ.decF (OpQ.pickT rfl rfl rfl) h56) (k:=Qm (k:=Qs (k:=Qs (k:=Qs (k:=Qf (k:=Qm (k:=Qs (k:=Qs (k:=Qs (k:=Qs (k:=Qs (k:=Qf (k:=Qa (k:=?_))))))))))))))
   refine Nw [(0,.bool false)] [KE z54 (Spec.anT.2.2.1.pend.map Prod.fst),Cl cl2 230 (ccs sp1 Spec.anT.2.2.1 sv53 rp53 pv53),Rw 236 10 pv53 pcs53,Kx Enc.waits pcs53 Spec.anT.2.2.1.pend,KB sv53 Spec.anT.2.2.1.rep.secret,ReplayR rp53 sp1 Spec.anT.2.2.1.rep,Kx Enc.waits pcs53 Spec.anT.2.2.1.pend,Kr Enc.num f51 ([0]),Ka 38 1 z43 (([0]).length) f51,SuiteR sp1 A46,KB z39 Spec.anB,KB (f38 0) (Spec.anP.1.getD 0 []),Ka 22 1 z27 Spec.anP.1.length f38,Kr (Enc.sl Enc.u8 5) f38 Spec.anP.1,DocsR dq35 Spec.anI.2.1.rep.docs,KB sv34 Spec.anI.2.1.rep.secret,Kx Enc.waits pcs34 Spec.anI.2.1.pend,KB z26 ([120]),DocsR dq18 d19,KB v24 ([97]),Cl b22 53 [vint p16.founder,vint p16.epoch,mz17],KM mz17 p16.members,KB sv15 Spec.anI.2.1.rep.secret,Kx Enc.waits pcs15 Spec.anI.2.1.pend,KB sv15 Spec.anI.2.1.rep.secret,Kx Enc.waits pcs15 Spec.anI.2.1.pend,KW (N0) ([]),KB nv8 ([97]:Bytes),KB vv9 ([120]:Bytes),KB (N0) ([]),Al R] ?_
   refine Wr 2 fun hr59a hr59b hr59c=>?_
   try simp only [La,Lc,Ln] at hr59a
   refine W.ret (ret1 (M:=[]) rfl rfl (⟨(by first | rfl | exact bool_dec (by omega) | exact bool_F (by omega) | exact bool_T (by omega) | exact (bool_dec (by omega)).symm | exact (bool_F (by omega)).symm | exact (bool_T (by omega)).symm | simp [*]),rfl⟩) (es [30] rfl))
  refine Qu (OpQ.decF (OpQ.pickT rfl rfl rfl) h50) (k:=Qm (k:=Qs (k:=Qs (k:=Qs (k:=Qs (k:=Qf (k:=Qm (k:=Qs (k:=Qs (k:=Qs (k:=Qs (k:=Qf (k:=Qm (k:=?_))))))))))))))
  refine Qs (k:=Qs (k:=Qs (k:=Qf (k:=Qm (k:=Qs (k:=Qs (k:=Qs (k:=Qs (k:=Qs (k:=Qf (k:=Qa (k:=Nl [(0,.bool false)] ?_))))))))))))
  refine W.ret (ret1 (M:=[]) rfl rfl (⟨(by first | rfl | exact bool_dec (by omega) | exact bool_F (by omega) | exact bool_T (by omega) | exact (bool_dec (by omega)).symm | exact (bool_F (by omega)).symm | exact (bool_T (by omega)).symm | simp [*]),rfl⟩) (es [23] rfl))
 exact (Spec.an_no h7).elim
end Go.Lk
open Go.Proofs
namespace Go.Lk
theorem tal_s0:∀ w,(binOp .eql 71 (Spec.tal ((0:Nat):Int) ((0:Nat):Int)) (Spec.tal ((0:Nat):Int) ((0:Nat):Int))).run Tryz.prog w = .ok (.bool true) w:=fun _=>by kernel_rfl
theorem tal_s1:∀ w,(binOp .eql 71 (Spec.tal ((0:Nat):Int) ((1:Nat):Int)) (Spec.tal ((0:Nat):Int) ((1:Nat):Int))).run Tryz.prog w = .ok (.bool true) w:=fun _=>by kernel_rfl
theorem tal_s2:∀ w,(binOp .eql 71 (Spec.tal ((0:Nat):Int) ((2:Nat):Int)) (Spec.tal ((0:Nat):Int) ((2:Nat):Int))).run Tryz.prog w = .ok (.bool true) w:=fun _=>by kernel_rfl
theorem tal_s3:∀ w,(binOp .eql 71 (Spec.tal ((0:Nat):Int) ((3:Nat):Int)) (Spec.tal ((0:Nat):Int) ((3:Nat):Int))).run Tryz.prog w = .ok (.bool true) w:=fun _=>by kernel_rfl
theorem tal_s4:∀ w,(binOp .eql 71 (Spec.tal ((0:Nat):Int) ((4:Nat):Int)) (Spec.tal ((0:Nat):Int) ((4:Nat):Int))).run Tryz.prog w = .ok (.bool true) w:=fun _=>by kernel_rfl
theorem tal_s5:∀ w,(binOp .eql 71 (Spec.tal ((0:Nat):Int) ((5:Nat):Int)) (Spec.tal ((0:Nat):Int) ((5:Nat):Int))).run Tryz.prog w = .ok (.bool true) w:=fun _=>by kernel_rfl
theorem tal_s6:∀ w,(binOp .eql 71 (Spec.tal ((0:Nat):Int) ((6:Nat):Int)) (Spec.tal ((0:Nat):Int) ((6:Nat):Int))).run Tryz.prog w = .ok (.bool true) w:=fun _=>by kernel_rfl
theorem tal_s7:∀ w,(binOp .eql 71 (Spec.tal ((0:Nat):Int) ((7:Nat):Int)) (Spec.tal ((0:Nat):Int) ((7:Nat):Int))).run Tryz.prog w = .ok (.bool true) w:=fun _=>by kernel_rfl
theorem tal_s8:∀ w,(binOp .eql 71 (Spec.tal ((0:Nat):Int) ((8:Nat):Int)) (Spec.tal ((0:Nat):Int) ((8:Nat):Int))).run Tryz.prog w = .ok (.bool true) w:=fun _=>by kernel_rfl
theorem tal_same {a b:Nat} (ha:a=0) (hb:b≤8) (w:World):(binOp .eql 71 (Spec.tal (a:Int) (b:Int)) (Spec.tal (a:Int) (b:Int))).run Tryz.prog w = .ok (.bool true) w:=by
  subst ha
  match b,hb with
  | 0,_=>exact tal_s0 w
  | 1,_=>exact tal_s1 w
  | 2,_=>exact tal_s2 w
  | 3,_=>exact tal_s3 w
  | 4,_=>exact tal_s4 w
  | 5,_=>exact tal_s5 w
  | 6,_=>exact tal_s6 w
  | 7,_=>exact tal_s7 w
  | 8,_=>exact tal_s8 w
namespace Spec
theorem cseal_rep {A A':List Thing} {c c':Cli} {e:Entry} {ep x:Int} (h:cseal A c e ep=(x,c',A')):c'.rep=c.rep:=by
  unfold cseal at h
  repeat' split at h
  all_goals first
    | (cases h; rfl)
    | (dsimp only at h; repeat' split at h
       all_goals (cases h; rfl))
theorem issue_rep {A A':List Thing} {c c':Cli} {e:Entry} {x:Int} (h:issue A c e=(x,c',A')):c'.rep=c.rep:=by
  unfold issue at h
  repeat' split at h
  all_goals first
    | (cases h; rfl)
    | exact cseal_rep h
theorem an_has {c:Cli} {A:List Thing} (h:clientNew [] 1 1 1 []=(some c,A)):c.alarm=false∧c.rep.chain.links=[]∧c.rep.chain.sums.length=1∧A.length≤2:=by
  obtain ⟨rfl,rfl⟩:=an_n h
  exact ⟨an_al0,List.eq_nil_of_length_eq_zero an_links,by kernel_rfl,Nat.le_of_ble_eq_true (by kernel_rfl)⟩
theorem commit_grows {A A':List Thing} {r r':Rep} {b:Bytes} {y x:Int} (hl:linkIn r.coll b=true) (h1:1≤b.length) (h2:b.length≤4096) (h3:r.chain.links.length < 64) (h:commit A r b=(y,x,r',A')) :
    r'.chain.links.length=r.chain.links.length+1∧r'.coll=r.coll:=by
  refine ⟨?_,(commit_same h).1⟩
  unfold linkIn at hl
  unfold commit at h
  split at h
  · rename_i e he; rw [he] at hl; cases hl
  · rename_i z hz
    rw [hz] at hl
    rw [if_neg (by have:=of_decide_eq_true hl; simpa using this)] at h
    unfold chainAppend at h
    rw [if_neg (by omega),if_neg (by omega)] at h
    generalize hs:sum A (r.chain.sums.getD r.chain.links.length []++b)=p at h
    obtain ⟨s,A1⟩:=p
    dsimp only at h
    rw [if_neg (by simp)] at h
    generalize ho:outcome A1 { r with chain:=⟨r.chain.links++[b],r.chain.sums++[s]⟩ } z=o at h
    obtain ⟨a,b1,c1⟩:=o
    cases h
    rw [(outcome_same ho).2.2.2.2]
    simp
theorem commits_grow:∀ (l:List Bytes) {A A':List Thing} {r r':Rep} {o:List Int},l.all (linkIn r.coll)=true→(∀ b ∈ l,1≤b.length∧b.length≤4096)→r.chain.links.length+l.length≤64→commits l A r=(o,r',A') →
    o.length=l.length∧r'.chain.links.length=r.chain.links.length+l.length
  | [],A,A',r,r',o,_,_,_,h=>by cases h; exact ⟨rfl,rfl⟩
  | b :: l,A,A',r,r',o,h1,h2,h3,h=>by
    rw [List.all_cons,Bool.and_eq_true] at h1
    rw [List.length_cons] at h3
    unfold commits at h
    generalize hc:commit A r b=p at h
    obtain ⟨y,x,r1,A1⟩:=p
    dsimp only at h
    obtain ⟨k1,k2⟩:=commit_grows h1.1 (h2 b (by simp)).1 (h2 b (by simp)).2 (by omega) hc
    generalize hd:commits l A1 r1=q at h
    obtain ⟨o2,r2,A2⟩:=q
    cases h
    obtain ⟨k3,k4⟩:=commits_grow l (by rw [k2]; exact h1.2) (fun b' hb'=>h2 b' (by simp [hb'])) (by omega) hd
    exact ⟨by simp [k3],by rw [k4,k1,List.length_cons]; omega⟩
theorem take_still {A A':List Thing} {c c':Cli} {bs:Bytes} {x:Int} {o:List Int} (h:ctake A c bs=(x,o,c',A')) (h0:c.rep.chain.links.length=0):(x=0→(o.length:Int)=(c'.rep.chain.links.length:Int))∧(x≠0→o=[]∧c' = c):=by
  unfold ctake at h
  split at h
  · cases h; exact ⟨fun _=>by simp [h0],fun _=>⟨rfl,rfl⟩⟩
  · rename_i f hf
    split at h
    · rename_i hk; cases h; exact ⟨fun e=>absurd e hk,fun _=>⟨rfl,rfl⟩⟩
    · rename_i hk
      have hk:=Decidable.of_not_not hk
      generalize hc:commits f.links A c.rep=p at h
      obtain ⟨o1,r1,A1⟩:=p
      cases h
      refine ⟨fun _=>?_,fun e=>absurd rfl e⟩
      have hr:=fdecode_right hf
      have hh:=fright_has hr
      unfold check at hk
      repeat' split at hk
      all_goals first
        | (exfalso; revert hk; decide)
        | skip
      rename_i ha hs
      have ha2:f.links.all (linkIn c.rep.coll)=true:=by simpa using ha
      obtain ⟨k1,k2⟩:=commits_grow f.links ha2 hh.2.2.2.2.2.2.2.1 (by omega) hc
      show (o.length:Int)=(r1.chain.links.length:Int)
      rw [k1,k2,h0]; simp
theorem compare_ok {c:Cli} {i:Int} {s:Bytes} (h0:c.rep.chain.links=[]) (h1:c.rep.chain.sums.length=1) (ha:c.alarm=false) (hi:i=(c.rep.chain.links.length:Int)) (hs:s=c.rep.chain.sums.getD c.rep.chain.links.length []):compare c i s=(0,c):=by
  subst hi; subst hs
  have:chainCheck c.rep.chain (c.rep.chain.links.length:Int) (c.rep.chain.sums.getD c.rep.chain.links.length [])=0:=by
    unfold chainCheck
    rw [h0,h1]
    simp
  unfold compare
  rw [this,ha]
  have e:({ c with alarm:=false }:Cli)=c:=by cases c; cases ha; rfl
  simpa using e
end Spec
end Go.Lk
open Go.Proofs
set_option maxRecDepth 8000
namespace Go.Lk
open Asn renaming cells→Cl,row→Rw,kn→Kk,all→Al
theorem ClientStill_fn (lv:Value) (l:List Entry) (bv:Value) (bs:Bytes):Fn Tryz.prog 5 #[lv,bv] [KE lv l,KB bv bs] (fun v M=>.bool true=v∧M=[]):=by
 refine Fi 90 Tryz.func5 fun g R=>?_
 refine Ww [(0,lv),(1,bv)] [KE lv l,KB bv bs,Al R] ?_
 refine Sn (Qa (k:=Nl [(0,lv),(1,bv),(4,.bool false)] ?_))
 refine W.seq (Sn (WN.call rfl rfl (OpCall.mk (xs:=[]) (vs:=[]) rfl trivial Tryz.call33) (anchor_fn) (ep [] rfl) ?_))
 rintro _ _ ⟨rfl,rfl⟩
 refine Qu (OpQ.not rfl rfl) (k:=Nw [(0,lv),(1,bv),(4,.bool false),(14,.bool false)] [KE lv l,KB bv bs,Al R] ?_)
 refine W.condF rfl ?_
 refine W.skip (thn_n (Wl [(0,lv),(1,bv),(4,.bool false)] ?_))
 refine W.seq (Sn (Qm (k:=?_)))
 refine Nk 0 fun hl1=>?_
 refine Qu (OpQ.lenSl (i:=0) rfl rfl rfl (len60 _)) (k:=?_)
 by_cases h2:(l.length:Int) > 8
 ·refine Qu (OpQ.decT (OpQ.gtr rfl rfl rfl) h2) (k:=Qm (k:=Qs (k:=Qs (k:=Qs (k:=Qt (k:=Nl [(0,lv),(1,bv),(4,.bool false),(22,.bool true)] ?_))))))
  refine W.condT rfl ?_
  refine Sn (Qa (k:=Nl [(0,lv),(1,bv),(4,.bool true)] ?_))
  refine W.ret (thn_r (ret1 (M:=[]) rfl rfl (⟨rfl,rfl⟩) (es [2] rfl)))
 refine Qu (OpQ.decF (OpQ.gtr rfl rfl rfl) h2) (k:=Qm (k:=Qm (k:=?_)))
 refine Nk 1 fun hl3=>?_
 refine Qu (OpQ.lenSl (i:=1) rfl rfl rfl (len22 _)) (k:=Qu (OpQ.gtr rfl rfl rfl) (k:=Qf (k:=Nl [(0,lv),(1,bv),(4,.bool false),(22,.bool (decide ((bs.length:Int) > 5000)))] ?_)))
 refine Cp rfl (fun h4=>?_) (fun h4=>?_)
 ·refine Sn (Qa (k:=Nl [(0,lv),(1,bv),(4,.bool true)] ?_))
  refine W.ret (thn_r (ret1 (M:=[]) rfl rfl (⟨rfl,rfl⟩) (es [2] rfl)))
 refine W.skip (thn_n (Wl [(0,lv),(1,bv),(4,.bool false)] ?_))
 refine Sn (WN.call rfl rfl (OpCall.mk (xs:=[]) (vs:=[]) rfl trivial Tryz.call39) (Signs_fn) (ep [] rfl) ?_)
 rintro _ _ ⟨sp5,rfl,rfl⟩
 refine Qu (OpQ.build (qs:=[(0,vint 1),(1,vint 1),(2,vint 1)]) (v:=.agg #[vint 1,vint 1,vint 1,N0]) rfl ⟨rfl,rfl,rfl,rfl,rfl,rfl,trivial⟩ (fun _=>by kernel_rfl)) (k:=?_)
 refine WN.ent (Ent.slNil (e:=Enc.u8) (T:=5)) ?_
 refine Wc [.tmp 24,.tmp 25] [vptr sp5 0,.agg #[vint 1,vint 1,vint 1,N0]] Tryz.call38 (clientNew_fn sp5 ([]) 1 1 1 (N0) ([]) (by first | omega | (simp; done) | (simp; omega) | (simp at *; omega)) (by first | omega | (simp; done) | (simp; omega) | (simp at *; omega))) ((ed 0 rfl).trans (ep [2,0] rfl)) ?_
 rintro _ _ (⟨cl6,c7,A8,h9,h10,rfl,rfl⟩ | ⟨h11,rfl,rfl⟩)
 ·refine Qm (k:=Qe (k:=Qe (k:=Qa (k:=Qa (k:=Nw [(0,lv),(1,bv),(4,.bool false),(5,vptr cl6 0),(6,vint 0)] [ClientR cl6 sp5 c7,SuiteR sp5 A8,KB (N0) ([]),KE lv l,KB bv bs,Al R] ?_)))))
  refine W.seq (W.seq (W.region ?_))
  obtain ⟨hal,hlk,hsu,hA0⟩:=Spec.an_has h9
  refine Qm (k:=Qu (OpQ.neq rfl rfl rfl) (k:=Nl [(0,lv),(1,bv),(4,.bool false),(5,vptr cl6 0),(30,.bool (decide ((0:Int)≠0)))] ?_))
  refine Cp rfl (fun h12=>absurd h12 (by decide)) (fun h12=>?_)
  refine W.skip (thn_n (Wl [(0,lv),(1,bv),(4,.bool false),(5,vptr cl6 0)] ?_))
  refine W.seq (Sn (Qm (k:=?_)))
  refine Qu (OpQ.lenSl (i:=3) rfl rfl rfl (len60 _)) (k:=Qm (k:=Nl [(1,bv),(4,.bool false),(5,vptr cl6 0),(31,lv),(32,vint (l.length:Int)),(33,vint 0)] ?_))
  refine W.block (W.opens Opens.sl (i:=3) rfl (fun f13 _=>?_))
  refine We [Ka 33 9 lv l.length f13,Kr Enc.entry f13 l,ClientR cl6 sp5 c7,SuiteR sp5 A8,KB (N0) ([]),KB bv bs,Al R] ?_
  refine W.loop (X:=Nat × Cli × List Thing) (fun x=>match x with | (k,c2,A2)=>[(1,bv),(5,vptr cl6 0),(31,lv),(32,vint (l.length:Int)),(33,vint (k:Int))]) (fun x=>match x with | (k,c2,A2)=>[Asn.pure (k≤l.length∧A2.length≤2+3*k∧c2.alarm=false∧c2.rep.chain.links=[]∧c2.rep.chain.sums.length=1),ClientR cl6 sp5 c2,SuiteR sp5 A2,Ka 33 9 lv l.length f13,Kr Enc.entry f13 l,KB (N0) ([]),KB bv bs,Al R]) (fun x=>match x with | (k,c2,A2)=>l.length - k) (0,c7,A8) ⟨rfl,rfl,rfl,rfl,rfl,trivial⟩ ((es [2,2,0,0,0,0,0] rfl).trans (Ent.pure_in (by exact ⟨Nat.zero_le _,by omega,hal,hlk,hsu⟩))) (fun x=>?_)
  obtain ⟨k,c2,A2⟩:=x
  show W _ _ _ _ _ [(1,bv),(5,vptr cl6 0),(31,lv),(32,vint (l.length:Int)),(33,vint (k:Int))] [Asn.pure (k≤l.length∧A2.length≤2+3*k∧c2.alarm=false∧c2.rep.chain.links=[]∧c2.rep.chain.sums.length=1),ClientR cl6 sp5 c2,SuiteR sp5 A2,Ka 33 9 lv l.length f13,Kr Enc.entry f13 l,KB (N0) ([]),KB bv bs,Al R]
  refine W.opens Opens.pure (i:=0) rfl (fun _ hI14=>?_)
  replace hI14:=hI14
  show W _ _ _ _ _ [(1,bv),(5,vptr cl6 0),(31,lv),(32,vint (l.length:Int)),(33,vint (k:Int))] [ClientR cl6 sp5 c2,SuiteR sp5 A2,Ka 33 9 lv l.length f13,Kr Enc.entry f13 l,KB (N0) ([]),KB bv bs,Al R]
  refine Sn (Qu (OpQ.lss rfl rfl rfl) (k:=Nl [(1,bv),(5,vptr cl6 0),(31,lv),(32,vint (l.length:Int)),(33,vint (k:Int)),(34,.bool (decide ((k:Int) < (l.length:Int))))] ?_))
  refine W.seq (Cp rfl (fun h15=>?_) (fun h15=>?_))
  ·refine W.skip (thn_n (Wl [(1,bv),(5,vptr cl6 0),(31,lv),(32,vint (l.length:Int)),(33,vint (k:Int))] ?_))
   refine W.seq (W.block (W.seq (W.region ?_)))
   have hI2:=hI14.2.1
   refine WN.opens (Opens.entry (xs:=l) (i:=k) (by omega)) (i:=3) rfl (fun zz he16=>?_)
   obtain ⟨na,nb,nc⟩:=zz; dsimp only at he16
   refine Ne [KB na ((l.getD k default).name),KB nb ((l.getD k default).value),KW nc ((l.getD k default).wraps),Kr Enc.entry f13 l,ClientR cl6 sp5 c2,SuiteR sp5 A2,Ka 33 9 lv l.length f13,KB (N0) ([]),KB bv bs,Al R] (Qu (OpQ.indexAddr (i:=6) (j:=k*9) rfl rfl rfl rfl (by omega) (by omega) (by omega) ix60) (k:=Qu (OpQ.loadSubN (i:=6) rfl rfl rfl he16 rfl (by omega) (by decide) ld33) (k:=?_)))
   refine Ru (OpRun.alloc rfl zv33 rfl) ?_
   rintro _ _ ⟨b17,rfl,rfl⟩
   refine Nf 3 fun ho18=>?_
   refine Nf 2 fun ho19=>?_
   refine Nf 1 fun ho20=>?_
   refine Rn (OpRun.store (i:=0) (vs:=[vint ((l.getD k default).kind),vint ((l.getD k default).writer),vint ((l.getD k default).seq),na,nb,vint ((l.getD k default).who),vint ((l.getD k default).rights),vint ((l.getD k default).epoch),nc]) (cs':=[vint ((l.getD k default).kind),vint ((l.getD k default).writer),vint ((l.getD k default).seq),na,nb,vint ((l.getD k default).who),vint ((l.getD k default).rights),vint ((l.getD k default).epoch),nc]) rfl rfl rfl sz33 rfl rfl (O3 (one_cons ho20 (one_cons ho19 (O3 (one_cons ho18 one_nil))))) rfl (Lb rfl) rfl) (k:=Nw [(1,bv),(5,vptr cl6 0),(8,vptr b17 0),(31,lv),(32,vint (l.length:Int)),(33,vint (k:Int))] [Cl b17 33 (ecs (l.getD k default) na nb nc),KB na ((l.getD k default).name),KB nb ((l.getD k default).value),KW nc ((l.getD k default).wraps),Kr Enc.entry f13 l,ClientR cl6 sp5 c2,SuiteR sp5 A2,Ka 33 9 lv l.length f13,KB (N0) ([]),KB bv bs,Al R] ?_)
   refine W.seq (Sn (Qu (OpQ.loadN (i:=0) rfl rfl ld33 rfl rfl rfl) (k:=?_)))
   refine Wc [.tmp 37] [.agg #[vint ((l.getD k default).kind),vint ((l.getD k default).writer),vint ((l.getD k default).seq),na,nb,vint ((l.getD k default).who),vint ((l.getD k default).rights),vint ((l.getD k default).epoch),nc]] Tryz.call35 (SmallEntry_fn (l.getD k default) na nb nc) ((ed 1 rfl).trans ((ed 3 rfl).trans ((ed 5 rfl).trans (ep [2,1,0] rfl)))) ?_
   rintro _ _ ⟨bb21,rfl,rfl⟩
   refine Qu (OpQ.not rfl rfl) (k:=Nw [(1,bv),(5,vptr cl6 0),(8,vptr b17 0),(31,lv),(32,vint (l.length:Int)),(33,vint (k:Int)),(39,.bool (!bb21))] [Cl b17 33 (ecs (l.getD k default) na nb nc),KB na ((l.getD k default).name),KB nb ((l.getD k default).value),KW nc ((l.getD k default).wraps),Kr Enc.entry f13 l,ClientR cl6 sp5 c2,SuiteR sp5 A2,Ka 33 9 lv l.length f13,KB (N0) ([]),KB bv bs,Al R] ?_)
   refine W.cond rfl (fun h22=>?_) (fun h22=>?_)
   ·refine Sn (Qa (k:=Nl [(1,bv),(4,.bool true),(5,vptr cl6 0),(8,vptr b17 0),(31,lv),(32,vint (l.length:Int)),(33,vint (k:Int))] ?_))
    refine W.ret (thn_r (inblk_r (thn_r (thn_r (inblk_r (thn_r (ret1 (M:=[]) rfl rfl (⟨rfl,rfl⟩) (es [10] rfl))))))))
   refine W.skip (thn_n (Wl [(1,bv),(5,vptr cl6 0),(8,vptr b17 0),(31,lv),(32,vint (l.length:Int)),(33,vint (k:Int))] ?_))
   refine W.region (Qm (k:=?_))
   refine Qu (OpQ.loadN (i:=0) rfl rfl ld33 rfl rfl rfl) (k:=?_)
   refine Wc [.tmp 40,.tmp 41] [vptr cl6 0,.agg #[vint ((l.getD k default).kind),vint ((l.getD k default).writer),vint ((l.getD k default).seq),na,nb,vint ((l.getD k default).who),vint ((l.getD k default).rights),vint ((l.getD k default).epoch),nc]] Tryz.call36 (Issue_fn cl6 sp5 c2 (l.getD k default) na nb nc A2 (by first | omega | (simp; done) | (simp; omega) | (simp at *; omega))) ((ed 1 rfl).trans ((ed 3 rfl).trans ((ed 5 rfl).trans (ep [8,8,2,1,0] rfl)))) ?_
   rintro _ _ ⟨x23,c24,A25,h26,h27,rfl,rfl⟩
   refine WN.nil (inblk_n (thn_n (Ww [(1,bv),(5,vptr cl6 0),(31,lv),(32,vint (l.length:Int)),(33,vint (k:Int))] [ClientR cl6 sp5 c24,SuiteR sp5 A25,Cl b17 33 (ecs (l.getD k default) na nb nc),KB na ((l.getD k default).name),KB nb ((l.getD k default).value),KW nc ((l.getD k default).wraps),Kr Enc.entry f13 l,Ka 33 9 lv l.length f13,KB (N0) ([]),KB bv bs,Al R] ?_)))
   refine W.region (Qu (OpQ.add rfl rfl rfl ⟨by omega,by omega⟩) (k:=?_))
   refine Qm (k:=?_)
   refine WN.nil (thn_n ⟨(k+1,c24,A25),by (show l.length - (k+1) < l.length - k); omega,⟨rfl,rfl,rfl,rfl,(Eq.trans (b:=some (vint ((k:Int)+1))) rfl (by first | rfl | (congr 2; omega))),trivial⟩,?_⟩)
   exact (es [0,0,5,4,4,4,4] rfl).trans (Ent.pure_in (by have hre:=Spec.issue_rep h26; exact ⟨by omega,by omega,(Spec.issue_alarm h26).trans hI14.2.2.1,by rw [hre]; exact hI14.2.2.2.1,by rw [hre]; exact hI14.2.2.2.2⟩))
  obtain ⟨_,hI2,hal2,hlk2,hsu2⟩:=hI14; have hl0:c2.rep.chain.links.length=0:=by rw [hlk2]; rfl
  refine W.exit (thn_x (thn_x (inblk_x (thn_n (Wl [(1,bv),(5,vptr cl6 0)] ?_)))))
  refine Sn (Qm (k:=?_))
  refine WN.opens Opens.rep (i:=0) rfl (fun x28 hcf28=>?_)
  obtain ⟨sv28,rp28,pv28,pcs28⟩:=x28
  refine Ne [Cl cl6 230 (ccs sp5 c2 sv28 rp28 pv28),KB sv28 c2.rep.secret,ReplayR rp28 sp5 c2.rep,Rw 236 10 pv28 pcs28,Kx Enc.waits pcs28 c2.pend,SuiteR sp5 A2,Ka 33 9 lv l.length f13,Kr Enc.entry f13 l,KB (N0) ([]),KB bv bs,Al R] ?_
  replace hcf28:c2.fine:=hcf28
  refine Wc [.tmp 44] [vptr cl6 0] Tryz.call40 (Tally_fn cl6 sp5 c2 sv28 rp28 pv28 pcs28 (by assumption)) ((ed 1 rfl).trans ((ed 5 rfl).trans (ep [2,1,2,2,0] rfl))) ?_
  rintro _ _ ⟨rfl,rfl⟩
  refine Qm (k:=?_)
  refine Wc [.tmp 46] [vptr cl6 0] Tryz.call41 (cHead_fn cl6 sp5 c2 sv28 rp28 pv28 pcs28) ((ed 1 rfl).trans ((ed 5 rfl).trans (ep [2,1,2,2,0] rfl))) ?_
  rintro _ _ ⟨z29,h30,rfl,rfl⟩
  refine Ru (OpRun.alloc rfl zv74 rfl) ?_
  rintro _ _ ⟨b31,rfl,rfl⟩
  refine Qa (k:=?_)
  refine Nf 1 fun ho32=>?_
  refine Rn (OpRun.store (i:=0) (vs:=[vint (c2.rep.chain.links.length:Int),z29]) (cs':=[vint (c2.rep.chain.links.length:Int),z29]) rfl rfl rfl sz74 rfl rfl (one_cons rfl (one_cons ho32 one_nil)) rfl (Lb rfl) rfl) (k:=Nw [(1,bv),(5,vptr cl6 0),(9,Spec.tal (c2.rep.chain.links.length:Int) (c2.pend.length:Int)),(10,vptr b31 0)] [Cl b31 74 [vint (c2.rep.chain.links.length:Int),z29],KB z29 (c2.rep.chain.sums.getD c2.rep.chain.links.length []),Cl cl6 230 (ccs sp5 c2 sv28 rp28 pv28),KB sv28 c2.rep.secret,ReplayR rp28 sp5 c2.rep,Rw 236 10 pv28 pcs28,Kx Enc.waits pcs28 c2.pend,KB sv28 c2.rep.secret,Kx Enc.waits pcs28 c2.pend,KB sv28 c2.rep.secret,Kx Enc.waits pcs28 c2.pend,SuiteR sp5 A2,Ka 33 9 lv l.length f13,Kr Enc.entry f13 l,KB (N0) ([]),KB bv bs,Al R] ?_)
  refine Sn (Qm (k:=Qm (k:=?_)))
  refine WN.ent (L':=[Cl cl6 230 (ccs sp5 c2 sv28 rp28 pv28),KB sv28 c2.rep.secret,ReplayR rp28 sp5 c2.rep,Rw 236 10 pv28 pcs28,Kx Enc.waits pcs28 c2.pend,Cl b31 74 [vint (c2.rep.chain.links.length:Int),z29],KB z29 (c2.rep.chain.sums.getD c2.rep.chain.links.length []),KB sv28 c2.rep.secret,Kx Enc.waits pcs28 c2.pend,KB sv28 c2.rep.secret,Kx Enc.waits pcs28 c2.pend,SuiteR sp5 A2,Ka 33 9 lv l.length f13,Kr Enc.entry f13 l,KB (N0) ([]),KB bv bs,Al R]) (es [2,2,2,2,2,0,0,0,0,0,0,0,0,0,0,0,0] rfl) ?_
  refine WN.ent (L':=[ClientR cl6 sp5 c2,Cl b31 74 [vint (c2.rep.chain.links.length:Int),z29],KB z29 (c2.rep.chain.sums.getD c2.rep.chain.links.length []),KB sv28 c2.rep.secret,Kx Enc.waits pcs28 c2.pend,KB sv28 c2.rep.secret,Kx Enc.waits pcs28 c2.pend,SuiteR sp5 A2,Ka 33 9 lv l.length f13,Kr Enc.entry f13 l,KB (N0) ([]),KB bv bs,Al R]) (Ent.rep' (sv28,rp28,pv28,pcs28) rfl (by assumption) rfl) ?_
  refine Wc [.tmp 49,.tmp 50] [vptr cl6 0,bv] Tryz.call42 (Take_fn cl6 sp5 c2 bv bs A2 (by first | omega | (simp; done) | (simp; omega) | (simp at *; omega)) (by first | omega | (simp; done) | (simp; omega) | (simp at *; omega))) ((ed 11 rfl).trans (ep [1,7,0] rfl)) ?_
  rintro _ _ ⟨x33,z34,outs35,c36,A37,h38,h39,rfl,rfl⟩
  refine Qm (k:=Qe (k:=Qe (k:=Qa (k:=Qa (k:=Nw [(5,vptr cl6 0),(9,Spec.tal (c2.rep.chain.links.length:Int) (c2.pend.length:Int)),(10,vptr b31 0),(11,vint x33),(12,z34)] [Kk (Sl Enc.num 38 z34 outs35),ClientR cl6 sp5 c36,SuiteR sp5 A37,Cl b31 74 [vint (c2.rep.chain.links.length:Int),z29],KB z29 (c2.rep.chain.sums.getD c2.rep.chain.links.length []),KB sv28 c2.rep.secret,Kx Enc.waits pcs28 c2.pend,KB sv28 c2.rep.secret,Kx Enc.waits pcs28 c2.pend,Ka 33 9 lv l.length f13,Kr Enc.entry f13 l,KB (N0) ([]),KB bv bs,Al R] ?_)))))
  refine W.seq (W.seq (W.region ?_))
  obtain ⟨hts1,hts2⟩:=Spec.take_still h38 hl0
  refine Qm (k:=Qu (OpQ.eql rfl rfl rfl) (k:=Nl [(5,vptr cl6 0),(9,Spec.tal (c2.rep.chain.links.length:Int) (c2.pend.length:Int)),(10,vptr b31 0),(12,z34),(55,.bool (decide (x33=0)))] ?_))
  refine Cp rfl (fun h40=>?_) (fun h40=>?_)
  ·refine W.seq (W.region ?_)
   have hok:=hts1 h40
   refine Qm (k:=?_)
   refine Nk 0 fun hl41=>?_
   refine Qu (OpQ.lenSl (i:=0) rfl rfl rfl (len76 _)) (k:=Qm (k:=?_))
   refine WN.opens Opens.rep (i:=1) rfl (fun x42 hcf42=>?_)
   obtain ⟨sv42,rp42,pv42,pcs42⟩:=x42
   refine Ne [Cl cl6 230 (ccs sp5 c36 sv42 rp42 pv42),KB sv42 c36.rep.secret,ReplayR rp42 sp5 c36.rep,Rw 236 10 pv42 pcs42,Kx Enc.waits pcs42 c36.pend,Kk (Sl Enc.num 38 z34 outs35),SuiteR sp5 A37,Cl b31 74 [vint (c2.rep.chain.links.length:Int),z29],KB z29 (c2.rep.chain.sums.getD c2.rep.chain.links.length []),KB sv28 c2.rep.secret,Kx Enc.waits pcs28 c2.pend,KB sv28 c2.rep.secret,Kx Enc.waits pcs28 c2.pend,Ka 33 9 lv l.length f13,Kr Enc.entry f13 l,KB (N0) ([]),KB bv bs,Al R] ?_
   replace hcf42:c36.fine:=hcf42
   refine Wc [.tmp 58] [vptr cl6 0] Tryz.call41 (cHead_fn cl6 sp5 c36 sv42 rp42 pv42 pcs42) ((ed 1 rfl).trans ((ed 5 rfl).trans (ep [2,1,2,2,0] rfl))) ?_
   rintro _ _ ⟨z43,h44,rfl,rfl⟩
   refine Qu (OpQ.field (u:=vint (c36.rep.chain.links.length:Int)) rfl rfl (fun _=>by kernel_rfl)) (k:=Qu (OpQ.eql rfl rfl rfl) (k:=Qa (k:=Nw [(4,.bool (decide ((outs35.length:Int)=(c36.rep.chain.links.length:Int)))),(5,vptr cl6 0),(9,Spec.tal (c2.rep.chain.links.length:Int) (c2.pend.length:Int)),(10,vptr b31 0),(12,z34)] [KB z43 (c36.rep.chain.sums.getD c36.rep.chain.links.length []),Cl cl6 230 (ccs sp5 c36 sv42 rp42 pv42),KB sv42 c36.rep.secret,ReplayR rp42 sp5 c36.rep,Rw 236 10 pv42 pcs42,Kx Enc.waits pcs42 c36.pend,KB sv42 c36.rep.secret,Kx Enc.waits pcs42 c36.pend,Kk (Sl Enc.num 38 z34 outs35),SuiteR sp5 A37,Cl b31 74 [vint (c2.rep.chain.links.length:Int),z29],KB z29 (c2.rep.chain.sums.getD c2.rep.chain.links.length []),KB sv28 c2.rep.secret,Kx Enc.waits pcs28 c2.pend,KB sv28 c2.rep.secret,Kx Enc.waits pcs28 c2.pend,Ka 33 9 lv l.length f13,Kr Enc.entry f13 l,KB (N0) ([]),KB bv bs,Al R] ?_)))
   refine Wr 4 fun hr45a hr45b hr45c=>?_
   try simp only [La,Lc,Ln] at hr45a
   refine W.ret (thn_r (ret1 (M:=[]) rfl rfl (⟨(by first | rfl | exact bool_dec (by omega) | exact bool_F (by omega) | exact bool_T (by omega) | exact (bool_dec (by omega)).symm | exact (bool_F (by omega)).symm | exact (bool_T (by omega)).symm | simp [*]),rfl⟩) (es [20] rfl)))
  refine W.skip (thn_n (Wl [(5,vptr cl6 0),(9,Spec.tal (c2.rep.chain.links.length:Int) (c2.pend.length:Int)),(10,vptr b31 0),(12,z34)] ?_))
  refine W.seq (W.drawG mixed ?_)
  obtain ⟨rfl,hcc⟩:=hts2 h40; replace hcc:=hcc.symm; subst hcc
  refine Gq 0 [] rfl (OpQ.move rfl rfl) ?_
  refine WG.hold (Kk (Sl Enc.num 38 z34 ([]:List Int)),[]) ?_
  refine WG.fact (fun _ _ s=>(sl_facts (i:=0) rfl s).2.1) (fun hl46=>?_)
  refine Gq 1 [0] rfl (OpQ.lenSl (i:=0) rfl rfl rfl (len76 _)) ?_
  refine Gq 2 [0] rfl (OpQ.decT (OpQ.eql rfl rfl rfl) rfl) ?_
  refine Gq 3 [0] rfl (OpQ.move rfl rfl) ?_
  refine Gq 4 [0] rfl (OpQ.move rfl rfl) ?_
  refine Gq 6 [0] rfl (OpQ.move rfl rfl) ?_
  refine WG.opens Opens.rep (j:=1) rfl (fun x47 hcf47=>?_)
  obtain ⟨sv47,rp47,pv47,pcs47⟩:=x47
  refine WG.ent (L':=[Cl cl6 230 (ccs sp5 c2 sv47 rp47 pv47),KB sv47 c2.rep.secret,ReplayR rp47 sp5 c2.rep,Rw 236 10 pv47 pcs47,Kx Enc.waits pcs47 c2.pend,Kk (Sl Enc.num 38 z34 ([]:List Int)),SuiteR sp5 A37,Cl b31 74 [vint (c2.rep.chain.links.length:Int),z29],KB z29 (c2.rep.chain.sums.getD c2.rep.chain.links.length []),KB sv28 c2.rep.secret,Kx Enc.waits pcs28 c2.pend,KB sv28 c2.rep.secret,Kx Enc.waits pcs28 c2.pend,Ka 33 9 lv l.length f13,Kr Enc.entry f13 l,KB (N0) ([]),KB bv bs,Al R]) er ?_
  replace hcf47:c2.fine:=hcf47
  refine WG.one (i:=5) (by kernel_rfl) (UpG.call rfl rfl rfl (OpCall.mk (xs:=[.tmp 66]) (vs:=[vptr cl6 0]) rfl ⟨rfl,trivial⟩ Tryz.call40) (Tally_fn cl6 sp5 c2 sv47 rp47 pv47 pcs47 (by assumption)) ((ed 1 rfl).trans ((ed 5 rfl).trans (ep [2,1,2,2,0] rfl))) ?_)
  rintro _ _ ⟨rfl,rfl⟩
  refine ⟨es [7] rfl,?_⟩
  refine Gq 7 [7] rfl (OpQ.bin' (u:=Spec.tal (c2.rep.chain.links.length:Int) (c2.pend.length:Int)) (v:=Spec.tal (c2.rep.chain.links.length:Int) (c2.pend.length:Int)) (r:=.bool true) rfl rfl rfl (fun _=>by kernel_rfl) (fun w=>tal_same hl0 hcf47.1 w)) ?_
  refine Gq 8 [7] rfl (OpQ.pickT rfl rfl rfl) ?_
  refine Gq 9 [7] rfl (OpQ.move rfl rfl) ?_
  refine Gq 10 [7] rfl (OpQ.move rfl rfl) ?_
  refine WG.hold (Cl b31 74 [vint (c2.rep.chain.links.length:Int),z29],[]) ?_
  refine Gq 11 [9,7] rfl (OpQ.loadN (i:=0) rfl rfl ld74 rfl rfl rfl) ?_
  refine WG.ent (L':=[Cl cl6 230 (ccs sp5 c2 sv47 rp47 pv47),KB sv47 c2.rep.secret,ReplayR rp47 sp5 c2.rep,Rw 236 10 pv47 pcs47,Kx Enc.waits pcs47 c2.pend,KB sv47 c2.rep.secret,Kx Enc.waits pcs47 c2.pend,Kk (Sl Enc.num 38 z34 ([]:List Int)),SuiteR sp5 A37,Cl b31 74 [vint (c2.rep.chain.links.length:Int),z29],KB z29 (c2.rep.chain.sums.getD c2.rep.chain.links.length []),KB sv28 c2.rep.secret,Kx Enc.waits pcs28 c2.pend,KB sv28 c2.rep.secret,Kx Enc.waits pcs28 c2.pend,Ka 33 9 lv l.length f13,Kr Enc.entry f13 l,KB (N0) ([]),KB bv bs,Al R]) (es [0,0,0,0,0,0,0,0,0,0,0,0,0,0,0,0,0,0,0,0] rfl) ?_
  refine WG.ent (L':=[ClientR cl6 sp5 c2,KB sv47 c2.rep.secret,Kx Enc.waits pcs47 c2.pend,Kk (Sl Enc.num 38 z34 ([]:List Int)),SuiteR sp5 A37,Cl b31 74 [vint (c2.rep.chain.links.length:Int),z29],KB z29 (c2.rep.chain.sums.getD c2.rep.chain.links.length []),KB sv28 c2.rep.secret,Kx Enc.waits pcs28 c2.pend,KB sv28 c2.rep.secret,Kx Enc.waits pcs28 c2.pend,Ka 33 9 lv l.length f13,Kr Enc.entry f13 l,KB (N0) ([]),KB bv bs,Al R]) (Ent.rep' (sv47,rp47,pv47,pcs47) rfl (by assumption) rfl) ?_
  refine WG.one (i:=12) (by kernel_rfl) (UpG.call rfl rfl rfl (OpCall.mk (xs:=[.tmp 72,.tmp 73]) (vs:=[vptr cl6 0,.agg #[vint (c2.rep.chain.links.length:Int),z29]]) rfl ⟨rfl,rfl,trivial⟩ Tryz.call43) (Compare_fn cl6 sp5 c2 (c2.rep.chain.links.length:Int) z29 (c2.rep.chain.sums.getD c2.rep.chain.links.length [])) ((ed 6 rfl).trans (ep [1,0] rfl)) ?_)
  rintro _ _ ⟨rfl,rfl⟩
  refine ⟨es [5,3] rfl,?_⟩
  have hcmp:=Spec.compare_ok hlk2 hsu2 hal2 (i:=(c2.rep.chain.links.length:Int)) rfl rfl; have hcm1:=congrArg Prod.fst hcmp; have hcm2:=congrArg Prod.snd hcmp; dsimp only at hcm1 hcm2; rw [hcm1,hcm2]
  refine Gq 13 [5,3] rfl (OpQ.eql rfl rfl rfl) ?_
  refine Gq 14 [5,3] rfl (OpQ.decT (OpQ.pickT rfl rfl rfl) (by decide)) ?_
  refine Gq 15 [5,3] rfl (OpQ.move rfl rfl) ?_
  refine Gq 16 [5,3] rfl (OpQ.move rfl rfl) ?_
  refine Gq 19 [5,3] rfl (Of (fa74_0 _ _)) ?_
  refine Gq 20 [5,3] rfl (Ol 0 ld3) ?_
  refine WG.opens Opens.rep (j:=0) rfl (fun x48 hcf48=>?_)
  obtain ⟨sv48,rp48,pv48,pcs48⟩:=x48
  refine WG.ent (L':=[Cl cl6 230 (ccs sp5 c2 sv48 rp48 pv48),KB sv48 c2.rep.secret,ReplayR rp48 sp5 c2.rep,Rw 236 10 pv48 pcs48,Kx Enc.waits pcs48 c2.pend,KB sv47 c2.rep.secret,Kx Enc.waits pcs47 c2.pend,Kk (Sl Enc.num 38 z34 ([]:List Int)),SuiteR sp5 A37,Cl b31 74 [vint (c2.rep.chain.links.length:Int),z29],KB z29 (c2.rep.chain.sums.getD c2.rep.chain.links.length []),KB sv28 c2.rep.secret,Kx Enc.waits pcs28 c2.pend,KB sv28 c2.rep.secret,Kx Enc.waits pcs28 c2.pend,Ka 33 9 lv l.length f13,Kr Enc.entry f13 l,KB (N0) ([]),KB bv bs,Al R]) er ?_
  replace hcf48:c2.fine:=hcf48
  refine WG.one (i:=17) (by kernel_rfl) (UpG.call rfl rfl rfl (OpCall.mk (xs:=[.tmp 78]) (vs:=[vptr cl6 0]) rfl ⟨rfl,trivial⟩ Tryz.call41) (cHead_fn cl6 sp5 c2 sv48 rp48 pv48 pcs48) ((ed 1 rfl).trans ((ed 5 rfl).trans (ep [2,1,2,2,0] rfl))) ?_)
  rintro _ _ ⟨z49,h50,rfl,rfl⟩
  refine ⟨es [12,10] rfl,?_⟩
  refine Gq 18 [12,10] rfl (OpQ.field (u:=vint (c2.rep.chain.links.length:Int)) rfl rfl (fun _=>by kernel_rfl)) ?_
  refine Gq 21 [12,10] rfl (OpQ.eql rfl rfl rfl) ?_
  refine Gq 22 [12,10] rfl (OpQ.decT (OpQ.pickT rfl rfl rfl) rfl) ?_
  refine Gq 23 [12,10] rfl (OpQ.move rfl rfl) ?_
  refine Gq 24 [12,10] rfl (OpQ.move rfl rfl) ?_
  refine WG.one (i:=25) (by kernel_rfl) (UpG.call rfl rfl rfl (OpCall.mk (xs:=[.tmp 86]) (vs:=[vptr cl6 0]) rfl ⟨rfl,trivial⟩ Tryz.call44) (Alarm_fn cl6 sp5 c2 sv48 rp48 pv48 pcs48) ((ed 2 rfl).trans ((ed 6 rfl).trans (ep [3,1,3,3,0] rfl))) ?_)
  rintro _ _ ⟨rfl,rfl⟩
  refine ⟨es [14,12] rfl,?_⟩
  refine Gq 26 [14,12] rfl (OpQ.not rfl rfl) ?_
  refine Gq 27 [14,12] rfl (OpQ.pickT rfl rfl rfl) ?_
  refine Gq 28 [14,12] rfl (OpQ.assign rfl rfl) ?_
  refine WG.done (by kernel_rfl) ?_
  refine thn_n (Ww [(4,.bool (!c2.alarm))] [Cl cl6 230 (ccs sp5 c2 sv48 rp48 pv48),KB sv48 c2.rep.secret,ReplayR rp48 sp5 c2.rep,Rw 236 10 pv48 pcs48,Kx Enc.waits pcs48 c2.pend,KB z49 (c2.rep.chain.sums.getD c2.rep.chain.links.length []),KB sv48 c2.rep.secret,Kx Enc.waits pcs48 c2.pend,KB sv48 c2.rep.secret,Kx Enc.waits pcs48 c2.pend,KB sv47 c2.rep.secret,Kx Enc.waits pcs47 c2.pend,Kk (Sl Enc.num 38 z34 ([]:List Int)),SuiteR sp5 A37,Cl b31 74 [vint (c2.rep.chain.links.length:Int),z29],KB z29 (c2.rep.chain.sums.getD c2.rep.chain.links.length []),KB sv28 c2.rep.secret,Kx Enc.waits pcs28 c2.pend,KB sv28 c2.rep.secret,Kx Enc.waits pcs28 c2.pend,Ka 33 9 lv l.length f13,Kr Enc.entry f13 l,KB (N0) ([]),KB bv bs,Al R] ?_)
  refine Wr 3 fun hr51a hr51b hr51c=>?_
  try simp only [La,Lc,Ln] at hr51a
  refine W.ret (ret1 (M:=[]) rfl rfl (⟨(by first | rfl | exact bool_dec (by omega) | exact bool_F (by omega) | exact bool_T (by omega) | exact (bool_dec (by omega)).symm | exact (bool_F (by omega)).symm | exact (bool_T (by omega)).symm | simp [*]),rfl⟩) (es [24] rfl))
 exact (Spec.an_no h11).elim
end Go.Lk
