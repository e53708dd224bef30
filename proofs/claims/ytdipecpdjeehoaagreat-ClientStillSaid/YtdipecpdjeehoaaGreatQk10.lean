import Derived.Test.YtdipecpdjeehoaaGreatQk9
open Go.Proofs
namespace Go.Lk
namespace Spec
def wbytes (ws:List Wrap):Bytes:=ws.flatMap fun w=>be 6 w.who++(be 2 w.box.length++w.box)
theorem put_wraps {ws:List Wrap} (h:∀ w ∈ ws,1≤w.who∧w.who≤16∧w.box.length=48):put (ws.flatMap wparts) = .ok (wbytes ws):=by
  induction ws with
  | nil=>rfl
  | cons w ws ih =>
    obtain ⟨h1,h2,h3⟩:=h w (List.mem_cons_self ..)
    have ih':=ih fun x hx=>h x (List.mem_cons_of_mem _ hx)
    have e:(w :: ws).flatMap wparts = .n w.who :: .b w.box :: ws.flatMap wparts:=by simp [wparts]
    rw [e,put_consN (by omega) (by omega) (put_consB (by omega) ih')]
    simp [wbytes]
theorem rwraps_bytes {ws:List Wrap} {r:Bytes} (h:∀ w ∈ ws,1≤w.who∧w.who≤16∧w.box.length=48):rwraps ws.length (some (wbytes ws++r))=(ws,some r):=by
  induction ws with
  | nil=>rfl
  | cons w ws ih =>
    obtain ⟨h1,h2,h3⟩:=h w (List.mem_cons_self ..)
    have ih':=ih fun x hx=>h x (List.mem_cons_of_mem _ hx)
    have e:wbytes (w :: ws)++r=be 6 w.who++((be 2 w.box.length++w.box)++(wbytes ws++r)):=by simp [wbytes]
    rw [e,List.length_cons,rwraps_succ (rnumber_be (by omega) (by omega) h1 h2) (rtext_be (by omega) (by omega) (by omega)),ih']
theorem right_box {ws:List Wrap} (h:wrapsOk ws=true):∀ w ∈ ws,1≤w.who∧w.who≤16∧w.box.length=48:=fun w hw=>by
  unfold wrapsOk at h
  rw [Bool.and_eq_true,List.all_eq_true] at h
  obtain ⟨i,hi,rfl⟩:=List.mem_iff_getElem.1 hw
  have h2:=of_decide_eq_true (h.2 i (List.mem_range.2 hi))
  have e:ws.getD i default=ws[i]:=by rw [List.getD_eq_getElem?_getD,List.getElem?_eq_getElem hi]; rfl
  unfold wrapAt at h2
  rw [e] at h2
  exact ⟨h2.1,h2.2.1,h2.2.2.1⟩
theorem right_seq {e:Entry} (h:right e=true):1≤e.kind∧e.kind≤5∧1≤e.writer∧e.writer≤16∧1≤e.seq∧e.seq≤1099511627776:=by
  have:¬ ¬ (1≤e.kind∧e.kind≤5∧1≤e.writer∧e.writer≤16∧1≤e.seq∧e.seq≤1099511627776):=fun hh=>by rw [right_F' hh] at h; cases h
  omega
theorem encode_decode {e:Entry} (h:right e=true):∃ b,encode e = .ok b∧decode b = .ok e:=by
  obtain ⟨k1,k2,w1,w2,s1,s2⟩:=right_seq h
  have h0:=h
  unfold right at h0
  rw [Bool.and_eq_true] at h0
  obtain ⟨ha,hb⟩:=h0
  obtain ⟨_,_,_,_,_,_,hbare⟩:=of_decide_eq_true ha
  have done:∀ b,put (eparts e) = .ok b→rentry (some b)=(e,some [])→∃ b,encode e = .ok b∧decode b = .ok e:=fun b h1 h2=>by
    refine ⟨b,?_,?_⟩
    · unfold encode; rw [if_pos h,h1]
    · unfold decode; rw [h2]; simp only; rw [if_pos ⟨trivial,h⟩]
  obtain ⟨kind,writer,seq,name,value,who,rights,epoch,wraps⟩:=e
  simp only at k1 k2 w1 w2 s1 s2 hb hbare
  have hk:kind=1∨kind=2∨kind=3∨kind=4∨kind=5:=by omega
  rcases hk with rfl | rfl | rfl | rfl | rfl
  · simp [bare] at hbare
    obtain ⟨rfl,rfl,rfl,rfl⟩:=hbare
    simp at hb
    have hp:put [.n 1,.n writer,.n seq,.b name,.b value] = .ok _:=put_consN (by omega) (by omega) (put_consN (by omega) (by omega) (put_consN (by omega) (by omega) (put_consB (by omega) (put_consB (y:=[]) (by omega) rfl))))
    refine done _ hp ?_
    unfold rentry
    rw [rnumber_be (by omega) (by omega) (by omega) (by omega)]
    simp only
    rw [rnumber_be (by omega) (by omega) (by omega) (by omega)]
    simp only
    rw [rnumber_be (by omega) (by omega) (by omega) (by omega)]
    simp only
    rw [if_pos trivial,rtext_be (by omega) (by omega) (by omega)]
    simp only
    rw [rtext_be (by omega) (by omega) (by omega)]
  · simp [bare] at hbare
    obtain ⟨rfl,rfl,rfl,rfl,rfl⟩:=hbare
    simp at hb
    have hp:put [.n 2,.n writer,.n seq,.b name] = .ok _:=put_consN (by omega) (by omega) (put_consN (by omega) (by omega) (put_consN (by omega) (by omega) (put_consB (y:=[]) (by omega) rfl)))
    refine done _ hp ?_
    unfold rentry
    rw [rnumber_be (by omega) (by omega) (by omega) (by omega)]
    simp only
    rw [rnumber_be (by omega) (by omega) (by omega) (by omega)]
    simp only
    rw [rnumber_be (by omega) (by omega) (by omega) (by omega)]
    simp only
    rw [if_neg (by omega),if_pos trivial,rtext_be (by omega) (by omega) (by omega)]
  · simp [bare] at hbare
    obtain ⟨rfl,rfl,rfl,rfl⟩:=hbare
    simp at hb
    have hp:put [.n 3,.n writer,.n seq,.n who,.n rights] = .ok _:=put_consN (by omega) (by omega) (put_consN (by omega) (by omega) (put_consN (by omega) (by omega) (put_consN (by omega) (by omega) (put_consN (y:=[]) (by omega) (by omega) rfl))))
    refine done _ hp ?_
    unfold rentry
    rw [rnumber_be (by omega) (by omega) (by omega) (by omega)]
    simp only
    rw [rnumber_be (by omega) (by omega) (by omega) (by omega)]
    simp only
    rw [rnumber_be (by omega) (by omega) (by omega) (by omega)]
    simp only
    rw [if_neg (by omega),if_neg (by omega),if_pos trivial,rnumber_be (by omega) (by omega) (by omega) (by omega)]
    simp only
    rw [rnumber_be (by omega) (by omega) (by omega) (by omega)]
  · simp [bare] at hbare
    obtain ⟨rfl,rfl,rfl,rfl,rfl⟩:=hbare
    simp at hb
    have hp:put [.n 4,.n writer,.n seq,.n who] = .ok _:=put_consN (by omega) (by omega) (put_consN (by omega) (by omega) (put_consN (by omega) (by omega) (put_consN (y:=[]) (by omega) (by omega) rfl)))
    refine done _ hp ?_
    unfold rentry
    rw [rnumber_be (by omega) (by omega) (by omega) (by omega)]
    simp only
    rw [rnumber_be (by omega) (by omega) (by omega) (by omega)]
    simp only
    rw [rnumber_be (by omega) (by omega) (by omega) (by omega)]
    simp only
    rw [if_neg (by omega),if_neg (by omega),if_neg (by omega),if_pos trivial,rnumber_be (by omega) (by omega) (by omega) (by omega)]
  · simp [bare] at hbare
    obtain ⟨rfl,rfl,rfl,rfl⟩:=hbare
    simp at hb
    obtain ⟨⟨e1,e2⟩,hw⟩:=hb
    have hbx:=right_box hw
    have hwl:wraps.length≤16:=by
      unfold wrapsOk at hw; rw [Bool.and_eq_true] at hw; exact of_decide_eq_true hw.1
    have hp:put (.n 5 :: .n writer :: .n seq :: .n epoch :: .n (wraps.length:Int) :: wraps.flatMap wparts) = .ok _:=put_consN (by omega) (by omega) (put_consN (by omega) (by omega) (put_consN (by omega) (by omega) (put_consN (by omega) (by omega) (put_consN (by omega) (by omega) (put_wraps hbx)))))
    refine done _ hp ?_
    unfold rentry
    rw [rnumber_be (by omega) (by omega) (by omega) (by omega)]
    simp only
    rw [rnumber_be (by omega) (by omega) (by omega) (by omega)]
    simp only
    rw [rnumber_be (by omega) (by omega) (by omega) (by omega)]
    simp only
    rw [if_neg (by omega),if_neg (by omega),if_neg (by omega),if_neg (by omega),if_pos trivial,rnumber_be (by omega) (by omega) (by omega) (by omega)]
    simp only
    rw [rnumber_be (by omega) (by omega) (by omega) (by omega)]
    simp only
    have:=rwraps_bytes (r:=[]) hbx
    rw [List.append_nil] at this
    rw [Int.toNat_natCast,this]
end Spec
end Go.Lk
open Go.Proofs
namespace Go.Lk
namespace Spec
def there (ms:List Member) (who:Int):Prop:=idx ms who < ms.length∧(ms.getD (idx ms who) default).who=who
instance (ms:List Member) (who:Int):Decidable (there ms who):=by unfold there; infer_instance
def grant (ms:List Member) (who rights:Int):List Member :=
  if there ms who then ms.set (idx ms who) ⟨who,rights⟩ else ms.take (idx ms who)++⟨who,rights⟩ :: ms.drop (idx ms who)
def revoke (ms:List Member) (who:Int):List Member:=if there ms who then ms.eraseIdx (idx ms who) else ms
def changed (p:Policy) (e:Entry):Policy :=
  if e.kind=5 then ⟨p.founder,e.epoch,p.members⟩ else if e.kind=4 then ⟨p.founder,p.epoch,revoke p.members e.who⟩ else
  if e.kind=3 then ⟨p.founder,p.epoch,grant p.members e.who e.rights⟩ else p
def papply (p:Policy) (e:Entry):Except Int Policy:=if may p e=0 then .ok (changed p e) else .error (may p e)
theorem idx_le (ms:List Member) (who:Int):idx ms who≤ms.length:=by
  induction ms with
  | nil=>exact Nat.le_refl _
  | cons m ms ih=>unfold idx; split <;> simp <;> omega
theorem memOk_len {ms:List Member} {last:Int} (h0:0≤last) (h1:last≤16) (h:memOk last ms=true):(ms.length:Int)+last≤16:=by
  induction ms generalizing last with
  | nil=>simpa using h1
  | cons m ms ih =>
    unfold memOk at h
    split at h
    · cases h
    · have:=ih (last:=m.who) (by omega) (by omega) h
      simp only [List.length_cons]; omega
theorem policyOk_len {p:Policy} (h:policyOk p=true):p.members.length≤16:=by
  unfold policyOk at h
  rw [Bool.and_eq_true] at h
  have:=memOk_len (by omega) (by omega) h.1
  omega
theorem may_ok {p:Policy} {e:Entry} (h:may p e=0):policyOk p=true∧right e=true:=by
  unfold may at h
  split at h
  · cases h
  · rename_i hn
    constructor
    · cases hp:policyOk p with
      | true=>rfl
      | false=>exact absurd (.inl hp) hn
    · cases hp:right e with
      | true=>rfl
      | false=>exact absurd (.inr hp) hn
theorem changed_len {p:Policy} (e:Entry) (h:p.members.length≤16):(changed p e).members.length≤17:=by
  unfold changed
  split
  · simp only; omega
  · split
    · simp only; unfold revoke; split
      · rw [List.length_eraseIdx]; split <;> omega
      · omega
    · split
      · simp only; unfold grant; split
        · simp; omega
        · have:=idx_le p.members e.who
          simp; omega
      · omega
theorem papply_len {p q:Policy} {e:Entry} (h:papply p e = .ok q):q.members.length≤17:=by
  unfold papply at h
  split at h
  · rename_i hm
    cases h
    exact changed_len e (policyOk_len (may_ok hm).1)
  · cases h
theorem right_epoch {e:Entry} (h:right e=true) (hk:e.kind=5):1≤e.epoch∧e.epoch≤16:=by
  unfold right at h
  rw [Bool.and_eq_true] at h
  have h2:=h.2
  rw [if_neg (by omega),if_neg (by omega),if_neg (by omega),Bool.and_eq_true] at h2
  exact of_decide_eq_true h2.1
theorem papply_epoch {p q:Policy} {e:Entry} (hp:0≤p.epoch∧p.epoch≤16) (h:papply p e = .ok q):0≤q.epoch∧q.epoch≤16:=by
  unfold papply at h
  split at h
  · rename_i hm
    cases h
    unfold changed
    split
    · rename_i hk
      have:=right_epoch (may_ok hm).2 hk
      simp only; omega
    · split
      · exact hp
      · split <;> exact hp
  · cases h
end Spec
end Go.Lk
open Go.Proofs
set_option maxRecDepth 8000
namespace Go.Lk
open Asn renaming cells→Cl,row→Rw,kn→Kk,all→Al
theorem sz51:∀ (w:World),(sizeOf 51).run Tryz.prog w = .ok 1 w:=fun _=>by kernel_rfl
theorem PApply_fn (p:Policy) (mv:Value) (e:Entry) (nv:Value) (vv:Value) (wv:Value) (hm:p.members.length≤1000000):Fn Tryz.prog 137 #[.agg #[vint p.founder,vint p.epoch,mv],.agg #[vint e.kind,vint e.writer,vint e.seq,nv,vv,vint e.who,vint e.rights,vint e.epoch,wv]] [KM mv p.members,KB nv e.name,KB vv e.value,KW wv e.wraps] (fun v M=>(∃ (q:Policy) (mv2:Value),Spec.papply p e = .ok q∧.tuple #[.agg #[vint q.founder,vint q.epoch,mv2],vint 0]=v∧M=[KM mv2 q.members])∨(∃ (x:Int),Spec.papply p e = .error x∧x≠0∧.tuple #[.agg #[vint 0,vint 0,.slice none 0 0],vint x]=v∧M=[])):=by
 refine Fi 80 Tryz.func137 fun g R=>?_
 refine Ww [(0,.agg #[vint p.founder,vint p.epoch,mv]),(1,.agg #[vint e.kind,vint e.writer,vint e.seq,nv,vv,vint e.who,vint e.rights,vint e.epoch,wv])] [KM mv p.members,KB nv e.name,KB vv e.value,KW wv e.wraps,Al R] ?_
 refine Sn (Ru (OpRun.box rfl rfl rfl) ?_)
 rintro _ _ ⟨b1,rfl,rfl⟩
 refine Ru (OpRun.box rfl rfl rfl) ?_
 rintro _ _ ⟨b2,rfl,rfl⟩
 refine Ru (OpRun.alloc rfl zv53 rfl) ?_
 rintro _ _ ⟨b3,rfl,rfl⟩
 refine Qa (k:=Nw [(2,vptr b1 0),(3,vptr b2 0),(4,vptr b3 0),(5,vint 0)] [Cl b3 53 [vint 0,vint 0,N0],Cl b2 33 (ecs e nv vv wv),Cl b1 53 [vint p.founder,vint p.epoch,mv],KM mv p.members,KB nv e.name,KB vv e.value,KW wv e.wraps,Al R] ?_)
 refine W.seq (Sn (Qu (OpQ.loadN (i:=2) rfl rfl ld53 rfl rfl rfl) (k:=?_)))
 refine Qu (OpQ.loadN (i:=1) rfl rfl ld33 rfl rfl rfl) (k:=?_)
 refine Wc [.tmp 9,.tmp 10] [.agg #[vint p.founder,vint p.epoch,mv],.agg #[vint e.kind,vint e.writer,vint e.seq,nv,vv,vint e.who,vint e.rights,vint e.epoch,wv]] Tryz.call120 (May_fn p mv e nv vv wv (by first | omega | (simp; done) | (simp; omega) | (simp at *; omega))) ((ed 3 rfl).trans ((ed 5 rfl).trans ((ed 7 rfl).trans ((ed 9 rfl).trans (ep [3,2,1,0] rfl))))) ?_
 rintro _ _ ⟨rfl,rfl⟩
 refine Qa (k:=Nw [(2,vptr b1 0),(3,vptr b2 0),(4,vptr b3 0),(5,vint 0),(6,vint (Spec.may p e))] [Cl b3 53 [vint 0,vint 0,N0],Cl b2 33 (ecs e nv vv wv),Cl b1 53 [vint p.founder,vint p.epoch,mv],KM mv p.members,KB nv e.name,KB vv e.value,KW wv e.wraps,Al R] ?_)
 refine Sn (Qm (k:=Qu (OpQ.neq rfl rfl rfl) (k:=Nl [(2,vptr b1 0),(3,vptr b2 0),(4,vptr b3 0),(5,vint 0),(6,vint (Spec.may p e)),(13,.bool (decide (Spec.may p e≠0)))] ?_)))
 refine Cp rfl (fun h4=>?_) (fun h4=>?_)
 ·refine Sn (Qu (OpQ.build (qs:=[]) (v:=.agg #[vint 0,vint 0,N0]) rfl trivial (fun _=>by kernel_rfl)) (k:=Qm (k:=Rn (OpRun.store (i:=0) (vs:=[vint 0,vint 0,N0]) (cs':=[vint 0,vint 0,N0]) rfl rfl rfl sz53 rfl rfl (O3 one_nil) rfl (Lb rfl) rfl) (k:=Qa (k:=Nw [(2,vptr b1 0),(3,vptr b2 0),(4,vptr b3 0),(5,vint (Spec.may p e))] [Cl b3 53 [vint 0,vint 0,N0],Cl b2 33 (ecs e nv vv wv),Cl b1 53 [vint p.founder,vint p.epoch,mv],KM mv p.members,KB nv e.name,KB vv e.value,KW wv e.wraps,Al R] ?_)))))
  refine W.ret (thn_r (retC2 (M:=[]) (i:=0) rfl rfl rfl rfl rfl ld53 (.inr (⟨Spec.may p e,(by unfold Spec.papply; rw [if_neg h4]),(by exact h4),rfl,rfl⟩)) (es [7] rfl)))
 refine W.skip (thn_n (Wl [(2,vptr b1 0),(3,vptr b2 0),(4,vptr b3 0),(5,vint 0)] ?_))
 refine Sn (Qu (Of (fa53_2 _ _)) (k:=Qu (Ol 2 ld51) (k:=?_)))
 refine Wc [.tmp 17] [mv] Tryz.call218 (CloneM_fn mv p.members (by first | omega | (simp; done) | (simp; omega) | (simp at *; omega))) ((ed 3 rfl).trans (ep [0] rfl)) ?_
 rintro _ _ ⟨r5,rfl,rfl⟩
 refine Qu (Of (fa53_2 _ _)) (k:=?_)
 refine WN.fact (fun _ _ s=>(row_facts (i:=0) rfl s).2.2) (fun ho6=>?_)
 refine Rn (OpRun.store (i:=3) (vs:=[r5]) (cs':=[vint p.founder,vint p.epoch,r5]) rfl rfl rfl sz51 (cells_one ho6) rfl (one_cons ho6 one_nil) rfl (Lb rfl) rfl) (k:=Nw [(2,vptr b1 0),(3,vptr b2 0),(4,vptr b3 0),(5,vint 0)] [Cl b1 53 [vint p.founder,vint p.epoch,r5],Rw 270 2 r5 (mcells p.members),Cl b3 53 [vint 0,vint 0,N0],Cl b2 33 (ecs e nv vv wv),KM mv p.members,KB nv e.name,KB vv e.value,KW wv e.wraps,Al R] ?_)
 refine Sn (Qu (Of (fa53_2 _ _)) (k:=Qu (Ol 0 ld51) (k:=Qu (OpQ.makeFunc (xs:=[.tmp 3]) (vs:=[vptr b2 0]) rfl ⟨rfl,trivial⟩) (k:=?_))))
 refine Wc [.tmp 21,.tmp 22] [r5,.func (.func 220) #[] #[vptr b2 0]] Tryz.call219 (IndexM_fn r5 p.members b2 e nv vv wv) (ep [1,2] rfl) ?_
 rintro _ _ (⟨i7,h8,h9,h10,rfl,rfl⟩ | ⟨h11,rfl,rfl⟩)
 ·refine Qa (k:=Nw [(2,vptr b1 0),(3,vptr b2 0),(4,vptr b3 0),(5,vint 0),(7,vint (i7:Int))] [Rw 270 2 r5 (mcells p.members),Cl b2 33 (ecs e nv vv wv),Cl b1 53 [vint p.founder,vint p.epoch,r5],Cl b3 53 [vint 0,vint 0,N0],KM mv p.members,KB nv e.name,KB vv e.value,KW wv e.wraps,Al R] ?_)
  refine W.seq (W.drawG mixed ?_)
  refine WG.fact (fun _ _ s=>row_facts (i:=0) rfl s) (fun hr12=>?_)
  obtain ⟨hr12a,hr12b,hr12c⟩:=hr12; try simp only [La,Lc,Ln] at hr12a
  have hml:=mcells_length p.members; have hsl:slen r5=p.members.length:=by omega
  refine Gq 0 [] rfl (OpQ.move rfl rfl) ?_
  refine Gq 1 [] rfl (OpQ.decT (OpQ.geq rfl rfl rfl) (by omega)) ?_
  refine Gq 2 [] rfl (OpQ.move rfl rfl) ?_
  refine Gq 3 [] rfl (Of (fa53_2 _ _)) ?_
  refine WG.hold (Cl b1 53 [vint p.founder,vint p.epoch,r5],[]) ?_
  refine Gq 4 [2] rfl (Ol 0 ld51) ?_
  refine Gq 5 [2] rfl (OpQ.move rfl rfl) ?_
  refine WG.hold (Rw 270 2 r5 (mcells p.members),[]) ?_
  refine Gq 6 [0,1] rfl (OpQ.indexRow (i:=0) (j:=i7*2) rfl rfl rfl rfl (by omega) (by omega) (by omega) ix51) ?_
  refine Gq 7 [0,1] rfl (OpQ.fieldR (i:=0) (k:=0) rfl rfl rfl (by omega) (fun b o w=>fa270_0 b o w) rfl) ?_
  refine Gq 8 [0,1] rfl (OpQ.loadRow (i:=0) rfl rfl rfl (mcells_who (getD_some default (by omega))) ld3) ?_
  refine Gq 9 [0,1] rfl (Of (fa33_5 _ _)) ?_
  refine WG.hold (Cl b2 33 (ecs e nv vv wv),[]) ?_
  refine Gq 10 [1,0,0] rfl (Ol 0 ld3) ?_
  refine Gq 11 [1,0,0] rfl (OpQ.eql rfl rfl rfl) ?_
  refine Gq 12 [1,0,0] rfl (OpQ.pickT rfl rfl rfl) ?_
  refine Gq 13 [1,0,0] rfl (OpQ.assign rfl rfl) ?_
  refine WG.done (by kernel_rfl) ?_
  refine thn_n (Wl [(2,vptr b1 0),(3,vptr b2 0),(4,vptr b3 0),(5,vint 0),(7,vint (i7:Int)),(8,.bool (decide ((p.members.getD i7 default).who=e.who)))] ?_)
  refine W.seq (Sn (Qm (k:=?_)))
  refine Qu (OpQ.lss rfl rfl rfl) (k:=Nl [(2,vptr b1 0),(3,vptr b2 0),(4,vptr b3 0),(5,vint 0),(7,vint (i7:Int)),(8,.bool (decide ((p.members.getD i7 default).who=e.who))),(38,.bool (decide ((i7:Int) < 0)))] ?_)
  refine Cp rfl (fun h13=>absurd h13 (by omega)) (fun h13=>?_)
  refine W.skip (thn_n (Wl [(2,vptr b1 0),(3,vptr b2 0),(4,vptr b3 0),(5,vint 0),(7,vint (i7:Int)),(8,.bool (decide ((p.members.getD i7 default).who=e.who)))] ?_))
  refine W.seq (Sn (Qu (Of (fa33_0 _ _)) (k:=?_)))
  refine Qu (Ol 1 ld3) (k:=Nl [(2,vptr b1 0),(3,vptr b2 0),(4,vptr b3 0),(5,vint 0),(7,vint (i7:Int)),(8,.bool (decide ((p.members.getD i7 default).who=e.who))),(43,vint e.kind)] ?_)
  refine W.block (Sn (Qu (OpQ.eql rfl rfl rfl) (k:=?_)))
  refine Qa (k:=Nl [(2,vptr b1 0),(3,vptr b2 0),(4,vptr b3 0),(5,vint 0),(7,vint (i7:Int)),(8,.bool (decide ((p.members.getD i7 default).who=e.who))),(43,vint e.kind),(44,.bool (decide (e.kind=5)))] ?_)
  refine Cp rfl (fun h14=>?_) (fun h14=>?_)
  ·refine W.region (Qu (Of (fa33_7 _ _)) (k:=?_))
   refine Qu (Ol 1 ld3) (k:=Qu (Of (fa53_1 _ _)) (k:=Rn (OpRun.store (i:=2) (vs:=[vint e.epoch]) (cs':=[vint p.founder,vint e.epoch,r5]) rfl rfl rfl sz3 rfl rfl (one_cons rfl one_nil) rfl (Lb rfl) rfl) (k:=?_)))
   refine WN.nil (inblk_n (thn_n (Ww [(2,vptr b1 0),(4,vptr b3 0),(5,vint 0)] [Cl b1 53 [vint p.founder,vint e.epoch,r5],Rw 270 2 r5 (mcells p.members),Cl b2 33 (ecs e nv vv wv),Cl b3 53 [vint 0,vint 0,N0],KM mv p.members,KB nv e.name,KB vv e.value,KW wv e.wraps,Al R] ?_)))
   refine Sn (Qu (OpQ.loadN (i:=0) rfl rfl ld53 rfl rfl rfl) (k:=Rn (OpRun.store (i:=3) (vs:=[vint p.founder,vint e.epoch,r5]) (cs':=[vint p.founder,vint e.epoch,r5]) rfl rfl rfl sz53 rfl rfl (one_cons rfl (one_cons rfl (one_cons ho6 one_nil))) rfl (Lb rfl) rfl) (k:=Qa (k:=Nw [(4,vptr b3 0),(5,vint 0)] [Cl b3 53 [vint p.founder,vint e.epoch,r5],Cl b1 53 [vint p.founder,vint e.epoch,r5],Rw 270 2 r5 (mcells p.members),Cl b2 33 (ecs e nv vv wv),KM mv p.members,KB nv e.name,KB vv e.value,KW wv e.wraps,Al R] ?_))))
   refine W.ent (Ent.know (m:=CellsRel Enc.member (mcells p.members) (p.members)) (fun _ _ _=>mcells_rel)) ?_
   refine W.freezeRel (e:=Enc.member) (i:=3) (j:=0) (Lb rfl) rfl rfl ?_
   refine We [KM r5 p.members,Kx Enc.member (mcells p.members) p.members,Cl b3 53 [vint p.founder,vint e.epoch,r5],Cl b1 53 [vint p.founder,vint e.epoch,r5],Cl b2 33 (ecs e nv vv wv),KM mv p.members,KB nv e.name,KB vv e.value,KW wv e.wraps,Al R] ?_
   refine W.ret (retC2 (M:=[KM r5 ((⟨p.founder,e.epoch,p.members⟩:Policy).members)]) (i:=2) rfl rfl rfl rfl rfl ld53 (.inl ⟨(⟨p.founder,e.epoch,p.members⟩:Policy),r5,(by unfold Spec.papply; rw [if_pos (Decidable.of_not_not h4)]; unfold Spec.changed; rw [if_pos (by omega)]),(by first | rfl | exact bool_dec (by omega) | exact bool_F (by omega) | exact bool_T (by omega) | exact (bool_dec (by omega)).symm | exact (bool_F (by omega)).symm | exact (bool_T (by omega)).symm | simp [*]),rfl⟩) (es [0,8] rfl))
  refine Sn (Qu (OpQ.eql rfl rfl rfl) (k:=Qa (k:=Nl [(2,vptr b1 0),(3,vptr b2 0),(4,vptr b3 0),(5,vint 0),(7,vint (i7:Int)),(8,.bool (decide ((p.members.getD i7 default).who=e.who))),(43,vint e.kind),(49,.bool (decide (e.kind=4)))] ?_)))
  refine Cp rfl (fun h15=>?_) (fun h15=>?_)
  ·refine Sn (Qm (k:=Nl [(2,vptr b1 0),(4,vptr b3 0),(5,vint 0),(7,vint (i7:Int)),(51,.bool (decide ((p.members.getD i7 default).who=e.who)))] ?_))
   refine Cp rfl (fun h16=>?_) (fun h16=>?_)
   ·refine W.region (Qu (Of (fa53_2 _ _)) (k:=?_))
    refine Qu (Ol 2 ld51) (k:=Qm (k:=Qm (k:=Qu (OpQ.add rfl rfl rfl ⟨by omega,by omega⟩) (k:=?_))))
    refine Wc [.tmp 53,.tmp 54,.tmp 56] [r5,vint (i7:Int),vint ((i7:Int)+1)] Tryz.call221 (DeleteM_fn r5 p.members i7 (by first | omega | (simp; done) | (simp; omega) | (simp at *; omega))) (ep [0] rfl) ?_
    rintro _ _ ⟨r17,rfl,rfl⟩
    refine Qu (Of (fa53_2 _ _)) (k:=?_)
    refine WN.fact (fun _ _ s=>(row_facts (i:=0) rfl s).2.2) (fun ho18=>?_)
    refine Rn (OpRun.store (i:=2) (vs:=[r17]) (cs':=[vint p.founder,vint p.epoch,r17]) rfl rfl rfl sz51 (cells_one ho18) rfl (one_cons ho18 one_nil) rfl (Lb rfl) rfl) (k:=?_)
    refine WN.nil (inblk_n (thn_n (Ww [(2,vptr b1 0),(4,vptr b3 0),(5,vint 0)] [Cl b1 53 [vint p.founder,vint p.epoch,r17],Rw 270 2 r17 (mcells (p.members.eraseIdx i7)),Cl b2 33 (ecs e nv vv wv),Cl b3 53 [vint 0,vint 0,N0],KM mv p.members,KB nv e.name,KB vv e.value,KW wv e.wraps,Al R] ?_)))
    refine Sn (Qu (OpQ.loadN (i:=0) rfl rfl ld53 rfl rfl rfl) (k:=Rn (OpRun.store (i:=3) (vs:=[vint p.founder,vint p.epoch,r17]) (cs':=[vint p.founder,vint p.epoch,r17]) rfl rfl rfl sz53 rfl rfl (one_cons rfl (one_cons rfl (one_cons ho18 one_nil))) rfl (Lb rfl) rfl) (k:=Qa (k:=Nw [(4,vptr b3 0),(5,vint 0)] [Cl b3 53 [vint p.founder,vint p.epoch,r17],Cl b1 53 [vint p.founder,vint p.epoch,r17],Rw 270 2 r17 (mcells (p.members.eraseIdx i7)),Cl b2 33 (ecs e nv vv wv),KM mv p.members,KB nv e.name,KB vv e.value,KW wv e.wraps,Al R] ?_))))
    refine Wr 2 fun hr19a hr19b hr19c=>?_
    try simp only [La,Lc,Ln] at hr19a
    refine W.ent (Ent.know (m:=CellsRel Enc.member (mcells (p.members.eraseIdx i7)) ((p.members.eraseIdx i7))) (fun _ _ _=>mcells_rel)) ?_
    refine W.freezeRel (e:=Enc.member) (i:=3) (j:=0) (Lb rfl) rfl rfl ?_
    refine We [KM r17 (p.members.eraseIdx i7),Kx Enc.member (mcells (p.members.eraseIdx i7)) (p.members.eraseIdx i7),Cl b3 53 [vint p.founder,vint p.epoch,r17],Cl b1 53 [vint p.founder,vint p.epoch,r17],Cl b2 33 (ecs e nv vv wv),KM mv p.members,KB nv e.name,KB vv e.value,KW wv e.wraps,Al R] ?_
    refine W.ret (retC2 (M:=[KM r17 ((⟨p.founder,p.epoch,(p.members.eraseIdx i7)⟩:Policy).members)]) (i:=2) rfl rfl rfl rfl rfl ld53 (.inl ⟨(⟨p.founder,p.epoch,(p.members.eraseIdx i7)⟩:Policy),r17,(by unfold Spec.papply; rw [if_pos (Decidable.of_not_not h4)]; unfold Spec.changed; rw [if_neg (by omega),if_pos (by omega)]; unfold Spec.revoke; rw [if_pos ⟨by omega,by rw [h8]; exact h16⟩,h8]),(by first | rfl | exact bool_dec (by omega) | exact bool_F (by omega) | exact bool_T (by omega) | exact (bool_dec (by omega)).symm | exact (bool_F (by omega)).symm | exact (bool_T (by omega)).symm | simp [*]),rfl⟩) (es [0,8] rfl))
   refine W.skip (inblk_n (thn_n (Wl [(2,vptr b1 0),(4,vptr b3 0),(5,vint 0)] ?_)))
   refine Sn (Qu (OpQ.loadN (i:=2) rfl rfl ld53 rfl rfl rfl) (k:=Rn (OpRun.store (i:=3) (vs:=[vint p.founder,vint p.epoch,r5]) (cs':=[vint p.founder,vint p.epoch,r5]) rfl rfl rfl sz53 rfl rfl (one_cons rfl (one_cons rfl (one_cons ho6 one_nil))) rfl (Lb rfl) rfl) (k:=Qa (k:=Nw [(4,vptr b3 0),(5,vint 0)] [Cl b3 53 [vint p.founder,vint p.epoch,r5],Rw 270 2 r5 (mcells p.members),Cl b2 33 (ecs e nv vv wv),Cl b1 53 [vint p.founder,vint p.epoch,r5],KM mv p.members,KB nv e.name,KB vv e.value,KW wv e.wraps,Al R] ?_))))
   refine W.ent (Ent.know (m:=CellsRel Enc.member (mcells p.members) (p.members)) (fun _ _ _=>mcells_rel)) ?_
   refine W.freezeRel (e:=Enc.member) (i:=2) (j:=0) (Lb rfl) rfl rfl ?_
   refine We [KM r5 p.members,Kx Enc.member (mcells p.members) p.members,Cl b3 53 [vint p.founder,vint p.epoch,r5],Cl b2 33 (ecs e nv vv wv),Cl b1 53 [vint p.founder,vint p.epoch,r5],KM mv p.members,KB nv e.name,KB vv e.value,KW wv e.wraps,Al R] ?_
   refine W.ret (retC2 (M:=[KM r5 ((⟨p.founder,p.epoch,p.members⟩:Policy).members)]) (i:=2) rfl rfl rfl rfl rfl ld53 (.inl ⟨(⟨p.founder,p.epoch,p.members⟩:Policy),r5,(by unfold Spec.papply; rw [if_pos (Decidable.of_not_not h4)]; unfold Spec.changed; rw [if_neg (by omega),if_pos (by omega)]; unfold Spec.revoke; rw [if_neg (fun h=>h16 (by have h2:=h.2; rw [h8] at h2; exact h2))]),(by first | rfl | exact bool_dec (by omega) | exact bool_F (by omega) | exact bool_T (by omega) | exact (bool_dec (by omega)).symm | exact (bool_F (by omega)).symm | exact (bool_T (by omega)).symm | simp [*]),rfl⟩) (es [0,8] rfl))
  refine Sn (Qu (OpQ.eql rfl rfl rfl) (k:=Qa (k:=Nl [(2,vptr b1 0),(3,vptr b2 0),(4,vptr b3 0),(5,vint 0),(7,vint (i7:Int)),(8,.bool (decide ((p.members.getD i7 default).who=e.who))),(59,.bool (decide (e.kind=3)))] ?_)))
  refine Cp rfl (fun h20=>?_) (fun h20=>?_)
  ·refine W.seq (Sn (Qm (k:=?_)))
   refine Qu (OpQ.notP rfl rfl) (k:=Nl [(2,vptr b1 0),(3,vptr b2 0),(4,vptr b3 0),(5,vint 0),(7,vint (i7:Int)),(62,.bool (decide (¬ ((p.members.getD i7 default).who=e.who))))] ?_)
   refine Cp rfl (fun h21=>?_) (fun h21=>?_)
   ·refine W.region (Qu (Of (fa53_2 _ _)) (k:=?_))
    refine Qu (Ol 2 ld51) (k:=Qm (k:=Qu (Of (fa33_5 _ _)) (k:=Qu (Ol 1 ld3) (k:=Qu (OpQ.build (qs:=[(0,vint e.who)]) (v:=.agg #[vint e.who,vint 0]) rfl ⟨rfl,rfl,trivial⟩ (fun _=>by kernel_rfl)) (k:=?_)))))
    refine Ru (OpRun.buildSlice (qs:=[(0,.agg #[vint e.who,vint 0])]) (cs:=[vint e.who,vint 0]) (E:=270) (sz:=2) rfl ⟨rfl,rfl,trivial⟩ (fun _=>by kernel_rfl) (one_cons rfl (one_cons rfl one_nil)) rfl (by decide)) ?_
    rintro v22 _ ⟨h23a,h23b,h23c,rfl⟩
    refine WN.ent (Ent.know (m:=CellsRel Enc.member ([vint e.who,vint 0]) ([(⟨e.who,0⟩:Member)])) (fun K h s=>(CellsRel.cons (cs:=[vint e.who,vint 0]) (ds:=[]) rfl Enc.member_mk CellsRel.nil))) ?_
    refine Ne [Kx Enc.member ([vint e.who,vint 0]) ([(⟨e.who,0⟩:Member)]),Rw 270 2 v22 ([vint e.who,vint 0]),Rw 270 2 r5 (mcells p.members),Cl b2 33 (ecs e nv vv wv),Cl b1 53 [vint p.founder,vint p.epoch,r5],Cl b3 53 [vint 0,vint 0,N0],KM mv p.members,KB nv e.name,KB vv e.value,KW wv e.wraps,Al R] ?_
    refine WN.ent (L':=[Rw 270 2 v22 (mcells ([(⟨e.who,0⟩:Member)])),Kx Enc.member ([vint e.who,vint 0]) ([(⟨e.who,0⟩:Member)]),Rw 270 2 r5 (mcells p.members),Cl b2 33 (ecs e nv vv wv),Cl b1 53 [vint p.founder,vint p.epoch,r5],Cl b3 53 [vint 0,vint 0,N0],KM mv p.members,KB nv e.name,KB vv e.value,KW wv e.wraps,Al R]) ((es [1,0,0,0,0,0,0,0,0,0,0] rfl).trans (Ent.of_eq (by rfl))) ?_
    refine Wc [.tmp 64,.tmp 65,.tmp 69] [r5,vint (i7:Int),v22] Tryz.call222 (InsertM_fn r5 p.members i7 v22 (⟨e.who,0⟩:Member) (by first | omega | (simp; done) | (simp; omega) | (simp at *; omega)) (by first | omega | (simp; done) | (simp; omega) | (simp at *; omega))) (ep [2,0] rfl) ?_
    rintro _ _ ⟨r24,rfl,rfl⟩
    refine Qu (Of (fa53_2 _ _)) (k:=?_)
    refine WN.fact (fun _ _ s=>(row_facts (i:=0) rfl s).2.2) (fun ho25=>?_)
    refine Rn (OpRun.store (i:=3) (vs:=[r24]) (cs':=[vint p.founder,vint p.epoch,r24]) rfl rfl rfl sz51 (cells_one ho25) rfl (one_cons ho25 one_nil) rfl (Lb rfl) rfl) (k:=Nw [(2,vptr b1 0),(3,vptr b2 0),(4,vptr b3 0),(5,vint 0),(7,vint (i7:Int))] [Cl b1 53 [vint p.founder,vint p.epoch,r24],Rw 270 2 r24 (mcells (p.members.take i7++(⟨e.who,0⟩:Member) :: p.members.drop i7)),Kx Enc.member ([vint e.who,vint 0]) ([(⟨e.who,0⟩:Member)]),Cl b2 33 (ecs e nv vv wv),Cl b3 53 [vint 0,vint 0,N0],KM mv p.members,KB nv e.name,KB vv e.value,KW wv e.wraps,Al R] ?_)
    refine W.region (Qu (Of (fa53_2 _ _)) (k:=?_))
    refine Qu (Ol 0 ld51) (k:=Qm (k:=Qu (Of (fa33_6 _ _)) (k:=Qu (Ol 3 ld3) (k:=?_))))
    refine Nr 1 fun hr26a hr26b hr26c=>?_
    try simp only [La,Lc,Ln,List.length_take,List.length_drop] at hr26a
    have hpl:=put_len (a:=(⟨e.who,0⟩:Member)) (show i7≤p.members.length by omega)
    refine Qu (OpQ.indexRow (i:=1) (j:=i7*2) rfl rfl rfl rfl (by omega) (by omega) (by omega) ix51) (k:=Qu (OpQ.fieldR (i:=1) (k:=1) rfl rfl rfl (by omega) (fun b o w=>fa270_1 b o w) rfl) (k:=Rn (OpRun.storeRow (i:=1) (cs':=(mcells (p.members.take i7++(⟨e.who,0⟩:Member) :: p.members.drop i7)).set (i7*2+1) (vint e.rights)) rfl rfl rfl rfl (by first | omega | (simp; done) | (simp; omega)) sz3 rfl rfl) (k:=?_)))
    refine WN.nil (inblk_n (thn_n (Ww [(2,vptr b1 0),(4,vptr b3 0),(5,vint 0)] [Rw 270 2 r24 ((mcells (p.members.take i7++(⟨e.who,0⟩:Member) :: p.members.drop i7)).set (i7*2+1) (vint e.rights)),Cl b1 53 [vint p.founder,vint p.epoch,r24],Kx Enc.member ([vint e.who,vint 0]) ([(⟨e.who,0⟩:Member)]),Cl b2 33 (ecs e nv vv wv),Cl b3 53 [vint 0,vint 0,N0],KM mv p.members,KB nv e.name,KB vv e.value,KW wv e.wraps,Al R] ?_)))
    refine Sn (Qu (OpQ.loadN (i:=1) rfl rfl ld53 rfl rfl rfl) (k:=Rn (OpRun.store (i:=4) (vs:=[vint p.founder,vint p.epoch,r24]) (cs':=[vint p.founder,vint p.epoch,r24]) rfl rfl rfl sz53 rfl rfl (one_cons rfl (one_cons rfl (one_cons ho25 one_nil))) rfl (Lb rfl) rfl) (k:=Qa (k:=Nw [(4,vptr b3 0),(5,vint 0)] [Cl b3 53 [vint p.founder,vint p.epoch,r24],Rw 270 2 r24 ((mcells (p.members.take i7++(⟨e.who,0⟩:Member) :: p.members.drop i7)).set (i7*2+1) (vint e.rights)),Cl b1 53 [vint p.founder,vint p.epoch,r24],Kx Enc.member ([vint e.who,vint 0]) ([(⟨e.who,0⟩:Member)]),Cl b2 33 (ecs e nv vv wv),KM mv p.members,KB nv e.name,KB vv e.value,KW wv e.wraps,Al R] ?_))))
    refine Wr 1 fun hr27a hr27b hr27c=>?_
    try simp only [La,Lc,Ln,List.length_take,List.length_drop] at hr27a
    refine W.ent (L':=[Rw 270 2 r24 (mcells (p.members.take i7++(⟨e.who,e.rights⟩:Member) :: p.members.drop i7)),Cl b3 53 [vint p.founder,vint p.epoch,r24],Cl b1 53 [vint p.founder,vint p.epoch,r24],Kx Enc.member ([vint e.who,vint 0]) ([(⟨e.who,0⟩:Member)]),Cl b2 33 (ecs e nv vv wv),KM mv p.members,KB nv e.name,KB vv e.value,KW wv e.wraps,Al R]) ((es [1,0,0,0,0,0,0,0,0,0] rfl).trans (Ent.of_eq (by rw [mcells_set (put_at (by omega)),put_set (by omega)]))) ?_
    refine W.ent (Ent.know (m:=CellsRel Enc.member (mcells (p.members.take i7++(⟨e.who,e.rights⟩:Member) :: p.members.drop i7)) (p.members.take i7++(⟨e.who,e.rights⟩:Member) :: p.members.drop i7)) (fun _ _ _=>mcells_rel)) ?_
    refine W.freezeRel (e:=Enc.member) (i:=1) (j:=0) (Lb rfl) rfl rfl ?_
    refine We [KM r24 (p.members.take i7++(⟨e.who,e.rights⟩:Member) :: p.members.drop i7),Kx Enc.member (mcells (p.members.take i7++(⟨e.who,e.rights⟩:Member) :: p.members.drop i7)) (p.members.take i7++(⟨e.who,e.rights⟩:Member) :: p.members.drop i7),Cl b3 53 [vint p.founder,vint p.epoch,r24],Cl b1 53 [vint p.founder,vint p.epoch,r24],Kx Enc.member ([vint e.who,vint 0]) ([(⟨e.who,0⟩:Member)]),Cl b2 33 (ecs e nv vv wv),KM mv p.members,KB nv e.name,KB vv e.value,KW wv e.wraps,Al R] ?_
    refine W.ret (retC2 (M:=[KM r24 ((⟨p.founder,p.epoch,p.members.take i7++(⟨e.who,e.rights⟩:Member) :: p.members.drop i7⟩:Policy).members)]) (i:=2) rfl rfl rfl rfl rfl ld53 (.inl ⟨(⟨p.founder,p.epoch,p.members.take i7++(⟨e.who,e.rights⟩:Member) :: p.members.drop i7⟩:Policy),r24,(by unfold Spec.papply; rw [if_pos (Decidable.of_not_not h4)]; unfold Spec.changed; rw [if_neg (by omega),if_neg (by omega),if_pos (by omega)]; unfold Spec.grant; rw [if_neg (fun h=>h21 (by have h2:=h.2; rw [h8] at h2; exact h2)),h8]; try simp only [hsl]),(by first | rfl | exact bool_dec (by omega) | exact bool_F (by omega) | exact bool_T (by omega) | exact (bool_dec (by omega)).symm | exact (bool_F (by omega)).symm | exact (bool_T (by omega)).symm | simp [*]),rfl⟩) (es [0,9] rfl))
   refine W.skip (thn_n (Wl [(2,vptr b1 0),(3,vptr b2 0),(4,vptr b3 0),(5,vint 0),(7,vint (i7:Int))] ?_))
   refine W.region (Qu (Of (fa53_2 _ _)) (k:=?_))
   refine Qu (Ol 2 ld51) (k:=Qm (k:=Qu (Of (fa33_6 _ _)) (k:=Qu (Ol 1 ld3) (k:=Qu (OpQ.indexRow (i:=0) (j:=i7*2) rfl rfl rfl rfl (by omega) (by omega) (by omega) ix51) (k:=Qu (OpQ.fieldR (i:=0) (k:=1) rfl rfl rfl (by omega) (fun b o w=>fa270_1 b o w) rfl) (k:=Rn (OpRun.storeRow (i:=0) (cs':=(mcells p.members).set (i7*2+1) (vint e.rights)) rfl rfl rfl rfl (by first | omega | (simp; done) | (simp; omega)) sz3 rfl rfl) (k:=?_)))))))
   refine WN.nil (inblk_n (thn_n (Ww [(2,vptr b1 0),(4,vptr b3 0),(5,vint 0)] [Rw 270 2 r5 ((mcells p.members).set (i7*2+1) (vint e.rights)),Cl b2 33 (ecs e nv vv wv),Cl b1 53 [vint p.founder,vint p.epoch,r5],Cl b3 53 [vint 0,vint 0,N0],KM mv p.members,KB nv e.name,KB vv e.value,KW wv e.wraps,Al R] ?_)))
   refine Sn (Qu (OpQ.loadN (i:=2) rfl rfl ld53 rfl rfl rfl) (k:=Rn (OpRun.store (i:=3) (vs:=[vint p.founder,vint p.epoch,r5]) (cs':=[vint p.founder,vint p.epoch,r5]) rfl rfl rfl sz53 rfl rfl (one_cons rfl (one_cons rfl (one_cons ho6 one_nil))) rfl (Lb rfl) rfl) (k:=Qa (k:=Nw [(4,vptr b3 0),(5,vint 0)] [Cl b3 53 [vint p.founder,vint p.epoch,r5],Rw 270 2 r5 ((mcells p.members).set (i7*2+1) (vint e.rights)),Cl b2 33 (ecs e nv vv wv),Cl b1 53 [vint p.founder,vint p.epoch,r5],KM mv p.members,KB nv e.name,KB vv e.value,KW wv e.wraps,Al R] ?_))))
   refine Wr 1 fun hr28a hr28b hr28c=>?_
   try simp only [La,Lc,Ln] at hr28a
   refine W.ent (L':=[Rw 270 2 r5 (mcells (p.members.set i7 ⟨e.who,e.rights⟩)),Cl b3 53 [vint p.founder,vint p.epoch,r5],Cl b2 33 (ecs e nv vv wv),Cl b1 53 [vint p.founder,vint p.epoch,r5],KM mv p.members,KB nv e.name,KB vv e.value,KW wv e.wraps,Al R]) ((es [1,0,0,0,0,0,0,0,0] rfl).trans (Ent.of_eq (by rw [mcells_set (w:=e.who) (r:=(p.members.getD i7 default).rights) (by rw [← (Decidable.of_not_not h21)]; exact getD_some default (by omega))]))) ?_
   refine W.ent (Ent.know (m:=CellsRel Enc.member (mcells (p.members.set i7 ⟨e.who,e.rights⟩)) (p.members.set i7 ⟨e.who,e.rights⟩)) (fun _ _ _=>mcells_rel)) ?_
   refine W.freezeRel (e:=Enc.member) (i:=1) (j:=0) (Lb rfl) rfl rfl ?_
   refine We [KM r5 (p.members.set i7 ⟨e.who,e.rights⟩),Kx Enc.member (mcells (p.members.set i7 ⟨e.who,e.rights⟩)) (p.members.set i7 ⟨e.who,e.rights⟩),Cl b3 53 [vint p.founder,vint p.epoch,r5],Cl b2 33 (ecs e nv vv wv),Cl b1 53 [vint p.founder,vint p.epoch,r5],KM mv p.members,KB nv e.name,KB vv e.value,KW wv e.wraps,Al R] ?_
   refine W.ret (retC2 (M:=[KM r5 ((⟨p.founder,p.epoch,p.members.set i7 ⟨e.who,e.rights⟩⟩:Policy).members)]) (i:=2) rfl rfl rfl rfl rfl ld53 (.inl ⟨(⟨p.founder,p.epoch,p.members.set i7 ⟨e.who,e.rights⟩⟩:Policy),r5,(by unfold Spec.papply; rw [if_pos (Decidable.of_not_not h4)]; unfold Spec.changed; rw [if_neg (by omega),if_neg (by omega),if_pos (by omega)]; unfold Spec.grant; rw [if_pos ⟨by omega,by rw [h8]; exact (Decidable.of_not_not h21)⟩,h8]),(by first | rfl | exact bool_dec (by omega) | exact bool_F (by omega) | exact bool_T (by omega) | exact (bool_dec (by omega)).symm | exact (bool_F (by omega)).symm | exact (bool_T (by omega)).symm | simp [*]),rfl⟩) (es [0,8] rfl))
  refine W.skip (inblk_n (thn_n (Wl [(2,vptr b1 0),(4,vptr b3 0),(5,vint 0)] ?_)))
  refine Sn (Qu (OpQ.loadN (i:=2) rfl rfl ld53 rfl rfl rfl) (k:=Rn (OpRun.store (i:=3) (vs:=[vint p.founder,vint p.epoch,r5]) (cs':=[vint p.founder,vint p.epoch,r5]) rfl rfl rfl sz53 rfl rfl (one_cons rfl (one_cons rfl (one_cons ho6 one_nil))) rfl (Lb rfl) rfl) (k:=Qa (k:=Nw [(4,vptr b3 0),(5,vint 0)] [Cl b3 53 [vint p.founder,vint p.epoch,r5],Rw 270 2 r5 (mcells p.members),Cl b2 33 (ecs e nv vv wv),Cl b1 53 [vint p.founder,vint p.epoch,r5],KM mv p.members,KB nv e.name,KB vv e.value,KW wv e.wraps,Al R] ?_))))
  refine W.ent (Ent.know (m:=CellsRel Enc.member (mcells p.members) (p.members)) (fun _ _ _=>mcells_rel)) ?_
  refine W.freezeRel (e:=Enc.member) (i:=2) (j:=0) (Lb rfl) rfl rfl ?_
  refine We [KM r5 p.members,Kx Enc.member (mcells p.members) p.members,Cl b3 53 [vint p.founder,vint p.epoch,r5],Cl b2 33 (ecs e nv vv wv),Cl b1 53 [vint p.founder,vint p.epoch,r5],KM mv p.members,KB nv e.name,KB vv e.value,KW wv e.wraps,Al R] ?_
  refine W.ret (retC2 (M:=[KM r5 ((⟨p.founder,p.epoch,p.members⟩:Policy).members)]) (i:=2) rfl rfl rfl rfl rfl ld53 (.inl ⟨(⟨p.founder,p.epoch,p.members⟩:Policy),r5,(by unfold Spec.papply; rw [if_pos (Decidable.of_not_not h4)]; unfold Spec.changed; rw [if_neg (by omega),if_neg (by omega),if_neg (by omega)]),(by first | rfl | exact bool_dec (by omega) | exact bool_F (by omega) | exact bool_T (by omega) | exact (bool_dec (by omega)).symm | exact (bool_F (by omega)).symm | exact (bool_T (by omega)).symm | simp [*]),rfl⟩) (es [0,8] rfl))
 refine Qa (k:=Nw [(2,vptr b1 0),(3,vptr b2 0),(4,vptr b3 0),(5,vint 0),(7,vint (-1))] [Rw 270 2 r5 (mcells p.members),Cl b2 33 (ecs e nv vv wv),Cl b1 53 [vint p.founder,vint p.epoch,r5],Cl b3 53 [vint 0,vint 0,N0],KM mv p.members,KB nv e.name,KB vv e.value,KW wv e.wraps,Al R] ?_)
 refine W.seq (W.drawG mixed ?_)
 refine WG.fact (fun _ _ s=>row_facts (i:=0) rfl s) (fun hr29=>?_)
 obtain ⟨hr29a,hr29b,hr29c⟩:=hr29; try simp only [La,Lc,Ln] at hr29a
 have hml:=mcells_length p.members; have hsl:slen r5=p.members.length:=by omega
 refine Gq 0 [] rfl (OpQ.move rfl rfl) ?_
 refine Gq 1 [] rfl (OpQ.decF (OpQ.geq rfl rfl rfl) (by decide)) ?_
 refine Gq 2 [] rfl (OpQ.move rfl rfl) ?_
 refine Gs 3 [] ?_
 refine Gs 4 [] ?_
 refine Gs 5 [] ?_
 refine Gs 6 [] ?_
 refine Gs 7 [] ?_
 refine Gs 8 [] ?_
 refine Gs 9 [] ?_
 refine Gs 10 [] ?_
 refine Gs 11 [] ?_
 refine Gq 12 [] rfl (OpQ.pickF rfl rfl rfl) ?_
 refine Gq 13 [] rfl (OpQ.assign rfl rfl) ?_
 refine WG.done (by kernel_rfl) ?_
 refine thn_n (Wl [(2,vptr b1 0),(3,vptr b2 0),(4,vptr b3 0),(5,vint 0),(7,vint (-1)),(8,.bool false)] ?_)
 refine W.seq (Sn (Qm (k:=?_)))
 refine Qu (OpQ.lss rfl rfl rfl) (k:=Nl [(2,vptr b1 0),(3,vptr b2 0),(4,vptr b3 0),(5,vint 0),(7,vint (-1)),(8,.bool false),(38,.bool (decide ((-1:Int) < 0)))] ?_)
 refine Cp rfl (fun h30=>?_) (fun h30=>absurd (by decide) h30)
 refine W.region (Qu (Of (fa53_2 _ _)) (k:=?_))
 refine Qu (Ol 2 ld51) (k:=Qu (OpQ.lenRow (i:=0) rfl rfl rfl (len51 _)) (k:=Qa (k:=Nl [(2,vptr b1 0),(3,vptr b2 0),(4,vptr b3 0),(5,vint 0),(7,vint (slen r5:Int)),(8,.bool false)] ?_)))
 refine W.seq (Sn (Qu (Of (fa33_0 _ _)) (k:=?_)))
 refine Qu (Ol 1 ld3) (k:=Nl [(2,vptr b1 0),(3,vptr b2 0),(4,vptr b3 0),(5,vint 0),(7,vint (slen r5:Int)),(8,.bool false),(43,vint e.kind)] ?_)
 refine W.block (Sn (Qu (OpQ.eql rfl rfl rfl) (k:=?_)))
 refine Qa (k:=Nl [(2,vptr b1 0),(3,vptr b2 0),(4,vptr b3 0),(5,vint 0),(7,vint (slen r5:Int)),(8,.bool false),(43,vint e.kind),(44,.bool (decide (e.kind=5)))] ?_)
 refine Cp rfl (fun h31=>?_) (fun h31=>?_)
 ·refine W.region (Qu (Of (fa33_7 _ _)) (k:=?_))
  refine Qu (Ol 1 ld3) (k:=Qu (Of (fa53_1 _ _)) (k:=Rn (OpRun.store (i:=2) (vs:=[vint e.epoch]) (cs':=[vint p.founder,vint e.epoch,r5]) rfl rfl rfl sz3 rfl rfl (one_cons rfl one_nil) rfl (Lb rfl) rfl) (k:=?_)))
  refine WN.nil (inblk_n (thn_n (Ww [(2,vptr b1 0),(4,vptr b3 0),(5,vint 0)] [Cl b1 53 [vint p.founder,vint e.epoch,r5],Rw 270 2 r5 (mcells p.members),Cl b2 33 (ecs e nv vv wv),Cl b3 53 [vint 0,vint 0,N0],KM mv p.members,KB nv e.name,KB vv e.value,KW wv e.wraps,Al R] ?_)))
  refine Sn (Qu (OpQ.loadN (i:=0) rfl rfl ld53 rfl rfl rfl) (k:=Rn (OpRun.store (i:=3) (vs:=[vint p.founder,vint e.epoch,r5]) (cs':=[vint p.founder,vint e.epoch,r5]) rfl rfl rfl sz53 rfl rfl (one_cons rfl (one_cons rfl (one_cons ho6 one_nil))) rfl (Lb rfl) rfl) (k:=Qa (k:=Nw [(4,vptr b3 0),(5,vint 0)] [Cl b3 53 [vint p.founder,vint e.epoch,r5],Cl b1 53 [vint p.founder,vint e.epoch,r5],Rw 270 2 r5 (mcells p.members),Cl b2 33 (ecs e nv vv wv),KM mv p.members,KB nv e.name,KB vv e.value,KW wv e.wraps,Al R] ?_))))
  refine W.ent (Ent.know (m:=CellsRel Enc.member (mcells p.members) (p.members)) (fun _ _ _=>mcells_rel)) ?_
  refine W.freezeRel (e:=Enc.member) (i:=3) (j:=0) (Lb rfl) rfl rfl ?_
  refine We [KM r5 p.members,Kx Enc.member (mcells p.members) p.members,Cl b3 53 [vint p.founder,vint e.epoch,r5],Cl b1 53 [vint p.founder,vint e.epoch,r5],Cl b2 33 (ecs e nv vv wv),KM mv p.members,KB nv e.name,KB vv e.value,KW wv e.wraps,Al R] ?_
  refine W.ret (retC2 (M:=[KM r5 ((⟨p.founder,e.epoch,p.members⟩:Policy).members)]) (i:=2) rfl rfl rfl rfl rfl ld53 (.inl ⟨(⟨p.founder,e.epoch,p.members⟩:Policy),r5,(by unfold Spec.papply; rw [if_pos (Decidable.of_not_not h4)]; unfold Spec.changed; rw [if_pos (by omega)]),(by first | rfl | exact bool_dec (by omega) | exact bool_F (by omega) | exact bool_T (by omega) | exact (bool_dec (by omega)).symm | exact (bool_F (by omega)).symm | exact (bool_T (by omega)).symm | simp [*]),rfl⟩) (es [0,8] rfl))
 refine Sn (Qu (OpQ.eql rfl rfl rfl) (k:=Qa (k:=Nl [(2,vptr b1 0),(3,vptr b2 0),(4,vptr b3 0),(5,vint 0),(7,vint (slen r5:Int)),(8,.bool false),(43,vint e.kind),(49,.bool (decide (e.kind=4)))] ?_)))
 refine Cp rfl (fun h32=>?_) (fun h32=>?_)
 ·refine Sn (Qm (k:=Nl [(2,vptr b1 0),(4,vptr b3 0),(5,vint 0),(7,vint (slen r5:Int)),(51,.bool false)] ?_))
  refine W.condF rfl ?_
  refine W.skip (inblk_n (thn_n (Wl [(2,vptr b1 0),(4,vptr b3 0),(5,vint 0)] ?_)))
  refine Sn (Qu (OpQ.loadN (i:=2) rfl rfl ld53 rfl rfl rfl) (k:=Rn (OpRun.store (i:=3) (vs:=[vint p.founder,vint p.epoch,r5]) (cs':=[vint p.founder,vint p.epoch,r5]) rfl rfl rfl sz53 rfl rfl (one_cons rfl (one_cons rfl (one_cons ho6 one_nil))) rfl (Lb rfl) rfl) (k:=Qa (k:=Nw [(4,vptr b3 0),(5,vint 0)] [Cl b3 53 [vint p.founder,vint p.epoch,r5],Rw 270 2 r5 (mcells p.members),Cl b2 33 (ecs e nv vv wv),Cl b1 53 [vint p.founder,vint p.epoch,r5],KM mv p.members,KB nv e.name,KB vv e.value,KW wv e.wraps,Al R] ?_))))
  refine W.ent (Ent.know (m:=CellsRel Enc.member (mcells p.members) (p.members)) (fun _ _ _=>mcells_rel)) ?_
  refine W.freezeRel (e:=Enc.member) (i:=2) (j:=0) (Lb rfl) rfl rfl ?_
  refine We [KM r5 p.members,Kx Enc.member (mcells p.members) p.members,Cl b3 53 [vint p.founder,vint p.epoch,r5],Cl b2 33 (ecs e nv vv wv),Cl b1 53 [vint p.founder,vint p.epoch,r5],KM mv p.members,KB nv e.name,KB vv e.value,KW wv e.wraps,Al R] ?_
  refine W.ret (retC2 (M:=[KM r5 ((⟨p.founder,p.epoch,p.members⟩:Policy).members)]) (i:=2) rfl rfl rfl rfl rfl ld53 (.inl ⟨(⟨p.founder,p.epoch,p.members⟩:Policy),r5,(by unfold Spec.papply; rw [if_pos (Decidable.of_not_not h4)]; unfold Spec.changed; rw [if_neg (by omega),if_pos (by omega)]; unfold Spec.revoke; rw [if_neg (fun h=>by have h1:=h.1; omega)]),(by first | rfl | exact bool_dec (by omega) | exact bool_F (by omega) | exact bool_T (by omega) | exact (bool_dec (by omega)).symm | exact (bool_F (by omega)).symm | exact (bool_T (by omega)).symm | simp [*]),rfl⟩) (es [0,8] rfl))
 refine Sn (Qu (OpQ.eql rfl rfl rfl) (k:=Qa (k:=Nl [(2,vptr b1 0),(3,vptr b2 0),(4,vptr b3 0),(5,vint 0),(7,vint (slen r5:Int)),(8,.bool false),(59,.bool (decide (e.kind=3)))] ?_)))
 refine Cp rfl (fun h33=>?_) (fun h33=>?_)
 ·refine W.seq (Sn (Qm (k:=?_)))
  refine Qu (OpQ.not rfl rfl) (k:=Nl [(2,vptr b1 0),(3,vptr b2 0),(4,vptr b3 0),(5,vint 0),(7,vint (slen r5:Int)),(62,.bool true)] ?_)
  refine W.condT rfl ?_
  refine W.region (Qu (Of (fa53_2 _ _)) (k:=?_))
  refine Qu (Ol 2 ld51) (k:=Qm (k:=Qu (Of (fa33_5 _ _)) (k:=Qu (Ol 1 ld3) (k:=Qu (OpQ.build (qs:=[(0,vint e.who)]) (v:=.agg #[vint e.who,vint 0]) rfl ⟨rfl,rfl,trivial⟩ (fun _=>by kernel_rfl)) (k:=?_)))))
  refine Ru (OpRun.buildSlice (qs:=[(0,.agg #[vint e.who,vint 0])]) (cs:=[vint e.who,vint 0]) (E:=270) (sz:=2) rfl ⟨rfl,rfl,trivial⟩ (fun _=>by kernel_rfl) (one_cons rfl (one_cons rfl one_nil)) rfl (by decide)) ?_
  rintro v34 _ ⟨h35a,h35b,h35c,rfl⟩
  refine WN.ent (Ent.know (m:=CellsRel Enc.member ([vint e.who,vint 0]) ([(⟨e.who,0⟩:Member)])) (fun K h s=>(CellsRel.cons (cs:=[vint e.who,vint 0]) (ds:=[]) rfl Enc.member_mk CellsRel.nil))) ?_
  refine Ne [Kx Enc.member ([vint e.who,vint 0]) ([(⟨e.who,0⟩:Member)]),Rw 270 2 v34 ([vint e.who,vint 0]),Rw 270 2 r5 (mcells p.members),Cl b2 33 (ecs e nv vv wv),Cl b1 53 [vint p.founder,vint p.epoch,r5],Cl b3 53 [vint 0,vint 0,N0],KM mv p.members,KB nv e.name,KB vv e.value,KW wv e.wraps,Al R] ?_
  refine WN.ent (L':=[Rw 270 2 v34 (mcells ([(⟨e.who,0⟩:Member)])),Kx Enc.member ([vint e.who,vint 0]) ([(⟨e.who,0⟩:Member)]),Rw 270 2 r5 (mcells p.members),Cl b2 33 (ecs e nv vv wv),Cl b1 53 [vint p.founder,vint p.epoch,r5],Cl b3 53 [vint 0,vint 0,N0],KM mv p.members,KB nv e.name,KB vv e.value,KW wv e.wraps,Al R]) ((es [1,0,0,0,0,0,0,0,0,0,0] rfl).trans (Ent.of_eq (by rfl))) ?_
  refine Wc [.tmp 64,.tmp 65,.tmp 69] [r5,vint (slen r5:Int),v34] Tryz.call222 (InsertM_fn r5 p.members (slen r5) v34 (⟨e.who,0⟩:Member) (by first | omega | (simp; done) | (simp; omega) | (simp at *; omega)) (by first | omega | (simp; done) | (simp; omega) | (simp at *; omega))) (ep [2,0] rfl) ?_
  rintro _ _ ⟨r36,rfl,rfl⟩
  refine Qu (Of (fa53_2 _ _)) (k:=?_)
  refine WN.fact (fun _ _ s=>(row_facts (i:=0) rfl s).2.2) (fun ho37=>?_)
  refine Rn (OpRun.store (i:=3) (vs:=[r36]) (cs':=[vint p.founder,vint p.epoch,r36]) rfl rfl rfl sz51 (cells_one ho37) rfl (one_cons ho37 one_nil) rfl (Lb rfl) rfl) (k:=Nw [(2,vptr b1 0),(3,vptr b2 0),(4,vptr b3 0),(5,vint 0),(7,vint (slen r5:Int))] [Cl b1 53 [vint p.founder,vint p.epoch,r36],Rw 270 2 r36 (mcells (p.members.take (slen r5)++(⟨e.who,0⟩:Member) :: p.members.drop (slen r5))),Kx Enc.member ([vint e.who,vint 0]) ([(⟨e.who,0⟩:Member)]),Cl b2 33 (ecs e nv vv wv),Cl b3 53 [vint 0,vint 0,N0],KM mv p.members,KB nv e.name,KB vv e.value,KW wv e.wraps,Al R] ?_)
  refine W.region (Qu (Of (fa53_2 _ _)) (k:=?_))
  refine Qu (Ol 0 ld51) (k:=Qm (k:=Qu (Of (fa33_6 _ _)) (k:=Qu (Ol 3 ld3) (k:=?_))))
  refine Nr 1 fun hr38a hr38b hr38c=>?_
  try simp only [La,Lc,Ln,List.length_take,List.length_drop] at hr38a
  have hpl:=put_len (a:=(⟨e.who,0⟩:Member)) (show slen r5≤p.members.length by omega)
  refine Qu (OpQ.indexRow (i:=1) (j:=(slen r5)*2) rfl rfl rfl rfl (by omega) (by omega) (by omega) ix51) (k:=Qu (OpQ.fieldR (i:=1) (k:=1) rfl rfl rfl (by omega) (fun b o w=>fa270_1 b o w) rfl) (k:=Rn (OpRun.storeRow (i:=1) (cs':=(mcells (p.members.take (slen r5)++(⟨e.who,0⟩:Member) :: p.members.drop (slen r5))).set ((slen r5)*2+1) (vint e.rights)) rfl rfl rfl rfl (by first | omega | (simp; done) | (simp; omega)) sz3 rfl rfl) (k:=?_)))
  refine WN.nil (inblk_n (thn_n (Ww [(2,vptr b1 0),(4,vptr b3 0),(5,vint 0)] [Rw 270 2 r36 ((mcells (p.members.take (slen r5)++(⟨e.who,0⟩:Member) :: p.members.drop (slen r5))).set ((slen r5)*2+1) (vint e.rights)),Cl b1 53 [vint p.founder,vint p.epoch,r36],Kx Enc.member ([vint e.who,vint 0]) ([(⟨e.who,0⟩:Member)]),Cl b2 33 (ecs e nv vv wv),Cl b3 53 [vint 0,vint 0,N0],KM mv p.members,KB nv e.name,KB vv e.value,KW wv e.wraps,Al R] ?_)))
  refine Sn (Qu (OpQ.loadN (i:=1) rfl rfl ld53 rfl rfl rfl) (k:=Rn (OpRun.store (i:=4) (vs:=[vint p.founder,vint p.epoch,r36]) (cs':=[vint p.founder,vint p.epoch,r36]) rfl rfl rfl sz53 rfl rfl (one_cons rfl (one_cons rfl (one_cons ho37 one_nil))) rfl (Lb rfl) rfl) (k:=Qa (k:=Nw [(4,vptr b3 0),(5,vint 0)] [Cl b3 53 [vint p.founder,vint p.epoch,r36],Rw 270 2 r36 ((mcells (p.members.take (slen r5)++(⟨e.who,0⟩:Member) :: p.members.drop (slen r5))).set ((slen r5)*2+1) (vint e.rights)),Cl b1 53 [vint p.founder,vint p.epoch,r36],Kx Enc.member ([vint e.who,vint 0]) ([(⟨e.who,0⟩:Member)]),Cl b2 33 (ecs e nv vv wv),KM mv p.members,KB nv e.name,KB vv e.value,KW wv e.wraps,Al R] ?_))))
  refine Wr 1 fun hr39a hr39b hr39c=>?_
  try simp only [La,Lc,Ln,List.length_take,List.length_drop] at hr39a
  refine W.ent (L':=[Rw 270 2 r36 (mcells (p.members.take (slen r5)++(⟨e.who,e.rights⟩:Member) :: p.members.drop (slen r5))),Cl b3 53 [vint p.founder,vint p.epoch,r36],Cl b1 53 [vint p.founder,vint p.epoch,r36],Kx Enc.member ([vint e.who,vint 0]) ([(⟨e.who,0⟩:Member)]),Cl b2 33 (ecs e nv vv wv),KM mv p.members,KB nv e.name,KB vv e.value,KW wv e.wraps,Al R]) ((es [1,0,0,0,0,0,0,0,0,0] rfl).trans (Ent.of_eq (by rw [mcells_set (put_at (by omega)),put_set (by omega)]))) ?_
  refine W.ent (Ent.know (m:=CellsRel Enc.member (mcells (p.members.take (slen r5)++(⟨e.who,e.rights⟩:Member) :: p.members.drop (slen r5))) (p.members.take (slen r5)++(⟨e.who,e.rights⟩:Member) :: p.members.drop (slen r5))) (fun _ _ _=>mcells_rel)) ?_
  refine W.freezeRel (e:=Enc.member) (i:=1) (j:=0) (Lb rfl) rfl rfl ?_
  refine We [KM r36 (p.members.take (slen r5)++(⟨e.who,e.rights⟩:Member) :: p.members.drop (slen r5)),Kx Enc.member (mcells (p.members.take (slen r5)++(⟨e.who,e.rights⟩:Member) :: p.members.drop (slen r5))) (p.members.take (slen r5)++(⟨e.who,e.rights⟩:Member) :: p.members.drop (slen r5)),Cl b3 53 [vint p.founder,vint p.epoch,r36],Cl b1 53 [vint p.founder,vint p.epoch,r36],Kx Enc.member ([vint e.who,vint 0]) ([(⟨e.who,0⟩:Member)]),Cl b2 33 (ecs e nv vv wv),KM mv p.members,KB nv e.name,KB vv e.value,KW wv e.wraps,Al R] ?_
  refine W.ret (retC2 (M:=[KM r36 ((⟨p.founder,p.epoch,p.members.take (slen r5)++(⟨e.who,e.rights⟩:Member) :: p.members.drop (slen r5)⟩:Policy).members)]) (i:=2) rfl rfl rfl rfl rfl ld53 (.inl ⟨(⟨p.founder,p.epoch,p.members.take (slen r5)++(⟨e.who,e.rights⟩:Member) :: p.members.drop (slen r5)⟩:Policy),r36,(by unfold Spec.papply; rw [if_pos (Decidable.of_not_not h4)]; unfold Spec.changed; rw [if_neg (by omega),if_neg (by omega),if_pos (by omega)]; unfold Spec.grant; rw [if_neg (fun h=>by have h1:=h.1; omega),h11]; try simp only [hsl]),(by first | rfl | exact bool_dec (by omega) | exact bool_F (by omega) | exact bool_T (by omega) | exact (bool_dec (by omega)).symm | exact (bool_F (by omega)).symm | exact (bool_T (by omega)).symm | simp [*]),rfl⟩) (es [0,9] rfl))
 refine W.skip (inblk_n (thn_n (Wl [(2,vptr b1 0),(4,vptr b3 0),(5,vint 0)] ?_)))
 refine Sn (Qu (OpQ.loadN (i:=2) rfl rfl ld53 rfl rfl rfl) (k:=Rn (OpRun.store (i:=3) (vs:=[vint p.founder,vint p.epoch,r5]) (cs':=[vint p.founder,vint p.epoch,r5]) rfl rfl rfl sz53 rfl rfl (one_cons rfl (one_cons rfl (one_cons ho6 one_nil))) rfl (Lb rfl) rfl) (k:=Qa (k:=Nw [(4,vptr b3 0),(5,vint 0)] [Cl b3 53 [vint p.founder,vint p.epoch,r5],Rw 270 2 r5 (mcells p.members),Cl b2 33 (ecs e nv vv wv),Cl b1 53 [vint p.founder,vint p.epoch,r5],KM mv p.members,KB nv e.name,KB vv e.value,KW wv e.wraps,Al R] ?_))))
 refine W.ent (Ent.know (m:=CellsRel Enc.member (mcells p.members) (p.members)) (fun _ _ _=>mcells_rel)) ?_
 refine W.freezeRel (e:=Enc.member) (i:=2) (j:=0) (Lb rfl) rfl rfl ?_
 refine We [KM r5 p.members,Kx Enc.member (mcells p.members) p.members,Cl b3 53 [vint p.founder,vint p.epoch,r5],Cl b2 33 (ecs e nv vv wv),Cl b1 53 [vint p.founder,vint p.epoch,r5],KM mv p.members,KB nv e.name,KB vv e.value,KW wv e.wraps,Al R] ?_
 refine W.ret (retC2 (M:=[KM r5 ((⟨p.founder,p.epoch,p.members⟩:Policy).members)]) (i:=2) rfl rfl rfl rfl rfl ld53 (.inl ⟨(⟨p.founder,p.epoch,p.members⟩:Policy),r5,(by unfold Spec.papply; rw [if_pos (Decidable.of_not_not h4)]; unfold Spec.changed; rw [if_neg (by omega),if_neg (by omega),if_neg (by omega)]),(by first | rfl | exact bool_dec (by omega) | exact bool_F (by omega) | exact bool_T (by omega) | exact (bool_dec (by omega)).symm | exact (bool_F (by omega)).symm | exact (bool_T (by omega)).symm | simp [*]),rfl⟩) (es [0,8] rfl))
end Go.Lk
open Go.Proofs
namespace Go.Lk
def DocsR (dp:Nat) (d:Dic):Asn:=Asn.rep (fun _:Nat=>True) fun b=>[Asn.cells dp 225 [.map (some b)],Asn.smap b d]
namespace Spec
def dapply (d:Dic) (e:Entry):Int × Dic :=
  if right e=false then (10,d) else if e.kind=1 then (0,dset d e.name e.value) else
  if e.kind=2 then (match dget d e.name with | none=>(32,d) | some _=>(0,ddel d e.name)) else (0,d)
end Spec
end Go.Lk
open Go.Proofs
set_option maxRecDepth 8000
namespace Go.Lk
open Asn renaming cells→Cl,row→Rw,kn→Kk,all→Al
theorem fa225_0:∀ (b k:Nat) (w:World),(Instr.fieldAt 225 (vptr b k) 0).run Tryz.prog w = .ok (vptr b (k)) w:=fun _ _ _=>by kernel_rfl
theorem ld223:∀ (a:Addr) (w:World),(loadVar 223 a).run Tryz.prog w=(Go.load a).run Tryz.prog w:=fun _ _=>by kernel_rfl
theorem mcl:∀ v w,(callFunc 281 #[v]).run Tryz.prog w=((Extern.MapsClone.clone #[v] >>= fun v=>pure (Next.value v):Sem Next)).run Tryz.prog w:=fun _ _=>by kernel_rfl
theorem zv9:∀ (w:World),(zeroValue 9).run Tryz.prog w = .ok (.string .empty) w:=fun _=>by kernel_rfl
theorem docsNew_fn:Fn Tryz.prog 115 #[] [] (fun v M=>∃ (dp:Nat),vptr dp 0=v∧M=[DocsR dp ([])]):=by
 refine Fi 4 Tryz.func115 fun g R=>?_
 refine Ww [] [Al R] ?_
 refine Sn (Qa (k:=Nl [(0,.pointer none)] ?_))
 refine Sn (Ru (OpRun.makeMapS rfl) ?_)
 rintro _ _ ⟨b1,rfl,rfl⟩
 refine Qu (OpQ.build (qs:=[(0,.map (some b1))]) (v:=.agg #[.map (some b1)]) rfl ⟨rfl,rfl,trivial⟩ (fun _=>by kernel_rfl)) (k:=?_)
 refine Ru (OpRun.box rfl rfl rfl) ?_
 rintro _ _ ⟨b2,rfl,rfl⟩
 refine Qa (k:=Nw [(0,vptr b2 0)] [Cl b2 225 [.map (some b1)],Asn.smap b1 ([]),Al R] ?_)
 refine W.ent (L':=[Cl b2 225 [.map (some b1)],Asn.smap b1 ([]),Al R]) (es [0,0,0] rfl) ?_
 refine W.ent (L':=[DocsR b2 ([]),Al R]) (Ent.rep' b1 rfl trivial rfl) ?_
 refine W.ret (ret1 (M:=[DocsR b2 ([])]) rfl rfl (⟨b2,rfl,rfl⟩) (es [0,0] rfl))
theorem docsApply_fn (dp:Nat) (d:Dic) (e:Entry) (nv:Value) (vv:Value) (wv:Value):Fn Tryz.prog 138 #[vptr dp 0,.agg #[vint e.kind,vint e.writer,vint e.seq,nv,vv,vint e.who,vint e.rights,vint e.epoch,wv]] [DocsR dp d,KB nv e.name,KB vv e.value,KW wv e.wraps] (fun v M=>∃ (x:Int) (d':Dic),Spec.dapply d e=(x,d')∧vint x=v∧M=[DocsR dp d']):=by
 refine Fi 44 Tryz.func138 fun g R=>?_
 refine Ww [(0,vptr dp 0),(1,.agg #[vint e.kind,vint e.writer,vint e.seq,nv,vv,vint e.who,vint e.rights,vint e.epoch,wv])] [DocsR dp d,KB nv e.name,KB vv e.value,KW wv e.wraps,Al R] ?_
 refine W.opens Opens.rep (i:=0) rfl (fun x1 _=>?_)
 refine We [Cl dp 225 [.map (some x1)],Asn.smap x1 d,KB nv e.name,KB vv e.value,KW wv e.wraps,Al R] ?_
 refine Sn (Ru (OpRun.box rfl rfl rfl) ?_)
 rintro _ _ ⟨b2,rfl,rfl⟩
 refine Qa (k:=Nw [(0,vptr dp 0),(3,vptr b2 0),(4,vint 0)] [Cl b2 33 (ecs e nv vv wv),Cl dp 225 [.map (some x1)],Asn.smap x1 d,KB nv e.name,KB vv e.value,KW wv e.wraps,Al R] ?_)
 refine W.seq (Sn (Qu (OpQ.loadN (i:=0) rfl rfl ld33 rfl rfl rfl) (k:=?_)))
 refine Wc [.tmp 8] [.agg #[vint e.kind,vint e.writer,vint e.seq,nv,vv,vint e.who,vint e.rights,vint e.epoch,wv]] Tryz.call204 (Right_fn e nv vv wv) ((ed 3 rfl).trans ((ed 5 rfl).trans ((ed 7 rfl).trans (ep [2,1,0] rfl)))) ?_
 rintro _ _ ⟨rfl,rfl⟩
 refine Qu (OpQ.not rfl rfl) (k:=Nw [(0,vptr dp 0),(3,vptr b2 0),(4,vint 0),(10,.bool (!(Spec.right e)))] [Cl b2 33 (ecs e nv vv wv),Cl dp 225 [.map (some x1)],Asn.smap x1 d,KB nv e.name,KB vv e.value,KW wv e.wraps,Al R] ?_)
 refine W.cond rfl (fun h3=>?_) (fun h3=>?_)
 ·refine Sn (Qa (k:=Nl [(0,vptr dp 0),(3,vptr b2 0),(4,vint 10)] ?_))
  refine W.ent (L':=[Cl dp 225 [.map (some x1)],Asn.smap x1 d,Cl b2 33 (ecs e nv vv wv),KB nv e.name,KB vv e.value,KW wv e.wraps,Al R]) (es [1,1,0,0,0,0,0] rfl) ?_
  refine W.ent (L':=[DocsR dp d,Cl b2 33 (ecs e nv vv wv),KB nv e.name,KB vv e.value,KW wv e.wraps,Al R]) (Ent.rep' x1 rfl trivial rfl) ?_
  refine W.ret (thn_r (ret1 (M:=[DocsR dp d]) rfl rfl (⟨10,d,(by unfold Spec.dapply; rw [if_pos (by simp_all)]),rfl,rfl⟩) (es [0,4] rfl)))
 refine W.skip (thn_n (Wl [(0,vptr dp 0),(3,vptr b2 0),(4,vint 0)] ?_))
 refine Sn (Qu (Of (fa33_3 _ _)) (k:=Qu (Ol 0 ld22) (k:=Qu (OpQ.b2s (i:=3) rfl rfl rfl b2s22_9) (k:=Qa (k:=Nl [(0,vptr dp 0),(3,vptr b2 0),(4,vint 0),(5,.string (⟨e.name.toArray⟩))] ?_)))))
 refine W.seq (Sn (Qu (Of (fa33_0 _ _)) (k:=?_)))
 refine Qu (Ol 0 ld3) (k:=Nl [(0,vptr dp 0),(3,vptr b2 0),(4,vint 0),(5,.string (⟨e.name.toArray⟩)),(15,vint e.kind)] ?_)
 refine W.block (Sn (Qu (OpQ.eql rfl rfl rfl) (k:=?_)))
 refine Qa (k:=Nl [(0,vptr dp 0),(3,vptr b2 0),(4,vint 0),(5,.string (⟨e.name.toArray⟩)),(15,vint e.kind),(16,.bool (decide (e.kind=1)))] ?_)
 refine Cp rfl (fun h4=>?_) (fun h4=>?_)
 ·refine W.drawG mixed ?_
  refine Gq 0 [] rfl (OpQ.move rfl rfl) ?_
  refine Gq 1 [] rfl (OpQ.nilCheck rfl rfl) ?_
  refine Gq 2 [] rfl (Of (fa225_0 _ _)) ?_
  refine WG.hold (Cl dp 225 [.map (some x1)],[]) ?_
  refine Gq 3 [1] rfl (Ol 0 ld223) ?_
  refine Gq 4 [1] rfl (OpQ.move rfl rfl) ?_
  refine Gq 5 [1] rfl (Of (fa33_4 _ _)) ?_
  refine WG.hold (Cl b2 33 (ecs e nv vv wv),[]) ?_
  refine Gq 6 [0,0] rfl (Ol 0 ld22) ?_
  refine WG.hold (KB vv e.value,[]) ?_
  refine Gq 7 [4,0,0] rfl (OpQ.b2s (i:=0) rfl rfl rfl b2s22_9) ?_
  refine WG.one (i:=8) (by kernel_rfl) (UpG.run rfl rfl rfl (OpRun.updateS (k:=e.name) (w:=e.value) (i:=2) rfl rfl rfl rfl rfl Tryz.runUnderlying223 Tryz.runUnderlying9) ?_)
  rintro _ _ ⟨rfl,rfl⟩
  refine ⟨es [4,1,1] rfl,?_⟩
  refine WG.done (by kernel_rfl) ?_
  refine inblk_n (thn_n (Ww [(4,vint 0)] [Asn.smap x1 (Spec.dset d e.name e.value),Cl b2 33 (ecs e nv vv wv),Cl dp 225 [.map (some x1)],KB nv e.name,KB vv e.value,KW wv e.wraps,Al R] ?_))
  refine Sn (Qa (k:=Nl [(4,vint 0)] ?_))
  refine W.ent (L':=[Cl dp 225 [.map (some x1)],Asn.smap x1 (Spec.dset d e.name e.value),Cl b2 33 (ecs e nv vv wv),KB nv e.name,KB vv e.value,KW wv e.wraps,Al R]) (es [2,0,0,0,0,0,0] rfl) ?_
  refine W.ent (L':=[DocsR dp (Spec.dset d e.name e.value),Cl b2 33 (ecs e nv vv wv),KB nv e.name,KB vv e.value,KW wv e.wraps,Al R]) (Ent.rep' x1 rfl trivial rfl) ?_
  refine W.ret (ret1 (M:=[DocsR dp (Spec.dset d e.name e.value)]) rfl rfl (⟨0,Spec.dset d e.name e.value,(by unfold Spec.dapply; rw [if_neg (by simp_all)]; rw [if_pos (by omega)]),rfl,rfl⟩) (es [0,4] rfl))
 refine Sn (Qu (OpQ.eql rfl rfl rfl) (k:=Qa (k:=Nl [(0,vptr dp 0),(4,vint 0),(5,.string (⟨e.name.toArray⟩)),(26,.bool (decide (e.kind=2)))] ?_)))
 refine Cp rfl (fun h5=>?_) (fun h5=>?_)
 ·refine W.seq (Sn (Qm (k:=?_)))
  refine Qu (OpQ.nilCheck rfl rfl) (k:=Qu (Of (fa225_0 _ _)) (k:=Qu (Ol 1 ld223) (k:=Qm (k:=Qu (OpQ.lookupS (k:=e.name) (i:=2) rfl rfl rfl rfl Tryz.runUnderlying223 Tryz.runUnderlying9 zv9) (k:=Qm (k:=Qe (k:=Qe (k:=Qa (k:=Qa (k:=Nl [(0,vptr dp 0),(4,vint 0),(5,.string (⟨e.name.toArray⟩)),(7,.bool ((Spec.dget d e.name).isSome))] ?_))))))))))
  refine Sn (Qm (k:=Qu (OpQ.not rfl rfl) (k:=Nl [(0,vptr dp 0),(4,vint 0),(5,.string (⟨e.name.toArray⟩)),(38,.bool (!((Spec.dget d e.name).isSome)))] ?_)))
  refine W.cond rfl (fun h6=>?_) (fun h6=>?_)
  ·refine Sn (Qa (k:=Nl [(0,vptr dp 0),(4,vint 32),(5,.string (⟨e.name.toArray⟩))] ?_))
   refine W.ent (L':=[Cl dp 225 [.map (some x1)],Asn.smap x1 d,Cl b2 33 (ecs e nv vv wv),KB nv e.name,KB vv e.value,KW wv e.wraps,Al R]) (es [1,1,0,0,0,0,0] rfl) ?_
   refine W.ent (L':=[DocsR dp d,Cl b2 33 (ecs e nv vv wv),KB nv e.name,KB vv e.value,KW wv e.wraps,Al R]) (Ent.rep' x1 rfl trivial rfl) ?_
   refine W.ret (thn_r (inblk_r (thn_r (ret1 (M:=[DocsR dp d]) rfl rfl (⟨32,d,(by unfold Spec.dapply; rw [if_neg (by simp_all)]; rw [if_neg (by omega),if_pos (by omega)]; cases hx:Spec.dget d e.name <;> simp_all),rfl,rfl⟩) (es [0,4] rfl)))))
  refine W.skip (thn_n (Wl [(0,vptr dp 0),(4,vint 0),(5,.string (⟨e.name.toArray⟩))] ?_))
  refine W.region (Qm (k:=?_))
  refine Qu (OpQ.nilCheck rfl rfl) (k:=Qu (Of (fa225_0 _ _)) (k:=Qu (Ol 1 ld223) (k:=Qm (k:=Rn (OpRun.deleteS (k:=e.name) (i:=2) rfl rfl rfl rfl Tryz.runUnderlying223 Tryz.runUnderlying9) (k:=?_)))))
  refine WN.nil (inblk_n (thn_n (Ww [(4,vint 0)] [Asn.smap x1 (Spec.ddel d e.name),Cl b2 33 (ecs e nv vv wv),Cl dp 225 [.map (some x1)],KB nv e.name,KB vv e.value,KW wv e.wraps,Al R] ?_)))
  refine Sn (Qa (k:=Nl [(4,vint 0)] ?_))
  refine W.ent (L':=[Cl dp 225 [.map (some x1)],Asn.smap x1 (Spec.ddel d e.name),Cl b2 33 (ecs e nv vv wv),KB nv e.name,KB vv e.value,KW wv e.wraps,Al R]) (es [2,0,0,0,0,0,0] rfl) ?_
  refine W.ent (L':=[DocsR dp (Spec.ddel d e.name),Cl b2 33 (ecs e nv vv wv),KB nv e.name,KB vv e.value,KW wv e.wraps,Al R]) (Ent.rep' x1 rfl trivial rfl) ?_
  refine W.ret (ret1 (M:=[DocsR dp (Spec.ddel d e.name)]) rfl rfl (⟨0,Spec.ddel d e.name,(by unfold Spec.dapply; rw [if_neg (by simp_all)]; rw [if_neg (by omega),if_pos (by omega)]; cases hx:Spec.dget d e.name <;> simp_all),rfl,rfl⟩) (es [0,4] rfl))
 refine W.skip (inblk_n (thn_n (Wl [(4,vint 0)] ?_)))
 refine Sn (Qa (k:=Nl [(4,vint 0)] ?_))
 refine W.ent (L':=[Cl dp 225 [.map (some x1)],Asn.smap x1 d,Cl b2 33 (ecs e nv vv wv),KB nv e.name,KB vv e.value,KW wv e.wraps,Al R]) (es [1,1,0,0,0,0,0] rfl) ?_
 refine W.ent (L':=[DocsR dp d,Cl b2 33 (ecs e nv vv wv),KB nv e.name,KB vv e.value,KW wv e.wraps,Al R]) (Ent.rep' x1 rfl trivial rfl) ?_
 refine W.ret (ret1 (M:=[DocsR dp d]) rfl rfl (⟨0,d,(by unfold Spec.dapply; rw [if_neg (by simp_all)]; rw [if_neg (by omega),if_neg (by omega)]),rfl,rfl⟩) (es [0,4] rfl))
theorem docsGet_fn (dp:Nat) (d:Dic) (nv:Value) (xs:Bytes) (hd:((Spec.dget d xs).getD []).length≤140737488355328):Fn Tryz.prog 103 #[vptr dp 0,nv] [DocsR dp d,KB nv xs] (fun v M=>∃ (z:Value),.tuple #[z,.bool ((Spec.dget d xs).isSome)]=v∧M=[KB z ((Spec.dget d xs).getD []),DocsR dp d]):=by
 refine Fi 21 Tryz.func103 fun g R=>?_
 refine Ww [(0,vptr dp 0),(1,nv)] [DocsR dp d,KB nv xs,Al R] ?_
 refine W.opens Opens.rep (i:=0) rfl (fun x1 _=>?_)
 refine We [Cl dp 225 [.map (some x1)],Asn.smap x1 d,KB nv xs,Al R] ?_
 refine Sn (Qa (k:=Qa (k:=Nl [(0,vptr dp 0),(1,nv),(4,N0),(5,.bool false)] ?_)))
 refine W.seq (W.drawG mixed ?_)
 refine Gq 0 [] rfl (OpQ.move rfl rfl) ?_
 refine Gq 1 [] rfl (OpQ.nilCheck rfl rfl) ?_
 refine Gq 2 [] rfl (Of (fa225_0 _ _)) ?_
 refine WG.hold (Cl dp 225 [.map (some x1)],[]) ?_
 refine Gq 3 [0] rfl (Ol 0 ld223) ?_
 refine Gq 4 [0] rfl (OpQ.move rfl rfl) ?_
 refine WG.hold (KB nv xs,[]) ?_
 refine Gq 5 [2,0] rfl (OpQ.b2s (i:=0) rfl rfl rfl b2s22_9) ?_
 refine WG.hold (Asn.smap x1 d,[]) ?_
 refine Gq 6 [1,1,0] rfl (OpQ.lookupS (k:=xs) (i:=0) rfl rfl rfl rfl Tryz.runUnderlying223 Tryz.runUnderlying9 zv9) ?_
 refine Gq 7 [1,1,0] rfl (OpQ.move rfl rfl) ?_
 refine Gq 8 [1,1,0] rfl (OpQ.extract rfl rfl rfl) ?_
 refine Gq 9 [1,1,0] rfl (OpQ.extract rfl rfl rfl) ?_
 refine Gq 10 [1,1,0] rfl (OpQ.assign rfl rfl) ?_
 refine Gq 11 [1,1,0] rfl (OpQ.assign rfl rfl) ?_
 refine WG.done (by kernel_rfl) ?_
 refine thn_n (Wl [(4,N0),(5,.bool false),(6,.string (⟨((Spec.dget d xs).getD []).toArray⟩)),(7,.bool ((Spec.dget d xs).isSome))] ?_)
 refine Sn (Qm (k:=?_))
 refine Ru (OpRun.s2b (bs:=(Spec.dget d xs).getD []) rfl rfl rfl (by first | omega | (simp; done) | (simp; omega)) s2b9_22) ?_
 rintro v2 _ ⟨h3a,h3b,h3c,rfl⟩
 refine Qm (k:=Qa (k:=Qa (k:=Nw [(4,v2),(5,.bool ((Spec.dget d xs).isSome))] [Rw 5 1 v2 (bv ((Spec.dget d xs).getD [])),Cl dp 225 [.map (some x1)],Asn.smap x1 d,KB nv xs,Al R] ?_)))
 refine Wr 0 fun hr4a hr4b hr4c=>?_
 try simp only [La,Lc,Ln] at hr4a
 refine W.ent (L':=[Cl dp 225 [.map (some x1)],Asn.smap x1 d,Rw 5 1 v2 (bv ((Spec.dget d xs).getD [])),KB nv xs,Al R]) (es [1,1,0,0,0] rfl) ?_
 refine W.ent (L':=[DocsR dp d,Rw 5 1 v2 (bv ((Spec.dget d xs).getD [])),KB nv xs,Al R]) (Ent.rep' x1 rfl trivial rfl) ?_
 refine W.freezeB (i:=1) rfl ?_
 refine W.ret (ret2 (M:=[KB v2 ((Spec.dget d xs).getD []),DocsR dp d]) rfl rfl rfl (⟨v2,rfl,rfl⟩) (es [0,0,1] rfl))
theorem docsLen_fn (dp:Nat) (d:Dic):Fn Tryz.prog 50 #[vptr dp 0] [DocsR dp d] (fun v M=>vint (d.length:Int)=v∧M=[DocsR dp d]):=by
 refine Fi 8 Tryz.func50 fun g R=>?_
 refine Ww [(0,vptr dp 0)] [DocsR dp d,Al R] ?_
 refine W.opens Opens.rep (i:=0) rfl (fun x1 _=>?_)
 refine We [Cl dp 225 [.map (some x1)],Asn.smap x1 d,Al R] ?_
 refine Sn (Qa (k:=Nl [(0,vptr dp 0),(2,vint 0)] ?_))
 refine Sn (Qm (k:=Qu (OpQ.nilCheck rfl rfl) (k:=Qu (Of (fa225_0 _ _)) (k:=Qu (Ol 0 ld223) (k:=Qu (OpQ.lenS (i:=1) rfl rfl rfl Tryz.runUnderlying223) (k:=Qa (k:=Nl [(2,vint (d.length:Int))] ?_)))))))
 refine W.ent (L':=[Cl dp 225 [.map (some x1)],Asn.smap x1 d,Al R]) (es [0,0,0] rfl) ?_
 refine W.ent (L':=[DocsR dp d,Al R]) (Ent.rep' x1 rfl trivial rfl) ?_
 refine W.ret (ret1 (M:=[DocsR dp d]) rfl rfl (⟨rfl,rfl⟩) (es [0,0] rfl))
theorem mapsClone_fn (b:Nat) (d:Dic):Fn Tryz.prog 203 #[.map (some b)] [Asn.smap b d] (fun v M=>∃ (b2:Nat),.map (some b2)=v∧M=[Asn.smap b2 d,Asn.smap b d]):=by
 refine Fi 9 Tryz.func203 fun g R=>?_
 refine Ww [(0,.map (some b))] [Asn.smap b d,Al R] ?_
 refine Sn (Qa (k:=Nl [(0,.map (some b)),(2,.map none)] ?_))
 refine W.seq (Sn (Qm (k:=?_)))
 refine Qu (OpQ.bin' (u:=.map (some b)) (v:=.map none) (r:=.bool false) rfl rfl rfl (fun _=>by kernel_rfl) (fun _=>by kernel_rfl)) (k:=Nl [(0,.map (some b)),(2,.map none),(4,.bool false)] ?_)
 refine W.condF rfl ?_
 refine W.skip (thn_n (Wl [(0,.map (some b)),(2,.map none)] ?_))
 refine Sn (Qm (k:=Qu (OpQ.mkiface (v:=.map (some b)) (u:=Value.iface 223 (.map (some b))) rfl rfl (fun _=>by kernel_rfl)) (k:=?_)))
 refine Ru (OpRun.cloneS (i:=0) rfl rfl rfl mcl) ?_
 rintro _ _ ⟨b1,rfl,rfl⟩
 refine Qu (OpQ.tassert0 (v:=.map (some b1)) rfl rfl (fun _=>by kernel_rfl)) (k:=Qa (k:=Nw [(2,.map (some b1))] [Asn.smap b1 d,Asn.smap b d,Al R] ?_))
 refine W.ret (ret1 (M:=[Asn.smap b1 d,Asn.smap b d]) rfl rfl (⟨b1,rfl,rfl⟩) (es [0,0,0] rfl))
theorem docsClone_fn (dp:Nat) (d:Dic):Fn Tryz.prog 118 #[vptr dp 0] [DocsR dp d] (fun v M=>∃ (dq:Nat),vptr dq 0=v∧M=[DocsR dq d,DocsR dp d]):=by
 refine Fi 10 Tryz.func118 fun g R=>?_
 refine Ww [(0,vptr dp 0)] [DocsR dp d,Al R] ?_
 refine W.opens Opens.rep (i:=0) rfl (fun x1 _=>?_)
 refine We [Cl dp 225 [.map (some x1)],Asn.smap x1 d,Al R] ?_
 refine Sn (Qa (k:=Nl [(0,vptr dp 0),(2,.pointer none)] ?_))
 refine Sn (Qm (k:=Qu (OpQ.nilCheck rfl rfl) (k:=Qu (Of (fa225_0 _ _)) (k:=Qu (Ol 0 ld223) (k:=?_)))))
 refine Wc [.tmp 6] [.map (some x1)] Tryz.call203 (mapsClone_fn x1 d) (ep [1] rfl) ?_
 rintro _ _ ⟨b2,rfl,rfl⟩
 refine Qu (OpQ.build (qs:=[(0,.map (some b2))]) (v:=.agg #[.map (some b2)]) rfl ⟨rfl,rfl,trivial⟩ (fun _=>by kernel_rfl)) (k:=?_)
 refine Ru (OpRun.box rfl rfl rfl) ?_
 rintro _ _ ⟨b3,rfl,rfl⟩
 refine Qa (k:=Nw [(2,vptr b3 0)] [Cl b3 225 [.map (some b2)],Asn.smap b2 d,Asn.smap x1 d,Cl dp 225 [.map (some x1)],Al R] ?_)
 refine W.ent (L':=[Cl b3 225 [.map (some b2)],Asn.smap b2 d,Asn.smap x1 d,Cl dp 225 [.map (some x1)],Al R]) (es [0,0,0,0,0] rfl) ?_
 refine W.ent (L':=[DocsR b3 d,Asn.smap x1 d,Cl dp 225 [.map (some x1)],Al R]) (Ent.rep' b2 rfl trivial rfl) ?_
 refine W.ent (L':=[Cl dp 225 [.map (some x1)],Asn.smap x1 d,DocsR b3 d,Al R]) (es [2,1,0,0] rfl) ?_
 refine W.ent (L':=[DocsR dp d,DocsR b3 d,Al R]) (Ent.rep' x1 rfl trivial rfl) ?_
 refine W.ret (ret1 (M:=[DocsR b3 d,DocsR dp d]) rfl rfl (⟨b3,rfl,rfl⟩) (es [1,0,0] rfl))
end Go.Lk
open Go.Proofs
namespace Go.Lk
structure Frame where
  kind:Int
  coll:Int
  index:Int
  links:List Bytes
  sum:Bytes
  deriving DecidableEq,Inhabited
namespace Spec
def linkOk (b:Bytes):Bool:=decide (1≤b.length∧b.length≤4096)
def linksOk (l:List Bytes) (least:Int):Bool:=decide (least≤(l.length:Int)∧l.length≤8) && l.all linkOk
def fright (f:Frame):Bool :=
  decide (1≤f.coll∧f.coll≤1099511627776∧0≤f.index∧f.index≤64) &&
  (if f.kind=1 then linksOk f.links 1 && decide (f.index=0) && decide (f.sum.length=0)
   else if f.kind=2 then decide (f.links.length=0) && decide (f.sum.length=0)
   else if f.kind=3 then linksOk f.links 0 && decide (f.sum.length=0)
   else if f.kind=4 then decide (f.links.length=0) && decide (f.sum.length=32) else false)
def fparts (f:Frame):List Part:=[.n f.kind,.n f.coll,.n f.index,.n f.links.length]++f.links.map .b++[.b f.sum]
def fencode (f:Frame):Except Int Bytes :=
  if fright f=false then .error 10 else match put (fparts f) with
  | .ok out=>if out.length > 32768 then .error 11 else .ok out
  | .error _=>.ok []
def rlinks:Nat→Option Bytes→List Bytes × Option Bytes
  | 0,s=>([],s)
  | k+1,s=>match s with
    | none=>([],none)
    | some _ =>
      let (x,s1):=rtext 1 4096 s
      let (l,s2):=rlinks k s1
      (x :: l,s2)
theorem rlinks_none (n:Nat):rlinks n none=([],none):=by cases n <;> rfl
theorem rlinks_succ {n:Nat} {s:Bytes} {x:Bytes} {s1:Option Bytes} (h:rtext 1 4096 (some s)=(x,s1)):rlinks (n+1) (some s)=(x :: (rlinks n s1).1,(rlinks n s1).2):=by
  simp only [rlinks,h]
def rframe (s:Option Bytes):Frame × Option Bytes :=
  let (kind,s):=rnumber 1 4 s
  let (coll,s):=rnumber 1 1099511627776 s
  let (index,s):=rnumber 0 64 s
  let (n,s):=rnumber 0 8 s
  let (links,s):=rlinks n.toNat s
  let (sum,s):=rtext 0 32 s
  (⟨kind,coll,index,links,sum⟩,s)
def fdecode (bs:Bytes):Except Int Frame :=
  if bs.length > 32768 then .error 11 else
  match rframe (some bs) with
  | (f,s)=>if s=some []∧fright f=true then .ok f else .error 10
def lbytes (l:List Bytes):Bytes:=l.flatMap fun x=>be 2 x.length++x
theorem put_links {l:List Bytes} {ps:List Part} {y:Bytes} (h:∀ x ∈ l,x.length≤4096) (hy:put ps = .ok y):put (l.map .b++ps) = .ok (lbytes l++y):=by
  induction l with
  | nil=>simpa [lbytes] using hy
  | cons x l ih =>
    have ih':=ih fun x hx=>h x (List.mem_cons_of_mem _ hx)
    rw [List.map_cons,List.cons_append,put_consB (h x (List.mem_cons_self ..)) ih']
    simp [lbytes]
theorem linksOk_all {l:List Bytes} {least:Int} (h:linksOk l least=true):least≤(l.length:Int)∧l.length≤8∧∀ x ∈ l,1≤x.length∧x.length≤4096:=by
  unfold linksOk at h
  rw [Bool.and_eq_true] at h
  obtain ⟨h1,h2⟩:=h
  have h1:=of_decide_eq_true h1
  refine ⟨h1.1,h1.2,fun x hx=>?_⟩
  have:=List.all_eq_true.1 h2 x hx
  exact of_decide_eq_true this
theorem fright_has {f:Frame} (h:fright f=true):1≤f.coll∧f.coll≤1099511627776∧0≤f.index∧f.index≤64∧1≤f.kind∧f.kind≤4∧f.links.length≤8∧(∀ x ∈ f.links,1≤x.length∧x.length≤4096)∧f.sum.length≤32:=by
  unfold fright at h
  rw [Bool.and_eq_true] at h
  obtain ⟨h1,h2⟩:=h
  obtain ⟨a,b,c,d⟩:=of_decide_eq_true h1
  refine ⟨a,b,c,d,?_⟩
  by_cases k1:f.kind=1
  · rw [if_pos k1] at h2
    simp only [Bool.and_eq_true] at h2
    obtain ⟨⟨h3,h4⟩,h5⟩:=h2
    have h6:=linksOk_all h3
    have h5:=of_decide_eq_true h5
    exact ⟨by omega,by omega,h6.2.1,h6.2.2,by omega⟩
  rw [if_neg k1] at h2
  by_cases k2:f.kind=2
  · rw [if_pos k2] at h2
    simp only [Bool.and_eq_true] at h2
    have h3:=of_decide_eq_true h2.1
    have h4:=of_decide_eq_true h2.2
    have:f.links=[]:=List.eq_nil_of_length_eq_zero h3
    exact ⟨by omega,by omega,by omega,by rw [this]; simp,by omega⟩
  rw [if_neg k2] at h2
  by_cases k3:f.kind=3
  · rw [if_pos k3] at h2
    simp only [Bool.and_eq_true] at h2
    have h6:=linksOk_all h2.1
    have h5:=of_decide_eq_true h2.2
    exact ⟨by omega,by omega,h6.2.1,h6.2.2,by omega⟩
  rw [if_neg k3] at h2
  by_cases k4:f.kind=4
  · rw [if_pos k4] at h2
    simp only [Bool.and_eq_true] at h2
    have h3:=of_decide_eq_true h2.1
    have h4:=of_decide_eq_true h2.2
    have:f.links=[]:=List.eq_nil_of_length_eq_zero h3
    exact ⟨by omega,by omega,by omega,by rw [this]; simp,by omega⟩
  rw [if_neg k4] at h2
  cases h2
def fbytes (f:Frame):Bytes:=be 6 f.kind++(be 6 f.coll++(be 6 f.index++(be 6 (f.links.length:Int)++(lbytes f.links++(be 2 f.sum.length++f.sum++[])))))
theorem put_fparts {f:Frame} (h:fright f=true):put (fparts f) = .ok (fbytes f):=by
  obtain ⟨a,b,c,d,k1,k2,hl,hx,hs⟩:=fright_has h
  exact put_consN (by omega) (by omega) (put_consN (by omega) (by omega) (put_consN (by omega) (by omega) (put_consN (by omega) (by omega) (put_links (fun x hm=>(hx x hm).2) (put_consB (y:=[]) (by omega) rfl)))))
end Spec
end Go.Lk
open Go.Proofs
namespace Go.Lk
structure Rep where
  coll:Int
  founder:Int
  who:Int
  secret:Bytes
  chain:Chain
  pol:Policy
  docs:Dic
  keys:List (Option Bytes)
  seen:List Int
  deriving Inhabited
def Enc.entry:Enc Entry:=⟨9,fun K cs e=>∃ nv vv wv,cs=[vint e.kind,vint e.writer,vint e.seq,nv,vv,vint e.who,vint e.rights,vint e.epoch,wv]∧Sl.φ Enc.u8 5 nv e.name K∧Sl.φ Enc.u8 5 vv e.value K∧Sl.φ Enc.wrap 227 wv e.wraps K,
  fun hk ⟨a,b,c,h1,h2,h3,h4⟩=>⟨a,b,c,h1,Sl.mono hk h2,Sl.mono hk h3,Sl.mono hk h4⟩⟩
theorem Enc.entry_mk {K:PH} {e:Entry} {nv vv wv:Value} (h2:(Sl Enc.u8 5 nv e.name).φ K) (h3:(Sl Enc.u8 5 vv e.value).φ K) (h4:(Sl Enc.wrap 227 wv e.wraps).φ K) :
    Enc.entry.rel K [vint e.kind,vint e.writer,vint e.seq,nv,vv,vint e.who,vint e.rights,vint e.epoch,wv] e:=⟨nv,vv,wv,rfl,h2,h3,h4⟩
abbrev KE (v:Value) (xs:List Entry):Asn:=Asn.kn (Sl Enc.entry 33 v xs)
theorem Opens.entry {f:Nat→Value} {xs:List Entry} {i:Nat} (h:i < xs.length) :
    Opens (Asn.kn (SlRel Enc.entry f xs)) (fun z:Value × Value × Value=>Lk.sub f (i*9) 9=[vint (xs.getD i default).kind,vint (xs.getD i default).writer,vint (xs.getD i default).seq,z.1,z.2.1,vint (xs.getD i default).who,vint (xs.getD i default).rights,vint (xs.getD i default).epoch,z.2.2])
      (fun z=>[KB z.1 (xs.getD i default).name,KB z.2.1 (xs.getD i default).value,Asn.kn (Sl Enc.wrap 227 z.2.2 (xs.getD i default).wraps),Asn.kn (SlRel Enc.entry f xs)]):=fun K hp p=>by
  obtain ⟨a,b,c,h1,h2,h3,h4⟩:=p i _ (getD_some default h)
  exact ⟨(a,b,c),h1,PH.emp,hp,Split.emp_left hp,h2,PH.emp,hp,Split.emp_left hp,h3,PH.emp,hp,Split.emp_left hp,h4,PH.emp,hp,Split.emp_left hp,p,trivial⟩
def Rep.fine (r:Rep):Prop:=r.seen.length=17∧(∀ i,0≤r.seen.getD i 0∧r.seen.getD i 0≤1099511627776)∧r.pol.members.length≤17∧1≤r.who∧r.who≤16∧1≤r.coll∧r.coll≤1099511627776∧0≤r.pol.epoch∧r.pol.epoch≤16
abbrev rcs (sp cp:Nat) (r:Rep) (sv mv:Value) (dp gp:Nat):List Value:=[vptr sp 0,vint r.coll,vint r.founder,vint r.who,sv,vptr cp 0,vint r.pol.founder,vint r.pol.epoch,mv,vptr dp 0,vptr gp 0]
def ReplayO (rp sp cp:Nat) (r:Rep):Asn:=Asn.rep (fun _:Value × Value × Nat × Nat=>r.fine) fun x =>
  [Asn.cells rp 208 ([vptr sp 0,vint r.coll,vint r.founder,vint r.who,x.1,vptr cp 0,vint r.pol.founder,vint r.pol.epoch,x.2.1,vptr x.2.2.1 0,vptr x.2.2.2 0]++r.seen.map vint),
   KB x.1 r.secret,Asn.kn (Sl Enc.member 270 x.2.1 r.pol.members),DocsR x.2.2.1 r.docs,RingR x.2.2.2 r.keys]
def ReplayR (rp sp:Nat) (r:Rep):Asn:=Asn.rep (fun _:Nat=>True) fun cp=>[ReplayO rp sp cp r,ChainR cp sp r.chain]
theorem Rep.fine_seen {r:Rep} (h:r.fine) {k:Nat} {x:Int} (h1:0≤x) (h2:x≤1099511627776):({ r with seen:=r.seen.set k x }:Rep).fine:=by
  obtain ⟨a,b,c⟩:=h
  refine ⟨by simpa using a,fun i=>?_,c⟩
  have:=b i
  simp only [List.getD_eq_getElem?_getD] at this ⊢
  by_cases hk:k=i
  · subst hk
    by_cases hl:k < r.seen.length
    · rw [List.getElem?_set_self hl]; exact ⟨h1,h2⟩
    · rw [List.getElem?_eq_none (by simpa using hl)]; simp
  · rw [List.getElem?_set_ne hk]; exact this
theorem Rep.fine_pol {r:Rep} (h:r.fine) {p:Policy} {d:Dic} {k:List (Option Bytes)} (hp:p.members.length≤17) (he:0≤p.epoch∧p.epoch≤16):({ r with pol:=p,docs:=d,keys:=k }:Rep).fine:=by
  obtain ⟨a,b,c,d,e,f,g,_⟩:=h
  exact ⟨a,b,hp,d,e,f,g,he⟩
namespace Spec
def repNew (A:List Thing) (coll founder who:Int) (secret:Bytes):Option Rep × List Thing :=
  if policyOk (firstP founder)=false∨who < 1∨who > 16∨coll < 1∨coll > 1099511627776 then (none,A) else
  let (c,A):=chainNew A coll
  let (ks,A):=ringNew A secret
  (some ⟨coll,founder,who,secret,c,firstP founder,[],ks,List.replicate 17 0⟩,A)
def seenOf (r:Rep) (w:Int):Int:=if w < 0∨w > 16 then 0 else r.seen.getD w.toNat 0
def learn (secret:Bytes) (who epoch:Int):List Wrap→List (Option Bytes)→List Thing→List (Option Bytes) × List Thing
  | [],keys,A=>(keys,A)
  | w :: ws,keys,A=>if w.who≠who then learn secret who epoch ws keys A else
    match unwrap A secret w.who epoch w.box with
    | (.ok k,A)=>learn secret who epoch ws (ringLearn keys epoch k).2 A
    | (.error _,A)=>learn secret who epoch ws keys A
theorem decode_right {b:Bytes} {e:Entry} (h:decode b = .ok e):right e=true:=by
  unfold decode at h
  generalize rentry (some b)=p at h
  obtain ⟨x,s⟩:=p
  dsimp only at h
  split at h
  · rename_i hh; cases h; exact hh.2
  · cases h
theorem sopen_right {A A':List Thing} {s k:Bytes} {r:Record} {e:Entry} (h:sopen A s k r=(.ok e,A')):right e=true:=by
  unfold sopen at h
  repeat' split at h
  all_goals first
    | (cases h; done)
    | (dsimp only at h
       generalize rtext 0 4096 (some _)=p1 at h
       obtain ⟨b,s1⟩:=p1
       dsimp only at h
       generalize rtext 0 4096 s1=p2 at h
       obtain ⟨told,s2⟩:=p2
       dsimp only at h
       repeat' split at h
       all_goals first
         | (cases h; done)
         | (exact decode_right (by cases h; assumption)))
def outcome (A:List Thing) (r:Rep) (x:Record):Int × Rep × List Thing :=
  if x.epoch > r.pol.epoch then (34,r,A) else
  match ringKey r.keys x.epoch with
  | none=>(21,r,A)
  | some k =>
    match sopen A r.secret k x with
    | (.error e,A)=>(e,r,A)
    | (.ok e,A) =>
      if e.seq≤r.seen.getD e.writer.toNat 0 then (31,r,A) else
      let r1:Rep:={ r with seen:=r.seen.set e.writer.toNat e.seq }
      if e.kind≠5∧x.epoch≠r.pol.epoch then (40,r1,A) else
      match papply r.pol e with
      | .error m=>(m,r1,A)
      | .ok p =>
        let l:=learn r.secret r.who e.epoch e.wraps r.keys A
        (0,{ r1 with pol:=p,docs:=(dapply r.docs e).2,keys:=l.1 },l.2)
def commit (A:List Thing) (r:Rep) (b:Bytes):Int × Int × Rep × List Thing :=
  match rdecode b with
  | .error _=>(10,0,r,A)
  | .ok x =>
    if x.collection≠r.coll then (10,0,r,A) else
    match chainAppend A r.chain b with
    | (e,c,A) =>
      if e≠0 then (e,0,{ r with chain:=c },A) else
      let o:=outcome A { r with chain:=c } x
      (0,o.1,o.2.1,o.2.2)
def vstep (s:Policy × Dic) (e:Entry):Policy × Dic :=
  match papply s.1 e with
  | .ok q=>(q,(dapply s.2 e).2)
  | .error _=>s
def view (r:Rep) (l:List Entry):Policy × Dic:=l.foldl vstep (r.pol,r.docs)
end Spec
end Go.Lk
