import PyProof.Rows.All
import Wide.All
import OpenK.AllK
import Wide.FinOn
import Lean
import PySem.Challenge.RW_og0270_01
set_option Elab.async false
set_option genCtorIdx false
set_option tactic.hygienic false
set_option genInjectivity false
set_option genSizeOf false
set_option bootstrap.genMatcherCode false
set_option compiler.extract_closed false
set_option maxRecDepth 100000
set_option linter.unusedVariables false
set_option linter.unusedSimpArgs false
open List (all_eq_true any_cons any_eq_true append_assoc append_nil cons_append contains_cons drop_drop drop_eq_nil_iff filterMap_cons forIn_cons getElem?_eq_getElem getElem?_map getElem_mem isEmpty_iff length_cons length_map length_nil length_reverse length_set lookup_cons map_append map_cons map_map map_nil map_take mem_append mem_cons mem_cons_of_mem mem_cons_self mem_map mem_of_getElem? mem_of_mem_tail mem_range mem_singleton nil_append nodup_cons not_mem_nil replicate reverse_cons size_toArray toList_toArray)
open Nat (add_assoc add_comm add_le_add add_le_add_left add_le_add_right add_mul beq ble div_lt_self le_add_left le_add_right le_of_eq le_refl le_succ le_succ_of_le lt_of_le_of_lt lt_of_lt_of_le lt_succ_self mod_lt mul_le_mul mul_le_mul_left mul_le_mul_right ne_of_gt ne_of_lt not_le not_lt one_mul strongRecOn succ_le_succ succ_pos toUInt8 zero_add zero_le)
open Int (fmod_eq_emod_of_nonneg le_trans natCast_nonneg negSucc_eq ofNat_le ofNat_lt toNat toNat_natCast toNat_of_nonneg)
section
open PySem PySem.W PySem.Calls PyProof.Rows
namespace Internal
theorem GK {a b c:Nat} (h:a<=b) (g:b<=c):a<=c:=Nat.le_trans h g
theorem GL {p:Prop} [Decidable p] (h:decide p=true):p:=of_decide_eq_true h
theorem GM {p:Prop} [Decidable p] (h:p):decide p=true:=decide_eq_true h
theorem GN {p:Prop} [Decidable p] (h:¬p):decide p=false:=decide_eq_false h
theorem GO {α:Type} {as bs:List α}:(as++bs).length=as.length+bs.length:=List.length_append
theorem GP {α:Type} {a b:α} (h:a∈[b]):a=b:=mem_singleton.mp h
theorem bc {p:Prop}(h:(p->False)->False):p:=Classical.byContradiction h
@[elab_as_elim] theorem sr {α:Sort u} {a b:α} {p:α->Prop} (h:a=b) (q:p b):p a:=h.symm▸q
@[elab_as_elim] theorem sl {α:Sort u} {a b:α} {p:α->Prop} (h:a=b) (q:p a):p b:=h▸q
theorem FQ {p q:Prop}{C:Prop}(h:p/\q)(k:p->q->C):C:=k h.1 h.2
theorem Ep {α:Type}{p:α->Prop}{C:Prop}(h:∃ a,p a)(k:∀ a,p a->C):C:=h.elim λ a h=>k a h
theorem mL {p q r:Prop}{C:Prop}(h:p/\q/\r)(k:p->q->r->C):C:=k h.1 h.2.1 h.2.2
theorem Ai {p q r s:Prop}{C:Prop}(h:p/\q/\r/\s)(k:p->q->r->s->C):C:=k h.1 h.2.1 h.2.2.1 h.2.2.2
theorem xn {p q r s t:Prop}{C:Prop}(h:p/\q/\r/\s/\t)(k:p->q->r->s->t->C):C:=k h.1 h.2.1 h.2.2.1 h.2.2.2.1 h.2.2.2.2
theorem Aa {p q r s t u v w x:Prop}{C:Prop}(h:p/\q/\r/\s/\t/\u/\v/\w/\x)(k:p->q->r->s->t->u->v->w->x->C):C:=k h.1 h.2.1 h.2.2.1 h.2.2.2.1 h.2.2.2.2.1 h.2.2.2.2.2.1 h.2.2.2.2.2.2.1 h.2.2.2.2.2.2.2.1 h.2.2.2.2.2.2.2.2
theorem aT {α:Type}{p q:α->Prop}{C:Prop}(h:∃ a,p a/\q a)(k:∀ a,p a->q a->C):C:=h.elim λ a h=>k a h.1 h.2
theorem nT {α:Type}{p q r:α->Prop}{C:Prop}(h:∃ a,p a/\q a/\r a)(k:∀ a,p a->q a->r a->C):C:=h.elim λ a h=>k a h.1 h.2.1 h.2.2
theorem lT {α:Type}{p q r s:α->Prop}{C:Prop}(h:∃ a,p a/\q a/\r a/\s a)(k:∀ a,p a->q a->r a->s a->C):C:=h.elim λ a h=>k a h.1 h.2.1 h.2.2.1 h.2.2.2
theorem EX {α:Type}{p q r s t:α->Prop}{C:Prop}(h:∃ a,p a/\q a/\r a/\s a/\t a)(k:∀ a,p a->q a->r a->s a->t a->C):C:=h.elim λ a h=>k a h.1 h.2.1 h.2.2.1 h.2.2.2.1 h.2.2.2.2
theorem AN {α β:Type}{p:α->β->Prop}{C:Prop}(h:∃ a b,p a b)(k:∀ a b,p a b->C):C:=h.elim λ a h=>h.elim λ b h=>k a b h
theorem k9 {α β:Type}{p q:α->β->Prop}{C:Prop}(h:∃ a b,p a b/\q a b)(k:∀ a b,p a b->q a b->C):C:=h.elim λ a h=>h.elim λ b h=>k a b h.1 h.2
theorem ln {α β:Type}{p q r:α->β->Prop}{C:Prop}(h:∃ a b,p a b/\q a b/\r a b)(k:∀ a b,p a b->q a b->r a b->C):C:=h.elim λ a h=>h.elim λ b h=>k a b h.1 h.2.1 h.2.2
theorem sf {α β:Type}{p q r s:α->β->Prop}{C:Prop}(h:∃ a b,p a b/\q a b/\r a b/\s a b)(k:∀ a b,p a b->q a b->r a b->s a b->C):C:=h.elim λ a h=>h.elim λ b h=>k a b h.1 h.2.1 h.2.2.1 h.2.2.2
theorem Bo {α β:Type}{p q r s t:α->β->Prop}{C:Prop}(h:∃ a b,p a b/\q a b/\r a b/\s a b/\t a b)(k:∀ a b,p a b->q a b->r a b->s a b->t a b->C):C:=h.elim λ a h=>h.elim λ b h=>k a b h.1 h.2.1 h.2.2.1 h.2.2.2.1 h.2.2.2.2
theorem E3 {α β:Type}{p q r s t u:α->β->Prop}{C:Prop}(h:∃ a b,p a b/\q a b/\r a b/\s a b/\t a b/\u a b)(k:∀ a b,p a b->q a b->r a b->s a b->t a b->u a b->C):C:=h.elim λ a h=>h.elim λ b h=>k a b h.1 h.2.1 h.2.2.1 h.2.2.2.1 h.2.2.2.2.1 h.2.2.2.2.2
theorem Fl {α β:Type}{p q r s t u v:α->β->Prop}{C:Prop}(h:∃ a b,p a b/\q a b/\r a b/\s a b/\t a b/\u a b/\v a b)(k:∀ a b,p a b->q a b->r a b->s a b->t a b->u a b->v a b->C):C:=h.elim λ a h=>h.elim λ b h=>k a b h.1 h.2.1 h.2.2.1 h.2.2.2.1 h.2.2.2.2.1 h.2.2.2.2.2.1 h.2.2.2.2.2.2
theorem Fa {α β γ:Type}{p:α->β->γ->Prop}{C:Prop}(h:∃ a b c,p a b c)(k:∀ a b c,p a b c->C):C:=h.elim λ a h=>h.elim λ b h=>h.elim λ c h=>k a b c h
theorem DR {α β γ:Type}{p q:α->β->γ->Prop}{C:Prop}(h:∃ a b c,p a b c/\q a b c)(k:∀ a b c,p a b c->q a b c->C):C:=h.elim λ a h=>h.elim λ b h=>h.elim λ c h=>k a b c h.1 h.2
theorem ug {α β γ:Type}{p q r:α->β->γ->Prop}{C:Prop}(h:∃ a b c,p a b c/\q a b c/\r a b c)(k:∀ a b c,p a b c->q a b c->r a b c->C):C:=h.elim λ a h=>h.elim λ b h=>h.elim λ c h=>k a b c h.1 h.2.1 h.2.2
theorem Cv {α β γ:Type}{p q r s:α->β->γ->Prop}{C:Prop}(h:∃ a b c,p a b c/\q a b c/\r a b c/\s a b c)(k:∀ a b c,p a b c->q a b c->r a b c->s a b c->C):C:=h.elim λ a h=>h.elim λ b h=>h.elim λ c h=>k a b c h.1 h.2.1 h.2.2.1 h.2.2.2
theorem EJ {α β γ:Type}{p q r s t u v:α->β->γ->Prop}{C:Prop}(h:∃ a b c,p a b c/\q a b c/\r a b c/\s a b c/\t a b c/\u a b c/\v a b c)(k:∀ a b c,p a b c->q a b c->r a b c->s a b c->t a b c->u a b c->v a b c->C):C:=h.elim λ a h=>h.elim λ b h=>h.elim λ c h=>k a b c h.1 h.2.1 h.2.2.1 h.2.2.2.1 h.2.2.2.2.1 h.2.2.2.2.2.1 h.2.2.2.2.2.2
theorem Em {α β γ δ:Type}{p q r:α->β->γ->δ->Prop}{C:Prop}(h:∃ a b c d,p a b c d/\q a b c d/\r a b c d)(k:∀ a b c d,p a b c d->q a b c d->r a b c d->C):C:=h.elim λ a h=>h.elim λ b h=>h.elim λ c h=>h.elim λ d h=>k a b c d h.1 h.2.1 h.2.2
theorem Cj {α β γ δ:Type}{p q r s:α->β->γ->δ->Prop}{C:Prop}(h:∃ a b c d,p a b c d/\q a b c d/\r a b c d/\s a b c d)(k:∀ a b c d,p a b c d->q a b c d->r a b c d->s a b c d->C):C:=h.elim λ a h=>h.elim λ b h=>h.elim λ c h=>h.elim λ d h=>k a b c d h.1 h.2.1 h.2.2.1 h.2.2.2
theorem EI {α β γ δ:Type}{p q r s t:α->β->γ->δ->Prop}{C:Prop}(h:∃ a b c d,p a b c d/\q a b c d/\r a b c d/\s a b c d/\t a b c d)(k:∀ a b c d,p a b c d->q a b c d->r a b c d->s a b c d->t a b c d->C):C:=h.elim λ a h=>h.elim λ b h=>h.elim λ c h=>h.elim λ d h=>k a b c d h.1 h.2.1 h.2.2.1 h.2.2.2.1 h.2.2.2.2
theorem Fx {α β γ δ ε ζ:Type}{p q r s:α->β->γ->δ->ε->ζ->Prop}{C:Prop}(h:∃ a b c d e f,p a b c d e f/\q a b c d e f/\r a b c d e f/\s a b c d e f)(k:∀ a b c d e f,p a b c d e f->q a b c d e f->r a b c d e f->s a b c d e f->C):C:=h.elim λ a h=>h.elim λ b h=>h.elim λ c h=>h.elim λ d h=>h.elim λ e h=>h.elim λ f h=>k a b c d e f h.1 h.2.1 h.2.2.1 h.2.2.2
theorem FJ {α β γ δ ε ζ η:Type}{p q r:α->β->γ->δ->ε->ζ->η->Prop}{C:Prop}(h:∃ a b c d e f g,p a b c d e f g/\q a b c d e f g/\r a b c d e f g)(k:∀ a b c d e f g,p a b c d e f g->q a b c d e f g->r a b c d e f g->C):C:=h.elim λ a h=>h.elim λ b h=>h.elim λ c h=>h.elim λ d h=>h.elim λ e h=>h.elim λ f h=>h.elim λ g h=>k a b c d e f g h.1 h.2.1 h.2.2
theorem Ff {α β γ δ ε ζ η:Type}{p q r s t:α->β->γ->δ->ε->ζ->η->Prop}{C:Prop}(h:∃ a b c d e f g,p a b c d e f g/\q a b c d e f g/\r a b c d e f g/\s a b c d e f g/\t a b c d e f g)(k:∀ a b c d e f g,p a b c d e f g->q a b c d e f g->r a b c d e f g->s a b c d e f g->t a b c d e f g->C):C:=h.elim λ a h=>h.elim λ b h=>h.elim λ c h=>h.elim λ d h=>h.elim λ e h=>h.elim λ f h=>h.elim λ g h=>k a b c d e f g h.1 h.2.1 h.2.2.1 h.2.2.2.1 h.2.2.2.2
noncomputable def bF:Code->Bool
 | .builtin id _=>!(Builtin.Bytes.decodersThatHold.contains id)
 | _=>true
def sN (Γ:PySem.Ctx):Prop:=bF Γ.code=true/\∀ x∈Γ.below,bF x.1=true
def aF {α:Type}(β:Bool)(M:Model)(A:Around)(t:Sem α)(Q:α->Shared->Prop)(E:Value->Shared->Prop)(s:Shared):Prop :=
 ∀ Γ p,Γ.In A->(β=true->sN Γ)->Sem.wp M Γ t (λ a _ s'=>Q a s') (λ e _ s'=>E e s') p s
section
variable {α γ:Type}{β:Bool}{M:Model}{A:Around}{E:Value->Shared->Prop}{s:Shared}
theorem ah {t:Sem α}{Q:α->Shared->Prop}(h:wpAny M A t Q E s):aF β M A t Q E s:=λ Γ p hΓ _=>h Γ p hΓ
theorem ae {a:α}{Q:α->Shared->Prop}(h:Q a s):aF β M A (pure a) Q E s:=λ _ _ _ _=>h
theorem aj {t:Sem α}{Q Q':α->Shared->Prop}{E':Value->Shared->Prop}(h:aF β M A t Q E s)
  (hQ:∀ a s,Q a s->Q' a s) (hE:∀ e s,E e s->E' e s):aF β M A t Q' E' s :=
 λ Γ p hΓ hc=>Sem.wp_mono M Γ t (λ a _ s=>hQ a s) (λ e _ s=>hE e s) p s (h Γ p hΓ hc)
theorem aa {m:Sem α}{f:α->Sem γ}{Q:γ->Shared->Prop}(h:aF β M A m (λ a s'=>aF β M A (f a) Q E s') E s) :
  aF β M A (m >>= f) Q E s:=λ Γ p hΓ hc=>by
 exact sr (Sem.wp_bind' ..) (Sem.wp_mono M Γ m (λ a p' s' h'=>h' Γ p' hΓ hc) (λ _ _ _ h'=>h') p s (h Γ p hΓ hc))
end
theorem zo:sN ⟨.builtin "claim.caller" {},none,none,[],none⟩:=⟨by decide +kernel,λ _ h=>nomatch h⟩
theorem j7 {β:Bool}{M:Model}{t:Sem Fin}{R:Result->Shared->Prop}{s:Shared}
  (h:aF β M callerA t (λ fin s'=>∃ f,fin=.done f/\R (.ok f) s') (λ e s'=>R (.error e) s') s) (p:Pos) :
  Sem.wp M ⟨.builtin "claim.caller" {},none,none,[],none⟩ t (Sem.finPost M ⟨.builtin "claim.caller" {},none,none,[],none⟩ R) (λ e _ s'=>R (.error e) s') p s:=by
 refine Sem.wp_mono M _ t (λ fin p' s' h'=>?_) (λ _ _ _ h'=>h') p s (h _ p caller_in λ _=>zo)
 obtain ⟨f,rfl,hf⟩:=h'
 exact hf
theorem lB {β:Bool}{prog:Program}{w:World}{t:Sem Fin}{s:Shared}{R:Result->Shared->Prop}(hreg:s.asleep)
  (h:aF β (model prog w) callerA t (λ fin s'=>∃ f,fin=.done f/\(R (.ok f) s'/\leftWithCleanup s'.gens=false)) (λ e s'=>R (.error e) s'/\leftWithCleanup s'.gens=false) s) :
  ∃ n r s' s'',runN (denote table) prog w n s ⟨t,.builtin "claim.caller" {},default,[]⟩=.halted (outcomeOf r) s' /\
   schedN (denote table) prog w n (.single s ⟨t,.builtin "claim.caller" {},default,[]⟩)=.halted (outcomeOf r) s'/\s'.forget=s''.forget/\R r s'':=by
 exact Cj (wp_halts_full (M:=model prog w) (R:=R) hreg (j7 (R:=λ r s'=>R r s'/\leftWithCleanup s'.gens=false) h default)) λ n r s1x s2x hs hn hfo hR=>⟨n,r,s2x,s1x,hn,hs,hfo,hR⟩
theorem qt {β:Bool}{c:ClaimW}{tree:List Value->Sem Fin}{w:World}{s:Shared}{free:Addr->Prop}{gens:Prop}{kept:Heap->Prop}(hz:s.asleep)(hgens:s.gens=#[])
  (hspec:∀ args,c.pre args=true->WData.layableAll args=true ->
   ∀ ord:List DictEntry->List DictEntry,(∀ l,(ord l).Perm l) ->
   ∃ vs s1x,layAllW c.records (classAt s.heap) w.params ord args s=some (vs,s1x) /\
    aF β (model c.prog w) callerA (tree vs) (λ fin s'=>∃ f,fin=.done f/\(c.Ends s args vs s1x (.ok f) s'/\s'.os=s.os/\AllBare s'.gens/\kept s'.heap))
     (λ e s'=>c.Ends s args vs s1x (.error e) s'/\s'.os=s.os/\AllBare s'.gens/\kept s'.heap) s1x) :
  c.CallFrom (λ vs=>⟨tree vs,.builtin "claim.caller" {},default,[]⟩) w free gens kept s:=by
 intro args hpre hlay ord hord
 obtain ⟨vs,s1x,hlaid,hcode⟩:=hspec args hpre hlay ord hord
 have hal:=layAllW_rest _ _ _ hlaid
 obtain ⟨k,r,s',s'',hrun,hsched,hfo,hcase,hos,hkp⟩:=lB (β:=β) (prog:=c.prog) (w:=w) (t:=tree vs) (s:=s1x)
  (R:=λ r s'=>c.Ends s args vs s1x r s'/\s'.os=s.os/\kept s'.heap)
  (Shared.asleep_of_life hal.2.2.2 hz)
  (aj hcode (by
   rintro fin s' ⟨f,e,h1,h2,h3,h4⟩
   exact ⟨f,e,⟨h1,h2,h4⟩,leftWithCleanup_false_of_bare h3⟩) (by
   rintro e s' ⟨h1,h2,h3,h4⟩
   exact ⟨⟨h1,h2,h4⟩,leftWithCleanup_false_of_bare h3⟩))
 obtain ⟨eh,_,_,eo,_⟩:=Shared.forget_eq hfo
 have hcase:=hcase.congr eh
 have hkp:kept s'.heap:=by exact sr eh hkp
 rw [<- eo] at hos
 have hlife:s'.heap.life=s.heap.life:=(runN_life _ _ _ hrun).trans hal.2.2.2
 refine ⟨vs,s1x,hlaid,k,_,s',hsched,?_,(λ _ i x hx=>by rw [hgens] at hx;simp at hx),hkp,by exact sr hlife rfl,Shared.rest_eq hos⟩
 exact hcase.imp (λ h=>h.imp λ v h=>⟨congrArg outcomeOf h.1,h.2.1,h.2.2.1,h.2.2.2.1,λ b o y _=>h.2.2.2.2.1 b o y,h.2.2.2.2.2⟩)
  λ h=>h.imp λ e h=>h.imp λ ob h=>h.imp λ cls h=>⟨congrArg outcomeOf h.1,h.2.1,h.2.2.1,h.2.2.2.1,h.2.2.2.2.1,λ b o y _=>h.2.2.2.2.2 b o y⟩
abbrev xu (q:Program)(loose:List Str)(XP:(Str->Option Value)->Heap->Prop)(YP:World->Heap->Prop)(r:RowW)(d:DefRec)(kwd:List (Str×Expr))(run:Value->List Value->Sem Value):Prop :=
 ∀ (w:World) (s0 s1x:Shared) (mg mb:Str->Option Value),Ground q loose r.records XP w s0 mg mb s1x.heap->YP w s1x.heap->∀ (a:Addr) (o:Obj) (pm cd doc dV kV:Value),s1x.heap.get? a=some o ->
  o.data=.func {docDef d.name d.params d.body d.scope pm cd doc with defaults:=dV,kwdefaults:=kV}->s1x.heap.CodeRec cd d.name->Dflts mg s1x.heap d.params kwd dV kV->mg d.name=some (.ref a)->s1x.gens=#[] ->
  ∀ (args:List WData) (vals:List Value) (as:List Addr),r.claim.pre args=true->WData.layableAll args=true->ReadsAllW r.records (classAt s0.heap) s1x.heap vals args as->WellAll w.params s1x.heap vals args->(∀ a∈as,(a==sysModules)=false) ->
   aF true (model r.prog w) callerA (run (.ref a) vals) (λ v s'=>GoodWG r.claim (classAt s0.heap) (ExcName.means s0.heap) args s1x (.ok (.ret v)) s')
    (λ e s'=>GoodWG r.claim (classAt s0.heap) (ExcName.means s0.heap) args s1x (.error e) s') s1x
theorem PySem.W.holds_open {r:OpenRow}{q:Program}{loose:List Str}{Xt:Shared->Bool}{XP:(Str->Option Value)->Heap->Prop}{α:Type}{Yf:Shared->α}{Ya:World->α}{YP:World->Heap->Prop}{d:DefRec}{kwd:List (Str×Expr)}{N:Nat}
  (left:LeftO r.prog q loose Xt Yf Ya N) (hY:∀ w s,Yf s=Ya w->YP w s.heap) (hYk:∀ w h h',YP w h->(∀ b o,h.get? b=some o->h'.get? b=some o)->YP w h')
  (hX:∀ s,Xt s=true->XP (s.heap.nsMap mainGlobals) s.heap) (hXk:∀ mg h h',XP mg h->(∀ b o,h.get? b=some o->h'.get? b=some o)->XP mg h')
  (hdef:defOf q r.name=some (d,kwd)) (hp:r.prog.theDef r.name=some (d.params,d.body,d.scope)) (hk:kwWritten? d.params.kwonlyargs d.params.kw_defaults=some kwd) (hRf:∀ s,Xt s=true->RecFacts r.records s.heap) (hwr:(!r.writes||r.records.isEmpty)=true)
  (k1:r.wellSaid=true) (ok:(chainsOk q&&opensWell r.prog&&(frees r.toRowW&&r.within.isEmpty))=true) (hb:r.prog.bare) (hw:r.toRowW.promised)
  (call:xu q loose XP YP r.toRowW d kwd λ f vs=>PySem.call f vs):r.Holds:=by
 refine ⟨k1,hw,?_⟩
 obtain ⟨ok,k5⟩:=Bool.and_eq_true_iff.mp ok
 obtain ⟨hch,o1⟩:=Bool.and_eq_true_iff.mp ok
 obtain ⟨k5,k6⟩:=Bool.and_eq_true_iff.mp k5
 refine xn (frees_parts k5) λ hsame hu ha hap hm=>?_
 refine ⟨⟨hb,o1,by show r.toRowW.makers.map _=[];refine sr hm ?_;rfl⟩,hw.witness,λ w=>⟨(left.behind hX hch w).1,λ s' hs'=>?_⟩⟩
 obtain ⟨s0,hf,hg0,s,hT,hz,hgens,hg,G00,y⟩:=(left.behind (XP:=λ mg h=>XP mg h/\RecFacts r.records h) (λ s hs=>⟨hX s hs,hRf s hs⟩) hch w).2 s' hs'
 have G0:Ground q loose [] XP w s (s.heap.nsMap mainGlobals) (s.heap.nsMap builtinsNs) s.heap:=⟨G00.T,G00.B,G00.D,G00.TE,G00.TD,G00.W,G00.X.1,G00.cls,G00.has,G00.apart,G00.once,G00.K⟩
 have RF:=G00.X.2
 have hT':=hT
 refine ⟨s0,hf,hg0,s,hT,λ n hn=>?_,RF.1,RF.2.1,?_⟩
 .obtain rfl:n=r.name:=by split at hn<;>simp_all
  exact pinned_of_view hg G0 hdef hp hk
 have hgens:s.gens=#[]:=Array.eq_empty_of_size_eq_zero (beq_iff_eq.mp hgens)
 have G:Ground q loose r.records XP w s _ _ s.heap:=RF.ground G0
 refine qt (β:=true) (c:=r.toRowW.claim) hz hgens λ args hpre hlay ord hord=>?_
 obtain ⟨⟨vs,s1x⟩,hlaid⟩:=Option.isSome_iff_exists.mp (layAllW_isSome (P:=w.params) (ord:=ord) G.has args r.args s (pre_splitW hpre).1)
 have keeps:=layAllW_keeps _ _ _ hlaid
 have hal:=layAllW_rest _ _ _ hlaid
 refine nT (reads_layAllW hord _ _ _ hlaid hlay s1x.heap (λ _ _ e=>e)) λ as hrd hin hold=>?_
 have L:Laid r.records w s s1x args vs as:=⟨⟨ord,hord,hlaid⟩,hrd,hin,hold,keeps,hal.1.trans hgens,hal.2.2.1⟩
 have G1:=G.keeps hXk keeps
 have hi:=ident_freeW hu ha hap
 have hwi:r.toRowW.claim.within=[]:=isEmpty_iff.mp k6
 refine Ff (G1.fn hdef) λ a o pm cd doc dV kV h1 h2 h3 h4 h5=>?_
 have h:=call w s s1x _ _ G1 (hYk _ _ _ (hY w s y) keeps) a o pm cd doc dV kV h2 h3 h4 h5 (defOf_name hdef▸h1) L.gens args vs as hpre hlay L.reads L.well (L.low G.low)
 refine ⟨vs,s1x,hlaid,(aa (ah (wpAny_nsGet G1.T.g (sr h1 (aa (aj h (λ v s' g=>ae ⟨_,rfl,?_⟩) λ e s' g=>?_))))))⟩
 .have z:=g.laid (c:=r.toRowW.claim) hsame hwi hi L
  exact ⟨z.1,z.2.1,z.2.2,λ q=>⟨namesKept_of hT' hg _ keeps g.2.1.old,noTable hwr q⟩⟩
 .have z:=g.laid (c:=r.toRowW.claim) hsame hwi hi L
  exact ⟨z.1,z.2.1,z.2.2,λ q=>⟨namesKept_of hT' hg _ keeps g.2.1.old,noTable hwr q⟩⟩
end Internal
end
section
open PySem PySem.W PySem.Calls
namespace Internal
inductive V where
 | none|bool (b:Bool)|int (i:Int)|str (s:List Nat)|bytes (b:List Nat)|ref (a:Addr)
noncomputable def V.ctorIdx:V->Nat:=λ v=>V.casesOn (motive:=λ _=>Nat) v 0 (λ _=>1) (λ _=>2) (λ _=>3) (λ _=>4) (λ _=>5)
theorem Gb {a b:List Nat}(h:some (V.str a)=some (V.str b)):a=b:=by injection h with h;injection h
inductive VR:V->Value->Prop where
 | none:VR .none .none
 | bool (b:Bool):VR (.bool b) (.bool b)
 | int (i:Int) (t:Tok):VR (.int i) (.int i t)
 | str (s:List Nat) (t:Tok):VR (.str s) (.str ⟨s.toArray⟩ t)
 | bytes (b:Array UInt8) (t:Tok):VR (.bytes (b.toList.map UInt8.toNat)) (.bytes b t)
 | ref (a:Addr):VR (.ref a) (.ref a)
inductive cO:List V->List Value->Prop where
 | nil:cO [] []
 | cons {v x vs xs}:VR v x->cO vs xs->cO (v::vs) (x::xs)
theorem cO.length {vs xs}(h:cO vs xs):xs.length=vs.length:=by
 induction h with
 | nil=>rfl
 | cons _ _ ih=>simp [ih]
theorem cO.append {vs xs ws ys}(h:cO vs xs)(g:cO ws ys):cO (vs++ws) (xs++ys):=by
 induction h with
 | nil=>exact g
 | cons a _ ih=>exact .cons a ih
theorem cO.get {vs:List V}{xs:List Value}(h:cO vs xs):∀ {i:Nat} {v:V},vs[i]?=some v->∃ x,xs[i]?=some x/\VR v x:=by
 induction h with
 | nil=>intro i v e;simp at e
 | cons a _ ih =>
  intro i v e
  induction i with
  | zero=>simp at e;exact ⟨_,by simp,e▸a⟩
  | succ i=>simp at e;simpa using ih e
theorem cO.set {vs:List V}{xs:List Value}(h:cO vs xs):∀ {i:Nat} {v:V} {x:Value},VR v x->cO (vs.set i v) (xs.set i x):=by
 induction h with
 | nil=>intro i v x _;exact .nil
 | cons a b ih =>
  intro i v x r
  induction i with
  | zero=>exact .cons r b
  | succ i=>exact .cons a (ih r)
theorem cO.snoc_inv {vs:List V}{v:V}{ys:List Value}(h:cO (vs++[v]) ys):∃ xs x,ys=xs++[x]/\cO vs xs/\VR v x:=by
 induction vs generalizing ys with
 | nil=>cases h with|cons a b=>cases b;exact ⟨[],_,rfl,.nil,a⟩
 | cons w ws ih =>
  cases h with
  | cons a b =>
   refine ln (ih b) λ xs x ez1 p q=>?_;subst ez1
   exact ⟨_::xs,x,rfl,.cons a p,q⟩
theorem cO.take {vs:List V}{xs:List Value}(h:cO vs xs):∀ n:Nat,cO (vs.take n) (xs.take n):=by
 induction h with
 | nil=>intro n;simp;exact .nil
 | cons a _ ih=>intro n;induction n with|zero=>exact .nil|succ n=>exact .cons a (ih n)
theorem cO.push {vs:List V}{v:V}{xs:Array Value}{x:Value}(h:cO vs xs.toList)(r:VR v x):cO (vs++[v]) (xs.push x).toList:=by
 exact sr Array.toList_push (h.append (.cons r .nil))
noncomputable def uY:List String:=["told", "octets", "at", "rows", "text", "opened", "values", "params", "own", "statics", "stack", "found"]
noncomputable def nm (k:Nat):Str:=Str.ofString (uY.getD k "")
inductive bX:List (Nat×V)->List DictEntry->Prop where
 | nil:bX [] []
 | cons {k v es h t x ds}:k<12->VR v x->bX es ds->bX ((k,v)::es) (⟨h,.str (nm k) t,x⟩::ds)
inductive bQ {K L:Type} (f:K->L):List (K×V)->List (L×Value)->Prop where
 | nil:bQ f [] []
 | cons {k v es x ds}:VR v x->bQ f es ds->bQ f ((k,v)::es) ((f k,x)::ds)
inductive AO where
 | list (vs:List V)
 | flist (vs:List V)
 | tup (vs:List V)
 | idict (es:List (Int×V))
 | sdict (es:List (List Nat×V))
 | inst (c:Nat) (d:Addr)
 | attrs (es:List (Nat×V))
 | barr (b:List Nat)
noncomputable def AO.ctorIdx:AO->Nat:=λ a=>AO.casesOn (motive:=λ _=>Nat) a (λ _=>0) (λ _=>1) (λ _=>2) (λ _=>3) (λ _=>4) (λ _ _=>5) (λ _=>6) (λ _=>7)
noncomputable def AO.frozen:AO->Bool
 | .flist _ | .tup _=>true
 | _=>false
noncomputable def aY (l:List Nat):Str:=⟨l.toArray⟩
theorem eg {a b:List Nat}(h:aY a=aY b):a=b:=by
 unfold aY at h;injection h with h;simpa using h
structure Sx where
 prog:Program
 w:World
 h0x:Heap
 os:OsState
 K:Frag
 p:Program
 loose:List Str
 mg:Str->Option Value
 mb:Str->Option Value
 X:K.In h0x
 T:TopRead p loose mg mb h0x
 fa:Nat->Addr
 ca:Nat->Addr
inductive OR (S:Sx):AO->Obj->Prop where
 | list {vs} {xs:Array Value} {n}:cO vs xs.toList->OR S (.list vs) {cls:=.type "list", data:=.seq xs n}
 | flist {vs} {xs:Array Value} {n}:cO vs xs.toList->OR S (.flist vs) {cls:=.type "list", data:=.seq xs n}
 | tup {vs} {xs:Array Value} {n}:cO vs xs.toList->OR S (.tup vs) {cls:=.type "tuple", data:=.seq xs n}
 | idict {es kvs o}:bQ id es kvs->o.IsDictOf (intKind S.prog S.w) kvs->OR S (.idict es) o
 | sdict {es kvs o}:bQ aY es kvs->o.IsDictOf (strKind S.prog S.w) kvs->OR S (.sdict es) o
 | inst {c d}:OR S (.inst c d) (instObj (S.ca c) d)
 | attrs {es ds n}:bX es ds->OR S (.attrs es) (dictOf ds n)
 | barr {x:Array UInt8}:OR S (.barr (x.toList.map UInt8.toNat)) {cls:=.type "bytearray", data:=.bytearray x 0}
def Sx.New (S:Sx)(a:Addr):Prop:=S.h0x.get? a=none/\(a==sysModules)=false
noncomputable abbrev AH:=Addr->Option AO
noncomputable def AH.set (H:AH)(a:Addr)(o:AO):AH:=λ b=>if b=a then some o else H b
@[simp] theorem F3 (H:AH) (a:Addr) (o:AO):(H.set a o) a=some o:=by simp [AH.set]
theorem F4 (H:AH){a b:Addr}(o:AO)(h:b≠a):(H.set a o) b=H b:=by simp [AH.set,h]
structure aI (S:Sx) (fs:List Env) (H:AH) (s:Shared):Prop where
 base:∀ b o,S.h0x.get? b=some o->s.heap.get? b=some o
 objs:∀ a ao,H a=some ao->(S.New a\/ao.frozen=true)/\∃ o,s.heap.get? a=some o/\OR S ao o
 frames:s.heap.FunFrames S.h0x fs
 hid:∀ env∈fs,∀ L,env.frame=some L->H L=none
 gens:s.gens=#[]
 os:s.os=S.os
structure Tr (H:AH) (h:Heap) (H':AH) (h':Heap):Prop where
 keep:∀ b o,h.get? b=some o->H b=none->h'.get? b=some o/\H' b=none
 dom:∀ b,h'.get? b=none->h.get? b=none
theorem j3 {h h':Heap}(k:∀ b o,h.get? b=some o->∃ o',h'.get? b=some o'):∀ b,h'.get? b=none->h.get? b=none:=λ b e=>by
 induction q:h.get? b with
 | none=>rfl
 | some o=>obtain ⟨o',g⟩:=k b o q;rw [e] at g;contradiction
theorem Tr.refl (H:AH)(h:Heap):Tr H h H h:=⟨λ _ _ e n=>⟨e,n⟩,λ _ e=>e⟩
theorem Tr.trans {H h H1 h1x H2x h2x}(x:Tr H h H1 h1x)(y:Tr H1 h1x H2x h2x):Tr H h H2x h2x:=⟨λ b o e n =>
 by obtain ⟨a,c⟩:=x.keep b o e n;exact y.keep b o a c,λ b e=>x.dom b (y.dom b e)⟩
theorem Tr.get {H h H' h' b o}(x:Tr H h H' h')(e:h.get? b=some o)(n:H b=none):h'.get? b=some o:=(x.keep b o e n).1
theorem Tr.hid {H h H' h' b o}(x:Tr H h H' h')(e:h.get? b=some o)(n:H b=none):H' b=none:=(x.keep b o e n).2
theorem FunFrames.mem {h base:Heap}:∀ {l:List Env},h.FunFrames base l->∀ env∈l,∃ L o,env.frame=some L/\base.get? L=none/\h.get? L=some o/\∀ vs,o.data≠.fields vs
 | [],_,_,m=>nomatch m
 | _::_,⟨_,a,b⟩,e,m=>by
  rcases mem_cons.mp m with rfl|m
  .exact a
  .exact FunFrames.mem b e m
theorem Gc {h h' base:Heap}:∀ {l:List Env},h.FunFrames base l->(∀ env∈l,∀ L o,env.frame=some L->h.get? L=some o->∃ o',h'.get? L=some o'/\o'.data=o.data)->h'.FunFrames base l:=by
 intro l
 induction l with
 | nil=>exact λ _ _=>trivial
 | cons x l ih =>
  intro h H
  exact aT (H _ mem_cons_self _ _ h.2.1.choose_spec.choose_spec.1 h.2.1.choose_spec.choose_spec.2.2.1) λ o' e f=>⟨h.1,⟨_,o',h.2.1.choose_spec.choose_spec.1,h.2.1.choose_spec.choose_spec.2.1,e,λ vs=>f▸h.2.1.choose_spec.choose_spec.2.2.2 vs⟩,ih h.2.2 λ env m=>H env (mem_cons_of_mem _ m)⟩
section
variable {S:Sx}{fs:List Env}{H H':AH}{s:Shared}
theorem aI.toks (R:aI S fs H s)(t:Nat):aI S fs H {s with toks:=t}:=⟨R.base,R.objs,R.frames,R.hid,R.gens,R.os⟩
theorem aI.step {s':Shared}(R:aI S fs H s)(T:∀ b o,s.heap.get? b=some o->H b=none->s'.heap.get? b=some o/\H' b=none)
  (hb:∀ a o,S.h0x.get? a=some o->(∃ ao,H a=some ao)->s'.heap.get? a=some o)
  (ho:∀ a ao,H' a=some ao->(S.New a\/ao.frozen=true)/\∃ o,s'.heap.get? a=some o/\OR S ao o)
  (hg:s'.gens=s.gens) (hos:s'.os=s.os):aI S fs H' s' where
 base:=λ b o e=>by
  induction hH:H b with
  | none=>exact (T _ _ (R.base b o e) hH).1
  | some ao=>exact hb b o e ⟨ao,hH⟩
 objs:=ho
 frames:=Gc R.frames λ env m L o e g=>⟨o,(T _ _ g (R.hid env m L e)).1,rfl⟩
 hid:=λ env m L e=>by
  refine sf (FunFrames.mem R.frames env m) λ L' o a uz1 c uz2=>?_
  rw [e] at a;(injection a with a;subst a)
  exact (T _ _ c (R.hid env m L e)).2
 gens:=hg.trans R.gens
 os:=hos.trans R.os
theorem Tr.push (H:AH)(h:Heap)(o:Obj):Tr H h H (h.push o):=⟨λ _ _ e n=>⟨Heap.get?_push_of_some _ e,n⟩,j3 λ _ _ e=>⟨_,Heap.get?_push_of_some _ e⟩⟩
theorem aI.push (R:aI S fs H s)(o:Obj):aI S fs H {s with heap:=s.heap.push o} :=
 R.step (Tr.push H s.heap o).keep (λ a ob e _=>Heap.get?_push_of_some _ (R.base a ob e))
  (λ a ao e=>by obtain ⟨p,ob,g,r⟩:=R.objs a ao e;exact ⟨p,ob,Heap.get?_push_of_some _ g,r⟩) rfl rfl
theorem aI.grow {h':Heap}(R:aI S fs H s)(k:∀ b o,s.heap.get? b=some o->h'.get? b=some o):aI S fs H {s with heap:=h'} :=
 R.step (s':={s with heap:=h'}) (λ b o e n=>⟨k b o e,n⟩) (λ a ob e _=>k _ _ (R.base a ob e))
  (λ a ao e=>by obtain ⟨p,ob,g,r⟩:=R.objs a ao e;exact ⟨p,ob,k _ _ g,r⟩) rfl rfl
theorem Tr.grow {h h':Heap}(k:∀ b o,h.get? b=some o->h'.get? b=some o):Tr H h H h':=⟨λ b o e n=>⟨k b o e,n⟩,j3 λ b o e=>⟨_,k b o e⟩⟩
theorem aI.none_of_fresh (R:aI S fs H s){a:Addr}(h:s.heap.get? a=none):H a=none:=by
 induction e:H a with
 | none=>rfl
 | some ao=>obtain ⟨_,o,g,_⟩:=R.objs a ao e;rw [h] at g;contradiction
theorem aI.base_none (R:aI S fs H s){a:Addr}(h:s.heap.get? a=none):S.h0x.get? a=none:=by
 induction e:S.h0x.get? a with
 | none=>rfl
 | some o=>rw [R.base a o e] at h;contradiction
theorem aX (h:Heap):h.get? h.objs.size=none:=by
 induction e:h.get? h.objs.size with
 | none=>rfl
 | some o=>exact absurd (Heap.lt_size e) (Nat.lt_irrefl _)
theorem aI.new_size (R:aI S fs H s):S.New s.heap.objs.size:=⟨R.base_none (aX _),by
 have h3:(3:Nat)<s.heap.objs.size:=(S.T.g.keeps R.base).lt
 refine beq_eq_false_iff_ne.mpr λ e=>?_
 have h1:s.heap.objs.size=(1:Nat):=e
 rw [h1] at h3
 exact absurd h3 (by decide)⟩
theorem aI.name (R:aI S fs H s){a:Addr}{ao:AO}{o:Obj}(hb:S.New a\/ao.frozen=true)(e:s.heap.get? a=some o)(r:OR S ao o)
  (hf:∀ env∈fs,env.frame≠some a):aI S fs (H.set a ao) s where
 base:=R.base
 objs:=λ b bo q=>by
  by_cases h:b=a
  .subst h;rw [F3] at q;(injection q with q;subst q);exact ⟨hb,o,e,r⟩
  .rw [F4 _ _ h] at q;exact R.objs b bo q
 frames:=R.frames
 hid:=λ env m L q=>by
  have:L≠a:=λ z=>hf env m (z▸q)
  exact sr (F4 _ _ this) (R.hid env m L q)
 gens:=R.gens
 os:=R.os
theorem aI.alloc (R:aI S fs H s){ao:AO}{o:Obj}(r:OR S ao o)(hf:o.isFreed=false) :
  aI S fs (H.set s.heap.objs.size ao) {s with heap:=s.heap.push o} :=
 (R.push o).name (.inl R.new_size) (Heap.get?_push_size _ hf) r λ env m q=>by
  refine sf (FunFrames.mem R.frames env m) λ L' o' a uz1 c uz2=>?_
  rw [q] at a;(injection a with a;subst a)
  rw [aX] at c;contradiction
theorem Tr.alloc (H:AH)(h:Heap)(o:Obj)(ao:AO):Tr H h (H.set h.objs.size ao) (h.push o):=⟨λ b ob e n=>by
 refine ⟨Heap.get?_push_of_some _ e,?_⟩
 refine sr (F4 _ _ (ne_of_lt (Heap.lt_size e))) ?_;exact n,j3 λ _ _ e=>⟨_,Heap.get?_push_of_some _ e⟩⟩
theorem aI.fresh (R:aI S fs H s):H s.heap.objs.size=none:=R.none_of_fresh (aX _)
theorem aI.put {h':Heap}(R:aI S fs H s){a:Addr}{ao ao':AO}{o':Obj}(e:H a=some ao)(hz:ao.frozen=false)(hs:Heap.SameBut a s.heap h')(g:h'.get? a=some o')(r:OR S ao' o') :
  aI S fs (H.set a ao') {s with heap:=h'}:=by
 obtain ⟨p,o,_,_⟩:=R.objs a ao e
 have p:S.New a:=p.resolve_right (by refine sr hz ?_;decide)
 refine R.step (s':={s with heap:=h'}) (λ b ob q n=>?_) (λ b ob q _=>?_) (λ b bo q=>?_) rfl rfl
 .have hb:b≠a:=by rintro rfl;rw [e] at n;contradiction
  exact ⟨(hs.2 b hb).trans q,by refine sr (F4 _ _ hb) ?_;exact n⟩
 .have hb:b≠a:=by rintro rfl;rw [p.1] at q;contradiction
  exact (hs.2 b hb).trans (R.base b ob q)
 .by_cases hb:b=a
  .subst hb;rw [F3] at q;(injection q with q;subst q);exact ⟨.inl p,o',g,r⟩
  .rw [F4 _ _ hb] at q
   obtain ⟨x,ob,y,z⟩:=R.objs b bo q
   exact ⟨x,ob,(hs.2 b hb).trans y,z⟩
theorem Tr.put {h h':Heap}{a:Addr}{ao ao':AO}(e:H a=some ao)(hs:Heap.SameBut a h h'){o':Obj}(g:h'.get? a=some o'):Tr H h (H.set a ao') h':=⟨λ b ob q n=>by
 have hb:b≠a:=by rintro rfl;rw [e] at n;contradiction
 exact ⟨(hs.2 b hb).trans q,by refine sr (F4 _ _ hb) ?_;exact n⟩,j3 λ b o q=>by
 by_cases hb:b=a
 .exact ⟨o',hb▸g⟩
 .exact ⟨o,(hs.2 b hb).trans q⟩⟩
def dI (H H':AH):Prop:=∀ a ao,H' a=some ao->H a=some ao\/∃ vs,ao=.flist vs/\H a=some (.list vs)
theorem dI.refl (H:AH):dI H H:=λ _ _ e=>.inl e
theorem dI.trans {H1 H2x H3:AH}(x:dI H1 H2x)(y:dI H2x H3):dI H1 H3:=λ a ao e=>by
 rcases y a ao e with e' | ⟨vs,rfl,e'⟩
 .exact x a ao e'
 .rcases x a _ e' with e'' | ⟨ws,q,_⟩
  .exact .inr ⟨vs,rfl,e''⟩
  .contradiction
theorem dI.none {H H':AH}(x:dI H H'){a:Addr}(e:H a=none):H' a=none:=by
 induction q:H' a with
 | none=>rfl
 | some ao=>rcases x a ao q with h|⟨_,_,h⟩<;>rw [e] at h<;>contradiction
theorem aI.weak (R:aI S fs H s)(x:dI H H'):aI S fs H' s where
 base:=R.base
 objs:=λ a ao e=>by
  rcases x a ao e with e' | ⟨vs,rfl,e'⟩
  .exact R.objs a ao e'
  .obtain ⟨p,o,g,r⟩:=R.objs a _ e'
   cases r with
   | list r=>exact ⟨.inr rfl,_,g,.flist r⟩
 frames:=R.frames
 hid:=λ env m L e=>x.none (R.hid env m L e)
 gens:=R.gens
 os:=R.os
theorem Tr.weak {H H1 H2x:AH}{h h':Heap}(t:Tr H h H1 h')(x:dI H1 H2x):Tr H h H2x h':=⟨λ _ _ e n=>⟨t.get e n,x.none (t.hid e n)⟩,t.dom⟩
end
def DT (S:Sx)(e d:Addr)(vs:Array Value)(h:Heap)(fl:Option Value):Prop:=match fl with
  | none=>vs[1]?=some .none
  | some f=>∃ (T:Addr) (oT:Obj) (ts:Array Value),vs[1]?=some (.ref T)/\S.h0x.get? T=none/\T≠e/\T≠d/\h.get? T=some oT/\oT.data=.fields ts/\ts[3]?=some f
inductive lJ (S:Sx) (e:Addr) (told:Int) (fl:Option Value) (h:Heap):Prop
 | mk (d:Addr) (vs:Array Value) (hs:Int) (t t':Tok) (n:Nat) (he:h.get? e=some {cls:=.ref (S.ca 0),dict:=some d,data:=.fields vs}) (hen:S.h0x.get? e=none) (hsz:1<vs.size) (hde:d≠e)
  (hd:∃ sl,h.get? d=some {dictOf [⟨hs,.str (nm 0) t,.int told t'⟩] n with slots:=sl}) (tr:DT S e d vs h fl)
theorem lJ.fly {S:Sx}{e:Addr}{told:Int}{f:Value}{h:Heap}(x:lJ S e told (some f) h):∃ (d:Addr) (vs:Array Value) (T:Addr),h.get? e=some {cls:=.ref (S.ca 0),dict:=some d,data:=.fields vs}/\vs[1]?=some (.ref T):=by
 obtain ⟨d,vs,_,_,_,_,he,_,_,_,_,T,_,_,h1,_⟩:=x
 exact ⟨d,vs,T,he,h1⟩
noncomputable abbrev AR (S:Sx)(e:Addr)(told:Int)(h:Heap):Prop:=lJ S e told (some .none) h
structure XP (S:Sx) (fs:List Env) (H:AH) (h:Heap) (told:Int) (e:Value) (s':Shared):Prop where
 exc:∃ a,e=.ref a/\AR S a told s'.heap
 base:∀ b o,S.h0x.get? b=some o->s'.heap.get? b=some o
 frames:s'.heap.FunFrames S.h0x fs
 ns:∀ b m,H b=none->h.Ns b m->s'.heap.Ns b m
 gens:s'.gens=#[]
 os:s'.os=S.os
inductive PV (S:Sx) (fs:List Env) (H:AH) (h:Heap) (Q:V->AH->Prop) (v:Value) (s':Shared):Prop
 | mk (u:V) (H':AH) (a:VR u v) (b:aI S fs H' s') (c:Tr H h H' s'.heap) (d:Q u H')
def PX (S:Sx)(fs:List Env)(H:AH)(h:Heap)(X:Int->Prop):Value->Shared->Prop:=λ e s' =>
 ∃ told,XP S fs H h told e s'/\X told
section
variable {S:Sx}{fs:List Env}{H H1:AH}{h h1x:Heap}{Q Q':V->AH->Prop}{X X':Int->Prop}
theorem PV.trans (T:Tr H h H1 h1x){v s'}(p:PV S fs H1 h1x Q v s'):PV S fs H h Q v s' :=
 by obtain ⟨u,H',a,b,c,d⟩:=p;exact ⟨u,H',a,b,T.trans c,d⟩
theorem PV.mono (hq:∀ u H',Q u H'->Q' u H'){v s'}(p:PV S fs H h Q v s'):PV S fs H h Q' v s' :=
 by obtain ⟨u,H',a,b,c,d⟩:=p;exact ⟨u,H',a,b,c,hq _ _ d⟩
theorem Tr.ns (T:Tr H h H1 h1x){b m}(n:H b=none)(x:h.Ns b m):h1x.Ns b m/\H1 b=none:=by
 exact DR x λ o es ep ho r=>⟨⟨o,es,ep,T.get ho n,r⟩,T.hid ho n⟩
theorem PX.trans (T:Tr H h H1 h1x){v s'}(p:PX S fs H1 h1x X v s'):PX S fs H h X v s':=by
 refine aT p λ t x y=>?_
 exact ⟨t,⟨x.exc,x.base,x.frames,λ b m n g=>by obtain ⟨p,q⟩:=T.ns n g;exact x.ns b m q p,x.gens,x.os⟩,y⟩
theorem PX.mono (hx:∀ t,X t->X' t){v s'}(p:PX S fs H h X v s'):PX S fs H h X' v s' :=
 by obtain ⟨t,x,y⟩:=p;exact ⟨t,x,hx t y⟩
theorem PV.now {s':Shared}{u:V}{v:Value}{H':AH}(r:VR u v)(R:aI S fs H' s')(T:Tr H h H' s'.heap)(q:Q u H'):PV S fs H h Q v s':=⟨u,H',r,R,T,q⟩
end
def fK (a:V)(K:Int->Prop):Prop:=match a with | .int i=>K i|_=>False
def wG (a:V)(K:List Nat->Prop):Prop:=match a with | .str i=>K i|_=>False
def xq (a:V)(K:List Nat->Prop):Prop:=match a with | .bytes i=>K i|_=>False
def jJ (a:V)(K:Addr->Prop):Prop:=match a with | .ref i=>K i|_=>False
def EB (a:V)(K:Bool->Prop):Prop:=match a with | .bool i=>K i|_=>False
def yb (vs:List V)(K:Prop):Prop:=match vs with | []=>K|_=>False
def eI (vs:List V)(K:V->Prop):Prop:=match vs with | [v]=>K v|_=>False
def wR (vs:List V)(K:V->V->Prop):Prop:=match vs with | [v,w]=>K v w|_=>False
section
variable {a:V}{x:Value}{vs:List V}{xs:List Value}
@[elab_as_elim] theorem VR.onI {C:Value->Prop} {K:Int->Prop} (r:VR a x) (h:fK a K) (k:∀ i t,K i->C (.int i t)):C x:=by induction r with|int i t=>exact k i t h|_=>exact h.elim
@[elab_as_elim] theorem VR.onS {C:Value->Prop} {K:List Nat->Prop} (r:VR a x) (h:wG a K) (k:∀ l t,K l->C (.str ⟨l.toArray⟩ t)):C x:=by induction r with|str l t=>exact k l t h|_=>exact h.elim
@[elab_as_elim] theorem VR.onY {C:Value->Prop} {K:List Nat->Prop} (r:VR a x) (h:xq a K) (k:∀ b t,K (b.toList.map UInt8.toNat)->C (.bytes b t)):C x:=by induction r with|bytes b t=>exact k b t h|_=>exact h.elim
@[elab_as_elim] theorem VR.onR {C:Value->Prop} {K:Addr->Prop} (r:VR a x) (h:jJ a K) (k:∀ n,K n->C (.ref n)):C x:=by induction r with|ref n=>exact k n h|_=>exact h.elim
@[elab_as_elim] theorem VR.onL {C:Value->Prop} {K:Bool->Prop} (r:VR a x) (h:EB a K) (k:∀ b,K b->C (.bool b)):C x:=by induction r with|bool b=>exact k b h|_=>exact h.elim
@[elab_as_elim] theorem cO.on0 {C:List Value->Prop} {K:Prop} (r:cO vs xs) (h:yb vs K) (k:K->C []):C xs:=by
 induction r with
 | nil=>exact k h
 | cons _ _=>exact h.elim
@[elab_as_elim] theorem cO.on1 {C:List Value->Prop} {K:V->Prop} (r:cO vs xs) (h:eI vs K) (k:∀ v x,VR v x->K v->C [x]):C xs:=by
 induction r with
 | nil=>exact h.elim
 | cons a r=>induction r with
  | nil=>exact k _ _ a h
  | cons _ _=>exact h.elim
@[elab_as_elim] theorem cO.on2 {C:List Value->Prop} {K:V->V->Prop} (r:cO vs xs) (h:wR vs K) (k:∀ v x w y,VR v x->VR w y->K v w->C [x,y]):C xs:=by
 induction r with
 | nil=>exact h.elim
 | cons a r=>induction r with
  | nil=>exact h.elim
  | cons b r=>induction r with
   | nil=>exact k _ _ _ _ a b h
   | cons _ _=>exact h.elim
@[elab_as_elim] theorem VR.mI {C:Value->Prop} {K:Int->Prop} (r:VR a x) (h:match (generalizing:=false) a with | .int i=>K i|_=>False) (k:∀ i t,K i->C (.int i t)):C x:=r.onI (K:=K) h k
@[elab_as_elim] theorem VR.mS {C:Value->Prop} {K:List Nat->Prop} (r:VR a x) (h:match (generalizing:=false) a with | .str i=>K i|_=>False) (k:∀ l t,K l->C (.str ⟨l.toArray⟩ t)):C x:=r.onS (K:=K) h k
@[elab_as_elim] theorem VR.mR {C:Value->Prop} {K:Addr->Prop} (r:VR a x) (h:match (generalizing:=false) a with | .ref i=>K i|_=>False) (k:∀ n,K n->C (.ref n)):C x:=r.onR (K:=K) h k
@[elab_as_elim] theorem VR.ref1 {C:Value->Prop} {n:Addr} {x:Value} (r:VR (.ref n) x) (k:C (.ref n)):C x:=r.onR (K:=λ m=>m=n) rfl λ m e=>e▸k
@[elab_as_elim] theorem VR.int1 {C:Value->Prop} {i:Int} {x:Value} (r:VR (.int i) x) (k:∀ t,C (.int i t)):C x:=r.onI (K:=λ m=>m=i) rfl λ m t e=>e▸k t
@[elab_as_elim] theorem Gd {C:Value->Prop} {l:List Nat} {x:Value} (r:VR (.str l) x) (k:∀ t,C (.str ⟨l.toArray⟩ t)):C x:=r.onS (K:=λ m=>m=l) rfl λ m t e=>e▸k t
end
end Internal
end
section
open PySem PySem.W PySem.Calls PyProof.Rows
namespace Internal
theorem iU {l:List Nat}{x:Str}(e:x=⟨l.toArray⟩)(t:Tok):VR (.str l) (.str x t):=e▸.str l t
theorem fY {l:List Nat}{b:Array UInt8}(e:l=b.toList.map UInt8.toNat)(t:Tok):VR (.bytes l) (.bytes b t):=e▸.bytes b t
theorem vH (a b:List Nat):(⟨a.toArray⟩:Str)++⟨b.toArray⟩=⟨(a++b).toArray⟩:=by
 show Str.append _ _=_
 unfold Str.append;simp
theorem CF {b:Array UInt8}:(b.toList).toArray=b:=by simp
def listAt (H:AH)(a:Addr)(vs:List V):Prop:=H a=some (.list vs)\/H a=some (.flist vs)
inductive sA (c:String) (h:Heap) (a:Addr) (vs:List V):Prop
 | mk (xs:Array Value) (n:Nat) (g:h.get? a=some {cls:=.type c,data:=.seq xs n}) (r:cO vs xs.toList)
theorem aI.listAt {S fs H s} (R:aI S fs H s) {a vs} (e:listAt H a vs):sA "list" s.heap a vs:=by
 rcases e with e|e
 .obtain ⟨_,o,g,r⟩:=R.objs a _ e
  cases r with|list r=>exact ⟨_,_,g,r⟩
 .obtain ⟨_,o,g,r⟩:=R.objs a _ e
  cases r with|flist r=>exact ⟨_,_,g,r⟩
theorem aI.barrAt {S fs H s} (R:aI S fs H s) {a l} (e:H a=some (.barr l)):∃ x:Array UInt8,l=x.toList.map UInt8.toNat/\s.heap.get? a=some {cls:=.type "bytearray", data:=.bytearray x 0}:=by
 obtain ⟨_,o,g,r⟩:=R.objs a _ e
 cases r;exact ⟨_,rfl,g⟩
theorem aI.tupAt {S fs H s} (R:aI S fs H s) {a vs} (e:H a=some (.tup vs)):sA "tuple" s.heap a vs:=by
 obtain ⟨_,o,g,r⟩:=R.objs a _ e
 cases r with|tup r=>exact ⟨_,_,g,r⟩
theorem aI.idictAt {S fs H s}(R:aI S fs H s){a es}(e:H a=some (.idict es)):∃ o kvs,s.heap.get? a=some o/\bQ id es kvs/\o.IsDictOf (intKind S.prog S.w) kvs/\(a==sysModules)=false:=by
 obtain ⟨hn,o,g,r⟩:=R.objs a _ e
 cases r with|idict rp hd=>exact ⟨_,_,g,rp,hd,(hn.resolve_right Bool.false_ne_true).2⟩
theorem aI.sdictAt {S fs H s}(R:aI S fs H s){a es}(e:H a=some (.sdict es)):∃ o kvs,s.heap.get? a=some o/\bQ aY es kvs/\o.IsDictOf (strKind S.prog S.w) kvs/\(a==sysModules)=false:=by
 refine bc λ zz=>?_
 obtain ⟨hn,o,g,r⟩:=R.objs a _ e
 refine zz ?_
 cases r with|sdict rp hd=>exact ⟨_,_,g,rp,hd,(hn.resolve_right Bool.false_ne_true).2⟩
inductive BO|add|sub|mul|fdiv|mod|band|bor|bxor (u:Unit)
noncomputable def BO.op:BO->Operator
 | .add=>.Add | .sub=>.Sub | .mul=>.Mult | .fdiv=>.FloorDiv | .mod=>.Mod | .band=>.BitAnd | .bor=>.BitOr | .bxor _=>.BitXor
noncomputable def dw {α:Type}(n:Int)(l:List α):List α:=(replicate n.toNat l).flatten
def kE (op:BO)(a b:V)(H:AH)(Q:V->AH->Prop):Prop:=match op with
 | .add=>(match a with
  | .int i=>fK b λ j=>Q (.int (i+j)) H
  | .str x=>wG b λ y=>x.length+y.length<=16777216/\Q (.str (x++y)) H
  | .bytes x=>xq b λ y=>x.length+y.length<=16777216/\Q (.bytes (x++y)) H
  | .ref x=>jJ b λ y=>∃ vs ws,listAt H x vs/\listAt H y ws/\vs.length+ws.length<=16777216/\∀ c,H c=none->Q (.ref c) (H.set c (.list (vs++ws)))
  | _=>False)
 | .sub=>fK a λ i=>fK b λ j=>Q (.int (i-j)) H
 | .mul=>(match a with
  | .int i=>fK b λ j=>(-9223372036854775808<j/\j<9223372036854775808)/\Q (.int (i*j)) H
  | .str x=>fK b λ n=>(x.length<=16/\-1048576<=n/\n<=1048576)/\Q (.str (dw n x)) H
  | .bytes x=>fK b λ n=>(x≠[]/\x.length<=16/\-1048576<=n/\n<=1048576)/\Q (.bytes (dw n x)) H
  | _=>False)
 | .fdiv=>fK a λ i=>fK b λ j=>(j≠0/\j.natAbs<1073741824)/\Q (.int (i.fdiv j)) H
 | .mod=>fK a λ i=>fK b λ j=>j≠0/\Q (.int (i.fmod j)) H
 | .band=>fK a λ i=>fK b λ j=>Q (.int (Builtin.bitAnd i j)) H
 | .bor=>fK a λ i=>fK b λ j=>Q (.int (Builtin.bitOr i j)) H
 | .bxor _=>fK a λ i=>fK b λ j=>Q (.int (Builtin.bitXor i j)) H
theorem lY (l:Array Nat):∀ (n:Nat) (acc:Array Nat),((replicate n l).foldl (·++·) acc).toList=acc.toList++(replicate n l.toList).flatten
 | 0,acc=>by simp
 | n+1,acc=>by refine sr (List.replicate_succ ..) (sr (List.foldl_cons ..) (sr (lY l n ..) (sr (List.replicate_succ ..) ?_)));simp
set_option tactic.hygienic true in
theorem wc (x:List Nat)(n:Int):Txt.mul ⟨x.toArray⟩ n=⟨(dw n x).toArray⟩:=by
 unfold Txt.mul dw
 split
 .rename_i h
  have:n.toNat=0:=by lia
  refine sr this ?_;rfl
 .rename_i h
  split
  .rename_i h2
   simp only [Bool.or_eq_true,beq_iff_eq] at h2
   rcases h2 with h2|h2
   .subst h2;simp
   .have:x=[]:=by
     have:x.toArray.size=0:=h2
     simpa using this
    subst this
    simp
  .congr 1
   apply Array.ext'
   refine sr (lY ..) ?_;simp
theorem lq {j:Int}(h1:-9223372036854775808<j)(h2:j<9223372036854775808):Builtin.Int.intBits j<=64:=intBits_le_64 (by lia) (by lia)
section
variable {S:Sx}{fs:List Env}{H H0:AH}{hp:Heap}{s:Shared}{A:Around}{E:Value->Shared->Prop}
theorem PV.same {Q:V->AH->Prop}{u:V}{v:Value}(R:aI S fs H s)(T:Tr H0 hp H s.heap)(r:VR u v)(q:Q u H)(t:Nat):PV S fs H0 hp Q v {s with toks:=t} :=
 ⟨u,H,r,R.toks t,T,q⟩
theorem PV.same' {Q:V->AH->Prop}{u:V}{v:Value}(R:aI S fs H s)(T:Tr H0 hp H s.heap)(r:VR u v)(q:Q u H):PV S fs H0 hp Q v s :=
 ⟨u,H,r,R,T,q⟩
theorem Ge {Q:V->AH->Prop}{u:V}{v:Value}{h':Heap}(R:aI S fs H s)(T:Tr H0 hp H s.heap)(k:∀ b o,s.heap.get? b=some o->h'.get? b=some o)(r:VR u v)(q:Q u H)(t:Nat) :
  PV S fs H0 hp Q v {s with heap:=h',toks:=t} :=
 ⟨u,H,r,(R.grow k).toks t,T.trans (Tr.grow k),q⟩
theorem PV.made {Q:V->AH->Prop}{ao:AO}{o:Obj}(R:aI S fs H s)(T:Tr H0 hp H s.heap)(r:OR S ao o)(hf:o.isFreed=false)(q:∀ c,H c=none->Q (.ref c) (H.set c ao))(t:Nat) :
  PV S fs H0 hp Q (.ref s.heap.objs.size) {s with heap:=s.heap.push o,toks:=t} :=
 ⟨_,_,.ref _,(R.alloc r hf).toks t,T.trans (Tr.alloc H s.heap o ao),q _ R.fresh⟩
theorem ee (b c:Array UInt8):(b++c).toList.map UInt8.toNat=b.toList.map UInt8.toNat++c.toList.map UInt8.toNat:=by simp
theorem wE (n:Int)(l:List UInt8):(dw n l).map UInt8.toNat=dw n (l.map UInt8.toNat):=by
 unfold dw;exact sr List.map_flatten (sr List.map_replicate rfl)
theorem sw {op:BO}{a b:V}{x y:Value}{Q:V->AH->Prop}(R:aI S fs H s)(T:Tr H0 hp H s.heap)(va:VR a x)(vb:VR b y)(h:kE op a b H Q) :
  wpAny (model S.prog S.w) A (binaryOp op.op x y) (PV S fs H0 hp Q) E s:=by
 induction op with
 | add =>
  induction va with
  | int i t=>exact vb.onI h λ j u h=>(add_int (PV.same R T (.int _ _) h _))
  | str x t =>
   refine vb.onS h λ y u z=>?_
   obtain ⟨hz,h⟩:=z
   exact add_str (λ t' tk=>PV.same R T (iU (by exact sr (vH ..) rfl) t') h tk) (by simpa [PySem.Str.length,sizeLine_eq] using hz)
  | bytes x t =>
   refine vb.onY h λ y u z=>?_
   obtain ⟨hz,h⟩:=z
   exact KBy.add_bytes (by simpa using hz) λ t' k=>PV.same R T (fY (by exact sr (ee ..) rfl) t') h k
  | ref a =>
   refine vb.onR h λ b z=>sf z λ vs ws e1 e2 hz h=>?_
   obtain ⟨xs,n,g1,r1⟩:=R.listAt e1
   obtain ⟨ys,m,g2,r2⟩:=R.listAt e2
   have l1:=r1.length
   have l2:=r2.length
   refine concat_meets ⟨_,g1,rfl⟩ ⟨_,g2,rfl⟩ noFill_list_add seq_list_add PySem.F.slot_list_add PySem.F.entry_list_add (PySem.F.args_list_add_2 _ _) (PySem.AutoSeq1.list___add___list_list_0 _ xs n _ ys m (by refine sr sizeLine_eq (sl Array.length_toList (sl Array.length_toList (sr l1 (sr l2 ?_))));exact hz)) ⟨g1,g2,?_⟩
   exact PV.made R T (.list (by refine sr Array.toList_append ?_;exact r1.append r2)) rfl h _
  | _=>exact h.elim
 | sub=>refine va.onI h λ i t h=>?_;exact vb.onI h λ j u h=>(sub_int (PV.same R T (.int _ _) h _))
 | mul =>
  induction va with
  | int i t =>
   refine vb.onI h λ j u z=>?_
   obtain ⟨⟨h1,h2⟩,h⟩:=z
   refine mul_int (PV.same R T (.int _ _) h _) ?_
   have:=lq h1 h2
   unfold IntMulOk shortFactorBits
   simp only [Bool.and_eq_true,decide_eq_true_eq]
   lia
  | str x t =>
   refine vb.onI h λ n u z=>?_
   obtain ⟨⟨h1,h2,h3⟩,h⟩:=z
   refine SB.mul ?_ λ t' k=>?_
   .refine ⟨by simp;lia,λ q _=>?_,λ _ _=>?_⟩
    .simp only [PySem.Str.length,size_toArray]
     have:(16:Int)<=(2 ^ 63-1:Int) / n:=Int.le_ediv_of_mul_le (by lia) (by lia)
     lia
    .unfold Builtin.Str.tooLong
     simp only [PySem.Str.length,size_toArray,sizeLine_eq,decide_eq_false_iff_not]
     have:x.length*n.toNat<=16*1048576:=mul_le_mul h1 (by lia)
     lia
   .exact sr (wc ..) (PV.same R T (.str _ _) h k)
  | bytes b t =>
   refine vb.onI h λ i u z=>?_
   obtain ⟨⟨h0,h1,h2,h3⟩,h⟩:=z
   have e:b=b.toList.toArray:=by simp
   refine sr e (bytes_mul_any (by simpa using h0) h2 h3 (by simpa using h1) λ t' k=>PV.same R T (fY ?_ t') h k)
   have:=wE i b.toList
   unfold dw at this ⊢
   exact sr toList_toArray (sr this rfl)
  | _=>exact h.elim
 | fdiv =>
  refine va.onI h λ i t h=>?_;refine vb.onI h λ j u h=>?_;obtain ⟨⟨h1,h2⟩,h⟩:=h
  exact floordiv_int h1 (PV.same R T (.int _ _) h _) (.inl (PyProof.noPylong_small h2))
 | mod =>
  refine va.onI h λ i t h=>?_;exact vb.onI h λ j u h=>(mod_int h.1 (PV.same R T (.int _ _) h.2 _))
 | band=>refine va.onI h λ i t h=>?_;exact vb.onI h λ j u h=>(and_int (PV.same R T (.int _ _) h _))
 | bor=>refine va.onI h λ i t h=>?_;exact vb.onI h λ j u h=>(or_int (PV.same R T (.int _ _) h _))
 | bxor _=>refine va.onI h λ i t h=>?_;exact vb.onI h λ j u h=>(xor_int (PV.same R T (.int _ _) h _))
end
inductive CO|eq|ne|lt|le|gt|ge|isin|notin (u:Unit)
noncomputable def CO.ctorIdx:CO->Nat:=λ b=>CO.casesOn (motive:=λ _=>Nat) b 0 1 2 3 4 5 6 (λ _=>7)
noncomputable def CO.op:CO->CmpOp
 | .eq=>.Eq | .ne=>.NotEq | .lt=>.Lt | .le=>.LtE | .gt=>.Gt | .ge=>.GtE | .isin=>.In | .notin _=>.NotIn
noncomputable def bT:List V->Option (List (List Nat))
 | []=>some []
 | .str x::r=>(bT r).map (x::·)
 | _=>none
noncomputable def bW:List V->Option (List Int)
 | []=>some []
 | .int x::r=>(bW r).map (x::·)
 | _=>none
def cmp (op:CO)(a b:V)(H:AH)(Q:Bool->Prop):Prop:=match op with
 | .eq=>(match a with
  | .int i=>fK b λ j=>Q (decide (i=j))
  | .str x=>wG b λ y=>Q (decide (x=y))
  | .bytes x=>xq b λ y=>Q (decide (x=y))
  | .bool x=>EB b λ y=>Q (x==y)
  | _=>False)
 | .ne=>(match a with
  | .int i=>fK b λ j=>Q (!decide (i=j))
  | .str x=>wG b λ y=>Q (!decide (x=y))
  | .bytes x=>xq b λ y=>Q (!decide (x=y))
  | _=>False)
 | .lt=>fK a λ i=>fK b λ j=>Q (decide (i<j))
 | .gt=>fK a λ i=>fK b λ j=>Q (decide (j<i))
 | .ge=>fK a λ i=>fK b λ j=>Q (decide (j<=i))
 | .le=>(match a with
  | .int i=>fK b λ j=>Q (decide (i<=j))
  | .str x=>wG b λ y=>Q (!decide (y<x))
  | _=>False)
 | .isin=>(match a with
  | .int i=>xq b λ x=>(0<=i/\i<256)/\Q (x.contains i.toNat)
  | .bytes y=>xq b λ x=>∃ c,y=[c]/\Q (x.contains c)
  | .str x=>jJ b λ t=>∃ vs ys,H t=some (.tup vs)/\bT vs=some ys/\Q (ys.contains x)
  | _=>False)
 | .notin _=>fK a λ i=>xq b λ x=>(0<=i/\i<256)/\Q (!x.contains i.toNat)
theorem lA {a b:List UInt8}:a.map UInt8.toNat=b.map UInt8.toNat↔a=b:=by
 constructor
 .intro h
  induction a generalizing b with
  | nil=>cases b with|nil=>rfl|cons _ _=>contradiction
  | cons x a ih =>
   induction b with
   | nil=>contradiction
   | cons y b =>
    simp only [map_cons,List.cons.injEq] at h
    exact sr (UInt8.toNat_inj.mp h.1) (sr (ih h.2) rfl)
 .intro h;exact sr h rfl
theorem mE (b c:Array UInt8):(b.toList==c.toList)=decide (b.toList.map UInt8.toNat=c.toList.map UInt8.toNat):=by
 rw [Bool.eq_iff_iff];simp only [beq_iff_eq,decide_eq_true_eq,lA]
theorem nA (x y:List Nat):((⟨x.toArray⟩:Str)==⟨y.toArray⟩)=decide (x=y):=by
 rw [Bool.eq_iff_iff]
 simp only [beq_iff_eq,decide_eq_true_eq]
 exact ⟨λ h=>eg h,λ h=>by exact sr h rfl⟩
theorem dW (b:Array UInt8){i:Int}(h0:0<=i)(h1:i<256):b.contains i.toNat.toUInt8=(b.toList.map UInt8.toNat).contains i.toNat:=by
 rw [Bool.eq_iff_iff]
 simp only [Array.contains_eq_mem,decide_eq_true_eq,List.contains_eq_mem,mem_map]
 have e:i.toNat.toUInt8.toNat=i.toNat:=by
  rewrite [toUInt8];refine sr UInt8.toNat_ofNat' ?_;lia
 constructor
 .intro h;exact ⟨_,Array.mem_toList_iff.mpr h,e⟩
 .rintro ⟨c,hc,q⟩
  have:c=i.toNat.toUInt8:=UInt8.toNat_inj.mp (q.trans e.symm)
  exact sl this (Array.mem_toList_iff.mp hc)
theorem j1 {vs:List V}{xs:List Value}(h:cO vs xs):∀ {ys},bT vs=some ys->StrsAre xs (ys.map aY):=by
 induction h with
 | nil=>intro ys e;(injection e with e;subst e);exact .nil
 | cons a _ ih =>
  intro ys e
  induction a with
  | str s t =>
   simp only [bT,Option.map_eq_some_iff] at e
   obtain ⟨r,e,rfl⟩:=e
   exact .cons _ _ (ih e)
  | _=>contradiction
theorem rn (x:List Nat)(ys:List (List Nat)):(ys.map aY).any (·==⟨x.toArray⟩)=ys.contains x:=by
 induction ys with
 | nil=>rfl
 | cons y ys ih =>
  refine sr map_cons (sr any_cons (sr contains_cons (sr ih ?_)))
  congr 1
  unfold aY
  rw [nA,Bool.eq_iff_iff]
  simp only [decide_eq_true_eq,beq_iff_eq]
  exact ⟨Eq.symm,Eq.symm⟩
section
variable {prog:Program}{w:World}{A:Around}{E:Value->Shared->Prop}{s:Shared}
theorem vf {x y:Str}{t u:Tok}{Q:Value->Shared->Prop}(h:Q (.bool (!(decide (y.cps.toList<x.cps.toList)))) s):wpAny (model prog w) A (compareOp .LtE (.str x t) (.str y u)) Q E s:=by
 show wpAny _ _ (richCompare .LtE (.str x t) (.str y u)) Q E s
 exact wpAny_richCompare_same (op:=.LtE) (T:="str") (typeIs_str s x t) (typeIs_str s y u) PyProof.Rows.slot_str_le
  (wpAny_call_entry PyProof.Rows.slot_str_le (typeIs_str s x t) PyProof.Rows.entry_str_le (show wpAny _ _ (ret (.bool (!(decide (y.cps.toList<x.cps.toList))))) _ _ s from wpAny_pure ⟨_,rfl,by simp,h⟩) (PyProof.Rows.args_str_le _ _))
theorem gD {b:Array UInt8}{t u:Tok}{i:Int}(h0:0<=i)(h1:i<256):Meets (Builtin.«bytes.__contains__» ⟨[.bytes b t,.int i u],[]⟩) (λ _ R s=>R (.ok (.ret (.bool (b.contains i.toNat.toUInt8)))) s):=by
 refine .of_wp λ prog w A R s h=>?_
 show wpAny _ _ (Builtin.Bytes.containsIn "bytes.__contains__" (.bytes b t) (.int i u) >>= λ r=>ret (.bool r)) _ _ s
 refine wpAny_bind ?_
 unfold Builtin.Bytes.containsIn
 refine wpAny_bind (wpAny_attempt (wpAny_of_eq (a:=i) rfl (sr KBy.buffer_eq (wpAny_bind (wpAny_pure ?_)))))
 dsimp only
 refine sr (if_neg (by simp;lia)) ?_
 exact wpAny_pure (wpAny_pure ⟨_,rfl,h⟩)
theorem oU (l:List UInt8)(i:Nat)(c:UInt8):(((l.drop i).take 1==[c])=true)↔l[i]?=some c:=by
 rw [beq_iff_eq]
 induction h:l[i]? with
 | none =>
  have:l.length<=i:=List.getElem?_eq_none_iff.mp h
  refine sr (List.drop_eq_nil_of_le this) ?_;simp
 | some d =>
  obtain ⟨hi,e⟩:=List.getElem?_eq_some_iff.mp h
  refine sr (List.drop_eq_getElem_cons hi) (sr e ?_);simp
theorem tY (b:Array UInt8)(c:UInt8):(Builtin.Bytes.find? b #[c] 0 b.size).isSome=b.contains c:=by
 unfold Builtin.Bytes.find?
 rw [Bool.eq_iff_iff,List.find?_isSome]
 simp only [Array.contains_eq_mem,decide_eq_true_eq,mem_map,mem_range]
 have key:∀ i,(b.extract i (i+1)==#[c])=true↔b.toList[i]?=some c:=λ i=>by
  rw [<- oU,beq_iff_eq,beq_iff_eq]
  constructor
  .intro h;have:=congrArg Array.toList h;simpa using this
  .intro h;apply Array.ext';simpa using h
 constructor
 .rintro ⟨x,⟨i,_,rfl⟩,h⟩
  have:=(key _).mp h
  exact Array.mem_toList_iff.mp (mem_of_getElem? this)
 .intro h
  obtain ⟨i,hi,e⟩:=List.mem_iff_getElem.mp (Array.mem_toList_iff.mpr h)
  refine ⟨i+0,⟨i,?_,rfl⟩,(key _).mpr (by rw [List.getElem?_eq_some_iff];exact ⟨hi,e⟩)⟩
  simp at hi ⊢;omega
theorem j9:typeLookup (.type "bytes") "__index__"=pure none:=by refine sr (typeLookup_type ..) (sr (builtinLookup_eq_fast ..) ?_);kernel_rfl
theorem lG {b:Array UInt8} {t:Tok} {Q:Int->Shared->Prop} (hh:A.handled=none) (h:∀ h' tk e,Heap.NewExc s.heap h' e "TypeError"->E (.ref e) {s with heap:=h',toks:=tk}) :
  wpAny (model prog w) A (asIndex (.bytes b t)) Q E s:=by
 unfold asIndex
 refine wpAny_bind (wpAny_of_eq (a:=none) rfl ?_)
 dsimp only
 refine wpAny_bind ?_
 unfold callSpecial?
 have hs:specialOf (.bytes b t) "__index__"=pure none:=KBy.special_eq j9
 wp_walk
 exact wpAny_raiseErrorMade plainExc_TypeError hh h (by decide +kernel)
theorem jA {b:Array UInt8}{t u:Tok}{c:UInt8}:Meets (Builtin.«bytes.__contains__» ⟨[.bytes b t,.bytes #[c] u],[]⟩)
  (λ A R s=>A.handled=none/\∀ h' tk,(∀ b o,s.heap.get? b=some o->h'.get? b=some o)->R (.ok (.ret (.bool (b.contains c)))) {s with heap:=h',toks:=tk}):=by
 refine .of_wp λ prog w A R s h=>?_
 show wpAny _ _ (Builtin.Bytes.containsIn "bytes.__contains__" (.bytes b t) (.bytes #[c] u) >>= λ r=>ret (.bool r)) _ _ s
 refine wpAny_bind ?_
 unfold Builtin.Bytes.containsIn
 refine wpAny_bind (wpAny_attempt (lG h.1 λ h' tk e x=>sr KBy.buffer_eq (wpAny_bind (wpAny_pure ?_))))
 dsimp only
 exact sr KBy.buffer_eq (wpAny_bind (wpAny_pure (wpAny_bind (wpAny_rule (wpAny_pure (sr (tY ..) (wpAny_pure ⟨_,rfl,h.2 _ _ x.keeps⟩)))))))
theorem dJ {b:Array UInt8}{t:Tok}{x:Value}{Sp:PySem.Spec}{Q:Bool->Shared->Prop}(g:Meets (Builtin.«bytes.__contains__» ⟨[.bytes b t,x],[]⟩) Sp)
  (h:Sp A (wants (λ v s'=>wpAny (model prog w) A (truthy v) Q E s') E) s):wpAny (model prog w) A (contains (.bytes b t) x) Q E s:=by
 unfold contains
 refine wpAny_holding ?_
 have hT:s.TypeIs (.bytes b t) "bytes":=rfl
 refine sr (stdlibNamesSay?_of_typeIs hT ..) ?_
 refine wpAny_bind (wpAny_specialOf hT FB.slot_bytes_contains.lookup ?_)
 refine sr (if_neg (by decide)) ?_
 exact wpAny_bind (wpAny_callSpecialUnlessNone?_slot (name:=Str.ofString "__contains__") hT FB.slot_bytes_contains
  (call_meets FB.slot_bytes_contains hT FB.entry_bytes_contains (FB.args_bytes_contains_2 _ _) g h))
end
section
variable {S:Sx}{fs:List Env}{H H0:AH}{hp:Heap}{s:Shared}{A:Around}{E:Value->Shared->Prop}
def PB (S:Sx)(fs:List Env)(H0:AH)(hp:Heap)(H:AH)(Q:Bool->Prop):Value->Shared->Prop:=λ v s' =>
 ∃ b,v=.bool b/\aI S fs H s'/\Tr H0 hp H s'.heap/\Q b
theorem PB.same {Q:Bool->Prop}{b:Bool}(R:aI S fs H s)(T:Tr H0 hp H s.heap)(q:Q b)(t:Nat):PB S fs H0 hp H Q (.bool b) {s with toks:=t}:=⟨b,rfl,R.toks t,T,q⟩
theorem PB.same' {Q:Bool->Prop}{b:Bool}(R:aI S fs H s)(T:Tr H0 hp H s.heap)(q:Q b):PB S fs H0 hp H Q (.bool b) s:=⟨b,rfl,R,T,q⟩
theorem j8 {op:CO}{a b:V}{x y:Value}{Q:Bool->Prop}(R:aI S fs H s)(T:Tr H0 hp H s.heap)(hh:A.handled=none\/op≠.isin)(va:VR a x)(vb:VR b y)(h:cmp op a b H Q) :
  wpAny (model S.prog S.w) A (compareOp op.op x y) (PB S fs H0 hp H Q) E s:=by
 induction op with
 | eq =>
  induction va with
  | bool x=>exact vb.onL h λ y h=>(eq_bool (PB.same' R T h))
  | int i t =>
   refine vb.onI h λ j u h=>?_
   exact eq_int (PB.same' R T (by rw [show ∀ i j:Int,(i==j)=decide (i=j) from λ i j=>by rw [Bool.eq_iff_iff];simp];exact h))
  | str x t =>
   refine vb.onS h λ y u h=>?_
   exact eq_str (PB.same' R T (by refine sr (nA ..) ?_;exact h))
  | bytes x t =>
   refine vb.onY h λ y u h=>?_
   exact PySem.W.eq_bytes (PB.same' R T (by refine sr (mE ..) ?_;exact h))
  | _=>exact h.elim
 | ne =>
  induction va with
  | int i t =>
   refine vb.onI h λ j u h=>?_
   exact ne_int (PB.same' R T (by rw [show ∀ i j:Int,(i != j)=!decide (i=j) from λ i j=>by rw [Bool.eq_iff_iff];simp];exact h))
  | str x t =>
   refine vb.onS h λ y u h=>?_
   exact ne_str (PB.same' R T (by unfold bne;refine sr (nA ..) ?_;exact h))
  | bytes x t =>
   refine vb.onY h λ y u h=>?_
   exact PySem.W.ne_bytes (PB.same' R T (by unfold bne;refine sr (mE ..) ?_;exact h))
  | _=>exact h.elim
 | lt=>refine va.onI h λ i t h=>?_;exact vb.onI h λ j u h=>(lt_int (PB.same' R T h))
 | gt=>refine va.onI h λ i t h=>?_;exact vb.onI h λ j u h=>(gt_int (PB.same' R T h))
 | ge=>refine va.onI h λ i t h=>?_;exact vb.onI h λ j u h=>(ge_int (PB.same' R T h))
 | le =>
  induction va with
  | int i t=>exact vb.onI h λ j u h=>(le_int (PB.same' R T h))
  | str x t=>exact vb.onS h λ y u h=>(vf (PB.same' R T h))
  | _=>exact h.elim
 | isin =>
  have hh:A.handled=none:=hh.resolve_right (λ z=>z rfl)
  induction va with
  | int i t =>
   refine vb.onY h λ b u z=>?_
   obtain ⟨⟨h0,h1⟩,h⟩:=z
   exact wpAny_bind (dJ (gD h0 h1) (wpAny_truthy_bool (wpAny_pure (PB.same' R T (sr (dW _ h0 h1) h)))))
  | str x t =>
   refine vb.onR h λ b z=>?_
   obtain ⟨vs,ys,e,q,h⟩:=z
   obtain ⟨_,_,g,r⟩:=R.tupAt e
   exact in_tuple_strs ⟨_,g,rfl,_,rfl⟩ (j1 r q) (PB.same' R T (by refine sr (rn ..) ?_;exact h))
  | bytes b' t' =>
   refine vb.onY h λ b t z=>?_
   obtain ⟨c,e,hq⟩:=z
   obtain ⟨l⟩:=b'
   obtain ⟨d,rfl⟩:∃ d,l=[d]:=by
    induction l with
    | nil=>contradiction
    | cons d l=>cases l with|nil=>exact ⟨d,rfl⟩|cons _ _=>cases e
   have e:d.toNat=c:=by simpa using e
   refine wpAny_bind (dJ (jA (b:=b) (c:=d)) ⟨hh,λ h' tk k=>wpAny_truthy_bool (wpAny_pure ⟨_,rfl,(R.grow k).toks tk,T.trans (Tr.grow k),?_⟩)⟩)
   have q:=dW b (i:=(c:Int)) (by lia) (by have:=d.toNat_lt;lia)
   rw [toNat_natCast] at q
   rw [<- q,<- e] at hq
   simpa using hq
  | _=>exact h.elim
 | notin _ =>
  refine va.onI h λ i t h=>vb.onY h λ b u z=>?_
  obtain ⟨⟨h0,h1⟩,h⟩:=z
  exact wpAny_bind (dJ (gD h0 h1) (wpAny_truthy_bool (wpAny_pure (PB.same' R T (sr (dW _ h0 h1) h)))))
end
noncomputable def Df (vs:List V):Int->Option V
 | .ofNat n=>vs[n]?
 | .negSucc n=>match ble (n+1) vs.length with
  | true=>vs[vs.length-(n+1)]?
  | false=>none
noncomputable def bV {K:Type}[DecidableEq K]:List (K×V)->K->Option V
 | [],_=>none
 | (j,v)::r,k=>match decide (j=k) with
  | true=>some v
  | false=>bV r k
def iI (o i:V)(H:AH)(Q:V->Prop):Prop:=match o,i with
 | .bytes b,.int k=>∃ c:Nat,(0<=k/\b.length<=16777216/\b[k.toNat]?=some c)/\Q (.int c)
 | .str b,.int k=>∃ c:Nat,(0<=k/\b.length<=16777216/\b[k.toNat]?=some c)/\Q (.str [c])
 | .ref a,.int k=>(∃ vs v,(H a=some (.tup vs)\/listAt H a vs)/\vs.length<=16777216/\Df vs k=some v/\Q v)\/(∃ es v,H a=some (.idict es)/\bV es k=some v/\Q v)
 | .ref a,.str k=>∃ es v,H a=some (.sdict es)/\bV es k=some v/\Q v
 | _,_=>False
theorem d0 {h:Heap} {a:Addr} {xs:Array Value} {n:Nat} (g:h.get? a=some {cls:=.type "tuple", data:=.seq xs n}):IsTup h a xs:=⟨_,g,rfl,_,rfl⟩
theorem aW {h:Heap} {a:Addr} {xs:Array Value} {n:Nat} (g:h.get? a=some {cls:=.type "list", data:=.seq xs n}):h.IsList a xs:=⟨_,g,rfl,_,rfl⟩
set_option tactic.hygienic true in
theorem qR {vs:List V}{xs:List Value}(r:cO vs xs){n:Nat}{v:V}(e:Df vs (.negSucc n)=some v) :
  n+1<=xs.length/\∃ x,xs[(Int.negSucc n+xs.length).toNat]?=some x/\VR v x:=by
 have e:(match ble (n+1) vs.length with|true=>vs[vs.length-(n+1)]? | false=>none)=some v:=e
 split at e
 .rename_i h
  have h:=Nat.le_of_ble_eq_true h
  have hl:=r.length
  refine aT (r.get e) λ x hx rx=>⟨by lia,x,?_,rx⟩
  have:(Int.negSucc n+xs.length).toNat=vs.length-(n+1):=by refine sr (hl ..) (sr (negSucc_eq ..) ?_);lia
  exact sr this hx
 .contradiction
set_option tactic.hygienic true in
theorem iX {K L:Type}[DecidableEq K][DecidableEq L]{f:K->L}(hf:∀ a b,f a=f b->a=b){es:List (K×V)}{kvs:List (L×Value)}(r:bQ f es kvs){k:K} :
  (∀ v,bV es k=some v->∃ x,valueAt kvs (f k)=some x/\VR v x)/\(bV es k=none->valueAt kvs (f k)=none):=by
 induction r with
 | nil=>exact ⟨λ v e=>(nomatch e),λ _=>rfl⟩
 | cons a b ih =>
  rename_i k' v' es' x' ds'
  dsimp only [bV,valueAt]
  by_cases h:k'=k
  .subst h
   simp only [decide_true]
   constructor
   .intro v e;(injection e with e;subst e);exact ⟨_,by simp,a⟩
   .intro e;contradiction
  .have hk:¬ f k'=f k:=λ z=>h (hf _ _ z)
   simp only [h,decide_false]
   dsimp only [valueAt] at ih
   constructor
   .intro v e
    refine aT (ih.1 v e) λ y hy ry=>?_
    exact ⟨y,by refine sr List.find?_cons ?_;simp only [hk,decide_false];exact hy,ry⟩
   .intro e
    refine sr List.find?_cons ?_;simp only [hk,decide_false];exact ih.2 e
section
variable {S:Sx}{fs:List Env}{H H0:AH}{hp:Heap}{s:Shared}{A:Around}{E:Value->Shared->Prop}
theorem vD {o i:V}{x y:Value}{Q:V->Prop}{value slice:Expr}(R:aI S fs H s)(T:Tr H0 hp H s.heap)(va:VR o x)(vb:VR i y)(h:iI o i H Q)
  (hs:∀ a b,subscripted slice false a b=operate [a,b] (getItem a b)) :
  wpAny (model S.prog S.w) A (subscriptTail value slice x y) (PV S fs H0 hp (λ v H'=>H'=H/\Q v)) E s:=by
 induction va with
 | bytes b t =>
  induction vb with
  | int k u =>
   refine bc λ zz=>?_
   refine aT h λ c uz1 q=>?_;obtain ⟨h0,hl,e⟩:=uz1
   refine zz ?_
   have e':b=b.toList.toArray:=by simp
   have hb:k.toNat<b.toList.length:=by
    obtain ⟨z,_⟩:=List.getElem?_eq_some_iff.mp e
    simpa using z
   refine tail_any (T:="bytes") rfl FB.slot_bytes_getitem.lookup ?_ (hs _ _)
   refine PySem.W.getItem_bytes (by simp at hl ⊢;lia) h0 (by simp at hb ⊢;lia) ?_
   have q2:((b.toList.getD k.toNat 0).toNat:Nat)=c:=by
    rw [getElem?_map] at e
    refine sr List.getD_eq_getElem?_getD ?_
    refine bc λ zz=>?_
    refine aT (Option.map_eq_some_iff.mp e) λ z hz ez1=>?_;subst ez1
    refine zz ?_
    refine sr hz ?_;rfl
   exact sr q2 (PV.same R T (.int _ _) ⟨rfl,q⟩ _)
  | _=>exact h.elim
 | str b t =>
  induction vb with
  | int k u =>
   refine bc λ zz=>?_
   refine aT h λ c uz1 q=>?_;obtain ⟨h0,hl,e⟩:=uz1
   refine zz (tail_any (T:="str") rfl F.slot_str_getitem.lookup ?_ (hs _ _))
   obtain ⟨z,_⟩:=List.getElem?_eq_some_iff.mp e
   refine getItem_str (by simp;lia) (c:=c) ?_ (PV.same R T (iU rfl _) ⟨rfl,q⟩ _)
   dsimp only [seqIndex?]
   have:¬ k<0:=by lia
   simp only [this,if_false,PySem.Str.length,size_toArray]
   refine sr (if_pos (by simp;lia)) ?_
   simpa using e
  | _=>exact h.elim
 | ref a =>
  induction vb with
  | int k u =>
   rcases h with ⟨vs,v,e,hl,q1,q⟩|⟨es,v,e,q1,q⟩
   .rcases e with e|e
    .obtain ⟨xs,n,g,r⟩:=R.tupAt e
     refine tail_any (T:="tuple") ⟨_,g,rfl⟩ PySem.F.slot_tuple_getitem.lookup ?_ (hs _ _)
     have hz:=r.length
     induction k with
     | ofNat k =>
      refine bc λ zz=>aT (r.get q1) λ y hy ry=>?_
      obtain ⟨hk,_⟩:=List.getElem?_eq_some_iff.mp hy
      refine zz ?_
      have hk':k<xs.size:=by simpa using hk
      have hz':xs.size=vs.length:=by simpa using hz
      refine getItem_tuple (j:=k) (x:=y) (d0 g) (by simp only [Int.ofNat_eq_natCast];lia) (by simp only [Int.ofNat_eq_natCast];lia) ?_ (by simpa using hy) (PV.same' R T ry ⟨rfl,q⟩)
      dsimp only [seqIndex?]
      simp only [Int.ofNat_eq_natCast]
      rewrite [if_neg (show ¬ (k:Int)<0 by lia)];refine sr (if_pos (by simp;lia)) ?_
      simp
     | negSucc k =>
      refine bc λ zz=>?_
      obtain ⟨h1,y,hy,ry⟩:=qR r q1
      refine zz ?_
      refine getItem_tuple (j:=(Int.negSucc k+xs.toList.length).toNat) (x:=y) (d0 g) (by refine sr (negSucc_eq ..) ?_;lia) (by rw [negSucc_eq];lia) ?_ (by simpa using hy) (PV.same' R T ry ⟨rfl,q⟩)
      refine sr (PySem.MeetsSeq.seqIndex_neg (by rw [negSucc_eq];lia) (by rw [negSucc_eq];simp at h1 ⊢;lia)) ?_
      simp
    .obtain ⟨xs,n,g,r⟩:=R.listAt e
     refine tail_any (T:="list") ⟨_,g,rfl⟩ slot_list_getitem.lookup ?_ (hs _ _)
     have hz:=r.length
     induction k with
     | ofNat k =>
      refine bc λ zz=>aT (r.get q1) λ y hy ry=>?_
      obtain ⟨hk,_⟩:=List.getElem?_eq_some_iff.mp hy
      refine zz ?_
      exact PySem.wpAny_getItem_list (aW g) (by simp) (by simp at hz hk ⊢;lia) (by simpa using hy) (PV.same' R T ry ⟨rfl,q⟩)
     | negSucc k =>
      refine bc λ zz=>?_
      obtain ⟨h1,y,hy,ry⟩:=qR r q1
      refine zz ?_
      exact wpAny_getItem_list_neg (aW g) (by refine sr (negSucc_eq ..) ?_;lia) (by rw [negSucc_eq];simp at h1 ⊢;lia) (by rw [negSucc_eq];lia) (by simpa using hy) (PV.same' R T ry ⟨rfl,q⟩)
   .refine sf (R.idictAt e) λ uz1 uz2 g r d uz3=>bc λ zz=>aT ((iX (λ _ _ z=>z) r).1 v q1) λ y hy ry=>zz ?_
    have D:s.heap.DictOf (intKind S.prog S.w) a _:=Heap.dictOf_iff.mpr ⟨_,g,d⟩
    exact tail_any (T:="dict") D.typeIs F.slot_dict_getitem.lookup (PySem.wpAny_getItem_of (knd:=intKind S.prog S.w) (k:=k) (PySem.intKind_is _ _ _ _) D.mapOf hy (PV.same R T ry ⟨rfl,q⟩ _)) (hs _ _)
  | str k u =>
   refine bc λ zz=>ln h λ es v e q1 q=>sf (R.sdictAt e) λ uz1 uz2 g r d uz3=>zz (bc λ zz=>aT ((iX (λ _ _ z=>eg z) r).1 v q1) λ y hy ry=>zz ?_)
   have D:s.heap.DictOf (strKind S.prog S.w) a _:=Heap.dictOf_iff.mpr ⟨_,g,d⟩
   exact tail_any (T:="dict") D.typeIs F.slot_dict_getitem.lookup (PySem.wpAny_getItem_of (knd:=strKind S.prog S.w) (k:=aY k) (PySem.strKind_is _ _ _ _) D.mapOf hy (PV.same R T ry ⟨rfl,q⟩ _)) (hs _ _)
  | _=>exact h.elim
 | _=>exact h.elim
end
def truthy (v:V)(H:AH)(Q:Bool->Prop):Prop:=match v with
 | .bool b=>Q b
 | .int i=>Q (!decide (i=0))
 | .str s=>s.length<=16777216/\Q (!s.isEmpty)
 | .none=>Q false
 | _=>False
def rC (v:V)(neg:Bool)(Q:V->Prop):Prop:=match v with
 | .int i=>Q (.int (match neg with|true=>-i|false=>-i-1))
 | _=>False
noncomputable def isNone (v:V):Bool:=match v with | .none=>true|_=>false
section
variable {S:Sx}{fs:List Env}{H H0:AH}{hp:Heap}{s:Shared}{A:Around}{E:Value->Shared->Prop}
def PT (S:Sx)(fs:List Env)(H0:AH)(hp:Heap)(H:AH)(Q:Bool->Prop):Bool->Shared->Prop:=λ b s' =>
 aI S fs H s'/\Tr H0 hp H s'.heap/\Q b
theorem rI {v:V}{x:Value}{Q:Bool->Prop}(R:aI S fs H s)(T:Tr H0 hp H s.heap)(va:VR v x)(h:truthy v H Q) :
  wpAny (model S.prog S.w) A (PySem.truthy x) (PT S fs H0 hp H Q) E s:=by
 induction va with
 | none=>exact λ _ _ _=>⟨R,T,h⟩
 | bool b=>exact wpAny_truthy_bool ⟨R,T,h⟩
 | int i t=>exact truthy_int ⟨R,T,by refine sr (show (i != 0)=!decide (i=0) from (by rw [Bool.eq_iff_iff];simp)) ?_;exact h⟩
 | str l t =>
  refine P.truthy_str (by simp [PySem.Str.length];have:=h.1;lia) ⟨R.toks _,T,?_⟩
  have e:(((⟨l.toArray⟩:Str).length:Int) != 0)=!l.isEmpty:=by cases l<;>simp [PySem.Str.length];lia
  exact sr e h.2
 | _=>exact h.elim
theorem yK {v:V}{x:Value}{Q:V->Prop}(R:aI S fs H s)(T:Tr H0 hp H s.heap)(va:VR v x)(h:rC v true Q) :
  wpAny (model S.prog S.w) A (unaryOp .USub x) (PV S fs H0 hp (λ v H'=>H'=H/\Q v)) E s:=by
 induction va with
 | int i t=>exact neg_int (PV.same R T (.int _ _) ⟨rfl,h⟩ _)
 | _=>exact h.elim
theorem yh {v:V}{x:Value}{Q:V->Prop}(R:aI S fs H s)(T:Tr H0 hp H s.heap)(va:VR v x)(h:rC v false Q) :
  wpAny (model S.prog S.w) A (unaryOp .Invert x) (PV S fs H0 hp (λ v H'=>H'=H/\Q v)) E s:=by
 induction va with
 | int i t=>exact invert_int (PV.same R T (.int _ _) ⟨rfl,h⟩ _)
 | _=>exact h.elim
theorem kN {v:V}{x:Value}(va:VR v x):(x==Value.none)=isNone v:=by cases va<;>first|rfl|(refine sr beq_eq_false_iff_ne ?_;intro h;subst h)
theorem xw {v:V}{x:Value}{Q:Bool->Prop}(R:aI S fs H s)(T:Tr H0 hp H s.heap)(va:VR v x)(h:Q (isNone v)) :
  wpAny (model S.prog S.w) A (compareOp .Is x .none) (PB S fs H0 hp H Q) E s :=
 is_none (PB.same' R T (by refine sr (kN va) ?_;exact h))
theorem oj {v:V}{x:Value}{Q:Bool->Prop}(R:aI S fs H s)(T:Tr H0 hp H s.heap)(va:VR v x)(h:Q (!isNone v)) :
  wpAny (model S.prog S.w) A (compareOp .IsNot x .none) (PB S fs H0 hp H Q) E s :=
 isNot_none (PB.same' R T (by refine sr (kN va) ?_;exact h))
theorem tm {a c:Addr} {vs:List V} {n:Nat} {Q:Bool->Prop} (R:aI S fs H s) (T:Tr H0 hp H s.heap) (hu:A.units+10<cLine) (e:listAt H a vs) (g':s.heap.get? c=some {cls:=.type "list", data:=.seq #[] n}) (h:Q vs.isEmpty) :
  wpAny (model S.prog S.w) A (compareOp .Eq (.ref a) (.ref c)) (PB S fs H0 hp H Q) E s:=by
 obtain ⟨xs,m,g,r⟩:=R.listAt e
 have hl:=r.length
 induction vs with
 | nil =>
  have hx:xs=#[]:=by induction xs with|mk l=>induction l with|nil=>rfl|cons _ _=>simp at hl
  subst hx
  exact richCompare_meets_room (op:=.Eq) ⟨_,g,rfl⟩ ⟨_,g',rfl⟩ PySem.F.slot_list_eq PySem.F.entry_list_eq (PySem.F.args_list_eq_2 _ _)
   (MeetsSeq3.list_eq a c #[] #[] m n rfl (λ _=>true) λ j h1=>by simp at h1) ⟨g,g',by simp,PB.same' R T h⟩ (by lia)
 | cons v vs =>
  have hx:(xs.size != (#[]:Array Value).size)=true:=by simp at hl ⊢;intro z;subst z;simp at hl
  exact richCompare_meets_room (op:=.Eq) ⟨_,g,rfl⟩ ⟨_,g',rfl⟩ PySem.F.slot_list_eq PySem.F.entry_list_eq (PySem.F.args_list_eq_2 _ _)
   (PySem.AutoSeq1.list___eq___list_list_0 a xs m c #[] n hx) ⟨g,g',by simp,PB.same' R T h⟩ (by lia)
theorem t6 {a c:Addr} {vs:List V} {n:Nat} {Q:Bool->Prop} (R:aI S fs H s) (T:Tr H0 hp H s.heap) (hu:A.units+10<cLine) (e:listAt H a vs) (g':s.heap.get? c=some {cls:=.type "list", data:=.seq #[] n}) (h:Q (!vs.isEmpty)) :
  wpAny (model S.prog S.w) A (compareOp .NotEq (.ref a) (.ref c)) (PB S fs H0 hp H Q) E s:=by
 obtain ⟨xs,m,g,r⟩:=R.listAt e
 have hl:=r.length
 induction vs with
 | nil =>
  have hx:xs=#[]:=by induction xs with|mk l=>induction l with|nil=>rfl|cons _ _=>simp at hl
  subst hx
  exact richCompare_meets_room (op:=.NotEq) ⟨_,g,rfl⟩ ⟨_,g',rfl⟩ PySem.F.slot_list_ne PySem.F.entry_list_ne (PySem.F.args_list_ne_2 _ _)
   (PySem.SeqAt.list_neAt a c #[] #[] m n none none #[] #[] rfl (λ _=>true)) ⟨g,g',λ j h1=>by simp at h1,by simp,PB.same' R T h⟩ (by lia)
 | cons v vs =>
  have hx:(xs.size != (#[]:Array Value).size)=true:=by simp at hl ⊢;intro z;subst z;simp at hl
  exact richCompare_meets_room (op:=.NotEq) ⟨_,g,rfl⟩ ⟨_,g',rfl⟩ PySem.F.slot_list_ne PySem.F.entry_list_ne (PySem.F.args_list_ne_2 _ _)
   (PySem.SeqAt.list_ne_lengthsAt a c xs #[] m n none none #[] #[] hx) ⟨g,g',by simp,PB.same' R T h⟩ (by lia)
theorem gX {vs:List V}{xs:List Value}(h:cO vs xs):∀ {ys},bW vs=some ys->IntsAre xs ys:=by
 induction h with
 | nil=>intro ys e;(injection e with e;subst e);exact .nil
 | cons a _ ih =>
  intro ys e
  induction a with
  | int s t =>
   simp only [bW,Option.map_eq_some_iff] at e
   obtain ⟨r,e,rfl⟩:=e
   exact .cons _ _ (ih e)
  | _=>contradiction
theorem r9 {a c:Addr}{vs ws:List V}{ns ms:List Int}{Q:Bool->Prop}(R:aI S fs H s)(T:Tr H0 hp H s.heap)(hu:A.units+64<cLine)(e:listAt H a vs)(e':listAt H c ws)(i:bW vs=some ns)(i':bW ws=some ms)(h:Q (!decide (ns=ms))) :
  wpAny (model S.prog S.w) A (compareOp .NotEq (.ref a) (.ref c)) (PB S fs H0 hp H Q) E s:=by
 obtain ⟨xs,m,g,r⟩:=R.listAt e
 obtain ⟨ys,k,g',r'⟩:=R.listAt e'
 exact ne_intsK (vs:=xs.toList) (us:=ys.toList) (by simpa using aW g) (gX r i) (by simpa using aW g') (gX r' i') hu (PB.same' R T h)
end
def slc (o:V)(lo:Option Int)(hi:Option Int)(H:AH)(Q:V->AH->Prop):Prop:=match o,lo,hi with
 | .bytes b,some i,some j=>(0<=i/\0<=j/\b.length<=16777216)/\Q (.bytes ((b.drop i.toNat).take (j.toNat-i.toNat))) H
 | .bytes b,none,some j=>(0<=j/\b.length<=16777216)/\Q (.bytes (b.take j.toNat)) H
 | .ref a,none,some j=>∃ vs,listAt H a vs/\(0<=j/\vs.length<=16777216)/\∀ c,H c=none->Q (.ref c) (H.set c (.list (vs.take j.toNat)))
 | _,_,_=>False
theorem Ah (b:Array UInt8):(KBw.bInts b).length=b.size:=KBw.ints_length b
theorem p9 (b:Array UInt8)(i j:Nat):(KBy.picked b (some i) (some j)).toList.map UInt8.toNat=((b.toList.map UInt8.toNat).drop i).take (j-i):=by
 refine sr (KBc.picked_eq ..) ?_
 simp only [Option.elim,clipAt_nat]
 refine sr toList_toArray (sr map_take (sr List.map_drop ?_))
 generalize hl:b.toList.map UInt8.toNat=l
 have hn:b.size=l.length:=by refine sl hl ?_;simp
 refine sr hn ?_
 rcases Nat.le_total i l.length with h|h
 .refine sr (Nat.min_eq_left h) ?_
  rcases Nat.le_total j l.length with h2|h2
  .exact sr (Nat.min_eq_left h2) rfl
  .exact sr (Nat.min_eq_right h2) (sr (List.take_of_length_le (by simp)) (sr (List.take_of_length_le (by simp;lia)) rfl))
 .refine sr (Nat.min_eq_right h) (sr (List.drop_of_length_le (by simp)) (sr (List.drop_of_length_le h) ?_));simp
theorem pz (b:Array UInt8)(j:Nat):(KBy.picked b none (some j)).toList.map UInt8.toNat=(b.toList.map UInt8.toNat).take j:=by
 refine sr (KBc.picked_eq ..) ?_
 simp only [Option.elim,clipAt_nat,List.drop_zero,Nat.sub_zero]
 refine sr toList_toArray (sr map_take ?_)
 generalize hl:b.toList.map UInt8.toNat=l
 have hn:b.size=l.length:=by refine sl hl ?_;simp
 refine sr hn ?_
 rcases Nat.le_total j l.length with h2|h2
 .exact sr (Nat.min_eq_left h2) rfl
 .exact sr (Nat.min_eq_right h2) (sr (List.take_of_length_le (by simp)) (sr (List.take_of_length_le h2) rfl))
section
variable {S:Sx}{fs:List Env}{H H0:AH}{hp:Heap}{s:Shared}{A:Around}{E:Value->Shared->Prop}
theorem ux {o:V}{x vl vu:Value}{lo hi:Option Int}{c:Addr}{Q:V->AH->Prop}(R:aI S fs H s)(T:Tr H0 hp H s.heap)(va:VR o x)
  (hs:s.heap.IsSliceOf c vl vu .none) (pl:IsPart vl lo) (pu:IsPart vu hi) (h:slc o lo hi H Q) :
  wpAny (model S.prog S.w) A (getItem x (.ref c)) (PV S fs H0 hp Q) E s/\∃ T id,s.TypeIs x T/\typeLookup (.type T) "__getitem__"=pure (some (.builtin id)):=by
 induction va with
 | bytes b t =>
  refine ⟨?_, "bytes", _,rfl,FB.slot_bytes_getitem.lookup⟩
  have key:∀ l,l=(KBy.picked b lo hi).toList.map UInt8.toNat->b.size<=16777216->Q (.bytes l) H->wpAny (model S.prog S.w) A (getItem (.bytes b t) (.ref c)) (PV S fs H0 hp Q) E s:=λ l e hz q =>
   getItem_meets rfl (by decide) FB.slot_bytes_getitem FB.entry_bytes_getitem (FB.args_bytes_getitem_2 _ _) (KBc.meets_slice2 b t c pl pu)
    ⟨hs,GK (KBc.size_picked_le b lo hi) (by refine sr sizeLine_eq ?_;exact hz),λ t' k=>PV.same R T (fY e t') q k⟩
  induction lo with
  | none =>
   induction hi with
   | none=>exact h.elim
   | some j =>
    obtain ⟨⟨h1,h2⟩,q⟩:=h
    obtain ⟨j,rfl⟩:=Int.eq_ofNat_of_zero_le h1
    exact key _ (pz b j).symm (by simpa using h2) q
  | some i =>
   induction hi with
   | none=>exact h.elim
   | some j =>
    obtain ⟨⟨h0,h1,h2⟩,q⟩:=h
    obtain ⟨i,rfl⟩:=Int.eq_ofNat_of_zero_le h0
    obtain ⟨j,rfl⟩:=Int.eq_ofNat_of_zero_le h1
    exact key _ (p9 b i j).symm (by simpa using h2) q
 | ref a =>
  induction lo with
  | none =>
   induction hi with
   | none=>exact h.elim
   | some j =>
    refine nT h λ vs e uz1 q=>?_;obtain ⟨h0,h1⟩:=uz1
    obtain ⟨j,rfl⟩:=Int.eq_ofNat_of_zero_le h0
    obtain ⟨xs,n,g,r⟩:=R.listAt e
    have hl:=r.length
    refine ⟨?_, "list", _,⟨_,g,rfl⟩,slot_list_getitem.lookup⟩
    refine wpAny_getItem_list_slice (aW g) hs pl pu .none (by simp) ?_ (by refine sr sizeLine_eq ?_;simp at hl;lia)
    refine PV.made R T (.list ?_) rfl q s.toks
    exact sr (slicePick_upto' ..) (sr (toList_toArray ..) (r.take _))
  | some i=>exact h.elim
 | _=>contradiction<;>subst hi<;>exact h.elim
end
def bU (β:Bool)(M:Model)(A:Around)(c:Code)(R:Result->Shared->Prop)(s:Shared):Prop :=
 ∀ Γ p,Γ.code=c->Γ.Below A->(β=true->∀ x∈Γ.below,bF x.1=true)->wpCode M Γ R p s
section
variable {α γ:Type}{β:Bool}{M:Model}{A:Around}{E:Value->Shared->Prop}{s:Shared}
theorem Cd {c:Code}{R:Result->Shared->Prop}(h:codeAny M A c R s):bU β M A c R s:=λ Γ p hc hΓ _=>h Γ p hc hΓ
theorem Az {t:Sem α}{Q:α->Shared->Prop}(h:aF false M A t Q E s):aF β M A t Q E s:=λ Γ p hΓ _=>h Γ p hΓ (λ x=>by cases x)
theorem jo {t:Sem α}{Q:α->Shared->Prop}(h:aF false M A t Q E s):wpAny M A t Q E s:=λ Γ p hΓ=>h Γ p hΓ (λ x=>by cases x)
theorem xc {c:Code}{R:Result->Shared->Prop}(h:bU false M A c R s):codeAny M A c R s:=λ Γ p hc hΓ=>h Γ p hc hΓ (λ x=>by cases x)
theorem uC {t u:Sem α}{Q:α->Shared->Prop}(e:t=u)(h:aF β M A u Q E s):aF β M A t Q E s:=e▸h
theorem w7 {m:Sem α}{f:α->Sem γ}{Q:γ->Shared->Prop}(h:wpAny M A m (λ a s'=>aF β M A (f a) Q E s') E s):aF β M A (m >>= f) Q E s:=aa (ah h)
theorem ai {vs:List Value}{m:Sem α}{Q:α->Shared->Prop}(h:aF β M A m Q E s):aF β M A (holding vs m) Q E s :=
 λ Γ p hΓ hc=>by exact sr (Sem.wp_holding ..) (h Γ p hΓ hc)
theorem ag {pos:Pos}{Q:Unit->Shared->Prop}(h:Q () s):aF β M A (standAt pos) Q E s:=ah (wpAny_standAt h)
theorem lZ {Q:Unit->Shared->Prop}(h:Q () s):aF β M A point Q E s:=ah (wpAny_point h)
theorem dQ {m:Sem α}{k:Value->Sem Unit}{Q:α->Shared->Prop}
  (h:aF β M A m Q (λ e s'=>aF β M A (k e) (λ _ s''=>E e s'') E s') s):aF β M A (m.onRaise k) Q E s:=λ Γ p hΓ hc=>by
 exact sr (Sem.wp_onRaise ..) (Sem.wp_mono M Γ m (λ _ _ _ h'=>h') (λ e p' s' h'=>h' Γ p' hΓ hc) p s (h Γ p hΓ hc))
theorem nY {m:Sem α}{Q:Except Value α->Shared->Prop}(h:aF β M A m (λ a=>Q (.ok a)) (λ e=>Q (.error e)) s) :
  aF β M A m.attempt Q E s:=λ Γ p hΓ hc=>by exact sr (Sem.wp_attempt ..) (h Γ p hΓ hc)
theorem aU {vs:List Value}{m:Sem Value}{Q:Value->Shared->Prop}(h:aF β M A m Q E s):aF β M A (operate vs m) Q E s :=
 λ Γ p hΓ hc=>by exact sr (Sem.wp_operate ..) (h Γ p hΓ hc)
theorem yR {c:Code}{R R':Result->Shared->Prop}(h:bU β M A c R s)(hR:∀ r s,R r s->R' r s):bU β M A c R' s :=
 λ Γ p hc hΓ hb=>wpCode_mono hR (h Γ p hc hΓ hb)
theorem js {Γ:PySem.Ctx}{c:Code}{h:Option Value}{p:Pos}(hc:β=true->sN Γ):β=true->∀ x∈(Γ.enter c h p).below,bF x.1=true:=λ e x hx=>by
 rcases mem_cons.mp hx with rfl|hx
 .exact (hc e).1
 .exact (hc e).2 x hx
theorem wq {c:Code}{h:Option Value}{Q:Flow->Shared->Prop}
  (hc:bU β M (A.mark h) c (λ r s'=>match r with | .ok f=>Q f s' | .error e=>E e s') s) (hnb:h≠some byPass:=by intro x;cases x) :
  aF β M A (run c h) Q E s :=
 λ Γ p hΓ hcl=>by exact sr (Sem.wp_run ..) (hc _ p rfl (hΓ.enter c h p hnb) (js hcl))
theorem ny {c:Code}{Q:Value->Shared->Prop}
  (hc:bU β M A c (λ r s'=>match r with | .ok (.ret v)=>Q v s' | .ok _=>False | .error e=>E e s') s) :
  aF β M A (runValue c) Q E s:=λ Γ p hΓ hcl=>by refine sr (Sem.wp_runValue ..) ?_;exact hc _ p rfl (hΓ.enter c none p (by intro x;cases x)) (js hcl)
theorem fx {f:Value}{pos:List Value}{kw:List (Str×Value)}{Q:Value->Shared->Prop}
  (hc:bU β M A (.call f ⟨pos,kw⟩) (λ r s'=>match r with | .ok (.ret v)=>Q v s' | .ok _=>False | .error e=>E e s') s) :
  aF β M A (call f pos kw) Q E s:=ny hc
theorem aR {c:Code}{R:Result->Shared->Prop}(hk:bF c=true)
  (h:aF β M (A.under c) (M.den c) (λ fin s'=>match fin with | .done f=>R (.ok f) s' | .again c'=>c'.quiet=true/\bU β M A c' R s')
   (λ e s'=>R (.error e) s') s):bU β M A c R s:=λ Γ p hc hΓ hb=>by
 rewrite [wpCode_iff_wp];refine sr hc ?_
 refine Sem.wp_mono M Γ _ (λ fin p' s' h'=>?_) (λ _ _ _ h'=>h') p s (h Γ p (hc▸hΓ.in) λ e=>⟨hc▸hk,hb e⟩)
 cases fin with
 | done f=>exact h'
 | again c'=>exact ⟨h'.1,h'.2 (Γ.goto c') p' rfl (hΓ.goto c') hb⟩
theorem kh {c:Code}{R:Result->Shared->Prop}(hk:bF c=true)(hq:c.quiet=true)(I:Nat->Shared->Prop)
  (turn:∀ n s,I n s->aF β M (A.under c) (M.den c)
   (λ fin s'=>match fin with | .done f=>R (.ok f) s' | .again c'=>(c'=c/\∃ m,m<n/\I m s')\/(c'.quiet=true/\bU β M A c' R s')) (λ e s'=>R (.error e) s') s)
  (n:Nat) (h:I n s):bU β M A c R s:=by
 induction n using strongRecOn generalizing s with
 | ind n ih =>
  refine aR hk (aj (turn n s h) (λ fin s' hf=>?_) λ _ _ h'=>h')
  cases fin with
  | done f=>exact hf
  | again c' =>
   rcases hf with ⟨rfl,m,hm,hI⟩|hf
   .exact ⟨hq,ih m hm hI⟩
   .exact hf
def fu (β:Bool)(M:Model)(A:Around)(env:Env)(E:Value->Shared->Prop):Value->Shared->Prop :=
 λ x s'=>aF β M A (noteFrame x env) (λ _ s''=>E x s'') E s'
theorem jk {env:Env}{m:Sem α}{Q:α->Shared->Prop}(h:aF β M A m Q (fu β M A env E) s):aF β M A (m.onRaise λ x=>do noteFrame x env;theTreesLotGoes x) Q E s :=
 dQ (aj h (λ _ _ q=>q) λ _ _ hx=>aa (aj hx (λ _ _ e=>ah (wpAny_theTreesLotGoes e)) λ _ _ e=>e))
def xC (β:Bool)(M:Model)(A:Around)(env:Env)(E:Value->Shared->Prop):Value->Shared->Prop :=
 λ x s'=>aF β M A (do
  if (<- field x 1)==.none then unsupported "frame.own-activation:exception-without-traceback"
  setFlight x env.frame) (λ _ s''=>E x s'') E s'
theorem kA {c:Code}{env:Env}{Q:Flow->Shared->Prop}
  (hc:bU β M A c (λ r s'=>match r with | .ok f=>Q f s' | .error e=>xC β M A env E e s') s) :
  aF β M A (runOwn c env none) Q E s:=by
 exact dQ (wq (h:=none) hc)
end
section
variable {β:Bool}{prog:Program}{w:World}{A:Around}{E:Value->Shared->Prop}{R:Result->Shared->Prop}{s:Shared}{env:Env}
theorem gy {Q:Flow->Shared->Prop}(h:Q .next s):aF β (model prog w) A (execs [] env) Q E s:=ae h
theorem aL {st rest}{Q:Flow->Shared->Prop}
  (h:aF β (model prog w) A (exec st env) (λ f s'=>match f with | .next=>aF β (model prog w) A (execs rest env) Q E s' | f=>Q f s') E s) :
  aF β (model prog w) A (execs (st::rest) env) Q E s:=by
 refine aa (aj h (λ f s' h'=>?_) λ _ _ x=>x)
 cases f<;>first|exact h' | exact ae h'
theorem oz {test body env}(I:Nat->Shared->Prop)
  (turn:∀ n s,I n s ->
   aF β (model prog w) A (isTrue test env (eval test env)) (λ b s2x =>
    if b then aF β (model prog w) A (execs body env) (λ f s3x=>match f with
      | .next | .cont=>∃ m,m<n/\I m s3x
      | .brk=>R (.ok .next) s3x
      | .ret v=>R (.ok (.ret v)) s3x) (fu β (model prog w) A env λ e s'=>R (.error e) s') s2x
    else R (.ok .next) s2x)
    (fu β (model prog w) A env λ e s'=>R (.error e) s') s)
  (n:Nat) (h:I n s):bU β (model prog w) A (.whileLoop test body [] env) R s:=by
 refine kh rfl rfl I (λ n s hI=>?_) n h
 show aF _ _ A ((whileTurn test body [] env).onRaise (λ x=>do noteFrame x env;theTreesLotGoes x)) _ _ s
 refine jk (aa (aj (turn n s hI) (λ b s2x h2x=>?_) λ _ _ h'=>h'))
 cases b with
 | false =>
  simp only [Bool.false_eq_true,if_false] at h2x ⊢
  exact aa (gy (ae h2x))
 | true =>
  simp only [if_true] at h2x ⊢
  refine aa (aj h2x (λ f s3x h3x=>?_) λ _ _ h'=>h')
  cases f with
  | next=>exact ae (.inl ⟨rfl,h3x⟩)
  | cont=>exact ae (.inl ⟨rfl,h3x⟩)
  | brk=>exact ae h3x
  | ret v=>exact ae h3x
theorem oF {stmts:List Stmt}
  (h:aF β (model prog w) A (execs stmts env) (λ f s'=>R (.ok f) s') (fu β (model prog w) A env λ e s'=>R (.error e) s') s):bU β (model prog w) A (.block stmts env) R s:=by
 refine aR rfl ?_
 show aF _ _ _ (do return Fin.done (<- (execs stmts env).onRaise (λ x=>do noteFrame x env;theTreesLotGoes x))) _ _ s
 exact aa (jk (aj h (λ f s' h'=>ae h') λ _ _ h'=>h'))
theorem rV {target it body}(I:Nat->Shared->Prop)
  (turn:∀ n s,I n s->wpAny (model prog w) A (pyNext it) (λ r s1x=>match r with
   | none=>R (.ok .next) s1x
   | some v=>aF β (model prog w) A (letOwnedTupleGo target it v) (λ _ s1' =>
     aF β (model prog w) A (assign target env v) (λ _ s2x=>aF β (model prog w) A (execs body env) (λ f s3x=>match f with
      | .next | .cont=>∃ m,m<n/\I m s3x
      | .brk=>R (.ok .next) s3x
      | .ret v=>R (.ok (.ret v)) s3x) (fu β (model prog w) A env λ e s'=>R (.error e) s') s2x) (fu β (model prog w) A env λ e s'=>R (.error e) s') s1') (fu β (model prog w) A env λ e s'=>R (.error e) s') s1x) (λ _ _=>False) s)
  (n:Nat) (h:I n s):bU β (model prog w) A (.forLoop target it body [] env) R s:=by
 refine kh rfl rfl I (λ n s hI=>?_) n h
 show aF _ _ A ((forTurn target it body [] env).onRaise (λ x=>do noteFrame x env;theTreesLotGoes x)) _ _ s
 refine jk (aa (ag (aa (dQ (aj (ah (turn n s hI)) (λ r s1x h1x=>?_) λ _ _ h'=>h'.elim)))))
 cases r with
 | none=>exact ae (.inr ⟨rfl,oF (gy h1x)⟩)
 | some v =>
  refine aa (aj h1x (λ _ s1' h1'=>aa (aj h1' (λ _ s2x h2x=>aa (aj h2x (λ f s3x h3x=>?_) λ _ _ h'=>h')) λ _ _ h'=>h')) λ _ _ h'=>h')
  cases f with
  | next=>exact ae (.inl ⟨rfl,h3x⟩)
  | cont=>exact ae (.inl ⟨rfl,h3x⟩)
  | brk=>exact ae h3x
  | ret v=>exact ae h3x
theorem ql {body}
  (h:aF β (model prog w) (A.deeper env) (execs body env) (λ f s'=>R (.ok (.ret (match f with | .ret v=>v|_=>.none))) s')
   (λ e s'=>aF β (model prog w) (A.deeper env) (leaving env e) (λ _ s''=>R (.error e) s'') (λ e' s''=>R (.error e') s'') s') s) :
  bU β (model prog w) A (.func body env) R s:=by
 refine aR rfl ?_
 show aF _ _ (A.deeper env) (do point;match <- (execs body env).onRaise (leaving env) with | .ret v=>ret v|_=>ret .none) _ _ s
 refine aa (lZ (aa (dQ (aj h (λ f s' h'=>?_) λ _ _ h'=>h'))))
 cases f<;>exact ae h'
theorem gr {a:Addr}{args:Args}{o:Obj}{fd:FuncData}{body:List Stmt}(hroom:A.depth<recursionLimit)
  (ho:s.heap.get? a=some o)
  (hd':o.data=.func fd) (hco:fd.scope.isCoroutine=false) (hgen:fd.scope.isGenerator=false) (hbody:fd.body=.stmts body) (hcd:s.heap.CodeRec fd.code fd.qualname)
  (h:wpAny (model prog w) A.in1 (bindArgs fd args) (λ binds s1x =>
   wpAny (model prog w) A.in1 (newFunctionEnv fd.scope fd.globals fd.closure binds (fd.qualname++".<locals>.") (some a) fd.code none fd.builtins)
    (λ env s2x=>s2x.heap.NoLimit/\bU β (model prog w) A (.func body env) R s2x) (λ _ _=>False) s1x) (λ _ _=>False) s) :
  bU β (model prog w) A (.call (.ref a) args) R s:=by
 refine aR rfl (aa (ah (wpAny_load ho (Cj hcd λ c oc vs tq hc hoc hdc hq=>?_))))
 generalize o.data=dt at hd' ⊢
 subst hd'
 show aF _ _ _ (callFunction a fd args) _ _ _
 unfold callFunction
 generalize fd.code=cc at hc h ⊢
 generalize fd.scope.isCoroutine=ic at hco ⊢
 generalize fd.scope.isGenerator=ig at hgen ⊢
 generalize fd.body=bd at hbody ⊢
 subst hc hco hgen hbody
 refine aa (m:=field (.ref c) 1) (ah (wpAny_field hoc hdc hq (aa (ae ?_))))
 exact aa (ah (wpAny_mono h (λ binds s1x h1x=>aa (ah (wpAny_mono h1x (λ env s2x h2x=>aa (ah (wpAny_enterFrame h2x.1 hroom
  (ae (And.intro rfl h2x.2))))) λ _ _ h'=>h'.elim))) λ _ _ h'=>h'.elim))
end
structure Cw where
 call:Bool->(Int->Prop)->Nat->List V->AH->(V->AH->Prop)->Prop
 β:Bool
 X:Int->Prop
noncomputable def Cw.low (C:Cw):Cw:={C with β:=false,X:=λ _=>False}
noncomputable def Cw.nox (C:Cw):Cw:={C with X:=λ _=>False}
inductive BI|len|lenL|lenB|abs|min|int|str|chr|ord|bytesL|bytesB (u:Unit)|barr|list|isInt|isBytes
noncomputable def BI.ctorIdx:BI->Nat:=λ b=>BI.casesOn (motive:=λ _=>Nat) b 0 1 2 3 4 5 6 7 8 9 (λ _=>10) 11 12 13 14
inductive BM|append|pop|pop0 (u:Unit)|bappend|bextend|getI|getS|join
noncomputable def BM.ctorIdx:BM->Nat:=λ b=>BM.casesOn (motive:=λ _=>Nat) b 0 1 (λ _=>2) 3 4 5 6 7
set_option genCtorIdx true in
inductive Src|list|range|str|bytes|enum
inductive Tg|one (k:Nat)|two (a b:Nat)|three (k a b:Nat)
inductive It|v (x:V)|pair (x y:V)
mutual
inductive E where
 | none|bool (b:Bool)|int (i:Int)|str (l:List Nat)|bytes (l:List Nat)
 | var (k:Nat)|glb (k:Nat)
 | bin (op:BO) (a b:E)|cmp (op:CO) (a b:E)|isN (a:E)|notN (a:E)
 | neg (a:E)|inv (a:E)|and (a b:E)|or (a b:E)|ite (c:T) (a b:E)
 | attr (a:E) (k:Nat)|sub (a i:E)|slc (a lo hi:E)|slcTo (a hi:E)|rev (a:E)
 | tup (es:Es)|lst (es:Es)|dct (ks:List (List Nat)) (es:Es)|empI
 | call (f:Nat) (es:Es)|meth (c:Nat) (f:Nat) (o:E) (es:Es)|mk (c:Nat) (f:Nat) (es:Es)
 | bi (b:BI) (es:Es)|bm (b:BM) (o:E) (es:Es)
 | comp (src:Src) (tg:Tg) (n:Nat) (caps:List (Nat×Nat)) (elt:E) (e:E)
inductive T where
 | not (t:T)|and (a b:T)|or (a b:T)|ite (c a b:T)
 | cmp (op:CO) (a b:E)|chain (a:E) (o:CO) (b:E) (p:CO) (c:E)|isN (a:E)|notN (a:E)
 | eqNil (a:E)|neNil (a:E)|neInts (a b:E)|val (e:E)
inductive Es where
 | nil|cons (e:E) (r:Es)
end
inductive B where
 | done|ret (e:E)|retN|raise (e:E)
 | set (k:Nat) (e:E) (r:B)|setN (ks:List Nat) (e:E) (r:B)|setVA (k:Nat) (o:E) (a:Nat) (e:E) (r:B)
 | setA (o:E) (k:Nat) (e:E) (r:B)|setS (o i e:E) (r:B)|ex (e:E) (r:B)
 | cond (c:T) (a b:B) (r:B)|while (c:T) (b:B) (r:B)
 | for (src:Src) (tg:Tg) (e:E) (b:B) (r:B)
noncomputable abbrev Ls:=List (Option V)
noncomputable def lget:Ls->Nat->Option V
 | [],_=>.none
 | x::_,0=>x
 | _::r,k+1=>lget r k
noncomputable def lput:Ls->Nat->V->Ls
 | [],_,_=>[]
 | _::r,0,v=>some v::r
 | x::r,k+1,v=>x::lput r k v
noncomputable def cG {K:Type}[DecidableEq K]:List (K×V)->K->V->List (K×V)
 | [],k,v=>[(k,v)]
 | (j,u)::r,k,v=>match decide (j=k) with
  | true=>(j,v)::r
  | false=>(j,u)::cG r k v
noncomputable def eW (n:Int):Bool:=decide (0<=n)&&decide (n<256)
noncomputable def mO (i:Int):List Nat:=(toString i).toList.map Char.toNat
def uZ (b:BI)(vs:List V)(H:AH)(Q:V->AH->Prop):Prop:=match b with
 | .len=>eI vs λ v=>match v with
  | .bytes l=>l.length<=16777216/\Q (.int l.length) H
  | .str l=>l.length<=16777216/\Q (.int l.length) H
  | _=>False
 | .lenL=>eI vs λ v=>jJ v λ a=>∃ vs,listAt H a vs/\vs.length<=16777216/\Q (.int vs.length) H
 | .lenB=>eI vs λ v=>jJ v λ a=>∃ l,H a=some (.barr l)/\l.length<=16777216/\Q (.int l.length) H
 | .abs=>eI vs λ v=>fK v λ i=>Q (.int i.natAbs) H
 | .min=>wR vs λ v w=>fK v λ i=>fK w λ j=>Q (.int (if j<i then j else i)) H
 | .int=>eI vs λ v=>match v with
  | .int i=>Q (.int i) H
  | .bool b=>Q (.int (if b then 1 else 0)) H
  | _=>False
 | .str=>eI vs λ v=>fK v λ i=>i.natAbs<2 ^ 1024/\Q (.str (mO i)) H
 | .chr=>eI vs λ v=>fK v λ i=>(0<=i/\i<256)/\Q (.str [i.toNat]) H
 | .ord=>eI vs λ v=>wG v λ l=>match l with | [c]=>Q (.int c) H|_=>False
 | .bytesL=>eI vs λ v=>jJ v λ a=>∃ vs ns,listAt H a vs/\bW vs=some ns/\ns.all eW=true/\ns.length<=16777216/\Q (.bytes (ns.map toNat)) H
 | .bytesB _=>eI vs λ v=>jJ v λ a=>∃ l,H a=some (.barr l)/\l.length<=16777216/\Q (.bytes l) H
 | .barr=>yb vs (∀ a,H a=none->Q (.ref a) (H.set a (.barr [])))
 | .list=>eI vs λ v=>jJ v λ a=>∃ vs,listAt H a vs/\vs.length<=16777216/\∀ c,H c=none->Q (.ref c) (H.set c (.list vs))
 | .isInt=>eI vs λ v=>match v with
  | .int _=>Q (.bool true) H
  | .bytes _=>Q (.bool false) H
  | _=>False
 | .isBytes=>eI vs λ v=>match v with
  | .int _=>Q (.bool false) H
  | .bytes _=>Q (.bool true) H
  | _=>False
def we (b:BM)(o:V)(vs:List V)(H:AH)(Q:V->AH->Prop):Prop:=match b with
 | .append=>jJ o λ a=>eI vs λ v=>∃ vs,H a=some (.list vs)/\vs.length<=16777216/\Q .none (H.set a (.list (vs++[v])))
 | .pop=>jJ o λ a=>yb vs (∃ vs v,H a=some (.list (vs++[v]))/\vs.length<=16777215/\Q v (H.set a (.list vs)))
 | .pop0 _=>jJ o λ a=>eI vs λ v=>fK v λ i=>i=0/\∃ v vs,H a=some (.list (v::vs))/\vs.length<=16777215/\Q v (H.set a (.list vs))
 | .bappend=>jJ o λ a=>eI vs λ v=>fK v λ i=>∃ l,H a=some (.barr l)/\eW i=true/\l.length<=16777215/\Q .none (H.set a (.barr (l++[i.toNat])))
 | .bextend=>jJ o λ a=>eI vs λ v=>xq v λ m=>∃ l,H a=some (.barr l)/\l.length+m.length<=16777216/\Q .none (H.set a (.barr (l++m)))
 | .getI=>jJ o λ a=>wR vs λ v d=>fK v λ k=>∃ es,H a=some (.idict es)/\Q ((bV es k).getD d) H
 | .getS=>jJ o λ a=>wR vs λ v d=>wG v λ k=>∃ es,H a=some (.sdict es)/\Q ((bV es k).getD d) H
 | .join=>wG o λ s=>eI vs λ v=>jJ v λ a=>match s with
  | []=>∃ vs ss,listAt H a vs/\bT vs=some ss/\ss.flatten.length<=16777216/\vs.length<=16777216/\Q (.str ss.flatten) H
  | _=>False
def jw (b:BM)(u:V)(H:AH):Prop:=match b with
 | .append | .pop | .pop0 _=>jJ u λ a=>∃ vs,H a=some (.list vs)
 | .bappend | .bextend=>jJ u λ a=>∃ l,H a=some (.barr l)
 | .getI=>jJ u λ a=>∃ es,H a=some (.idict es)
 | .getS=>jJ u λ a=>∃ es,H a=some (.sdict es)
 | .join=>wG u λ _=>True
noncomputable def bM:Nat->List V->List It
 | _,[]=>[]
 | n,v::r=>.pair (.int n) v::bM (n+1) r
def cF (src:Src)(u:V)(H:AH)(items:List It):Prop:=match src,u with
 | .list,.ref a=>∃ vs,listAt H a vs/\vs.length<=16777216/\items=vs.map It.v
 | .enum,.ref a=>∃ vs,listAt H a vs/\vs.length<=16777216/\items=bM 0 vs
 | .range,.int n=>(-16777216<=n/\n<=16777216)/\items=(List.range n.toNat).map λ (i:Nat)=>It.v (.int i)
 | .str,.str l=>l.length<=16777216/\items=l.map λ c=>It.v (.str [c])
 | .bytes,.bytes l=>l.length<=16777216/\items=l.map λ (c:Nat)=>It.v (.int c)
 | _,_=>False
def ay (src:Src)(u:V)(items:List It)(H:AH):Prop:=match src,u with
 | .list,.ref a=>∃ vs,listAt H a vs/\items=vs.map It.v
 | .enum,.ref a=>∃ vs,listAt H a vs/\items=bM 0 vs
 | _,_=>True
def iS (tg:Tg)(it:It)(H:AH)(ls:Ls)(K:Ls->Prop):Prop:=match tg,it with
 | .one k,.v x=>K (lput ls k x)
 | .two a b,.v u=>jJ u λ t=>∃ x y,H t=some (.tup [x,y])/\K (lput (lput ls a x) b y)
 | .two a b,.pair x y=>K (lput (lput ls a x) b y)
 | .three k a b,.pair i u=>jJ u λ t=>∃ x y,H t=some (.tup [x,y])/\K (lput (lput (lput ls k i) a x) b y)
 | _,_=>False
noncomputable def d6 (still:AH->Prop)(tg:Tg)(body:Ls->AH->(V->AH->Prop)->Prop):List It->Ls->List V->AH->(List V->AH->Prop)->Prop
 | [],_,acc,H,K=>still H/\K acc H
 | it::r,ls,acc,H,K=>still H/\iS tg it H ls λ ls'=>body ls' H λ v H'=>d6 still tg body r ls' (acc++[v]) H' K
noncomputable def iL (still:AH->Prop)(tg:Tg)(body:Ls->AH->(Ls->AH->Prop)->Prop):List It->Ls->AH->(Ls->AH->Prop)->Prop
 | [],ls,H,K=>still H/\K ls H
 | it::r,ls,H,K=>still H/\iS tg it H ls λ ls'=>body ls' H λ ls'' H'=>iL still tg body r ls'' H' K
noncomputable def iq (c:Nat):Bool:=c==1||c==2||c==3
def fz (c:Nat)(u:V)(H:AH):Prop:=match u with
 | .ref a=>∃ d es,H a=some (.inst c d)/\H d=some (.attrs es)
 | _=>False
def iu (u:V)(k:Nat)(H:AH)(Q:V->AH->Prop):Prop:=match u with
 | .ref a=>∃ c d es v,H a=some (.inst c d)/\H d=some (.attrs es)/\iq c=true/\bV es k=some v/\Q v H
 | _=>False
def cN (u:V)(k:Nat)(v:V)(H:AH)(Q:AH->Prop):Prop:=match u with
 | .ref a=>∃ c d es,H a=some (.inst c d)/\H d=some (.attrs es)/\(iq c=true/\es.length<=100)/\Q (H.set d (.attrs (cG es k v)))
 | _=>False
def dj (u i v:V)(H:AH)(Q:AH->Prop):Prop:=match u,i with
 | .ref a,.int k=>(∃ vs,H a=some (.list vs)/\vs.length<=16777216/\0<=k/\k<vs.length/\Q (H.set a (.list (vs.set k.toNat v)))) \/
   (∃ es,H a=some (.idict es)/\es.length<=16777216/\Q (H.set a (.idict (cG es k v))))
 | .ref a,.str k=>∃ es,H a=some (.sdict es)/\es.length<=16777216/\Q (H.set a (.sdict (cG es k v)))
 | _,_=>False
noncomputable def dc (ls:Ls):List (Nat×Nat)->Ls->Ls
 | [],r=>r
 | (i,o)::cs,r=>match lget ls o with
  | some v=>dc ls cs (lput r i v)
  | none=>dc ls cs r
noncomputable def lputs:Ls->List Nat->List V->Option Ls
 | ls,[],[]=>some ls
 | ls,k::ks,v::vs=>lputs (lput ls k v) ks vs
 | _,_,_=>none
noncomputable def j2:Nat->V
 | 0=>.int 37
 | 1=>.int 4294967296
 | 2=>.int 128
 | 3=>.bytes [43,45,42,47,109,38,124,94,61,62,60,65,79]
 | 4=>.bytes [33,126]
 | 5=>.bytes [100,111,120,88,115]
 | _=>.bytes [48,49,50,51,52,53,54,55,56,57]
mutual
noncomputable def xe:E->Cw->Ls->AH->(V->AH->Prop)->Prop
 | .none,_,_,H,Q=>Q .none H
 | .bool b,_,_,H,Q=>Q (.bool b) H
 | .int i,_,_,H,Q=>Q (.int i) H
 | .str l,_,_,H,Q=>Q (.str l) H
 | .bytes l,_,_,H,Q=>Q (.bytes l) H
 | .var k,_,ls,H,Q=>match lget ls k with|some v=>Q v H|none=>False
 | .glb k,_,_,H,Q=>Q (j2 k) H
 | .bin op a b,C,ls,H,Q=>xe a C ls H λ u H1=>xe b C ls H1 λ v H2x=>kE op u v H2x Q
 | .cmp op a b,C,ls,H,Q=>xe a C ls H λ u H1=>xe b C ls H1 λ v H2x=>cmp op u v H2x λ t=>Q (.bool t) H2x
 | .isN a,C,ls,H,Q=>xe a C ls H λ u H1=>Q (.bool (isNone u)) H1
 | .notN a,C,ls,H,Q=>xe a C ls H λ u H1=>Q (.bool (!isNone u)) H1
 | .neg a,C,ls,H,Q=>xe a C ls H λ u H1=>rC u true λ v=>Q v H1
 | .inv a,C,ls,H,Q=>xe a C ls H λ u H1=>rC u false λ v=>Q v H1
 | .and a b,C,ls,H,Q=>xe a C ls H λ u H1=>truthy u H1 λ t=>(t=true->xe b C ls H1 Q)/\(t=false->Q u H1)
 | .or a b,C,ls,H,Q=>xe a C ls H λ u H1=>truthy u H1 λ t=>(t=true->Q u H1)/\(t=false->xe b C ls H1 Q)
 | .ite c a b,C,ls,H,Q=>xt c C ls H λ t H1=>(t=true->xe a C ls H1 Q)/\(t=false->xe b C ls H1 Q)
 | .attr a k,C,ls,H,Q=>xe a C ls H λ u H1=>iu u k H1 Q
 | .sub a i,C,ls,H,Q=>xe a C ls H λ u H1=>xe i C ls H1 λ v H2x=>iI u v H2x λ r=>Q r H2x
 | .slc a lo hi,C,ls,H,Q=>xe a C ls H λ u H1=>xe lo C ls H1 λ l H2x=>xe hi C ls H2x λ h H3=>match l,h with
   | .int i,.int j=>slc u (some i) (some j) H3 Q
   | _,_=>False
 | .slcTo a hi,C,ls,H,Q=>xe a C ls H λ u H1=>xe hi C ls H1 λ h H3=>match h with
   | .int j=>slc u none (some j) H3 Q
   | _=>False
 | .rev a,C,ls,H,Q=>xe a C ls H λ u H1=>match u with
   | .ref a=>∃ l,H1 a=some (.barr l)/\l.length<=16777216/\∀ c,H1 c=none->Q (.ref c) (H1.set c (.barr l.reverse))
   | _=>False
 | .tup es,C,ls,H,Q=>xes es C ls H λ vs H1=>vs.length<=100/\∀ c,H1 c=none->Q (.ref c) (H1.set c (.tup vs))
 | .lst es,C,ls,H,Q=>xes es C ls H λ vs H1=>vs.length<=100/\∀ c,H1 c=none->Q (.ref c) (H1.set c (.list vs))
 | .dct ks es,C,ls,H,Q=>xes es C ls H λ vs H1=>(vs.length=ks.length/\ks.Nodup)/\∀ c,H1 c=none->Q (.ref c) (H1.set c (.sdict (ks.zip vs)))
 | .empI,_,_,H,Q=>∀ c,H c=none->Q (.ref c) (H.set c (.idict []))
 | .call f es,C,ls,H,Q=>xes es C ls H λ vs H1=>C.call C.β C.X f vs H1 Q
 | .meth c f o es,C,ls,H,Q=>xe o C ls H λ u H1=>fz c u H1/\xes es C ls H1 λ vs H2x=>C.call C.β C.X f (u::vs) H2x Q
 | .mk c f es,C,ls,H,Q=>xes es C ls H λ vs H1=>∀ d a,H1 d=none->H1 a=none->a≠d ->
   C.call C.β C.X f (.ref a::vs) ((H1.set d (.attrs [])).set a (.inst c d)) λ u H2x=>u=.none/\Q (.ref a) H2x
 | .bi b es,C,ls,H,Q=>xes es C ls H λ vs H1=>uZ b vs H1 Q
 | .bm b o es,C,ls,H,Q=>xe o C ls H λ u H1=>jw b u H1/\xes es C ls H1 λ vs H2x=>we b u vs H2x Q
 | .comp src tg n caps elt e,C,ls,H,Q=>xe e C.low ls H λ u H1=>∃ items,cF src u H1 items /\
   d6 (ay src u items) tg (λ ls' H' K=>xe elt C.low ls' H' K) items (dc ls caps (replicate n none)) [] H1 λ vs H2x =>
    vs.length<=16777216/\∀ c,H2x c=none->Q (.ref c) (H2x.set c (.list vs))
noncomputable def xt:T->Cw->Ls->AH->(Bool->AH->Prop)->Prop
 | .not t,C,ls,H,Q=>xt t C ls H λ b H1=>Q (!b) H1
 | .and a b,C,ls,H,Q=>xt a C ls H λ t H1=>(t=true->xt b C ls H1 Q)/\(t=false->Q false H1)
 | .or a b,C,ls,H,Q=>xt a C ls H λ t H1=>(t=true->Q true H1)/\(t=false->xt b C ls H1 Q)
 | .ite c a b,C,ls,H,Q=>xt c C ls H λ t H1=>(t=true->xt a C ls H1 Q)/\(t=false->xt b C ls H1 Q)
 | .cmp op a b,C,ls,H,Q=>xe a C ls H λ u H1=>xe b C ls H1 λ v H2x=>cmp op u v H2x λ t=>Q t H2x
 | .chain a o b p c,C,ls,H,Q=>xe a C ls H λ u H1=>xe b C ls H1 λ v H2x=>cmp o u v H2x λ t =>
   (t=true->xe c C ls H2x λ w H3=>cmp p v w H3 λ t=>Q t H3)/\(t=false->Q false H2x)
 | .isN a,C,ls,H,Q=>xe a C ls H λ u H1=>Q (isNone u) H1
 | .notN a,C,ls,H,Q=>xe a C ls H λ u H1=>Q (!isNone u) H1
 | .eqNil a,C,ls,H,Q=>xe a C ls H λ u H1=>match u with
   | .ref a=>∃ vs,listAt H1 a vs/\Q vs.isEmpty H1
   | _=>False
 | .neNil a,C,ls,H,Q=>xe a C ls H λ u H1=>match u with
   | .ref a=>∃ vs,listAt H1 a vs/\Q (!vs.isEmpty) H1
   | _=>False
 | .neInts a b,C,ls,H,Q=>xe a C ls H λ u H1=>xe b C ls H1 λ v H2x=>match u,v with
   | .ref a,.ref c=>∃ vs ws ns ms,listAt H2x a vs/\listAt H2x c ws/\bW vs=some ns/\bW ws=some ms/\Q (!decide (ns=ms)) H2x
   | _,_=>False
 | .val e,C,ls,H,Q=>xe e C ls H λ u H1=>truthy u H1 λ t=>Q t H1
noncomputable def xes:Es->Cw->Ls->AH->(List V->AH->Prop)->Prop
 | .nil,_,_,H,Q=>Q [] H
 | .cons e r,C,ls,H,Q=>xe e C ls H λ v H1=>xes r C ls H1 λ vs H2x=>Q (v::vs) H2x
end
noncomputable def xs:B->Cw->Ls->AH->(Ls->AH->Prop)->(V->AH->Prop)->Prop
 | .done,_,ls,H,N,_=>N ls H
 | .ret e,C,ls,H,_,Rr=>xe e C ls H Rr
 | .retN,_,_,H,_,Rr=>Rr .none H
 | .raise e,C,ls,H,_,_=>xe e C ls H λ u _=>match u with | .int i=>C.X i|_=>False
 | .set k e r,C,ls,H,N,Rr=>xe e C ls H λ v H1=>xs r C (lput ls k v) H1 N Rr
 | .setN ks e r,C,ls,H,N,Rr=>xe e C ls H λ v H1=>match v with
   | .ref t=>∃ vs,H1 t=some (.tup vs)/\∃ ls',lputs ls ks vs=some ls'/\xs r C ls' H1 N Rr
   | _=>False
 | .setVA k o a e r,C,ls,H,N,Rr=>xe e C ls H λ v H1=>match v with
   | .ref t=>∃ x y,H1 t=some (.tup [x,y])/\xe o C (lput ls k x) H1 λ u H2x=>cN u a y H2x λ H3=>xs r C (lput ls k x) H3 N Rr
   | _=>False
 | .setA o k e r,C,ls,H,N,Rr=>xe e C ls H λ v H1=>xe o C ls H1 λ u H2x=>cN u k v H2x λ H3=>xs r C ls H3 N Rr
 | .setS o i e r,C,ls,H,N,Rr=>xe e C ls H λ v H1=>xe o C ls H1 λ u H2x=>xe i C ls H2x λ j H3=>dj u j v H3 λ H4=>xs r C ls H4 N Rr
 | .ex e r,C,ls,H,N,Rr=>xe e C ls H λ _ H1=>xs r C ls H1 N Rr
 | .cond c a b r,C,ls,H,N,Rr=>xt c C ls H λ t H1 =>
   (t=true->xs a C ls H1 (λ ls' H'=>xs r C ls' H' N Rr) Rr)/\(t=false->xs b C ls H1 (λ ls' H'=>xs r C ls' H' N Rr) Rr)
 | .while c b r,C,ls,H,N,Rr=>∃ I:Nat->Ls->AH->Prop,(∃ n,I n ls H)/\∀ n ls H,I n ls H->xt c C ls H λ t H1 =>
   (t=true->xs b C ls H1 (λ ls' H'=>∃ m,m<n/\I m ls' H') Rr)/\(t=false->xs r C ls H1 N Rr)
 | .for src tg e b r,C,ls,H,N,Rr=>xe e C ls H λ u H1=>∃ items,cF src u H1 items /\
   iL (ay src u items) tg (λ ls' H' K=>xs b C.nox ls' H' K Rr) items ls H1 λ ls' H'=>xs r C ls' H' N Rr
end Internal
end
local macro_rules | `(tactic| walk_at "eI") => `(tactic| dsimp only [Nat.reduceSub, List.map, replicate, List.append, cons_append, nil_append, Internal.lget, Internal.lput, Internal.lputs])
section
open PySem PySem.W PySem.Calls PyProof.Rows
namespace Internal
structure Kt where
 S:Sx
 k:Nat
 A:Around
 fs:List Env
 env:Env
 slots:List Str
def lu (k:Nat)(A:Around):Prop:=A.handled=none/\A.guards=some []/\A.depth+3*k<=900/\A.units+20*k+100<=9000
def qA (k:Nat)(A:Around):Prop:=A.handled=none/\A.guards=some []/\A.depth+3*k+2<=900/\A.units+20*k+110<=9000
theorem qA.room {k A}(h:qA k A):lu k A:=⟨h.1,h.2.1,by have:=h.2.2.1;lia,by have:=h.2.2.2;lia⟩
structure a7 (K:Kt):Prop where
 kind:K.env.scope.kind=.function
 glob:K.env.globals=mainGlobals
 blt:K.env.builtins=builtinsNs
 frames:K.A.frames=some K.fs
 nodup:K.slots.Nodup
 nodbg:∀ nm∈K.slots,(nm==("__debug__" : Str))=false
 room:qA K.k K.A
 lb:K.S.h0x.get? K.env.locals=none
def bh (env:Env)(slots:List Str)(ls:Ls)(H:AH)(h:Heap):Prop :=
 H env.locals=none/\∃ m,h.Ns env.locals m/\∀ k v,lget ls k=some v->∃ nm x,slots[k]?=some nm/\VR v x /\
  ((env.kindOf nm=some .local/\m nm=some x)\/(env.kindOf nm=some .cell/\∃ c o,env.cells.lookup nm=some c/\H c=none/\h.get? c=some o/\o.data=.cell (some x)))
theorem bh.tr {env slots ls H h H' h'}(x:bh env slots ls H h)(T:Tr H h H' h'):bh env slots ls H' h':=by
 obtain ⟨a,m,b,c⟩:=x
 obtain ⟨p,q⟩:=T.ns a b
 refine ⟨q,m,p,λ k v e=>(ln (c k v e) λ nm x e1 e2 e3=>⟨nm,x,e1,e2,e3.imp id λ ⟨f1,cc,o,f2,f3,f4,f5⟩=>⟨f1,cc,o,f2,T.hid f4 f3,T.get f4 f3,f5⟩⟩)⟩
theorem fA:∀ (ls:Ls) (k:Nat) (v:V),lget (lput ls k v) k=some v\/lget (lput ls k v) k=none
 | [],_,_=>.inr rfl
 | _::_,0,_=>.inl rfl
 | _::r,k+1,v=>fA r k v
theorem dm:∀ (ls:Ls) {k j:Nat} (v:V),j≠k->lget (lput ls k v) j=lget ls j
 | [],_,_,_,_=>rfl
 | _::_,0,0,_,h=>absurd rfl h
 | _::_,0,_+1,_,_=>rfl
 | _::_,_+1,0,_,_=>rfl
 | _::r,_+1,_+1,v,h=>dm r v λ e=>h (by exact sr e rfl)
theorem bh.store {env:Env}{slots:List Str}{ls:Ls}{H:AH}{h h':Heap}{k:Nat}{nm:Str}{v:V}{x:Value}{m:Str->Option Value}(g:bh env slots ls H h)(hn:slots.Nodup)(e:slots[k]?=some nm)(hk:env.kindOf nm=some .local)(r:VR v x)
  (hm:h.Ns env.locals m) (hm':h'.Ns env.locals λ y=>if y=nm then some x else m y) (hs:Heap.SameBut env.locals h h'):bh env slots (lput ls k v) H h':=by
 obtain ⟨a,m0x,b,c⟩:=g
 have hmm:m0x=m:=b.eq_nsMap.trans hm.eq_nsMap.symm
 subst hmm
 refine ⟨a,_,hm',λ j u ej=>?_⟩
 by_cases hj:j=k
 .subst hj
  rcases fA ls j v with q|q
  .rw [q] at ej;(injection ej with ej;subst ej)
   exact ⟨nm,x,e,r,.inl ⟨hk,by simp⟩⟩
  .rw [q] at ej;contradiction
 .rw [dm ls v hj] at ej
  refine ln (c j u ej) λ nm' x' e1 e2 e3=>?_
  have hne:nm'≠nm:=λ q=>by
   subst q
   obtain ⟨lj,gj⟩:=List.getElem?_eq_some_iff.mp e1
   obtain ⟨lk,gk⟩:=List.getElem?_eq_some_iff.mp e
   rcases Nat.lt_trichotomy j k with q|q|q
   .exact List.pairwise_iff_getElem.mp hn j k lj lk q (gj.trans gk.symm)
   .exact hj q
   .exact List.pairwise_iff_getElem.mp hn k j lk lj q (gk.trans gj.symm)
  refine ⟨nm',x',e1,e2,e3.imp (λ ⟨f1,f2⟩=>⟨f1,by simp [hne,f2]⟩) λ ⟨f1,cc,o,f2,f3,f4,f5⟩=>⟨f1,cc,o,f2,f3,?_,f5⟩⟩
  have:cc≠env.locals:=by
   rintro rfl
   refine ug hm λ o' es ep ho' hd' uz1=>?_
   rw [f4] at ho';(injection ho' with ho';subst ho')
   rw [f5] at hd';contradiction
  exact (hs.2 cc this).trans f4
noncomputable abbrev Kt.M (K:Kt):Model:=model K.S.prog K.S.w
def an (K:Kt)(β:Bool)(X:Int->Prop)(t:Sem Value)(ls:Ls)(P:AH->(V->AH->Prop)->Prop):Prop :=
 ∀ s H Q,aI K.S K.fs H s->bh K.env K.slots ls H s.heap->P H Q->aF β K.M K.A t (PV K.S K.fs H s.heap Q) (PX K.S K.fs H s.heap X) s
inductive BQ (S:Sx) (fs:List Env) (H:AH) (h:Heap) (Q:Bool->AH->Prop) (b:Bool) (s':Shared):Prop
 | mk (H':AH) (a:aI S fs H' s') (c:Tr H h H' s'.heap) (d:Q b H')
def cv (K:Kt)(β:Bool)(X:Int->Prop)(t:Sem Bool)(ls:Ls)(P:AH->(Bool->AH->Prop)->Prop):Prop :=
 ∀ s H Q,aI K.S K.fs H s->bh K.env K.slots ls H s.heap->P H Q->aF β K.M K.A t (BQ K.S K.fs H s.heap Q) (PX K.S K.fs H s.heap X) s
section
variable {K:Kt}{β:Bool}{X:Int->Prop}{ls:Ls}{P P1 P2 P3:AH->(V->AH->Prop)->Prop}{t t1x t2x t3x:Sem Value}
theorem an.bind {α:Type}{f:Value->Sem α}{s:Shared}{H:AH}{Q:V->AH->Prop}{Z:α->Shared->Prop}{E:Value->Shared->Prop}(h:an K β X t ls P)(R:aI K.S K.fs H s)(L:bh K.env K.slots ls H s.heap)(p:P H Q)
  (k:∀ x u s1x H1,VR u x->aI K.S K.fs H1 s1x->bh K.env K.slots ls H1 s1x.heap->Tr H s.heap H1 s1x.heap->Q u H1->aF β K.M K.A (f x) Z E s1x)
  (hE:∀ e s',PX K.S K.fs H s.heap X e s'->E e s'):aF β K.M K.A (t >>= f) Z E s :=
 aa (aj (h s H Q R L p) (λ x s1x ⟨u,H1,r,R1x,T1,q⟩=>k x u s1x H1 r R1x (L.tr T1) T1 q) hE)
theorem cv.bind {α:Type}{b:Sem Bool}{PB:AH->(Bool->AH->Prop)->Prop}{f:Bool->Sem α}{s:Shared}{H:AH}{Q:Bool->AH->Prop}{Z:α->Shared->Prop}{E:Value->Shared->Prop}(h:cv K β X b ls PB)(R:aI K.S K.fs H s)(L:bh K.env K.slots ls H s.heap)(p:PB H Q)
  (k:∀ x s1x H1,aI K.S K.fs H1 s1x->bh K.env K.slots ls H1 s1x.heap->Tr H s.heap H1 s1x.heap->Q x H1->aF β K.M K.A (f x) Z E s1x)
  (hE:∀ e s',PX K.S K.fs H s.heap X e s'->E e s'):aF β K.M K.A (b >>= f) Z E s :=
 aa (aj (h s H Q R L p) (λ x s1x ⟨H1,R1x,T1,q⟩=>k x s1x H1 R1x (L.tr T1) T1 q) hE)
theorem an.hold {vs:List Value}(h:an K β X t ls P):an K β X (holding vs t) ls P:=λ s H Q R L p=>ai (h s H Q R L p)
theorem an.on {s:Shared}{H H0:AH}{hp:Heap}{Q:V->AH->Prop}(h:an K β X t ls P)(R:aI K.S K.fs H s)(L:bh K.env K.slots ls H s.heap)(T:Tr H0 hp H s.heap)(p:P H Q) :
  aF β K.M K.A t (PV K.S K.fs H0 hp Q) (PX K.S K.fs H0 hp X) s:=aj (h s H Q R L p) (λ _ _ z=>z.trans T) (λ _ _ z=>z.trans T)
theorem BQ.trans {S fs H0 h0x H h Q b s'}(T:Tr H0 h0x H h)(p:BQ S fs H h Q b s'):BQ S fs H0 h0x Q b s':=by obtain ⟨H',a,c,d⟩:=p;exact ⟨H',a,T.trans c,d⟩
theorem cv.on {b:Sem Bool}{PB:AH->(Bool->AH->Prop)->Prop}{s:Shared}{H H0:AH}{hp:Heap}{Q:Bool->AH->Prop}(h:cv K β X b ls PB)(R:aI K.S K.fs H s)(L:bh K.env K.slots ls H s.heap)(T:Tr H0 hp H s.heap)(p:PB H Q) :
  aF β K.M K.A b (BQ K.S K.fs H0 hp Q) (PX K.S K.fs H0 hp X) s:=aj (h s H Q R L p) (λ _ _ z=>z.trans T) (λ _ _ z=>z.trans T)
theorem an.eq (e:t=t1x)(h:an K β X t1x ls P):an K β X t ls P:=e▸h
theorem vA {k pos}:an K β X (eval (.Constant .none k pos) K.env) ls λ H Q=>Q .none H:=λ s H Q R L p =>
 ah (wpAny_pure (PV.same' R (Tr.refl _ _) .none p))
theorem vx {b k pos}:an K β X (eval (.Constant (.bool b) k pos) K.env) ls λ H Q=>Q (.bool b) H:=λ s H Q R L p =>
 ah (wpAny_pure (PV.same' R (Tr.refl _ _) (.bool b) p))
theorem zy {i k pos}:an K β X (eval (.Constant (.int i) k pos) K.env) ls λ H Q=>Q (.int i) H:=λ s H Q R L p =>
 ah (wpAny_Constant_int (PV.same R (Tr.refl _ _) (.int i _) p _))
theorem yX {l:List Nat}{x:Str}{k pos}(e:x=aY l):an K β X (eval (.Constant (.str x) k pos) K.env) ls λ H Q=>Q (.str l) H:=λ s H Q R L p =>
 ah (Constant_str (PV.same R (Tr.refl _ _) (iU e _) p _))
theorem tG {l:List Nat}{b:List UInt8}{k pos}(e:l=b.map UInt8.toNat):an K β X (eval (.Constant (.bytes b) k pos) K.env) ls λ H Q=>Q (.bytes l) H:=λ s H Q R L p=>by
 exact ah (λ _ _ _=>PV.same R (Tr.refl _ _) (fY (by exact sr e rfl) _) p _)
theorem pD (O:a7 K){nm:Str}{k:Nat}{pos}(e:K.slots[k]?=some nm):an K β X (eval (.Name nm pos) K.env) ls λ H Q=>match lget ls k with|some v=>Q v H|none=>False:=λ s H Q R L p=>by
 induction hv:lget ls k with
 | none=>rw [hv] at p;exact p.elim
 | some v =>
  rw [hv] at p
  obtain ⟨a,m,b,c⟩:=L
  refine ln (c k v hv) λ nm' x e1 r e3=>?_
  obtain rfl:nm'=nm:=Option.some.inj (e1.symm.trans e)
  refine ah (wpAny_Name ?_ (O.nodbg _ (mem_of_getElem? e)))
  rcases e3 with ⟨f1,f2⟩|⟨f1,cc,o,f2,f3,f4,f5⟩
  .exact wpAny_loadName_local O.kind f1 b f2 (PV.same' R (Tr.refl _ _) r p)
  .exact wpAny_loadName_cell O.kind f1 f2 ⟨o,f4,f5⟩ (PV.same' R (Tr.refl _ _) r p)
theorem aI.mainG {S fs H s}(R:aI S fs H s):s.heap.Ns mainGlobals S.mg:=S.T.g.keeps R.base
theorem aI.bltG {S fs H s}(R:aI S fs H s):s.heap.Ns builtinsNs S.mb:=S.T.b.keeps R.base
theorem gm (O:a7 K) {nm:Str} {x:Value} {pos:Pos} {s:Shared} {H:AH} {Q:Value->Shared->Prop} {E} (R:aI K.S K.fs H s) (hk:K.env.kindOf nm=some .globalImplicit) (hd:(nm==("__debug__" : Str))=false) (e:K.S.mg nm=some x) (q:Q x s) :
  wpAny K.M K.A (eval (.Name nm pos) K.env) Q E s :=
 Name_function_global O.kind hk (loadGlobal_global (by refine sr O.glob ?_;exact R.mainG) e q) hd
theorem fE (O:a7 K) {nm:Str} {x:Value} {pos:Pos} {s:Shared} {H:AH} {Q:Value->Shared->Prop} {E} (R:aI K.S K.fs H s) (hk:K.env.kindOf nm=some .globalImplicit) (hd:(nm==("__debug__" : Str))=false) (e:K.S.mg nm=none) (e':K.S.mb nm=some x) (q:Q x s) :
  wpAny K.M K.A (eval (.Name nm pos) K.env) Q E s :=
 Name_function_global O.kind hk (loadGlobal_builtin (by refine sr O.glob ?_;exact R.mainG) e (by refine sr O.blt ?_;exact R.bltG) e' q) hd
theorem yU (O:a7 K) {nm:Str} {k:Nat} {x:Value} {pos} (hk:K.env.kindOf nm=some .globalImplicit) (hd:(nm==("__debug__" : Str))=false) (e:K.S.mg nm=some x) (r:VR (j2 k) x) :
  an K β X (eval (.Name nm pos) K.env) ls λ H Q=>Q (j2 k) H:=λ s H Q R L p=>ah (gm O R hk hd e (PV.same' R (Tr.refl _ _) r p))
theorem uo {a b:Expr}{op:BO}{pos}(ha:an K β X (eval a K.env) ls P1)(hb:an K β X (eval b K.env) ls P2) :
  an K β X (eval (.BinOp a op.op b pos) K.env) ls λ H Q=>P1 H λ u H1=>P2 H1 λ v H2x=>kE op u v H2x Q:=λ s H Q R L p=>by
 exact ha.bind R L p (λ x u s1x H1 r1x R1x L1x T1 p1x=>hb.hold.bind R1x L1x p1x (λ y v s2x H2x r2x R2x L2x T2 p2x=>(aa (ag (aU (ah (sw R2x (T1.trans T2) r1x r2x p2x)))))) λ _ _ h=>h.trans T1) λ _ _ h=>h
theorem PB.pv {S fs H0 hp H Q v s'}(p:PB S fs H0 hp H (λ t=>Q (V.bool t) H) v s'):PV S fs H0 hp Q v s' :=
 by obtain ⟨b,e,R,T,q⟩:=p;exact ⟨.bool b,H,e▸.bool b,R,T,q⟩
theorem yO (O:a7 K){a b:Expr}{op:CO}{pos}(ha:an K β X (eval a K.env) ls P1)(hb:an K β X (eval b K.env) ls P2)(hm:behindInMarks op.op b=false) :
  an K β X (eval (.Compare a [op.op] [b] pos) K.env) ls λ H Q=>P1 H λ u H1=>P2 H1 λ v H2x=>cmp op u v H2x λ t=>Q (.bool t) H2x:=λ s H Q R L p=>by
 exact sr (eval_Compare1 ..) (sr (markedBehindIn_of_false hm ..) (ha.bind R L p (λ x u s1x H1 r1x R1x L1x T1 p1x=>hb.hold.bind R1x L1x p1x (λ y v s2x H2x r2x R2x L2x T2 p2x=>(aa (ag (aU (aj (ah (j8 (E:=λ _ _=>False) R2x (T1.trans T2) (.inl O.room.1) r1x r2x p2x)) (λ _ _ h=>h.pv) λ _ _ h=>h.elim))))) λ _ _ h=>h.trans T1) λ _ _ h=>h))
theorem yc {a:Expr}{k pos' pos}(ha:an K β X (eval a K.env) ls P1) :
  an K β X (eval (.Compare a [.Is] [.Constant .none k pos'] pos) K.env) ls λ H Q=>P1 H λ u H1=>Q (.bool (isNone u)) H1:=λ s H Q R L p=>by
 exact ha.bind R L p (λ x u s1x H1 r1x R1x L1x T1 p1x=>aa (ai (ah (wpAny_pure (aa (ag (aU (aj (ah (xw (E:=λ _ _=>False) R1x T1 r1x (Q:=λ t=>Q (.bool t) H1) p1x)) (λ _ _ h=>h.pv) λ _ _ h=>h.elim)))))))) λ _ _ h=>h
theorem v7 {a:Expr}{k pos' pos}(ha:an K β X (eval a K.env) ls P1) :
  an K β X (eval (.Compare a [.IsNot] [.Constant .none k pos'] pos) K.env) ls λ H Q=>P1 H λ u H1=>Q (.bool (!isNone u)) H1:=λ s H Q R L p=>by
 exact ha.bind R L p (λ x u s1x H1 r1x R1x L1x T1 p1x=>aa (ai (ah (wpAny_pure (aa (ag (aU (aj (ah (oj (E:=λ _ _=>False) R1x T1 r1x (Q:=λ t=>Q (.bool t) H1) p1x)) (λ _ _ h=>h.pv) λ _ _ h=>h.elim)))))))) λ _ _ h=>h
theorem Gf {S fs H0 hp H Q v s'}(p:PV S fs H0 hp (λ v H'=>H'=H/\Q v H) v s'):PV S fs H0 hp Q v s' :=
 by obtain ⟨u,H',a,b,c,e,q⟩:=p;exact ⟨u,H',a,b,c,e▸q⟩
theorem yq {a:Expr}{pos}(ha:an K β X (eval a K.env) ls P1) :
  an K β X (eval (.UnaryOp .USub a pos) K.env) ls λ H Q=>P1 H λ u H1=>rC u true λ v=>Q v H1:=λ s H Q R L p=>by
 exact an.bind (t:=eval a K.env) ha R L p (λ x u s1x H1 r1x R1x L1x T1 p1x=>(aa (ag (ai (aj (ah (yK (E:=λ _ _=>False) R1x T1 r1x p1x)) (λ _ _ h=>Gf h) λ _ _ h=>h.elim))))) λ _ _ h=>h
theorem yG {a:Expr}{pos}(ha:an K β X (eval a K.env) ls P1) :
  an K β X (eval (.UnaryOp .Invert a pos) K.env) ls λ H Q=>P1 H λ u H1=>rC u false λ v=>Q v H1:=λ s H Q R L p=>by
 exact an.bind (t:=eval a K.env) ha R L p (λ x u s1x H1 r1x R1x L1x T1 p1x=>(aa (ag (ai (aj (ah (yh (E:=λ _ _=>False) R1x T1 r1x p1x)) (λ _ _ h=>Gf h) λ _ _ h=>h.elim))))) λ _ _ h=>h
theorem nO {s:Shared}{H:AH}{v:V}{x:Value}{Q:Bool->Prop}{Z:Bool->Shared->Prop}{E}(R:aI K.S K.fs H s)(r:VR v x)(p:truthy v H Q)
  (k:∀ b s1x,aI K.S K.fs H s1x->Tr H s.heap H s1x.heap->Q b->Z b s1x):aF β K.M K.A (holding [x] (PySem.truthy x)) Z E s :=
 ai (aj (ah (rI (E:=λ _ _=>False) R (Tr.refl _ _) r p)) (λ b s1x ⟨a,c,d⟩=>k b s1x a c d) λ _ _ h=>h.elim)
theorem zQ {a b:Expr}{pos}(ha:an K β X (eval a K.env) ls P1)(hb:an K β X (eval b K.env) ls P2) :
  an K β X (eval (.BoolOp .And [a,b] pos) K.env) ls λ H Q=>P1 H λ u H1=>truthy u H1 λ t=>(t=true->P2 H1 Q)/\(t=false->Q u H1):=λ s H Q R L p=>by
 refine an.bind (t:=eval a K.env) ha R L p (λ x u s1x H1 r1x R1x L1x T1 p1x=>aa (ag (aa (nO R1x r1x p1x λ b s2x R2x T2 q=>?_)))) λ _ _ h=>h
 induction b with
 | true=>exact hb.on R2x (L1x.tr T2) (T1.trans T2) (q.1 rfl)
 | false=>exact ae (PV.same' R2x (T1.trans T2) r1x (q.2 rfl))
theorem AD {a b:Expr}{pos}(ha:an K β X (eval a K.env) ls P1)(hb:an K β X (eval b K.env) ls P2) :
  an K β X (eval (.BoolOp .Or [a,b] pos) K.env) ls λ H Q=>P1 H λ u H1=>truthy u H1 λ t=>(t=true->Q u H1)/\(t=false->P2 H1 Q):=λ s H Q R L p=>by
 refine an.bind (t:=eval a K.env) ha R L p (λ x u s1x H1 r1x R1x L1x T1 p1x=>aa (ag (aa (nO R1x r1x p1x λ b s2x R2x T2 q=>?_)))) λ _ _ h=>h
 induction b with
 | true=>exact ae (PV.same' R2x (T1.trans T2) r1x (q.1 rfl))
 | false=>exact hb.on R2x (L1x.tr T2) (T1.trans T2) (q.2 rfl)
theorem yn {c a b:Expr}{pos}{PC:AH->(Bool->AH->Prop)->Prop}(hc:cv K β X (isTrue c K.env (eval c K.env)) ls PC)(ha:an K β X (eval a K.env) ls P1)(hb:an K β X (eval b K.env) ls P2) :
  an K β X (eval (.IfExp c a b pos) K.env) ls λ H Q=>PC H λ t H1=>(t=true->P1 H1 Q)/\(t=false->P2 H1 Q):=λ s H Q R L p=>by
 refine cv.bind (b:=isTrue c K.env (eval c K.env)) hc R L p (λ t s1x H1 R1x L1x T1 p1x=>?_) λ _ _ h=>h
 induction t with
 | true=>exact ha.on R1x L1x T1 (p1x.1 rfl)
 | false=>exact hb.on R1x L1x T1 (p1x.2 rfl)
theorem xZ {a i:Expr}{pos}(ha:an K β X (eval a K.env) ls P1)(hb:an K β X (eval i K.env) ls P2)(hs:∀ x y,subscripted i false x y=operate [x,y] (getItem x y)) :
  an K β X (eval (.Subscript a i pos) K.env) ls λ H Q=>P1 H λ u H1=>P2 H1 λ v H2x=>iI u v H2x λ r=>Q r H2x:=λ s H Q R L p=>by
 exact an.bind (t:=eval a K.env) ha R L p (λ x u s1x H1 r1x R1x L1x T1 p1x=>hb.hold.bind R1x L1x p1x (λ y v s2x H2x r2x R2x L2x T2 p2x=>aa (ag (aj (ah (vD (E:=λ _ _=>False) (value:=a) (slice:=i) R2x (T1.trans T2) r1x r2x p2x hs)) (λ _ _ h=>Gf h) λ _ _ h=>h.elim))) λ _ _ h=>h.trans T1) λ _ _ h=>h
theorem yI {a:Expr}(e:isTrue a K.env (eval a K.env)=(do let v <- eval a K.env;standAt a.pos;holding [v] (PySem.truthy v)))(ha:an K β X (eval a K.env) ls P1) :
  cv K β X (isTrue a K.env (eval a K.env)) ls λ H Q=>P1 H λ u H1=>truthy u H1 λ t=>Q t H1:=λ s H Q R L p=>by
 exact sr e (ha.bind R L p (λ x u s1x H1 r1x R1x L1x T1 p1x=>(aa (ag (nO R1x r1x p1x λ b s2x R2x T2 q=>⟨H1,R2x,T1.trans T2,q⟩)))) λ _ _ h=>h)
theorem ym {a:Expr}{pos}{PA:AH->(Bool->AH->Prop)->Prop}(ha:cv K β X (isTrue a K.env (eval a K.env)) ls PA) :
  cv K β X (isTrue (.UnaryOp .Not a pos) K.env (eval (.UnaryOp .Not a pos) K.env)) ls λ H Q=>PA H λ b H1=>Q (!b) H1:=λ s H Q R L p=>by
 exact ha.bind R L p (λ x s1x H1 R1x L1x T1 p1x=>ae ⟨H1,R1x,T1,p1x⟩) λ _ _ h=>h
theorem zq {a b:Expr}{pos w}{PA PB:AH->(Bool->AH->Prop)->Prop}(ha:cv K β X (isTrue a K.env (eval a K.env)) ls PA)(hb:cv K β X (isTrue b K.env (eval b K.env)) ls PB) :
  cv K β X (isTrue (.BoolOp .And [a,b] pos) K.env w) ls λ H Q=>PA H λ t H1=>(t=true->PB H1 Q)/\(t=false->Q false H1):=λ s H Q R L p=>by
 refine ha.bind R L p (λ x s1x H1 R1x L1x T1 p1x=>?_) λ _ _ h=>h
 induction x with
 | false=>exact ae ⟨H1,R1x,T1,p1x.2 rfl⟩
 | true =>
  refine hb.bind R1x L1x (p1x.1 rfl) (λ y s2x H2x R2x L2x T2 p2x=>?_) λ _ _ h=>h.trans T1
  cases y<;>exact ae ⟨H2x,R2x,T1.trans T2,p2x⟩
theorem Bh {a b:Expr}{pos w}{PA PB:AH->(Bool->AH->Prop)->Prop}(ha:cv K β X (isTrue a K.env (eval a K.env)) ls PA)(hb:cv K β X (isTrue b K.env (eval b K.env)) ls PB) :
  cv K β X (isTrue (.BoolOp .Or [a,b] pos) K.env w) ls λ H Q=>PA H λ t H1=>(t=true->Q true H1)/\(t=false->PB H1 Q):=λ s H Q R L p=>by
 refine ha.bind R L p (λ x s1x H1 R1x L1x T1 p1x=>?_) λ _ _ h=>h
 induction x with
 | true=>exact ae ⟨H1,R1x,T1,p1x.1 rfl⟩
 | false =>
  refine hb.bind R1x L1x (p1x.2 rfl) (λ y s2x H2x R2x L2x T2 p2x=>?_) λ _ _ h=>h.trans T1
  cases y<;>exact ae ⟨H2x,R2x,T1.trans T2,p2x⟩
theorem zJ {c a b:Expr}{pos w}{PC PA PB:AH->(Bool->AH->Prop)->Prop}(hc:cv K β X (isTrue c K.env (eval c K.env)) ls PC)(ha:cv K β X (isTrue a K.env (eval a K.env)) ls PA)(hb:cv K β X (isTrue b K.env (eval b K.env)) ls PB) :
  cv K β X (isTrue (.IfExp c a b pos) K.env w) ls λ H Q=>PC H λ t H1=>(t=true->PA H1 Q)/\(t=false->PB H1 Q):=λ s H Q R L p=>by
 refine hc.bind R L p (λ x s1x H1 R1x L1x T1 p1x=>?_) λ _ _ h=>h
 induction x with
 | true=>exact ha.on R1x L1x T1 (p1x.1 rfl)
 | false=>exact hb.on R1x L1x T1 (p1x.2 rfl)
theorem PB.tt {S fs H0 hp H Q v s'}(p:PB S fs H0 hp H Q v s'):∃ b,v=.bool b/\aI S fs H s'/\Tr H0 hp H s'.heap/\Q b:=p
theorem k8 {b:Bool}{Z:Bool->Shared->Prop}{E}{s:Shared}(h:Z b s):aF β K.M K.A (holding [Value.bool b] (PySem.truthy (.bool b))) Z E s:=ai (ah (wpAny_truthy_bool h))
theorem zT (O:a7 K){a b:Expr}{op:CO}{pos w}(ha:an K β X (eval a K.env) ls P1)(hb:an K β X (eval b K.env) ls P2)(hm:behindInMarks op.op b=false) :
  cv K β X (isTrue (.Compare a [op.op] [b] pos) K.env w) ls λ H Q=>P1 H λ u H1=>P2 H1 λ v H2x=>cmp op u v H2x λ t=>Q t H2x:=λ s H Q R L p=>by
 refine sr (isTrue_Compare1 ..) (sr (markedBehindIn_of_false hm ..) (ha.bind R L p (λ x u s1x H1 r1x R1x L1x T1 p1x=>hb.hold.bind R1x L1x p1x (λ y v s2x H2x r2x R2x L2x T2 p2x=>aa (ag (aa (aU (aj (ah (j8 (E:=λ _ _=>False) R2x (T1.trans T2) (.inl O.room.1) r1x r2x p2x)) (λ c s3x h=>?_) λ _ _ h=>h.elim))))) λ _ _ h=>h.trans T1) λ _ _ h=>h))
 refine lT h λ t ez1 R3x T3 q=>?_;subst ez1
 exact k8 ⟨H2x,R3x,T3,q⟩
theorem zR {a:Expr}{k pos' pos w}(ha:an K β X (eval a K.env) ls P1) :
  cv K β X (isTrue (.Compare a [.Is] [.Constant .none k pos'] pos) K.env w) ls λ H Q=>P1 H λ u H1=>Q (isNone u) H1:=λ s H Q R L p=>by
 refine ha.bind R L p (λ x u s1x H1 r1x R1x L1x T1 p1x=>aa (ai (ah (wpAny_pure (aa (ag (aa (aU (aj (ah (xw (E:=λ _ _=>False) R1x T1 r1x (Q:=λ t=>Q t H1) p1x)) (λ c s3x h=>?_) λ _ _ h=>h.elim))))))))) λ _ _ h=>h
 obtain ⟨t,rfl,R3x,T3,q⟩:=h
 exact k8 ⟨H1,R3x,T3,q⟩
theorem wF {a:Expr}{k pos' pos w}(ha:an K β X (eval a K.env) ls P1) :
  cv K β X (isTrue (.Compare a [.IsNot] [.Constant .none k pos'] pos) K.env w) ls λ H Q=>P1 H λ u H1=>Q (!isNone u) H1:=λ s H Q R L p=>by
 refine ha.bind R L p (λ x u s1x H1 r1x R1x L1x T1 p1x=>aa (ai (ah (wpAny_pure (aa (ag (aa (aU (aj (ah (oj (E:=λ _ _=>False) R1x T1 r1x (Q:=λ t=>Q t H1) p1x)) (λ c s3x h=>?_) λ _ _ h=>h.elim))))))))) λ _ _ h=>h
 refine lT h λ t ez1 R3x T3 q=>?_;subst ez1
 exact k8 ⟨H1,R3x,T3,q⟩
theorem cZ {vs keep:List Value}{Q:Unit->Shared->Prop}{E}{s:Shared}(h:Q () s):aF β K.M K.A (release vs keep) Q E s:=λ Γ p hΓ hc=>by exact sr (Sem.wp_release ..) h
theorem ua (O:a7 K){a b c:Expr}{o p:CO}{pos w}(ha:an K β X (eval a K.env) ls P1)(hb:an K β X (eval b K.env) ls P2)(hc:an K β X (eval c K.env) ls P3)(hm:behindInMarks p.op c=false) :
  cv K β X (isTrue (.Compare a [o.op,p.op] [b,c] pos) K.env w) ls λ H Q=>P1 H λ u H1=>P2 H1 λ v H2x=>cmp o u v H2x λ t =>
   (t=true->P3 H2x λ w H3=>cmp p v w H3 λ t=>Q t H3)/\(t=false->Q false H2x):=λ s H Q R L h=>by
 refine sr (arm_isTrue_Compare ..) (ha.bind R L h (λ x u s1x H1 r1x R1x L1x T1 p1x=>?_) λ _ _ h=>h)
 show aF _ _ _ (do
  let rv <- holding [x] (eval b K.env)
  standAt pos
  let c1x <- holding [x,rv] (compareOp o.op x rv)
  release [x,rv] [c1x]
  if <- holding [c1x,rv] (PySem.truthy c1x) then testChain pos rv [p.op] [markedBehindIn p.op c (eval c K.env)] else pure false) _ _ s1x
 refine hb.hold.bind R1x L1x p1x (λ y v s2x H2x r2x R2x L2x T2 p2x=>aa (ag (aa (ai (aj (ah (j8 (E:=λ _ _=>False) R2x (T1.trans T2) (.inl O.room.1) r1x r2x p2x)) (λ c1x s3x h=>?_) λ _ _ h=>h.elim))))) λ _ _ h=>h.trans T1
 refine lT h λ t ez1 R3x T3 q=>?_;subst ez1
 refine aa (cZ (aa (ai (ah (wpAny_truthy_bool ?_)))))
 induction t with
 | false=>exact ae ⟨H2x,R3x,T3,q.2 rfl⟩
 | true =>
  show aF _ _ _ (do
   let rv <- holding [y] (markedBehindIn p.op c (eval c K.env))
   standAt pos
   let c1x <- operate [y,rv] (compareOp p.op y rv)
   holding [c1x] (PySem.truthy c1x)) _ _ s3x
  refine sr (markedBehindIn_of_false hm) ?_
  have L3x:bh K.env K.slots ls H2x s3x.heap:=L.tr T3
  refine hc.hold.bind R3x L3x (q.1 rfl) (λ z w' s4x H4 r4x R4x L4x T4 p4x=>aa (ag (aa (aU (aj (ah (j8 (E:=λ _ _=>False) R4x (T3.trans T4) (.inl O.room.1) r2x r4x p4x)) (λ c s5 h=>?_) λ _ _ h=>h.elim))))) λ _ _ h=>h.trans T3
  refine lT h λ t ez1 R5x T5x q=>?_;subst ez1
  exact k8 ⟨H4,R5x,T5x,q⟩
end
inductive FM (S:Sx) (fs:List Env) (H:AH) (h:Heap) (Q:List V->AH->Prop) (xs:List Value) (s':Shared):Prop
 | mk (vs:List V) (H':AH) (a:cO vs xs) (b:aI S fs H' s') (c:Tr H h H' s'.heap) (d:Q vs H')
def fc (K:Kt)(β:Bool)(X:Int->Prop)(t:Sem (List Value))(ls:Ls)(P:AH->(List V->AH->Prop)->Prop):Prop :=
 ∀ s H Q,aI K.S K.fs H s->bh K.env K.slots ls H s.heap->P H Q ->
  aF β K.M K.A t (FM K.S K.fs H s.heap Q) (PX K.S K.fs H s.heap X) s
section
variable {K:Kt}{β:Bool}{X:Int->Prop}{ls:Ls}{P P1 P2 P3:AH->(V->AH->Prop)->Prop}{PE:AH->(List V->AH->Prop)->Prop}
theorem fc.bind {α:Type}{t:Sem (List Value)}{f:List Value->Sem α}{s:Shared}{H:AH}{Q:List V->AH->Prop}{Z:α->Shared->Prop}{E:Value->Shared->Prop}(h:fc K β X t ls PE)(R:aI K.S K.fs H s)(L:bh K.env K.slots ls H s.heap)(p:PE H Q)
  (k:∀ xs vs s1x H1,cO vs xs->aI K.S K.fs H1 s1x->bh K.env K.slots ls H1 s1x.heap->Tr H s.heap H1 s1x.heap->Q vs H1->aF β K.M K.A (f xs) Z E s1x)
  (hE:∀ e s',PX K.S K.fs H s.heap X e s'->E e s'):aF β K.M K.A (t >>= f) Z E s :=
 aa (aj (h s H Q R L p) (λ x s1x ⟨u,H1,r,R1x,T1,q⟩=>k x u s1x H1 r R1x (L.tr T1) T1 q) hE)
theorem fc.hold {vs:List Value}{t:Sem (List Value)}(h:fc K β X t ls PE):fc K β X (holding vs t) ls PE:=λ s H Q R L p=>ai (h s H Q R L p)
theorem pR {pos:Pos}:fc K β X (spliced (backTo pos (starEach [] K.env))) ls λ H Q=>Q [] H:=λ s H Q R L p =>
 ae ⟨[],H,.nil,R,Tr.refl _ _,p⟩
theorem nH {e:Expr}{r:List Expr}{pos:Pos}(hs:starEach (e::r) K.env=(false,eval e K.env)::starEach r K.env)(he:an K β X (eval e K.env) ls P1)(hr:fc K β X (spliced (backTo pos (starEach r K.env))) ls PE) :
  fc K β X (spliced (backTo pos (starEach (e::r) K.env))) ls λ H Q=>P1 H λ v H1=>PE H1 λ vs H2x=>Q (v::vs) H2x:=λ s H Q R L p=>by
 refine sr hs ?_
 show aF _ _ _ (spliced ((false,eval e K.env)::backTo pos (starEach r K.env))) _ _ s
 rw [spliced]
 exact he.bind R L p (λ x u s1x H1 r1x R1x L1x T1 p1x=>aa (ae (hr.hold.bind R1x L1x p1x (λ xs vs s2x H2x r2x R2x L2x T2 p2x=>(ae ⟨u::vs,H2x,.cons r1x r2x,R2x,T1.trans T2,p2x⟩)) λ _ _ h=>h.trans T1))) λ _ _ h=>h
theorem yd {es:List Expr}{k pos}(he:fc K β X (spliced (backTo pos (starEach es K.env))) ls PE) :
  an K β X (eval (.Tuple es k pos) K.env) ls λ H Q=>PE H λ vs H1=>vs.length<=100/\∀ c,H1 c=none->Q (.ref c) (H1.set c (.tup vs)):=λ s H Q R L p=>by
 show aF _ _ _ (do standAt pos;newTuple (<- spliced (backTo pos (starEach es K.env)))) _ _ s
 refine aa (ag (he.bind R L p (λ xs vs s1x H1 r1x R1x L1x T1 p1x=>?_) λ _ _ h=>h))
 exact ah (wpAny_newTuple (PV.made R1x T1 (.tup (by refine sr toList_toArray ?_;exact r1x)) rfl p1x.2 s1x.toks) (by refine sr r1x.length (sr sizeLine_eq ?_);have:=p1x.1;lia))
theorem xY {es:List Expr}{pos}(he:fc K β X (spliced (backTo pos (starEach es K.env))) ls PE) :
  an K β X (eval (.List es pos) K.env) ls λ H Q=>PE H λ vs H1=>vs.length<=100/\∀ c,H1 c=none->Q (.ref c) (H1.set c (.list vs)):=λ s H Q R L p=>by
 show aF _ _ _ (do standAt pos;newList (<- spliced (backTo pos (starEach es K.env)))) _ _ s
 refine aa (ag (he.bind R L p (λ xs vs s1x H1 r1x R1x L1x T1 p1x=>?_) λ _ _ h=>h))
 exact ah (wpAny_newObj_type (PV.made R1x T1 (.list (by refine sr toList_toArray ?_;exact r1x)) rfl p1x.2 s1x.toks) (by show xs.toArray.size<=sizeLine;refine sr size_toArray (sr r1x.length (sr sizeLine_eq ?_));have:=p1x.1;omega))
theorem zf {a lo hi:Expr}{p pos}(ha:an K β X (eval a K.env) ls P1)(hl:an K β X (eval lo K.env) ls P2)(hh:an K β X (eval hi K.env) ls P3) :
  an K β X (eval (.Subscript a (.Slice (some lo) (some hi) none p) pos) K.env) ls λ H Q=>P1 H λ u H1=>P2 H1 λ l H2x=>P3 H2x λ h H3=>match l,h with
   | .int i,.int j=>slc u (some i) (some j) H3 Q
   | _,_=>False:=λ s H Q R L pp=>by
 refine an.bind (t:=eval a K.env) ha R L pp (λ x u s1x H1 r1x R1x L1x T1 p1x=>aa (ai (an.bind (t:=eval lo K.env) hl R1x L1x p1x (λ y l s2x H2x r2x R2x L2x T2 p2x=>an.bind (t:=holding [y] (eval hi K.env)) hh.hold R2x L2x p2x (λ z h s3x H3 r3x R3x L3x T3 p3x=>aa (ai (ae ?_))) λ _ _ h=>(h.trans T2).trans T1) λ _ _ h=>h.trans T1))) λ _ _ h=>h
 induction r2x with
 | int i t =>
  induction r3x with
  | int j t' =>
   refine ah (wpAny_newObj_type ?_ (by show 3<=sizeLine+2;refine sr sizeLine_eq ?_;decide))
   refine aa (ag ?_)
   have R4x:=R3x.push {cls:=.type "slice", data:=.fields #[.int i t,.int j t',.none]}
   have T4:=((T1.trans T2).trans T3).trans (Tr.push H3 s3x.heap {cls:=.type "slice", data:=.fields #[.int i t,.int j t',.none]})
   refine bc λ zz=>?_
   obtain ⟨g,T,id,hT,hlk⟩:=ux (E:=λ _ _=>False) (A:=K.A) R4x T4 r1x (Heap.IsSliceOf.new s3x.heap (.int i t) (.int j t') .none) (.int i t) (.int j t') p3x
   exact zz (aj (ah (tail_any (value:=a) (slice:=.Slice (some lo) (some hi) none p) hT hlk g rfl)) (λ _ _ h=>h) λ _ _ h=>h.elim)
  | _=>exact p3x.elim
 | _=>exact p3x.elim
theorem tw {a hi:Expr}{p pos}(ha:an K β X (eval a K.env) ls P1)(hh:an K β X (eval hi K.env) ls P3) :
  an K β X (eval (.Subscript a (.Slice none (some hi) none p) pos) K.env) ls λ H Q=>P1 H λ u H1=>P3 H1 λ h H3=>match h with
   | .int j=>slc u none (some j) H3 Q
   | _=>False:=λ s H Q R L pp=>by
 refine an.bind (t:=eval a K.env) ha R L pp (λ x u s1x H1 r1x R1x L1x T1 p1x=>aa (ai (aa (ae (an.bind (t:=holding [.none] (eval hi K.env)) hh.hold R1x L1x p1x (λ z h s3x H3 r3x R3x L3x T3 p3x=>aa (ai (ae ?_))) λ _ _ h=>h.trans T1))))) λ _ _ h=>h
 induction r3x with
 | int j t' =>
  refine ah (wpAny_newObj_type ?_ (by show 3<=sizeLine+2;refine sr sizeLine_eq ?_;decide))
  refine aa (ag ?_)
  have R4x:=R3x.push {cls:=.type "slice", data:=.fields #[.none,.int j t',.none]}
  have T4:=(T1.trans T3).trans (Tr.push H3 s3x.heap {cls:=.type "slice", data:=.fields #[.none,.int j t',.none]})
  refine bc λ zz=>?_
  obtain ⟨g,T,id,hT,hlk⟩:=ux (E:=λ _ _=>False) (A:=K.A) R4x T4 r1x (Heap.IsSliceOf.new s3x.heap .none (.int j t') .none) .none (.int j t') p3x
  exact zz (aj (ah (tail_any (value:=a) (slice:=.Slice none (some hi) none p) hT hlk g rfl)) (λ _ _ h=>h) λ _ _ h=>h.elim)
 | _=>exact p3x.elim
theorem tW (O:a7 K){a:Expr}{p pos w}(ha:an K β X (eval a K.env) ls P1) :
  cv K β X (isTrue (.Compare a [.Eq] [.List [] p] pos) K.env w) ls λ H Q=>P1 H λ u H1=>match u with
   | .ref a=>∃ vs,listAt H1 a vs/\Q vs.isEmpty H1
   | _=>False:=λ s H Q R L pp=>by
 refine ha.bind R L pp (λ x u s1x H1 r1x R1x L1x T1 p1x=>?_) λ _ _ h=>h
 refine aa (ai (aa (ag (aa (ae (ah (wpAny_newObj_type ?_ (by show 0<=sizeLine;omega))))))))
 refine r1x.mR p1x λ a p1x=>aT p1x λ vs e q=>?_
 have R2x:=R1x.push {cls:=.type "list", data:=.seq ([]:List Value).toArray}
 have T2:=T1.trans (Tr.push H1 s1x.heap {cls:=.type "list", data:=.seq ([]:List Value).toArray})
 refine aa (ag (aa (aU (aj (ah (tm (E:=λ _ _=>False) (Q:=λ b=>Q b H1) R2x T2 (by have:=O.room.2.2.2;dsimp only [cLine];omega) e (Heap.get?_push_size _ rfl) q)) (λ c s3x h=>?_) λ _ _ h=>h.elim))))
 refine lT h λ t ez1 R3x T3 q=>?_;subst ez1
 exact k8 ⟨H1,R3x,T3,q⟩
theorem ul (O:a7 K){a:Expr}{p pos w}(ha:an K β X (eval a K.env) ls P1) :
  cv K β X (isTrue (.Compare a [.NotEq] [.List [] p] pos) K.env w) ls λ H Q=>P1 H λ u H1=>match u with
   | .ref a=>∃ vs,listAt H1 a vs/\Q (!vs.isEmpty) H1
   | _=>False:=λ s H Q R L pp=>by
 refine ha.bind R L pp (λ x u s1x H1 r1x R1x L1x T1 p1x=>?_) λ _ _ h=>h
 refine aa (ai (aa (ag (aa (ae (ah (wpAny_newObj_type ?_ (by show 0<=sizeLine;lia))))))))
 refine r1x.mR p1x λ a p1x=>aT p1x λ vs e q=>?_
 have R2x:=R1x.push {cls:=.type "list", data:=.seq ([]:List Value).toArray}
 have T2:=T1.trans (Tr.push H1 s1x.heap {cls:=.type "list", data:=.seq ([]:List Value).toArray})
 refine aa (ag (aa (aU (aj (ah (t6 (E:=λ _ _=>False) (Q:=λ b=>Q b H1) R2x T2 (by have:=O.room.2.2.2;dsimp only [cLine];lia) e (Heap.get?_push_size _ rfl) q)) (λ c s3x h=>?_) λ _ _ h=>h.elim))))
 refine lT h λ t ez1 R3x T3 q=>?_;subst ez1
 exact k8 ⟨H1,R3x,T3,q⟩
theorem rY (O:a7 K){a b:Expr}{pos w}(ha:an K β X (eval a K.env) ls P1)(hb:an K β X (eval b K.env) ls P2)(hm:behindInMarks .NotEq b=false) :
  cv K β X (isTrue (.Compare a [.NotEq] [b] pos) K.env w) ls λ H Q=>P1 H λ u H1=>P2 H1 λ v H2x=>match u,v with
   | .ref a,.ref c=>∃ vs ws ns ms,listAt H2x a vs/\listAt H2x c ws/\bW vs=some ns/\bW ws=some ms/\Q (!decide (ns=ms)) H2x
   | _,_=>False:=λ s H Q R L pp=>by
 refine sr (isTrue_Compare1 ..) (sr (markedBehindIn_of_false hm ..) (ha.bind R L pp (λ x u s1x H1 r1x R1x L1x T1 p1x=>hb.hold.bind R1x L1x p1x (λ y v s2x H2x r2x R2x L2x T2 p2x=>?_) λ _ _ h=>h.trans T1) λ _ _ h=>h))
 induction r1x with
 | ref a =>
  induction r2x with
  | ref c =>
   refine bc λ zz=>EI p2x λ vs ws ns ms e1 e2 e3 e4 q=>zz ?_
   refine aa (ag (aa (aU (aj (ah (r9 (E:=λ _ _=>False) (Q:=λ b=>Q b H2x) R2x (T1.trans T2) (by have:=O.room.2.2.2;dsimp only [cLine];omega) e1 e2 e3 e4 q)) (λ c s3x h=>?_) λ _ _ h=>h.elim))))
   refine bc λ zz=>?_
   refine lT h λ t ez1 R3x T3 q=>?_;subst ez1
   exact zz (k8 ⟨H2x,R3x,T3,q⟩)
  | _=>exact p2x.elim
 | _=>exact p2x.elim
def uK (K:Kt)(β:Bool)(X:Int->Prop)(t:Sem (List (Value×Value)))(ks:List (List Nat))(ls:Ls)(P:AH->(List V->AH->Prop)->Prop):Prop :=
 ∀ s H Q,aI K.S K.fs H s->bh K.env K.slots ls H s.heap->P H Q ->
  aF β K.M K.A t (λ xs s'=>∃ vs H',cO vs (xs.map (·.2))/\(∃ ts:List Tok,xs.map (·.1)=(ks.zip ts).map λ p=>Value.str (aY p.1) p.2)/\xs.length=ks.length/\aI K.S K.fs H' s'/\Tr H s.heap H' s'.heap/\Q vs H') (PX K.S K.fs H s.heap X) s
theorem ze:uK K β X (evalPairs []) [] ls λ H Q=>Q [] H:=λ s H Q R L p=>ae ⟨[],H,.nil,⟨[],rfl⟩,rfl,R,Tr.refl _ _,p⟩
theorem vL {x:Str}{l:List Nat}{kk kp:_}{e:Expr}{pos:Pos}{r:List (Sem Value×Sem Value)}{ks:List (List Nat)}(hx:x=aY l)(he:an K β X (eval e K.env) ls P1)(hr:uK K β X (evalPairs r) ks ls PE) :
  uK K β X (evalPairs ((eval (.Constant (.str x) kk kp) K.env,do let x <- eval e K.env;standAt pos;pure x)::r)) (l::ks) ls λ H Q=>P1 H λ v H1=>PE H1 λ vs H2x=>Q (v::vs) H2x:=λ s H Q R L p=>by
 refine aa (ah (Constant_str (aa (ai ?_))))
 have L0x:bh K.env K.slots ls H s.heap:=L
 refine an.bind (s:={s with toks:=s.toks+1}) (t:=eval e K.env) he (R.toks _) L p (λ x' u s1x H1 r1x R1x L1x T1 p1x=>aa (ag (ae (aa (ai (aj (hr s1x H1 _ R1x L1x p1x) (λ xs s2x h=>bc λ zz=>?_) λ _ _ h=>h.trans T1)))))) λ _ _ h=>h
 refine E3 h λ vs H2x a uz1 c d f g=>?_;obtain ⟨ts,b⟩:=uz1
 refine zz ?_
 exact ae ⟨u::vs,H2x,.cons r1x a,⟨s.toks::ts,by simp [b,hx]⟩,by simp [c],d,T1.trans f,g⟩
theorem p8 {kvs:List (Str×Value)}{k:Str}{v:Value}(h:k∉kvs.map (·.1)):stored kvs k v=kvs++[(k,v)]:=by
 dsimp only [stored]
 rw [if_neg]
 intro q
 rw [any_eq_true] at q
 refine aT q λ p hp e=>?_
 exact h (mem_map.mpr ⟨p,hp,by simpa using e⟩)
theorem oX {s:Shared}{d:Addr}{Z:PUnit->Shared->Prop}{E}:∀ (xs:List (Value×Value)) (ks:List (List Nat)) (ts:List Tok) (done:List (Str×Value)) (s:Shared),
  xs.map (·.1)=((ks.zip ts).map λ p=>Value.str (aY p.1) p.2)->xs.length=ks.length->(done.map (·.1)++ks.map aY).Nodup->done.length+ks.length<=16->s.heap.DictOf (strKind K.S.prog K.S.w) d done ->
  (∀ h' tk,h'.DictOf (strKind K.S.prog K.S.w) d (done++(ks.map aY).zip (xs.map (·.2)))->Heap.SameBut d s.heap h'->Z ⟨⟩ {s with heap:=h',toks:=tk}) ->
  wpAny K.M K.A (forIn xs PUnit.unit λ p _=>do dictSet d p.1 p.2;pure (ForInStep.yield PUnit.unit)) Z E s
 | [],ks,ts,done,s,e,hl,hn,hz,hd,hZ=>by
  obtain rfl:ks=[]:=List.eq_nil_of_length_eq_zero hl.symm
  exact wpAny_pure (hZ s.heap s.toks (by simpa using hd) (.refl ..))
 | (a,b)::xs,ks,ts,done,s,e,hl,hn,hz,hd,hZ=>by
  induction ks with
  | nil=>contradiction
  | cons k ks =>
   induction ts with
   | nil=>simp at e
   | cons t ts =>
    simp only [map_cons,List.zip_cons_cons,List.cons.injEq] at e
    obtain ⟨rfl,e⟩:=e
    refine sr (forIn_cons ..) ?_
    have hnk:aY k∉done.map (·.1):=λ hm=>by
     rw [List.nodup_append] at hn
     exact hn.2.2 _ hm _ (by simp) rfl
    refine wpAny_bind (wpAny_bind (wpAny_dictSet_pairs (strKind_is _ _ _ _) hd (λ h' hd' hs'=>wpAny_pure ?_) (by refine sr sizeLine_eq ?_;lia)))
    rw [p8 hnk] at hd'
    refine oX (s:=s) xs ks ts (done++[(aY k,b)]) {s with heap:=h',toks:=s.toks+1} e (by simpa using hl) (by simpa using hn) (by simp at hz ⊢;lia) hd' λ h'' tk hd'' hs''=>?_
    exact hZ h'' tk (by simpa using hd'') (hs'.trans hs'')
theorem qp {vs:List V}{xs:List Value}(r:cO vs xs):∀ ks:List (List Nat),bQ aY (ks.zip vs) ((ks.map aY).zip xs):=by
 induction r with
 | nil=>intro ks;simp;exact .nil
 | cons a _ ih =>
  intro ks
  induction ks with
  | nil=>exact .nil
  | cons k ks=>exact .cons a (ih ks)
theorem Gg {S:Sx}{fs:List Env}{H0 H:AH}{s0 s:Shared}{d:Addr}{h':Heap}{ao:AO}{o:Obj}(R0:aI S fs H0 s0)(R:aI S fs H s)(fr:s0.heap.get? d=none)(hn:S.New d)(T:Tr H0 s0.heap H s.heap)
  (hid:H d=none) (hs:Heap.SameBut d s.heap h') (g:h'.get? d=some o) (r:OR S ao o) (tk:Nat):aI S fs (H.set d ao) {s with heap:=h',toks:=tk}/\Tr H0 s0.heap (H.set d ao) h':=by
 have hb:=hn.1
 refine ⟨⟨λ b ob e=>?_,λ b bo q=>?_,Gc R.frames λ env m L ob e g'=>?_,λ env m L e=>?_,R.gens,R.os⟩,⟨λ b ob e n=>?_,λ b e=>?_⟩⟩
 .have:b≠d:=by rintro rfl;rw [hb] at e;contradiction
  exact (hs.2 b this).trans (R.base b ob e)
 .by_cases h:b=d
  .subst h;rw [F3] at q;(injection q with q;subst q);exact ⟨.inl hn,o,g,r⟩
  .rw [F4 _ _ h] at q
   obtain ⟨x,ob,y,z⟩:=R.objs b bo q
   exact ⟨x,ob,(hs.2 b h).trans y,z⟩
 .have:L≠d:=by
   rintro rfl
   refine sf (FunFrames.mem R0.frames env m) λ L' o' a uz1 c uz2=>?_
   rw [e] at a;(injection a with a;subst a)
   rw [fr] at c;contradiction
  exact ⟨ob,(hs.2 L this).trans g',rfl⟩
 .have:L≠d:=by
   rintro rfl
   refine sf (FunFrames.mem R0.frames env m) λ L' o' a uz1 c uz2=>?_
   rw [e] at a;(injection a with a;subst a)
   rw [fr] at c;contradiction
  exact sr (F4 _ _ this) (R.hid env m L e)
 .have:b≠d:=by rintro rfl;rw [fr] at e;contradiction
  exact ⟨(hs.2 b this).trans (T.get e n),by refine sr (F4 _ _ this) ?_;exact T.hid e n⟩
 .by_cases h:b=d
  .exact sr h fr
  .exact T.dom b ((hs.2 b h).symm.trans e)
theorem zD {keys:List (Option Expr)}{vals:List Expr}{pos:Pos}{ks:List (List Nat)}{prs:List (Sem Value×Sem Value)}
  (hp:(evalEachOpt keys K.env).zip ((evalEach vals K.env).map λ v=>do let x <- v;standAt pos;pure x)=prs.map λ p=>(some p.1,p.2)) (h0:prs≠[]) (h17:prs.length<=15) (he:uK K β X (evalPairs prs) ks ls PE) (hks:ks.length=prs.length) :
  an K β X (eval (.Dict keys vals pos) K.env) ls λ H Q=>PE H λ vs H1=>(vs.length=ks.length/\ks.Nodup)/\∀ c,H1 c=none->Q (.ref c) (H1.set c (.sdict (ks.zip vs))):=λ s H Q R L p=>by
 refine sr (arm_eval_Dict ..) (sr (hp ..) (sr (dictDisplay_pairs prs h0 (by lia) ..) (aa (ag ?_))))
 dsimp only [subDict]
 have R1x:=R.push {cls:=.type "dict", data:=.dict #[]}
 have T1:=Tr.push H s.heap {cls:=.type "dict", data:=.dict #[]}
 refine aa (aa (ah (wpAny_alloc (sr (if_pos h17) (aa (ai (aa (aj (he {s with heap:=s.heap.push {cls:=.type "dict", data:=.dict #[]}} H _ R1x (L.tr T1) p) (λ xs s2x h=>bc λ zz=>?_) λ _ _ h=>h.trans T1))))))))
 refine Fl h λ vs H2x rv uz1 rl R2x T2 uz2 q=>?_;obtain ⟨ts,rk⟩:=uz1;obtain ⟨hlen,hnd⟩:=uz2
 refine zz ?_
 have g:s2x.heap.get? s.heap.objs.size=some {cls:=.type "dict", data:=.dict #[]}:=T2.get (Heap.get?_push_size _ rfl) R.fresh
 have hid:H2x s.heap.objs.size=none:=T2.hid (Heap.get?_push_size _ rfl) R.fresh
 have hnd':(ks.map aY).Nodup:=List.Pairwise.map _ (λ a b h e=>h (eg e)) hnd
 refine ah (wpAny_holding ?_)
 refine wpAny_bind (oX (K:=K) (s:=s) xs ks ts [] s2x rk rl (by simpa using hnd') (by simp;lia) (Heap.dictOf_iff.mpr ⟨_,g,#[],0,⟨rfl,rfl,rfl⟩,rfl,λ _ h=>by simp at h,by simp;exact .nil,by simp⟩) λ h' tk hd hs=>?_)
 refine bc λ zz=>aT (Heap.dictOf_iff.mp hd) λ o g' hd'=>?_
 obtain ⟨R3x,T3⟩:=Gg R R2x (aX _) R.new_size (T1.trans T2) hid hs g' (OR.sdict (qp rv ks) (by simpa using hd')) tk
 exact zz (wpAny_pure (ae (ae ⟨_,_,.ref _,R3x,T3,q _ hid⟩)))
end
theorem qn:∀ i<12,∀ j<12,(nm i==nm j)=decide (i=j):=by decide +kernel
theorem bX.getL {es:List (Nat×V)}{ds:List DictEntry}(r:bX es ds){k:Nat}(hk:k<12):(bV es k=none->getL (nm k) ds=some none)/\∀ v,bV es k=some v->∃ x,getL (nm k) ds=some (some x)/\VR v x:=by
 have aux:∀ {es:List (Nat×V)} {ds:List DictEntry},bX es ds->ds.any (·.refKey)=false/\(bV es k=none->ds.find? (·.key.isStr (nm k))=none)/\∀ v,bV es k=some v->∃ e,ds.find? (·.key.isStr (nm k))=some e/\VR v e.val:=by
  intro es ds r
  induction r with
  | nil=>exact ⟨rfl,λ _=>rfl,λ v h=>by contradiction⟩
  | @cons j w es h t x ds hj rv _ ih =>
   have e:(Value.str (nm j) t).isStr (nm k)=decide (j=k):=qn j hj k hk
   refine ⟨by refine sr any_cons (sr ih.1 ?_);rfl,λ h=>?_,λ v h=>?_⟩
   .dsimp only [bV] at h
    show (match (Value.str (nm j) t).isStr (nm k) with|true=>_|false=>_)=none
    refine sr e ?_
    induction hd:decide (j=k) with
    | true=>rw [hd] at h;contradiction
    | false=>rw [hd] at h;exact ih.2.1 h
   .dsimp only [bV] at h
    show ∃ e',(match (Value.str (nm j) t).isStr (nm k) with|true=>_|false=>_)=some e'/\_
    refine sr e ?_
    induction hd:decide (j=k) with
    | true=>rw [hd] at h;(injection h with h;subst h);exact ⟨_,rfl,rv⟩
    | false=>rw [hd] at h;exact ih.2.2 v h
 refine mL (aux r) λ a b c=>⟨λ h=>?_,λ v h=>?_⟩
 .dsimp only [PySem.W.getL];refine sr (b h) (sr a ?_);rfl
 .refine aT (c v h) λ e h1 h2=>?_
  exact ⟨e.val,by dsimp only [PySem.W.getL];exact sr h1 rfl,h2⟩
theorem bX.put {es:List (Nat×V)}{ds:List DictEntry}(r:bX es ds){k:Nat}(hk:k<12){v:V}{x:Value}(rv:VR v x)(hs:Int)(t:Tok) :
  bX (cG es k v) (putL (nm k) hs (.str (nm k) t) x ds):=by
 induction r with
 | nil=>exact .cons hk rv .nil
 | @cons j w es h t' x' ds hj rv' r ih =>
  have e:(Value.str (nm j) t').isStr (nm k)=decide (j=k):=qn j hj k hk
  dsimp only [cG,putL]
  refine sr e ?_
  induction hd:decide (j=k) with
  | true=>exact .cons hj rv r
  | false=>exact .cons hj rv' ih
theorem bX.any {es:List (Nat×V)}{ds:List DictEntry}(r:bX es ds):ds.any (·.refKey)=false:=by
 induction r with
 | nil=>rfl
 | cons _ _ _ ih=>refine sr any_cons (sr ih ?_);rfl
theorem bX.length {es:List (Nat×V)}{ds:List DictEntry}(r:bX es ds):ds.length=es.length:=by
 induction r with
 | nil=>rfl
 | cons _ _ _ ih=>simp [ih]
structure xI (S:Sx) (c:Nat):Prop where
 ga:findIn S.K (.ref (S.ca c)) "__getattribute__"=some (some (.builtin "object.__getattribute__"))
 gg:findIn S.K (.ref (S.ca c)) "__getattr__"=some none
 sa:findIn S.K (.ref (S.ca c)) "__setattr__"=some (some (.builtin "object.__setattr__"))
 hd:hasDictIn S.K (S.ca c)=true
 po:plainOver S.K (S.ca c)=true
 at_:∀ k<12,findIn S.K (.ref (S.ca c)) (nm k)=some none
 makes:makesIn S.K (S.ca c)=true
structure nq (S:Sx):Prop where
 cls:∀ c,iq c=true->xI S c
 prog:S.prog=S.prog
section
variable {K:Kt}{β:Bool}{X:Int->Prop}{ls:Ls}{P P1 P2 P3:AH->(V->AH->Prop)->Prop}
theorem aI.inst {S:Sx}{fs:List Env}{H:AH}{s:Shared}(R:aI S fs H s){a d:Addr}{c:Nat}{es:List (Nat×V)}(e1:H a=some (.inst c d))(e2:H d=some (.attrs es)) :
  ∃ ds n,InstAt s.heap a (instObj (S.ca c) d) (S.ca c) (some (dictOf ds n))/\bX es ds/\s.heap.get? d=some (dictOf ds n):=by
 obtain ⟨_,o,g,r⟩:=R.objs a _ e1
 cases r
 obtain ⟨_,o',g',r'⟩:=R.objs d _ e2
 cases r' with
 | attrs r'=>exact ⟨_,_,⟨g,rfl,rfl,g'⟩,r',g'⟩
theorem vz {s:Shared}{H H0:AH}{hp:Heap}{u:V}{x:Value}{k:Nat}{Q:V->AH->Prop}{E}(SO:nq K.S)(hk:k<12)(R:aI K.S K.fs H s)(T:Tr H0 hp H s.heap)(r:VR u x)(p:iu u k H Q) :
  wpAny K.M K.A (getAttr x (nm k) true) (PV K.S K.fs H0 hp Q) E s:=by
 refine r.mR p λ a p=>bc λ zz=>EI p λ c d es v e1 e2 hc e3 q=>ln (R.inst e1 e2) λ ds n I ra uz1=>aT ((ra.getL hk).2 v e3) λ x hx rv=>zz ?_
 have C:=SO.cls c hc
 refine get_value (K.S.X.keeps R.base) I C.ga (findObj_own C.hd (C.at_ k hk) rfl hx) ?_ (PV.same R T rv q _)
 cases rv<;>rfl
theorem wO (SO:nq K.S){id:Str}{p0 pos:Pos}{k:Nat}(hk:k<12)(ha:an K β X (eval (.Name id p0) K.env) ls P1) :
  an K β X (eval (.Attribute (.Name id p0) (nm k) pos) K.env) ls λ H Q=>P1 H λ u H1=>iu u k H1 Q:=λ s H Q R L p=>by
 show aF _ _ _ (do
  let o <- eval (.Name id p0) K.env
  standAt pos.atName
  let r <- holding [o] (getAttr o (nm k) true)
  letTemporaryGo (.Name id p0) o r
  pure r) _ _ s
 exact ha.bind R L p (λ x u s1x H1 r1x R1x L1x T1 p1x=>aa (ag (aa (ai (aj (ah (vz (E:=λ _ _=>False) SO hk R1x T1 r1x p1x)) (λ y s2x h=>(aa (ae (ae h)))) λ _ _ h=>h.elim))))) λ _ _ h=>h
theorem vU {R:Result->Shared->Prop}{prog:Program}{w:World}{A:Around}{s:Shared}{F:Frag}{C x:Addr}{ox:Obj}{dx:Addr}{name:Str}{tk:Tok}{v:Value}{es:List DictEntry}{n:Nat}(X:F.In s.heap)
  (I:InstAt s.heap x ox C (some (dictOf es n))) (hd:ox.dict=some dx) (D:s.heap.get? dx=some (dictOf es n)) (hp:plainOver F C=true) (ht:takerIn F C name=some none) (hh:(clsIn F C).any (·.hasDict)=true)
  (hr:es.any (·.refKey)=false) (hz:(putL name (PyData.keyHash w.params name) (.str name s.toks) v es).length<=1000)
  (h:∀ h',Heap.SameBut dx s.heap h'->h'.get? dx=some (dictOf (putL name (PyData.keyHash w.params name) (.str name s.toks) v es) (putN name es n))->R (.ok (.ret .none)) {s with heap:=h',toks:=s.toks+1}) :
  codeAny (model prog w) A (.call (.builtin "object.__setattr__") ⟨[.ref x,.str name tk,v],[]⟩) R s:=by
 refine osa_open X I hp ht λ b=>bc λ zz=>aT (any_some hh) λ cd hc hd'=>?_
 obtain ⟨hx,hcl,hn,-⟩:=I
 obtain ⟨oc,odi,oda,osl⟩:=ox
 refine zz ?_
 dsimp only at hcl hd
 subst hcl hd
 refine wpAny_bind (wpAny_pure (wpAny_bind (wpAny_bind (wpAny_loadPart hx (wpAny_bind ((looks_clsIn X hc).here (sr hd' (wpAny_pure (a:=some dx) (wpAny_bind (wpAny_pure (wpAny_bind (wpAny_bind (wpAny_bind (wpAny_askSetting (wpAny_pure (wpAny_bind (wpAny_mkText (wpAny_bind (wpAny_loadPart D ?_)))))))))))))))))))
 dsimp only [dictOf]
 have c:(!es.toArray.any (·.key.isStr name)&&es.toArray.any (·.refKey))=false:=by refine sl Array.any_toList (sl Array.any_toList ?_);simp [hr]
 refine sr (aRefKeyMayBeTheName_at ..) (sr (c ..) (wpAny_updatePart D ?_))
 have D':=Heap.get?_update_self (Obj.putName name (PyData.keyHash w.params name) (.str name s.toks) v) D (by refine sr (putName_dict ..) ?_;rfl)
 rw [putName_dict] at D'
 refine wpAny_bind (wpAny_lookBehind D' (pastItsLine_dict (by refine sr size_toArray (sr sizeLine_eq ?_);lia)) ?_)
 exact wpAny_pure (h _ (Heap.SameBut.update ..) D')
theorem pj (name:Str)(hs:Int)(key v:Value):∀ es:List DictEntry,(putL name hs key v es).length<=es.length+1
 | []=>by simp [putL]
 | e::r=>by dsimp only [putL];split<;>simp<;>exact pj name hs key v r
theorem kK {s:Shared}{H H0:AH}{hp:Heap}{u v:V}{x y:Value}{k:Nat}{Q:AH->Prop}{E}{Z:Unit->Shared->Prop}(SO:nq K.S)(hk:k<12)(R:aI K.S K.fs H s)(T:Tr H0 hp H s.heap)(r:VR u x)(r':VR v y)(p:cN u k v H Q)
  (hZ:∀ s' H',aI K.S K.fs H' s'->Tr H s.heap H' s'.heap->Q H'->Z () s'):wpAny K.M K.A (setAttr x (nm k) y) Z E s:=by
 refine r.mR p λ a p=>bc λ zz=>?_
 refine Cv p λ c d es e1 e2 uz1 q=>?_;obtain ⟨hc,hl⟩:=uz1
 refine ln (R.inst e1 e2) λ ds n I ra D=>zz ?_
 have C:=SO.cls c hc
 have X:=K.S.X.keeps R.base
 have ht:takerIn K.S.K (K.S.ca c) (nm k)=some none:=by dsimp only [takerIn];refine sr (C.at_ k hk) ?_;rfl
 refine set_plain X I C.sa ?_
 refine vU (s:={s with toks:=s.toks+1}) X I rfl D C.po ht C.hd ra.any (GK (pj _ _ _ _ ds) (by refine sr ra.length ?_;lia)) λ h' hs hg=>?_
 exact hZ _ _ ((R.put e2 rfl hs hg (OR.attrs (ra.put hk r' _ _))).toks _) (Tr.put e2 hs hg) q
end
section
variable {α γ:Type}{β:Bool}{M:Model}{A:Around}{E:Value->Shared->Prop}{s:Shared}
theorem aS {m:Sem α}{a:α}{f:α->Sem γ}{Q:γ->Shared->Prop}(L:Looks M s.heap m a)(h:aF β M A (f a) Q E s):aF β M A (m >>= f) Q E s:=aa (ah (L.here h))
theorem tP {vs:List Value}{m:Sem α}{Q:α->Shared->Prop}(h:aF β M A m Q E s):aF β M A (m.keep vs) Q E s:=λ Γ p hΓ hc=>by exact sr (Sem.wp_keep ..) (h Γ p hΓ hc)
theorem rO {f:Value}{args:List (Bool×Sem Value)}(hp:args.any (·.1)=false){Q:Args->Shared->Prop}(h:aF β M A (spliced args) (λ vs s'=>Q ⟨vs,[]⟩ s') E s):aF β M A (evalArgs f true args []) Q E s:=by
 induction args with
 | nil =>
  exact aa (aj h (λ vs s' h'=>(aa (ae (ai (aa (ae (aa (ae (ae h'))))))))) λ _ _ x=>x)
 | cons a r =>
  obtain ⟨st,x⟩:=a
  have hst:st=false:=by simp at hp;exact hp.1
  subst hst
  exact aa (aj h (λ vs s' h'=>(ai (aa (ae (aa (ae (ae h'))))))) λ _ _ x=>x)
theorem dy {pos:Pos}{f:Value}{first:List Value}{args:List (Bool×Sem Value)}{Q:Value->Shared->Prop}(hp:args.any (·.1)=false)
  (h:aF β M A (spliced args) (λ vs s1x=>(∃ k,(k=Keeper.frame\/k=Keeper.machine)/\Looks M s1x.heap (keeperOf f) k)/\aF β M A (call f (first++vs)) Q E s1x) E s) :
  aF β M A (callWith pos f first args []) Q E s:=by
 refine aa (ai (rO hp (aj h (λ vs s1x h1x=>aa (ag ?_)) λ _ _ x=>x)))
 obtain ⟨⟨k,hk,L⟩,h1x⟩:=h1x
 generalize args.any (·.1)=st at hp ⊢
 subst hp
 refine aS L ?_
 have tail:∀ {t:Sem Value},aF β M A t Q E s1x->aF β M A (t >>= λ r=>holding [r] point >>= λ _=>pure r) Q E s1x :=
  λ ht=>aa (aj ht (λ r s2x hr=>aa (ai (lZ (ae hr)))) λ _ _ x=>x)
 have marked (mk:Value):aF β M A (callMarked mk f (first++vs) []) Q E s1x:=by unfold callMarked;exact tP h1x
 rcases hk with rfl|rfl
 .dsimp only
  by_cases hz:args.length+2*([]:List (Option Str×Sem Value)).length > 30
  .exact sr (if_pos hz) (tail h1x)
  .exact sr (if_neg hz) (tail (marked _))
 .exact tail h1x
theorem fT {id:String}{h:Heap}:Looks M h (keeperOf (.builtin id)) Keeper.machine:=Looks.of_pure rfl
theorem jx {n:String}{h:Heap}:Looks M h (keeperOf (.type n)) Keeper.machine:=Looks.of_pure rfl
theorem g8 {F:Frag}{f:Value}{h:Heap}(X:F.In h)(e:keepIn F f=true):∃ k,(k=Keeper.frame\/k=Keeper.machine)/\Looks M h (keeperOf f) k:=looks_keep e X
end
section
variable {β:Bool}{prog:Program}{w:World}{A:Around}{E:Value->Shared->Prop}{R:Result->Shared->Prop}{s:Shared}
theorem iw {id:String}{args:Args}(h:Builtin.Bytes.decodersThatHold.contains id=false):bF (.builtin id args)=true:=by show (!Builtin.Bytes.decodersThatHold.contains id)=true;refine sr h ?_;rfl
theorem bP {id:String}{args:Args}{b:Builtin}(hk:bF (.builtin id args)=true)(hq:(Code.builtin id args).quiet=true)(hb:entryFor table id=some b)
  (h:wpAny (model prog w) A.in1 (checkBuiltinCall id args) (λ _ s1x=>aF β (model prog w) (A.under (.builtin id args)) (b args)
   (λ fin s'=>match fin with | .done f=>R (.ok f) s' | .again c'=>c'.quiet=true/\bU β (model prog w) A c' R s') (λ e s'=>R (.error e) s') s1x)
   (λ e s'=>R (.error e) s') s):bU β (model prog w) A (.call (.builtin id) args) R s:=by
 refine aR rfl ?_
 show aF _ _ A.in1 (do checkBuiltinCall id args;again (.builtin id args)) _ _ s
 refine aa (ah (wpAny_mono h (λ _ s1x h1x=>ae (And.intro hq (aR hk ?_))) λ _ _ h'=>h'))
 show aF _ _ _ (match entryFor table id with|some b=>b args|none=>unsupported ((withoutEnding? id "#data").getD id)) _ _ s1x
 exact sr hb h1x
theorem Ay {F:Frag} {C fI:Addr} {rest:List Value} {h:Heap} {g d t os} (X:F.In h) (hm:makesIn F C=true) (hi:findIn F (.ref C) "__init__"=some (some (.ref fI))) (hf:typeIn F (.ref fI)=some (.type "function"))
  (hq:aF β (model prog w) (A.under (.builtin "type.__call__" ⟨.ref C::rest,[]⟩)) (PySem.call (.ref fI) (.ref (h.objs.size+1)::rest)) (λ v s'=>v=.none/\R (.ok (.ret (.ref (h.objs.size+1)))) s') (λ e s'=>R (.error e) s') ⟨(h.push emptyDict).push (instObj C h.objs.size),g,d,t,os⟩) :
  bU β (model prog w) A (.call (.ref C) ⟨rest,[]⟩) R ⟨h,g,d,t,os⟩:=by
 have Y:=makes_of (M:=model prog w) X hm
 have Y':=Y
 have hi':=looks_findIn (M:=model prog w) X hi
 obtain ⟨⟨oc,od,cd,sl,hC,e1,e2,e4⟩,made,base,self,top,cll,typ⟩:=Y
 refine aR rfl (aa (ah (wpAny_load hC (aS cll (aa (ae (aa (ae (ae (a:=Fin.again (.call (.builtin "type.__call__") ⟨.ref C::rest,[]⟩)) (And.intro rfl (bP (iw (by decide +kernel)) (Code.quiet_builtin _ (by decide +kernel)) entry_typeCall (check_slot tc_kind tc_split typ (tc_args _ _ _) ?_))))))))))))
 have hmr:Looks (model prog w) h (mroOf (.ref C)) cd.mro:=((Looks.ld (part:=none) hC).andThen .now).andThen .now
 refine aS hmr ?_
 simp only [e4,Bool.false_eq_true,if_false]
 refine aS made (aa (ae (aa (ai (ah (wpAny_call (new_K Y' hi' (.inl rfl) ?_)))))))
 have k:∀ b o,h.get? b=some o->((h.push emptyDict).push (instObj C h.objs.size)).get? b=some o:=λ b o e=>Heap.get?_push_of_some _ (Heap.get?_push_of_some _ e)
 have hx:((h.push emptyDict).push (instObj C h.objs.size)).get? (h.objs.size+1)=some (instObj C h.objs.size):=by heap_get
 have t1:Looks (model prog w) ((h.push emptyDict).push (instObj C h.objs.size)) (typeOf (.ref (h.objs.size+1))) (.ref C):=(Looks.ld hx).andThen .now
 have s1:Looks (model prog w) ((h.push emptyDict).push (instObj C h.objs.size)) (isInstance (.ref (h.objs.size+1)) (.ref C)) true:=t1.andThen (self.keeps k)
 refine aS s1 (aa (ai (aS (a:=some (.ref fI)) (t1.andThen (hi'.keeps k)) (ai (aS (bind_fn (X.keeps k) _ hf) (aa (aj hq (λ v s' z=>?_) λ _ _ z=>z)))))))
 obtain ⟨rfl,z⟩:=z
 exact ae (ae z)
end
theorem zU {id:String}{args:Args}(h:bF (.builtin id args)=true):Builtin.Bytes.decodersThatHold.contains id=false:=by
 have:(!Builtin.Bytes.decodersThatHold.contains id)=true:=h
 simpa using this
theorem l6 {M:Model}{A:Around}{E:Value->Shared->Prop}{s:Shared}{v:Value}{Q:Bool->Shared->Prop}(hg:A.guards=some [])(h:Q false s):aF true M A (Builtin.Bytes.exported v) Q E s:=λ Γ p hΓ hc=>by
 obtain ⟨c0,cb⟩:=hc rfl
 have hgs:=hΓ.2.2.2.1 [] hg
 have all:∀ x∈(Γ.code,p)::Γ.below,bF x.1=true/\x.1.isGuard=false:=by
  have g:∀ l:List (Code×Pos),guardsOf l=[]->∀ x∈l,x.1.isGuard=false:=by
   intro l
   induction l with
   | nil=>intro _ x hx;contradiction
   | cons y l ih =>
    obtain ⟨c,q⟩:=y
    intro e x hx
    rw [guardsOf_cons,List.append_eq_nil_iff] at e
    rcases mem_cons.mp hx with rfl|hx
    .induction hq:c.isGuard with
     | false=>rfl
     | true=>have:=e.1;simp [Code.guards,hq] at this
    .exact ih e.2 x hx
  have e:guardsOf ((Γ.code,p)::Γ.below)=[]:=by exact sr (guardsOf_cons ..) hgs
  intro x hx
  refine ⟨?_,g _ e x hx⟩
  rcases mem_cons.mp hx with rfl|hx
  .exact c0
  .exact cb x hx
 show Q _ s
 have:∀ {f:Code×Pos->Bool},(∀ x∈(Γ.code,p)::Γ.below,f x=false)->((Γ.code,p)::Γ.below).any f=false:=λ {f} h=>by
  rw [List.any_eq_false];intro x hx;rw [h x hx];decide
 rw [this]
 .exact h
 .intro x hx
  obtain ⟨k1,k2⟩:=all x hx
  obtain ⟨c,q⟩:=x
  induction c with
  | builtin id args =>
   have n {k:String} (h:guardIds.contains k=true):id≠k:=λ e=>absurd ((congrArg guardIds.contains e).symm.trans k2) (by refine sr h ?_;exact Bool.noConfusion)
   obtain ⟨ps,kw⟩:=args
   delta Builtin.Bytes.exported.match_1
   refine (dif_neg (n (by decide +kernel))).trans ((dif_neg (n (by decide +kernel))).trans ((dif_neg (n (by decide +kernel))).trans ((dif_neg (n (by decide +kernel))).trans ((dif_neg (n (by decide +kernel))).trans ?_))))
   induction ps with
   | nil=>rfl
   | cons u r=>exact (congrArg (_&&·) (zU k1)).trans (Bool.and_false _)
  | _=>rfl
section
variable {β:Bool}{prog:Program}{w:World}{A:Around}{E:Value->Shared->Prop}{s:Shared}{a:Addr}{x:Array UInt8}
theorem jt:Slot "bytearray" "__len__" "bytearray.__len__" :=
 .of (owner:="bytearray") (n:="__len__") (by refine sr (typeLookup_type ..) (sr (builtinLookup_eq_fast ..) ?_);kernel_rfl) (by decide +kernel) (by decide +kernel) (by decide +kernel)
  (by first|exact .inl (by decide +kernel)|exact .inr (by decide +kernel)) (by refine sr (isSubtype_type ..) ?_;kernel_rfl)
theorem fS:Slot "bytearray" "append" "bytearray.append" :=
 .of (owner:="bytearray") (n:="append") (by refine sr (typeLookup_type ..) (sr (builtinLookup_eq_fast ..) ?_);kernel_rfl) (by decide +kernel) (by decide +kernel) (by decide +kernel)
  (by first|exact .inl (by decide +kernel)|exact .inr (by decide +kernel)) (by refine sr (isSubtype_type ..) ?_;kernel_rfl)
theorem fN:Slot "bytearray" "extend" "bytearray.extend" :=
 .of (owner:="bytearray") (n:="extend") (by refine sr (typeLookup_type ..) (sr (builtinLookup_eq_fast ..) ?_);kernel_rfl) (by decide +kernel) (by decide +kernel) (by decide +kernel)
  (by first|exact .inl (by decide +kernel)|exact .inr (by decide +kernel)) (by refine sr (isSubtype_type ..) ?_;kernel_rfl)
theorem de:Slot "bytearray" "__getitem__" "bytearray.__getitem__" :=
 .of (owner:="bytearray") (n:="__getitem__") (by refine sr (typeLookup_type ..) (sr (builtinLookup_eq_fast ..) ?_);kernel_rfl) (by decide +kernel) (by decide +kernel) (by decide +kernel)
  (by first|exact .inl (by decide +kernel)|exact .inr (by decide +kernel)) (by refine sr (isSubtype_type ..) ?_;kernel_rfl)
theorem eR:Slot "bytearray" "__init__" "bytearray.__init__" :=
 .of (owner:="bytearray") (n:="__init__") (by refine sr (typeLookup_type ..) (sr (builtinLookup_eq_fast ..) ?_);kernel_rfl) (by decide +kernel) (by decide +kernel) (by decide +kernel)
  (by first|exact .inl (by decide +kernel)|exact .inr (by decide +kernel)) (by refine sr (isSubtype_type ..) ?_;kernel_rfl)
theorem nu:entryFor table "bytearray.__len__"=some Builtin.«bytearray.__len__»:=entryFor_of_tree (by kernel_rfl)
theorem jE:entryFor table "bytearray.append"=some Builtin.«bytearray.append»:=entryFor_of_tree (by kernel_rfl)
theorem jF:entryFor table "bytearray.extend"=some Builtin.«bytearray.extend»:=entryFor_of_tree (by kernel_rfl)
theorem iQ:entryFor table "bytearray.__getitem__"=some Builtin.«bytearray.__getitem__»:=entryFor_of_tree (by kernel_rfl)
theorem lr:entryFor table "bytearray.__init__"=some Builtin.«bytearray.__init__»:=entryFor_of_tree (by kernel_rfl)
theorem pd (a:Value):argsOk "bytearray.__len__" ⟨[a],[]⟩:=by kernel_rfl
theorem kX (a b:Value):argsOk "bytearray.append" ⟨[a,b],[]⟩:=by kernel_rfl
theorem jY (a b:Value):argsOk "bytearray.extend" ⟨[a,b],[]⟩:=by kernel_rfl
theorem jG (a b:Value):argsOk "bytearray.__getitem__" ⟨[a,b],[]⟩:=by kernel_rfl
theorem mH (a:Value):argsOk "bytearray.__init__" ⟨[a],[]⟩:=by kernel_rfl
theorem gT {T:String}{name:Str}{id:String}{b:Builtin}{self:Value}{rest:List Value}{Q:Value->Shared->Prop}(hk:Builtin.Bytes.decodersThatHold.contains id=false)(h:Slot T name id)(hT:s.TypeIs self T)
  (hb:entryFor table id=some b) (ha:argsOk id ⟨self::rest,[]⟩)
  (hc:aF β (model prog w) A.in1 (b ⟨self::rest,[]⟩) (λ fin s'=>∃ v,fin=.done (.ret v)/\Q v s') E s):aF β (model prog w) A (call (.builtin id) (self::rest)) Q E s:=by
 refine fx (bP (iw hk) (plainId_quiet h.plain _) hb (h.check _ _ _ _ _ _ _ _ hT ha (sr (Around.under_plainId h.plain ..) (aj hc (λ fin s' h'=>?_) λ _ _ h'=>h'))))
 refine aT h' λ v ez1 hv=>?_;subst ez1;exact hv
theorem eH (ho:s.heap.get? a=some {cls:=.type "bytearray", data:=.bytearray x 0}):s.TypeIs (.ref a) "bytearray":=⟨_,ho,rfl⟩
theorem eV (ho:s.heap.get? a=some {cls:=.type "bytearray", data:=.bytearray x 0}):Looks (model prog w) s.heap (Builtin.Bytes.payload (.ref a)) x :=
 ((Looks.ld ho).andThen .now).andThen .now
theorem iV (ho:s.heap.get? a=some {cls:=.type "bytearray", data:=.bytearray x 0}):Looks (model prog w) s.heap (typeOf (.ref a)) (.type "bytearray"):=(Looks.ld ho).andThen .now
theorem cQ (ho:s.heap.get? a=some {cls:=.type "bytearray", data:=.bytearray x 0}) {n:Str} {r:Option Value} (h:typeLookup (.type "bytearray") n=pure r):Looks (model prog w) s.heap (specialOf (.ref a) n) r :=
 (iV ho).andThen (Looks.of_pure h)
theorem yM (ho:s.heap.get? a=some {cls:=.type "bytearray", data:=.bytearray x 0}) {Q:Value->Shared->Prop} (hz:x.size<=16777216) (h:∀ t k,Q (.int x.size t) {s with toks:=k}) :
  wpAny (model prog w) A (call (.builtin "len") [.ref a]) Q E s :=
 call_len_slot (eH ho) jt (λ Q' hq=>wpAny_call_entry jt (eH ho) nu (by
  refine wpAny_bind (wpAny_pure ?_)
  exact wpAny_bind ((eV ho).here (wpAny_bind (wpAny_mkInt (wpAny_pure ⟨_,rfl,hq⟩))))) (pd _)) (by omega) (by omega) (h _ _)
theorem kY (ho:s.heap.get? a=some {cls:=.type "bytearray", data:=.bytearray x 0}):Looks (model prog w) s.heap (Builtin.Bytes.exportsOf (.ref a)) 0:=(Looks.ld ho).andThen .now
theorem lR (hg:A.guards=some []) (ho:s.heap.get? a=some {cls:=.type "bytearray", data:=.bytearray x 0}) {Q:Unit->Shared->Prop} (h:Q () s):aF true (model prog w) A (Builtin.Bytes.checkResize (.ref a)) Q E s:=by
 exact aa (aa (l6 hg (aS (kY ho) (ae (ae h)))))
theorem jR (ho:s.heap.get? a=some {cls:=.type "bytearray", data:=.bytearray x 0}) {f:Array UInt8->Array UInt8} {Q:Unit->Shared->Prop} (hz:(f x).size<=16777216)
  (h:∀ h',h'.get? a=some {cls:=.type "bytearray", data:=.bytearray (f x) 0}->Heap.SameBut a s.heap h'->Q () {s with heap:=h'}):wpAny (model prog w) A (Builtin.Bytes.write (.ref a) f) Q E s:=by
 refine wpAny_bind (wpAny_load ho ?_)
 have g:=Heap.get?_update_self (Obj.mapBytearray f) ho rfl
 refine wpAny_bind (wpAny_update ho (wpAny_lookBehind g ?_ (h _ g (Heap.SameBut.update ..))))
 show (if (f x).size > sizeLine then _ else _)=none
 exact sr (if_neg (by rw [sizeLine_eq];omega)) rfl
end
section
variable {β:Bool}{prog:Program}{w:World}{A:Around}{E:Value->Shared->Prop}{s:Shared}{a:Addr}{x:Array UInt8}
theorem lD {i:Int}{t:Tok}(h0:0<=i)(h1:i<256):Builtin.Bytes.byteValue (.int i t)=pure i.toNat.toUInt8:=by
 unfold Builtin.Bytes.byteValue
 refine sr (show asIndex (.int i t)=pure i from rfl) ?_
 simp only [pure_bind]
 exact sr (if_neg (by simp;lia)) rfl
theorem r0 {i:Int} {t:Tok} (hg:A.guards=some []) (ho:s.heap.get? a=some {cls:=.type "bytearray", data:=.bytearray x 0}) (h0:0<=i) (h1:i<256) (hz:x.size<=16777215) {Q:Value->Shared->Prop}
  (h:∀ h',h'.get? a=some {cls:=.type "bytearray", data:=.bytearray (x.push i.toNat.toUInt8) 0}->Heap.SameBut a s.heap h'->Q .none {s with heap:=h'}) :
  aF true (model prog w) A (call (.builtin "bytearray.append") [.ref a,.int i t]) Q E s:=by
 refine gT (by decide +kernel) fS (eH ho) jE (kX _ _) ?_
 show aF _ _ _ (selfAndOne "bytearray.append" ⟨[.ref a,.int i t],[]⟩ >>= _) _ _ s
 refine aa (ae ?_)
 dsimp only
 refine sr (lD h0 h1) ?_
 refine aa (ae (aa (lR (A:=A.in1) hg ho (aa (ah (jR (f:=(·.push i.toNat.toUInt8)) ho (by refine sr (Array.size_push ..) ?_;lia) λ h' g hs=>?_))))))
 exact ae ⟨_,rfl,h h' g hs⟩
theorem nV {id:String}{full:Bool}{b:Array UInt8}{t:Tok}:Builtin.Bytes.buffer? id (.bytes b t) full=pure (some b):=by
 unfold Builtin.Bytes.buffer?
 refine sr (KBy.special_eq KBy.look_buffer) (sr KBy.own_buffer (sr KBy.own_release ?_))
 kernel_rfl
theorem wI {id:String}{b:Array UInt8}{t:Tok}:Builtin.Bytes.takeBufferQuiet? id (.bytes b t) 0=pure (some (b,none)):=by
 unfold Builtin.Bytes.takeBufferQuiet? Builtin.Bytes.takeBuffer?
 refine sr (KBy.special_eq KBy.look_buffer) (sr KBy.own_buffer (sr nV ?_))
 kernel_rfl
theorem r7 {b:Array UInt8} {t:Tok} (hg:A.guards=some []) (ho:s.heap.get? a=some {cls:=.type "bytearray", data:=.bytearray x 0}) (hz:x.size+b.size<=16777216) {Q:Value->Shared->Prop}
  (h:∀ h',h'.get? a=some {cls:=.type "bytearray", data:=.bytearray (x++b) 0}->Heap.SameBut a s.heap h'->Q .none {s with heap:=h'}) :
  aF true (model prog w) A (call (.builtin "bytearray.extend") [.ref a,.bytes b t]) Q E s:=by
 refine gT (by decide +kernel) fN (eH ho) jF (jY _ _) ?_
 show aF _ _ _ (selfAndOne "bytearray.extend" ⟨[.ref a,.bytes b t],[]⟩ >>= _) _ _ s
 refine aa (ae ?_)
 dsimp only
 refine sr (KBy.special_eq KBy.look_buffer) (aa (ae (sr (if_pos (show (some (Value.builtin "bytes.__buffer__")).isSome=true from rfl)) (aa (ah (wpAny_rule (aS (eV ho) (sr wI (aa (ae ?_))))))))))
 dsimp only
 refine sr (if_pos (show (none:Option Value).isNone=true from rfl)) ?_
 have fin:aF true (model prog w) A.in1 (Builtin.Bytes.write (.ref a) (·++b) >>= λ _=>ret .none) (λ fin s'=>∃ v,fin=.done (.ret v)/\Q v s') E s :=
  aa (ah (jR (f:=(·++b)) ho (by refine sr Array.size_append ?_;omega) λ h' g hs=>ae ⟨_,rfl,h h' g hs⟩))
 by_cases hb:(!b.isEmpty)=true
 .show aF _ _ _ (if (!b.isEmpty)=true then (Builtin.Bytes.checkResize (.ref a) >>= λ _=>Builtin.Bytes.write (.ref a) (·++b) >>= λ _=>ret .none) else (Builtin.Bytes.write (.ref a) (·++b) >>= λ _=>ret .none)) _ _ s
  exact sr (if_pos hb) (aa (lR (A:=A.in1) hg ho fin))
 .show aF _ _ _ (if (!b.isEmpty)=true then (Builtin.Bytes.checkResize (.ref a) >>= λ _=>Builtin.Bytes.write (.ref a) (·++b) >>= λ _=>ret .none) else (Builtin.Bytes.write (.ref a) (·++b) >>= λ _=>ret .none)) _ _ s
  exact sr (if_neg hb) fin
theorem oV:typeLookup (.type "bytearray") "__index__"=pure none:=by refine sr (typeLookup_type ..) (sr (builtinLookup_eq_fast ..) ?_);kernel_rfl
theorem om:typeLookup (.type "bytearray") "__bytes__"=pure none:=by refine sr (typeLookup_type ..) (sr (builtinLookup_eq_fast ..) ?_);kernel_rfl
theorem dE:typeLookup (.type "bytearray") "__buffer__"=pure (some (.builtin "bytearray.__buffer__")):=by refine sr (typeLookup_type ..) (sr (builtinLookup_eq_fast ..) ?_);kernel_rfl
theorem jB:typeLookup (.type "bytearray") "__release_buffer__"=pure (some (.builtin "bytearray.__release_buffer__")):=by refine sr (typeLookup_type ..) (sr (builtinLookup_eq_fast ..) ?_);kernel_rfl
theorem pS:isSubtype (.type "bytearray") (.type "bytearray")=pure true:=by refine sr (isSubtype_type ..) ?_;kernel_rfl
theorem s7 {n:String} {id:String} (hl:typeLookup (.type "bytearray") (n:Str)=pure (some (.builtin id))) (h1:id.endsWith ("."++n)=true) (h2:id.dropRight (n.length+1)="bytearray") (ho:s.heap.get? a=some {cls:=.type "bytearray", data:=.bytearray x 0}) :
  Looks (model prog w) s.heap (Builtin.Bytes.slotIsOwn (.ref a) n) true:=by
 refine (cQ ho hl).andThen ?_
 dsimp only
 exact sr h1 (sr h2 ((iV ho).andThen (Looks.of_pure pS)))
theorem gz (ho:s.heap.get? a=some {cls:=.type "bytearray", data:=.bytearray x 0}):Looks (model prog w) s.heap (Builtin.Bytes.ownRelease (.ref a)) false :=
 (s7 jB (by decide +kernel) (by decide +kernel) ho).andThen .now
theorem rT {id:String} {full:Bool} (ho:s.heap.get? a=some {cls:=.type "bytearray", data:=.bytearray x 0}):Looks (model prog w) s.heap (Builtin.Bytes.buffer? id (.ref a) full) (some x):=by
 refine (cQ ho dE).andThen ((s7 dE (by decide +kernel) (by decide +kernel) ho).andThen (Looks.andThen (a:=some (.builtin "bytearray.__buffer__")) (cQ ho dE) ?_))
 exact (gz ho).andThen ((eV ho).andThen .now)
end
section
variable {β:Bool}{prog:Program}{w:World}{A:Around}{E:Value->Shared->Prop}{s:Shared}{a:Addr}{x:Array UInt8}
theorem yS (ho:s.heap.get? a=some {cls:=.type "bytearray", data:=.bytearray x 0}) (hz:x.size<=16777216) {Q:Value->Shared->Prop} (h:∀ t k,Q (.bytes x t) {s with toks:=k}) :
  codeAny (model prog w) A (.call (.builtin "bytes.__new__") ⟨[.type "bytes", .ref a],[]⟩) (wants Q E) s:=by
 refine codeAny_of_tree ?_
 show wpAny _ A.in1 (do checkBuiltinCall "bytes.__new__" ⟨[.type "bytes", .ref a],[]⟩;again (.builtin "bytes.__new__" ⟨[.type "bytes", .ref a],[]⟩)) _ _ s
 refine wpAny_bind (wpAny_of_eq (F.bm_newCall _) (wpAny_pure ⟨plainId_quiet F.bm_plain _,codeAny_builtin F.bm_entry (sr (Around.under_plainId F.bm_plain _) (wpAny_bind (wpAny_of_eq (a:=true) rfl (bm_if_false rfl (wpAny_bind (wpAny_of_eq F.bm_sub (bm_if_false rfl (wpAny_bind (wpAny_of_eq (F.bm_bind _) (wpAny_bind (wpAny_of_eq (a:=()) rfl ?_)))))))))))⟩))
 refine wpAny_bind (wpAny_of_eq (a:=()) rfl (bm_if_false rfl (wpAny_bind ((cQ ho om).here (wpAny_bind (wpAny_bind ?_))))))
 show wpAny _ _ (load a >>= _) _ _ _
 refine wpAny_bind (wpAny_load ho (wpAny_pure (wpAny_pure (bm_if_false rfl (wpAny_bind ((cQ ho oV).here (bm_if_true rfl ?_)))))))
 show wpAny _ _ ((Builtin.Bytes.buffer? "bytes.__new__" (.ref a) true) >>= _) _ _ _
 refine wpAny_bind ((rT ho).here (wpAny_bind (wpAny_rule ?_)))
 dsimp only [mkBytes]
 refine sr (if_neg (by rw [sizeLine_eq];lia)) ?_
 refine wpAny_bind (wpAny_bind (wpAny_fresh (wpAny_pure ?_)))
 show wpAny _ _ (ret _) _ _ _
 exact wpAny_pure (h _ _)
theorem ti (ho:s.heap.get? a=some {cls:=.type "bytearray", data:=.bytearray x 0}) (hz:x.size<=16777216) {Q:Value->Shared->Prop} (h:∀ t k,Q (.bytes x t) {s with toks:=k}) :
  wpAny (model prog w) A (call (.type "bytes") [.ref a]) Q E s:=by
 refine callType_codes (Q₁:=λ obj s1x=>s1x.TypeIs obj "bytes"/\Q obj s1x) F.bm_called (F.bm_typeCall _) F.entry_object_init
  (yS ho hz λ t k=>⟨PySem.W.typeIs_bytes _ _ _,h t k⟩) λ obj s1x h1x=>?_
 exact ⟨h1x.1,F.args_object_init_2 obj _,object_init_meets F.bm_called.init.lookup F.bm_called.made (by decide) prog w A.in1 _ s1x ⟨h1x.1,rfl,h1x.2⟩⟩
theorem fG {α:Type}:∀ l:List α,(List.range l.length).filterMap (λ i=>l[i]?)=l
 | []=>rfl
 | a::l=>by
  refine sr length_cons (sr List.range_succ_eq_map (sr filterMap_cons (sr List.filterMap_map ?_)))
  simp only [List.getElem?_cons_zero]
  have:((λ i=>(a::l)[i]?) ∘ Nat.succ)=λ i=>l[i]?:=by funext i;simp
  exact sr this (sr (fG l) rfl)
theorem pX (b:Array UInt8):Builtin.Bytes.sliced b ((b.size:Int)-1) (-1) (-1)=b.reverse:=by
 dsimp only [Builtin.Bytes.sliced,sliceRange]
 apply Array.ext'
 refine sr (if_neg (by decide)) ?_
 have hcount:(if ((b.size:Int)-1) > -1 then ((b.size:Int)-1 - -1 - -1-1) / (- -1) else 0).toNat=b.size:=by
  split
  .refine sr (show (- -1:Int)=1 from rfl ..) (sr (Int.ediv_one ..) ?_);lia
  .lia
 simp only [hcount,Array.toList_reverse]
 have key:(List.range b.size).map (λ (k:Nat)=>((b.size:Int)-1+-1*(k:Int)).toNat)=(List.range b.size).reverse:=by
  apply List.ext_getElem
  .simp
  .intro i h1 h2
   simp at h1 h2 ⊢
   lia
 refine sr key (sr List.filterMap_reverse ?_)
 have:(List.range b.size).filterMap (λ x=>b[x]?)=b.toList:=by
  have:=fG b.toList
  simpa using this
 exact sr this rfl
theorem jV:typeLookup (.type "slice") "__index__"=pure none:=by refine sr (typeLookup_type ..) (sr (builtinLookup_eq_fast ..) ?_);kernel_rfl
theorem yj {c:Addr} {tk:Tok} (ho:s.heap.get? a=some {cls:=.type "bytearray", data:=.bytearray x 0}) (hs:s.heap.IsSliceOf c .none .none (.int (-1) tk)) (hz:x.size<=16777216) {Q:Value->Shared->Prop}
  (h:Q (.ref s.heap.objs.size) {s with heap:=s.heap.push {cls:=.type "bytearray", data:=.bytearray x.reverse 0}}) :
  wpAny (model prog w) A (getItem (.ref a) (.ref c)) Q E s:=by
 refine nT hs λ oc hc hcc hcd=>?_
 have hTc:s.TypeIs (.ref c) "slice":=⟨_,hc,hcc⟩
 refine wpAny_getItem_slot (eH ho) (by decide) de (wpAny_call_entry de (eH ho) iQ ?_ (jG _ _))
 show wpAny _ _ (slotArgs "__getitem__" 1 ⟨[.ref a,.ref c],[]⟩ >>= _) _ _ s
 refine wpAny_bind (wpAny_pure ?_)
 have e1:wpAny (model prog w) A.in1 (Builtin.Bytes.subscript? (.ref c)) (λ r s'=>r=none/\s'=s) E s:=by
  exact wpAny_bind (wpAny_specialOf hTc jV (wpAny_pure ⟨rfl,rfl⟩))
 refine wpAny_bind (wpAny_mono e1 (λ r s' hr=>?_) λ _ _ x=>x)
 obtain ⟨rfl,rfl⟩:=hr
 refine wpAny_bind (wpAny_typeOf hTc (sr (if_neg (by decide)) ?_))
 have e2:wpAny (model prog w) A.in1 (Builtin.Bytes.sliceParts (.ref c)) (λ r s''=>r=(.none,.none,rawInt (-1))/\s''=s') E s':=by
  have f0:Looks (model prog w) s'.heap (field (.ref c) 0) .none:=λ _ _ _ _ k q=>wpAny_field (k _ _ hc) hcd rfl q
  have f1:Looks (model prog w) s'.heap (field (.ref c) 1) .none:=λ _ _ _ _ k q=>wpAny_field (k _ _ hc) hcd rfl q
  have f2:Looks (model prog w) s'.heap (field (.ref c) 2) (.int (-1) tk):=λ _ _ _ _ k q=>wpAny_field (k _ _ hc) hcd rfl q
  have si:specialOf (.int (-1) tk) "__index__"=pure (some (.builtin "int.__index__")):=by
   show typeLookup (.type "int") "__index__"=_
   refine sr (typeLookup_type ..) (sr (builtinLookup_eq_fast ..) ?_);kernel_rfl
  refine wpAny_bind (f2.here (wpAny_bind (bm_if_false (c:=(Value.int (-1) tk==Value.none)) rfl (sr si (wpAny_bind (wpAny_pure (bm_if_false rfl (wpAny_bind (wpAny_of_eq (a:=-1) rfl (wpAny_pure (bm_if_false (c:=(rawInt (-1)==rawInt 0)) (by decide) (wpAny_bind (f0.here ?_)))))))))))))
  exact wpAny_bind (bm_if_true (c:=(Value.none==Value.none)) rfl (wpAny_pure (wpAny_bind (f1.here (wpAny_bind (bm_if_true (c:=(Value.none==Value.none)) rfl (wpAny_pure (wpAny_pure ⟨rfl,rfl⟩))))))))
 refine wpAny_bind (wpAny_mono e2 (λ r s'' hr=>?_) λ _ _ x=>x)
 obtain ⟨rfl,rfl⟩:=hr
 refine wpAny_bind ((eV ho).here ?_)
 have:=sliceIndices_raw none none (some (-1)) x.size (by decide)
 refine sr (show sliceIndices .none .none (rawInt (-1)) x.size=_ from this) (wpAny_bind (wpAny_pure ?_))
 have hb:sliceBounds none none (some (-1)) x.size=((x.size:Int)-1,-1,-1):=rfl
 refine sr hb ?_
 dsimp only
 refine sr (pX ..) ?_
 exact wpAny_bind (wpAny_newObj_type (wpAny_pure ⟨_,rfl,h⟩) (by show x.reverse.size<=sizeLine;refine sr sizeLine_eq ?_;simpa using hz))
end
theorem so:mroOf (.type "bytearray")=pure [.type "bytearray", .type "object"]:=by refine sr (mroOf_type ..) ?_;kernel_rfl
theorem lw:typeLookup (.type "bytearray") "__new__"=pure (some (.builtin "bytearray.__new__")):=by refine sr (typeLookup_type ..) (sr (builtinLookup_eq_fast ..) ?_);kernel_rfl
theorem lQ:TypeCalled "bytearray" "bytearray.__new__" "bytearray.__init__" :=
 ⟨by decide +kernel,by decide +kernel,⟨_,_,so⟩,madeBy_type so lw (by decide +kernel),by decide +kernel,by refine sr (isSubtype_type ..) ?_;kernel_rfl,eR⟩
theorem xN:checkTypeCall "bytearray" ⟨[],[]⟩=pure ():=by kernel_rfl
theorem pI:checkBuiltinCall "bytearray.__new__" ⟨[.type "bytearray"],[]⟩=pure ():=by kernel_rfl
theorem mJ:entryFor table "bytearray.__new__"=some Builtin.«list.__new__»:=entryFor_alias (id':="list.__new__") (by kernel_rfl) (by first|rfl|decide +kernel) (by decide +kernel) (by kernel_rfl)
theorem mU:plainId "bytearray.__new__"=true:=by decide +kernel
set_option maxRecDepth 1000000 in
set_option maxHeartbeats 4000000 in
theorem nz:("bytearray.__new__".splitOn ".__new__").headD ""="bytearray":=by simp +decide [String.splitOn,String.splitOnAux]
theorem v5:Builtin.Bytes.bindOptional "bytearray.__init__" "bytearray" ["source", "encoding", "errors"] [] []=pure [none,none,none]:=by kernel_rfl
section
variable {β:Bool}{prog:Program}{w:World}{A:Around}{E:Value->Shared->Prop}{R:Result->Shared->Prop}{s:Shared}{a:Addr}{x:Array UInt8}
theorem nZ {Q₁:Value->Shared->Prop} (h:Q₁ (.ref s.heap.objs.size) {s with heap:=s.heap.push {cls:=.type "bytearray", data:=.bytearray #[]}}) :
  codeAny (model prog w) A (.call (.builtin "bytearray.__new__") ⟨[.type "bytearray"],[]⟩) (wants Q₁ E) s:=by
 refine codeAny_of_tree ?_
 show wpAny _ A.in1 (do checkBuiltinCall "bytearray.__new__" ⟨[.type "bytearray"],[]⟩;again (.builtin "bytearray.__new__" ⟨[.type "bytearray"],[]⟩)) _ _ s
 refine wpAny_bind (wpAny_of_eq pI (wpAny_pure ⟨plainId_quiet mU _,codeAny_builtin_stack mJ rfl λ p st=>?_⟩))
 have hsub:=pS
 have hown:=nz
 obtain ⟨hp,g,d,tk,os⟩:=s
 simp only [hown]
 wp_walk
 exact h
theorem ll {id:String}{args:Args}{b:Builtin}(hk:bF (.builtin id args)=true)(hb:entryFor table id=some b)
  (h:aF β (model prog w) (A.under (.builtin id args)) (b args)
   (λ fin s'=>match fin with | .done f=>R (.ok f) s' | .again c'=>c'.quiet=true/\bU β (model prog w) A c' R s') (λ e s'=>R (.error e) s') s) :
  bU β (model prog w) A (.builtin id args) R s:=by
 refine aR hk ?_
 show aF _ _ _ (match entryFor table id with|some b=>b args|none=>unsupported ((withoutEnding? id "#data").getD id)) _ _ s
 exact sr hb h
theorem ve (hg:A.guards=some []) (ho:s.heap.get? a=some {cls:=.type "bytearray", data:=.bytearray x 0}) {Q:Value->Shared->Prop}
  (h:∀ h',h'.get? a=some {cls:=.type "bytearray", data:=.bytearray #[] 0}->Heap.SameBut a s.heap h'->Q .none {s with heap:=h'}) :
  aF true (model prog w) A (call (.builtin "bytearray.__init__") [.ref a]) Q E s:=by
 exact gT (by decide +kernel) eR (eH ho) lr (mH _) (aS (gz ho) (aa (uC v5 (ae (aa (ae (aa (ae (aa (aa (l6 hg (aS (kY ho) (ae (aa (ah (jR (f:=λ _=>#[]) ho (by simp) λ h' g hs=>(aa (uC (u:=pure ()) rfl (ae (ae ⟨_,rfl,h h' g hs⟩))))))))))))))))))))
theorem vv (hg:A.guards=some []) {Q:Value->Shared->Prop} (h:∀ h',h'.get? s.heap.objs.size=some {cls:=.type "bytearray", data:=.bytearray #[] 0}->Heap.SameBut s.heap.objs.size (s.heap.push {cls:=.type "bytearray", data:=.bytearray #[]}) h'->Q (.ref s.heap.objs.size) {s with heap:=h'}) :
  aF true (model prog w) A (call (.type "bytearray") []) Q E s:=by
 refine fx (aR rfl (ae ⟨Code.quiet_builtin _ (by decide +kernel),ll (iw (by decide +kernel)) F.entry_type_call ?_⟩))
 unfold Builtin.«type.__call__»
 dsimp only
 refine sr (if_neg (by rw [lQ.notType];decide)) ?_
 refine aa (ae (aa (ae (sr (if_neg (by decide)) (sr lQ.made (aa (ae (aa (ae (aa (ai (ah (wpAny_call (nZ ?_))))))))))))))
 have ho:(s.heap.push {cls:=.type "bytearray", data:=.bytearray #[]}).get? s.heap.objs.size=some {cls:=.type "bytearray", data:=.bytearray #[] 0}:=Heap.get?_push_size _ rfl
 exact aS (a:=true) ((iV (s:={s with heap:=s.heap.push {cls:=.type "bytearray", data:=.bytearray #[]}}) ho).andThen (Looks.of_pure pS)) (aa (ai (aS (cQ (s:={s with heap:=s.heap.push {cls:=.type "bytearray", data:=.bytearray #[]}}) ho eR.lookup) (ai (aa (ae (aa (ve (A:=A.in1) hg ho λ h' g hs=>(ae (ae (h h' g hs)))))))))))
end
def af (S:Sx)(k:Nat)(β:Bool)(X:Int->Prop)(f:Nat)(vs:List V)(H:AH)(Q:V->AH->Prop):Prop :=
 ∀ (A:Around) (fs:List Env) (s:Shared) (xs:List Value),lu k A->A.frames=some fs->aI S fs H s->cO vs xs ->
  aF β (model S.prog S.w) A (call (.ref (S.fa f)) xs) (PV S fs H s.heap Q) (PX S fs H s.heap X) s
theorem lu.under {k:Nat} {A:Around} {args:Args} (h:qA k A) (hc:(Code.builtin "type.__call__" args).weight=1):lu k (A.under (.builtin "type.__call__" args)):=by
 refine Ai h λ h1 h2 h3 h4=>⟨h1,?_,?_,?_⟩
 .show pushGuards (Code.builtin "type.__call__" args).guards A.guards=some []
  refine sr h2 ?_;rfl
 .show A.depth+(Code.builtin "type.__call__" args).weight+3*k<=900
  lia
 .show A.units+(Code.builtin "type.__call__" args).cUnits+20*k+100<=9000
  have:(Code.builtin "type.__call__" args).cUnits=1:=rfl
  lia
section
variable {K:Kt}{β:Bool}{X:Int->Prop}{ls:Ls}{P P1 P2 P3:AH->(V->AH->Prop)->Prop}{PE:AH->(List V->AH->Prop)->Prop}
theorem gi {args:List Expr}{id:Str}{p0 pos:Pos}{f:Value}(hp:(backTo pos (starEach args K.env)).any (·.1)=false)
  (hf:∀ s H (Q:Value->Shared->Prop) E,aI K.S K.fs H s->Q f s->wpAny K.M K.A (eval (.Name id p0) K.env) Q E s)
  (hk:∀ h:Heap,(∀ b o,K.S.h0x.get? b=some o->h.get? b=some o)->∃ k,(k=Keeper.frame\/k=Keeper.machine)/\Looks K.M h (keeperOf f) k)
  {G:List V->AH->(V->AH->Prop)->Prop}
  (he:fc K β X (spliced (backTo pos (starEach args K.env))) ls PE)
  (hg:∀ xs vs s H Q,cO vs xs->aI K.S K.fs H s->G vs H Q->aF β K.M K.A (call f xs) (PV K.S K.fs H s.heap Q) (PX K.S K.fs H s.heap X) s) :
  an K β X (eval (.Call (.Name id p0) args [] pos) K.env) ls λ H Q=>PE H λ vs H1=>G vs H1 Q:=λ s H Q R L p=>by
 refine aa (ah (hf s H _ _ R (dy hp (aj (he s H _ R L p) (λ xs s1x h=>?_) λ _ _ h=>h))))
 obtain ⟨vs,H1,r,R1x,T1,q⟩:=h
 exact ⟨hk s1x.heap R1x.base,(aj (hg xs vs s1x H1 Q r R1x q) (λ _ _ h=>h.trans T1) λ _ _ h=>h.trans T1)⟩
theorem vZ (O:a7 K){args:List Expr}{id:Str}{p0 pos:Pos}{f:Nat}(hp:(backTo pos (starEach args K.env)).any (·.1)=false)
  (hx:K.env.kindOf id=some .globalImplicit) (hd:(id==("__debug__" : Str))=false) (hm:K.S.mg id=some (.ref (K.S.fa f))) (hk:keepIn K.S.K (.ref (K.S.fa f))=true)
  (he:fc K β X (spliced (backTo pos (starEach args K.env))) ls PE) :
  an K β X (eval (.Call (.Name id p0) args [] pos) K.env) ls λ H Q=>PE H λ vs H1=>af K.S K.k β X f vs H1 Q :=
 gi hp (λ s H Q E R q=>gm O R hx hd hm q) (λ h hb=>g8 (K.S.X.keeps hb) hk) he
  λ xs vs s H Q r R c=>c K.A K.fs s xs O.room.room O.frames R r
theorem Bb (O:a7 K){args:List Expr}{id:Str}{p0 pos:Pos}{c f:Nat}(hp:(backTo pos (starEach args K.env)).any (·.1)=false)
  (hx:K.env.kindOf id=some .globalImplicit) (hd:(id==("__debug__" : Str))=false) (hm:K.S.mg id=some (.ref (K.S.ca c))) (hk:keepIn K.S.K (.ref (K.S.ca c))=true)
  (hmk:makesIn K.S.K (K.S.ca c)=true) (hi:findIn K.S.K (.ref (K.S.ca c)) "__init__"=some (some (.ref (K.S.fa f)))) (ht:typeIn K.S.K (.ref (K.S.fa f))=some (.type "function"))
  (he:fc K β X (spliced (backTo pos (starEach args K.env))) ls PE) :
  an K β X (eval (.Call (.Name id p0) args [] pos) K.env) ls λ H Q=>PE H λ vs H1=>∀ d a,H1 d=none->H1 a=none->a≠d ->
   af K.S K.k β X f (.ref a::vs) ((H1.set d (.attrs [])).set a (.inst c d)) λ u H2x=>u=.none/\Q (.ref a) H2x :=
 gi (G:=λ vs H1 Q=>∀ d a,H1 d=none->H1 a=none->a≠d->af K.S K.k β X f (.ref a::vs) ((H1.set d (.attrs [])).set a (.inst c d)) λ u H2x=>u=.none/\Q (.ref a) H2x)
  hp (λ s H Q E R q=>gm O R hx hd hm q) (λ h hb=>g8 (K.S.X.keeps hb) hk) he λ xs vs s H Q r R g=>by
  obtain ⟨hh,gg,dd,tt,oo⟩:=s
  refine fx (Ay (K.S.X.keeps R.base) hmk hi ht ?_)
  have hd0:H hh.objs.size=none:=R.fresh
  have hsz:((hh.push emptyDict)).objs.size=hh.objs.size+1:=Heap.size_push ..
  have R1x:aI K.S K.fs (H.set hh.objs.size (.attrs [])) ⟨hh.push emptyDict,gg,dd,tt,oo⟩:=R.alloc (OR.attrs (n:=0) .nil) rfl
  have ha0:(H.set hh.objs.size (.attrs [])) (hh.objs.size+1)=none:=by exact sl hsz R1x.fresh
  have ha1:H (hh.objs.size+1)=none:=by rw [F4 _ _ (Nat.succ_ne_self _)] at ha0;exact ha0
  have R2x:aI K.S K.fs ((H.set hh.objs.size (.attrs [])).set (hh.objs.size+1) (.inst c hh.objs.size)) ⟨(hh.push emptyDict).push (instObj (K.S.ca c) hh.objs.size),gg,dd,tt,oo⟩:=by
   have:=R1x.alloc (ao:=.inst c hh.objs.size) OR.inst rfl
   rw [show (({heap:=hh.push emptyDict,gens:=gg,drawn:=dd,toks:=tt,os:=oo}:Shared).heap.objs.size)=hh.objs.size+1 from hsz] at this
   exact this
  have T2:Tr H hh ((H.set hh.objs.size (.attrs [])).set (hh.objs.size+1) (.inst c hh.objs.size)) ((hh.push emptyDict).push (instObj (K.S.ca c) hh.objs.size)):=by
   refine (Tr.alloc H hh emptyDict (.attrs [])).trans ?_
   have:=Tr.alloc (H.set hh.objs.size (.attrs [])) (hh.push emptyDict) (instObj (K.S.ca c) hh.objs.size) (.inst c hh.objs.size)
   rwa [hsz] at this
  have cs:=g hh.objs.size (hh.objs.size+1) hd0 ha1 (Nat.succ_ne_self _)
  have:=cs (K.A.under (.builtin "type.__call__" ⟨.ref (K.S.ca c)::xs,[]⟩)) K.fs _ (.ref (hh.objs.size+1)::xs) (lu.under O.room rfl) (by
   show pushEnvs (Code.builtin "type.__call__" ⟨.ref (K.S.ca c)::xs,[]⟩).envs K.A.frames=some K.fs
   refine sr O.frames ?_;rfl) R2x (.cons (.ref _) r)
  refine aj this (λ v s' z=>?_) λ e s' z=>z.trans T2
  obtain ⟨u,H',ru,R',T',rfl,q⟩:=z
  cases ru
  exact ⟨rfl,_,H',.ref _,R',T2.trans T',q⟩
end
noncomputable def dz:Expr->Bool
 | .Call _ as _ _=>!as.isEmpty
 | _=>true
theorem vK {o:Expr}{attr:Str}{env:Env}{t:Sem Value}(h:dz o=true):attributeBase o attr env t=t:=by
 induction o using Expr.casesOn with
 | Call f as kw pos =>
  rcases as with _|⟨a,as⟩
  .exact absurd h Bool.false_ne_true
  .induction f using Expr.casesOn<;>rfl
 | _=>rfl
section
variable {K:Kt}{β:Bool}{X:Int->Prop}{ls:Ls}{P P1 P2 P3:AH->(V->AH->Prop)->Prop}{PE:AH->(List V->AH->Prop)->Prop}
theorem lF {o:Expr}{name:Str}{apos pos:Pos}{env:Env}{ov:Value}{n:Nat}{args:List (Bool×Sem Value)}(hp:args.any (·.1)=false)(hn:n<30)(hl:(apos.endLine==pos.line)=true) :
  methodCall o name apos pos env ov n args []=(do
   let (f,first) <- holding [ov] (getMethod ov name (do return (<- importBound o env).getD true))
   callWith pos f first args []):=by
 have hf:methodCallForm n args []=true:=by
  dsimp only [methodCallForm]
  have:args.all (λ x=>!x.1)=true:=by
   rw [all_eq_true]
   intro x hx
   rw [List.any_eq_false] at hp
   simpa using hp x hx
  simp [this,hn]
 dsimp only [methodCall]
 refine sr hf ?_
 dsimp only [methodCallPos]
 simp only [hl,Bool.not_true,Bool.false_or,if_true,pure_bind]
 rfl
theorem tH {o:Expr}{name:Str}{apos pos:Pos}{args:List Expr}{Pre:V->AH->Prop}{f:Value}{G:V->List V->AH->(V->AH->Prop)->Prop}(hb:dz o=true)
  (hp:(backTo pos (starEach args K.env)).any (·.1)=false) (hn:args.length<30) (hl:(apos.endLine==pos.line)=true)
  (hget:∀ x u s H pl (Z:Value×List Value->Shared->Prop) E,VR u x->aI K.S K.fs H s->Pre u H->Z (f,[x]) s->wpAny K.M K.A (getMethod x name pl) Z E s)
  (hk:∀ h:Heap,(∀ b o,K.S.h0x.get? b=some o->h.get? b=some o)->∃ k,(k=Keeper.frame\/k=Keeper.machine)/\Looks K.M h (keeperOf f) k)
  (ho:an K β X (eval o K.env) ls P1) (he:fc K β X (spliced (backTo pos (starEach args K.env))) ls PE)
  (hg:∀ x u xs vs s H Q,VR u x->cO vs xs->aI K.S K.fs H s->G u vs H Q->aF β K.M K.A (call f (x::xs)) (PV K.S K.fs H s.heap Q) (PX K.S K.fs H s.heap X) s) :
  an K β X (eval (.Call (.Attribute o name apos) args [] pos) K.env) ls λ H Q=>P1 H λ u H1=>Pre u H1/\PE H1 λ vs H2x=>G u vs H2x Q:=λ s H Q R L p=>by
 refine sr (arm_eval_Call ..) (sr (vK hb ..) (an.bind (t:=eval o K.env) ho R L p (λ x u s1x H1 r1x R1x L1x T1 p1x=>aa (ag ?_)) λ _ _ h=>h))
 show aF _ _ _ (methodCall o name apos pos K.env x (args.length+0) (backTo pos (starEach args K.env)) []) _ _ _
 refine sr (lF hp (by omega) hl) (aa (ai (ah (hget x u s1x H1 _ _ _ r1x R1x p1x.1 (dy hp (aj (he s1x H1 _ R1x L1x p1x.2) (λ xs s2x h=>?_) λ _ _ h=>h.trans T1))))))
 obtain ⟨vs,H2x,r2x,R2x,T2,q⟩:=h
 exact ⟨hk s2x.heap R2x.base,(aj (hg x u xs vs s2x H2x Q r1x r2x R2x q) (λ _ _ h=>h.trans (T1.trans T2)) λ _ _ h=>h.trans (T1.trans T2))⟩
theorem bX.other {es:List (Nat×V)}{ds:List DictEntry}(r:bX es ds){name:Str}(hn:(List.range 12).all (λ k=>!(nm k==name))=true):PySem.W.getL name ds=some none:=by
 have:ds.find? (·.key.isStr name)=none:=by
  rw [List.find?_eq_none]
  intro e he
  induction r with
  | nil=>contradiction
  | @cons j w es h t x ds hj rv _ ih =>
   rcases mem_cons.mp he with rfl|he
   .have:=(all_eq_true.mp hn) j (mem_range.mpr hj)
    show ¬ ((nm j==name)=true)
    simpa using this
   .exact ih he
 dsimp only [PySem.W.getL]
 refine sr this (sr r.any ?_);rfl
theorem wv (O:a7 K)(SO:nq K.S){o:Expr}{name:Str}{apos pos:Pos}{args:List Expr}{c f:Nat}(hc:iq c=true)(hb:dz o=true)
  (hp:(backTo pos (starEach args K.env)).any (·.1)=false) (hn:args.length<30) (hl:(apos.endLine==pos.line)=true)
  (hm:findIn K.S.K (.ref (K.S.ca c)) name=some (some (.ref (K.S.fa f)))) (ht:typeIn K.S.K (.ref (K.S.fa f))=some (.type "function")) (hk:keepIn K.S.K (.ref (K.S.fa f))=true)
  (hnm:(List.range 12).all (λ k=>!(nm k==name))=true)
  (ho:an K β X (eval o K.env) ls P1) (he:fc K β X (spliced (backTo pos (starEach args K.env))) ls PE) :
  an K β X (eval (.Call (.Attribute o name apos) args [] pos) K.env) ls λ H Q=>P1 H λ u H1=>fz c u H1/\PE H1 λ vs H2x=>af K.S K.k β X f (u::vs) H2x Q :=
 tH (K:=K) (β:=β) (X:=X) (ls:=ls) (name:=name) (apos:=apos) (pos:=pos) (args:=args) (f:=.ref (K.S.fa f)) (P1:=P1) (PE:=PE)
  (Pre:=fz c)
  (G:=λ u vs H2x Q=>af K.S K.k β X f (u::vs) H2x Q) hb hp hn hl
  (λ x u s H pl Z E r R p z=>by
   induction r with
   | ref a =>
    refine k9 p λ d es e1 e2=>ln (R.inst e1 e2) λ ds n I ra uz1=>?_
    have C:=SO.cls c hc
    refine method_fn (K.S.X.keeps R.base) I C.ga C.gg hm ht ?_ z
    show (lookIn name (dictOf ds n)).map _=_
    refine sr (lookIn_dict ..) (sr (ra.other hnm ..) ?_);rfl
   | _=>exact p.elim)
  (λ h hb=>g8 (K.S.X.keeps hb) hk) ho he
  (λ x u xs vs s H Q r rs R g=>g K.A K.fs s (x::xs) O.room.room O.frames R (.cons r rs))
end
noncomputable def o9:BI->Value
 | .len | .lenL | .lenB=>.builtin "len"
 | .abs=>.builtin "abs"
 | .min=>.builtin "min"
 | .int=>.type "int"
 | .str=>.type "str"
 | .chr=>.builtin "chr"
 | .ord=>.builtin "ord"
 | .bytesL | .bytesB _=>.type "bytes"
 | .barr=>.type "bytearray"
 | .list=>.type "list"
 | .isInt | .isBytes=>.builtin "isinstance"
theorem pM (a:Int):Str.ofString (toString a)=⟨(mO a).toArray⟩:=by
 exact PySem.Str.ofString_eq_toList _
theorem pJ {vs:List V}{xs:List Value}(r:cO vs xs){ns:List Int}(e:bW vs=some ns):ns.length=vs.length:=by
 induction r generalizing ns with
 | nil=>(injection e with e;subst e);rfl
 | @cons v x vs xs rv _ ih =>
  induction v with
  | int i =>
   simp only [bW,Option.map_eq_some_iff] at e
   obtain ⟨ms,e1,rfl⟩:=e
   simp [ih e1]
  | _=>simp [bW] at e
theorem ou {ns:List Int}(h:ns.all eW=true):(byteArr ns).toList.map UInt8.toNat=ns.map toNat:=by
 unfold byteArr
 refine sr toList_toArray (sr map_map ?_)
 apply List.map_congr_left
 intro n hn
 have:=all_eq_true.mp h n hn
 unfold eW at this
 simp only [Bool.and_eq_true,decide_eq_true_eq] at this
 simp only [Function.comp,toUInt8,UInt8.toNat_ofNat']
 lia
section
variable {β:Bool}{S:Sx}{fs:List Env}{H H0:AH}{hp:Heap}{s:Shared}{A:Around}{E:Value->Shared->Prop}
theorem AZ {b:BI}{vs:List V}{xs:List Value}{Q:V->AH->Prop}(hh:A.handled=none)(hg:A.guards=some [])(hβ:b=.barr->β=true)(hb1:b≠.isInt)(hb2:b≠.isBytes)(R:aI S fs H s)(T:Tr H0 hp H s.heap)(r:cO vs xs)(h:uZ b vs H Q) :
  aF β (model S.prog S.w) A (call (o9 b) xs) (PV S fs H0 hp Q) E s:=by
 induction b with
 | isInt=>exact absurd rfl hb1
 | isBytes=>exact absurd rfl hb2
 | barr =>
  refine r.on0 h λ h=>?_
  obtain rfl:=hβ rfl
  refine vv hg λ h' g hs=>?_
  have hd:H s.heap.objs.size=none:=R.fresh
  obtain ⟨R',T'⟩:=Gg R (R.push {cls:=.type "bytearray", data:=.bytearray #[]}) (aX _) R.new_size (Tr.push H s.heap _) hd hs g (OR.barr (x:=#[])) s.toks
  exact ⟨_,_,.ref _,R',T.trans T',h _ hd⟩
 | len =>
  refine r.on1 h λ v x rv h=>?_
  induction rv with
  | bytes b t=>exact ah (PySem.W.len_bytes (by have:=h.1;simp at this;lia) (PV.same R T (by have:=h.2;exact (by simpa using VR.int (b.size:Int) _)) (by simpa using h.2) _))
  | str l t=>exact ah (PyProof.Rows.len_str (by have:=h.1;simp [PySem.Str.length];lia) (PV.same R T (.int _ _) (by simpa [PySem.Str.length] using h.2) _))
  | _=>exact h.elim
 | lenL =>
  refine r.on1 h λ v x rv h=>rv.onR h λ a z=>nT z λ ws e hz q=>?_
  obtain ⟨ys,n,g,ry⟩:=R.listAt e
  have hl:=ry.length
  rw [Array.length_toList] at hl
  exact ah (PyProof.Rows.len_list (aW g) (by refine sr hl ?_;lia) (PV.same R T (.int _ _) (by refine sr hl ?_;exact q) _))
 | lenB =>
  refine r.on1 h λ v x rv h=>rv.onR h λ a z=>nT z λ l e hz q=>?_
  refine aT (R.barrAt e) λ uz1 ez1 g=>?_;subst ez1
  exact ah (yM g (by simpa using hz) λ t k=>PV.same R T (.int _ _) (by simpa using q) k)
 | abs =>
  refine r.on1 h λ v x rv h=>rv.onI h λ i t h=>?_
  exact ah (PyProof.Rows.call_abs_int λ u tk=>PV.same R T (.int _ _) (by refine sr (show (if i<0 then -i else i)=(i.natAbs:Int) from (by split<;>lia)) ?_;exact h) tk)
 | min =>
  refine r.on2 h λ v x w y rv rw' h=>rv.onI h λ i t h=>rw'.onI h λ j u h=>ah (min_two_ints hh λ h' tk k=>?_)
  have:=Ge (Q:=Q) (u:=.int (if j<i then j else i)) (v:=if j<i then .int j u else .int i t) R T k (by split<;>exact .int _ _) h tk
  exact this
 | int =>
  refine r.on1 h λ v x rv h=>?_
  induction rv with
  | int i t=>exact ah (call_int_int (PV.same' R T (.int _ _) h))
  | bool b=>exact ah (call_int_bool (PV.same R T (.int _ _) h _))
  | _=>exact h.elim
 | str =>
  refine r.on1 h λ v x rv h=>rv.onI h λ i t z=>?_
  obtain ⟨h1,h⟩:=z
  refine ah (PySem.P.str_of_int ?_ (PV.same R T (iU (pM i) _) h _))
  by_cases h0:i.natAbs=0
  .refine sr h0 ?_;decide
  .have:=(Nat.log2_lt h0).mpr h1
   lia
 | chr =>
  refine r.on1 h λ v x rv h=>rv.onI h λ i t z=>?_
  obtain ⟨h1,h⟩:=z
  exact ah (PySem.P.chr_of_int (by simp;lia) (PV.same R T (iU rfl _) h _))
 | ord =>
  refine r.on1 h λ v x rv h=>rv.onS h λ l t h=>?_
  match l,h with
  | [c],h=>exact ah (PySem.P.ord_of_char (PV.same R T (.int _ _) h _))
 | bytesL =>
  refine r.on1 h λ v x rv h=>rv.onR h λ a z=>Bo z λ ws ns e hi hb hz q=>?_
  obtain ⟨ys,n,g,ry⟩:=R.listAt e
  have hr:∀ n∈ns,0<=n/\n<256:=λ n hn=>by
   have:=all_eq_true.mp hb n hn
   unfold eW at this
   simpa using this
  refine ah (call_bytes_ints (vs:=ys.toList) (by simpa using aW g) (gX ry hi) hr (by refine sr ry.length (sl (pJ ry hi) (sr sizeLine_eq ?_));exact hz) hh λ h' t k kk=>?_)
  exact Ge R T kk (fY (ou hb).symm t) q k
 | bytesB _ =>
  refine r.on1 h λ v x rv h=>rv.onR h λ a z=>nT z λ l e hz q=>?_
  refine aT (R.barrAt e) λ uz1 ez1 g=>?_;subst ez1
  exact ah (ti g (by simpa using hz) λ t k=>PV.same R T (.bytes _ _) q k)
 | list =>
  refine r.on1 h λ v x rv h=>rv.onR h λ a z=>nT z λ ws e hz q=>?_
  obtain ⟨ys,n,g,ry⟩:=R.listAt e
  refine ah (call_list_seq a (.inl rfl) g rfl rfl (λ h' c' k hD=>?_) (by have:=ry.length;rw [Array.length_toList] at this;refine sr this (sr sizeLine_eq ?_);exact hz))
  have R1x:=R.grow k
  have hd:H s.heap.objs.size=none:=R.fresh
  have R2x:=R1x.name (a:=s.heap.objs.size) (ao:=.list ws) (.inl R.new_size) hD (.list ry) (λ env m q=>by
   refine sf (FunFrames.mem R.frames env m) λ L' o' a' uz1 c uz2=>?_
   rw [q] at a';(injection a' with a';subst a')
   rw [aX] at c;contradiction)
  exact ⟨_,_,.ref _,R2x,T.trans ⟨λ b o eb nb=>⟨k b o eb,(sr (F4 _ _ (ne_of_lt (Heap.lt_size eb))) nb)⟩,j3 λ b o eb=>⟨_,k b o eb⟩⟩,q _ hd⟩
end
noncomputable def uR:BI->Value
 | .isInt=>.type "int"
 | _=>.type "bytes"
theorem t7:typeOf (.type "int")=pure (.type "type"):=by kernel_rfl
theorem oM:typeOf (.type "bytes")=pure (.type "type"):=by kernel_rfl
theorem yC:isSubtype (.type "int") (.type "int")=pure true:=by refine sr (isSubtype_type ..) ?_;kernel_rfl
theorem zr:isSubtype (.type "bytes") (.type "bytes")=pure true:=by refine sr (isSubtype_type ..) ?_;kernel_rfl
theorem yD:isSubtype (.type "int") (.type "bytes")=pure false:=by refine sr (isSubtype_type ..) ?_;kernel_rfl
theorem ye:isSubtype (.type "bytes") (.type "int")=pure false:=by refine sr (isSubtype_type ..) ?_;kernel_rfl
theorem fX {b:Array UInt8} {t:Tok}:Meets (Builtin.«isinstance» ⟨[.bytes b t,.type "int"],[]⟩) (λ _ R s=>R (.ok (.ret (.bool false))) {s with toks:=s.toks+1}) :=
 λ _ _ _ _ s hs=>by
  obtain ⟨h,g,d,tk,os⟩:=s
  exact isinstance_outer (isinstance_nested_false_bytes (by decide) t7 ye hs)
section
variable {β:Bool}{S:Sx}{fs:List Env}{H H0:AH}{hp:Heap}{s:Shared}{A:Around}{E:Value->Shared->Prop}
theorem zO {b:BI}{v:V}{x:Value}{Q:V->AH->Prop}(hb:b=.isInt\/b=.isBytes)(R:aI S fs H s)(T:Tr H0 hp H s.heap)(r:VR v x)(h:uZ b [v] H Q) :
  aF β (model S.prog S.w) A (call (.builtin "isinstance") [x,uR b]) (PV S fs H0 hp Q) E s:=by
 rcases hb with rfl|rfl
 .induction r with
  | int i t=>exact ah (call_isinstance_yes (typeIs_int s i t) t7 yC (PV.same' R T (.bool _) h))
  | bytes b t=>exact ah (call_isinstance fX (PV.same R T (.bool _) h _))
  | _=>exact h.elim
 .induction r with
  | int i t=>exact ah (call_isinstance (isinstance_false_int (by decide) oM yD) (PV.same R T (.bool _) h _))
  | bytes b t=>exact ah (call_isinstance_yes (Tx:="bytes") rfl oM zr (PV.same' R T (.bool _) h))
  | _=>exact h.elim
end
section
variable {K:Kt}{β:Bool}{X:Int->Prop}{ls:Ls}{P P1 P2 P3:AH->(V->AH->Prop)->Prop}{PE:AH->(List V->AH->Prop)->Prop}
theorem kq {v:Value}{h:Heap}{M:Model}(hv:∀ a,v≠.ref a):Looks M h (keeperOf v) Keeper.machine:=by
 apply Looks.of_pure
 cases v<;>first|rfl|exact absurd rfl (hv _)
theorem ro (b:BI)(a:Addr):o9 b≠.ref a:=λ e=>absurd (show (o9 b).ctorIdx=10 from congrArg Value.ctorIdx e) (by induction b<;>exact Nat.ne_of_beq_eq_false rfl)
theorem xm (O:a7 K){b:BI}{args:List Expr}{id:Str}{p0 pos:Pos}(hp:(backTo pos (starEach args K.env)).any (·.1)=false)
  (hx:K.env.kindOf id=some .globalImplicit) (hd:(id==("__debug__" : Str))=false) (hm:K.S.mg id=none) (hm':K.S.mb id=some (o9 b)) (hβ:b=.barr->β=true) (hb1:b≠.isInt) (hb2:b≠.isBytes)
  (he:fc K β X (spliced (backTo pos (starEach args K.env))) ls PE) :
  an K β X (eval (.Call (.Name id p0) args [] pos) K.env) ls λ H Q=>PE H λ vs H1=>uZ b vs H1 Q :=
 gi (G:=uZ b) hp (λ s H Q E R q=>fE O R hx hd hm hm' q) (λ h hb=>⟨_,.inr rfl,kq (ro b)⟩) he
  λ xs vs s H Q r R c=>AZ O.room.1 O.room.2.1 hβ hb1 hb2 R (Tr.refl _ _) r c
theorem xV (O:a7 K){b:BI}{a:Expr}{id tn:Str}{p0 p1 pos:Pos}(hb:b=.isInt\/b=.isBytes)
  (hx:K.env.kindOf id=some .globalImplicit) (hd:(id==("__debug__" : Str))=false) (hm:K.S.mg id=none) (hm':K.S.mb id=some (.builtin "isinstance"))
  (hx1:K.env.kindOf tn=some .globalImplicit) (hd1:(tn==("__debug__" : Str))=false) (hm1:K.S.mg tn=none) (hm1':K.S.mb tn=some (uR b))
  (hs:starEach [a,.Name tn p1] K.env=[(false,eval a K.env),(false,eval (.Name tn p1) K.env)])
  (he:an K β X (eval a K.env) ls P1) :
  an K β X (eval (.Call (.Name id p0) [a,.Name tn p1] [] pos) K.env) ls λ H Q=>P1 H λ v H1=>uZ b [v] H1 Q:=λ s H Q R L p=>by
 refine aa (ah (fE O R hx hd hm hm' (sr hs ?_)))
 show aF _ _ _ (callWith pos (.builtin "isinstance") [] [(false,eval a K.env),(false,eval (.Name tn p1) K.env)] []) _ _ _
 exact dy rfl (he.bind R L p (λ x u s1x H1 r1x R1x L1x T1 p1x=>aa (ae (aa (ai (aa (ah (fE O R1x hx1 hd1 hm1 hm1' (aa (ae (aa (ai (ae (ae (ae ⟨⟨_,.inr rfl,fT⟩,(zO hb R1x T1 r1x p1x)⟩)))))))))))))) λ _ _ h=>h)
end
noncomputable def pK:BM->Str
 | .append | .bappend=>"append"
 | .pop | .pop0 _=>"pop"
 | .bextend=>"extend"
 | .getI | .getS=>"get"
 | .join=>"join"
noncomputable def zc:BM->String
 | .append=>"list.append"
 | .bappend=>"bytearray.append"
 | .pop | .pop0 _=>"list.pop"
 | .bextend=>"bytearray.extend"
 | .getI | .getS=>"dict.get"
 | .join=>"str.join"
theorem lI:PlainAttrs "bytearray" :=
 ⟨⟨"bytearray.__getattribute__", by refine sr (typeLookup_type ..) (sr (builtinLookup_eq_fast ..) ?_);kernel_rfl,by decide +kernel⟩,by rw [typeLookup_type,builtinLookup_eq_fast];kernel_rfl⟩
theorem jX:typeOf (.builtin "bytearray.append")=pure (.type "method_descriptor"):=by show builtinType _=_;refine sr builtinType_eq_fast ?_;kernel_rfl
theorem ky:typeOf (.builtin "bytearray.extend")=pure (.type "method_descriptor"):=by show builtinType _=_;refine sr builtinType_eq_fast ?_;kernel_rfl
section
variable {β:Bool}{S:Sx}{fs:List Env}{H H0:AH}{hp:Heap}{s:Shared}{A:Around}{E:Value->Shared->Prop}
theorem eJ {h:Heap} {a:Addr} {o:Obj} {prog w} {L:Type} [DecidableEq L] {knd:KeyKind prog w L} {kvs:List (L×Value)} (g:h.get? a=some o) (d:o.IsDictOf knd kvs):o.cls=.type "dict"/\o.dict=none:=by
 refine k9 d λ es ep uz1 uz2=>?_;obtain ⟨h1,h2,h3⟩:=uz1
 exact ⟨h1,h2⟩
theorem nR {h:Heap}{a:Addr}{o:Obj}{p:Obj->Prop}(g:h.get? a=some o)(hp:p o):∀ b,Value.ref a=.ref b->∃ o,h.get? b=some o/\p o:=λ b e=>by injection e with e;subst e;exact ⟨o,g,hp⟩
theorem zX {b:BM}{u:V}{x:Value}{pl:Sem Bool}{Z:Value×List Value->Shared->Prop}(R:aI S fs H s)(r:VR u x)(p:jw b u H)(z:Z (.builtin (zc b),[x]) s) :
  wpAny (model S.prog S.w) A (getMethod x (pK b) pl) Z E s:=by
 revert z
 have li (q:jJ u λ a=>∃ vs,H a=some (.list vs)) {n:String} {id:String} (h1:Slot "list" n id) (h2:typeOf (.builtin id)=pure (.type "method_descriptor")):Z (.builtin id,[x]) s->wpAny (model S.prog S.w) A (getMethod x n pl) Z E s:=r.onR q λ a q z =>
  by obtain ⟨vs,e⟩:=q;exact by obtain ⟨ys,n,g,ry⟩:=R.listAt (.inl e);exact getMethod_builtin (T:="list") ⟨_,g,rfl⟩ F.plainAttrs_list h1 h2 (nR g rfl) z
 have ba (q:jJ u λ a=>∃ l,H a=some (.barr l)) {n:String} {id:String} (h1:Slot "bytearray" n id) (h2:typeOf (.builtin id)=pure (.type "method_descriptor")):Z (.builtin id,[x]) s->wpAny (model S.prog S.w) A (getMethod x n pl) Z E s:=r.onR q λ a q z =>
  by obtain ⟨l,e⟩:=q;exact by obtain ⟨_,_,g⟩:=R.barrAt e;exact getMethod_builtin (T:="bytearray") ⟨_,g,rfl⟩ lI h1 h2 (nR g rfl) z
 induction b with
 | append=>exact li p F.slot_list_append F.type_list_append
 | pop=>exact li p F.slot_list_pop F.type_list_pop
 | pop0 _=>exact li p F.slot_list_pop F.type_list_pop
 | bappend=>exact ba p fS jX
 | bextend=>exact ba p fN ky
 | getI=>exact r.onR p λ a q z=>by obtain ⟨es,e⟩:=q;exact by obtain ⟨o,_,g,_,hd,_⟩:=R.idictAt e;exact getMethod_builtin (T:="dict") ⟨_,g,(eJ g hd).1⟩ F.plainAttrs_dict F.slot_dict_get F.type_dict_get (nR g (eJ g hd).2) z
 | getS=>exact r.onR p λ a q z=>by obtain ⟨es,e⟩:=q;exact by obtain ⟨o,_,g,_,hd,_⟩:=R.sdictAt e;exact getMethod_builtin (T:="dict") ⟨_,g,(eJ g hd).1⟩ F.plainAttrs_dict F.slot_dict_get F.type_dict_get (nR g (eJ g hd).2) z
 | join=>exact r.onS p λ l t q z=>getMethod_builtin (T:="str") rfl F.plainAttrs_str F.slot_str_join F.type_str_join (λ b e=>nomatch e) z
end
theorem eQ (f:Array Value->Array Value) (xs:Array Value) (n:Nat):∃ n',Obj.mapSeq f {cls:=.type "list", data:=.seq xs n}={cls:=.type "list", data:=.seq (f xs) n'}:=by
 exact ⟨_,rfl⟩
theorem kB {K L:Type}[DecidableEq K][DecidableEq L]{f:K->L}(hf:∀ a b,f a=f b->a=b){es:List (K×V)}{kvs:List (L×Value)}(r:bQ f es kvs){k:K}{d:V}{x:Value}(rd:VR d x) :
  VR ((bV es k).getD d) ((valueAt kvs (f k)).getD x):=by
 obtain ⟨h1,h2⟩:=iX hf r (k:=k)
 induction e:bV es k with
 | none=>exact sr (h2 e) rd
 | some v =>
  exact aT (h1 v e) λ y e' ry=>sr e' ry
theorem zV {vs:List V}{ss:List (List Nat)}(e:bT vs=some ss):ss.length=vs.length:=by
 induction vs generalizing ss with
 | nil=>(injection e with e;subst e);rfl
 | cons v vs ih =>
  induction v with
  | str l =>
   simp only [bT,Option.map_eq_some_iff] at e
   obtain ⟨ms,e1,rfl⟩:=e
   simp [ih e1]
  | _=>simp [bT] at e
theorem lO (acc:Array Nat):∀ ss:List (List Nat),((ss.map aY).foldl (λ a p=>a++(⟨([]:List Nat).toArray⟩:Str).cps++p.cps) acc).toList=acc.toList++ss.flatten
 | []=>by simp
 | x::r=>by
  refine sr map_cons (sr List.foldl_cons (sr (lO _ r) ?_))
  simp [aY]
theorem qd (ss:List (List Nat)):Txt.join ⟨([]:List Nat).toArray⟩ (ss.map aY)=⟨ss.flatten.toArray⟩:=by
 dsimp only [Txt.join,Builtin.Str.glued]
 induction ss with
 | nil=>rfl
 | cons x r =>
  simp only [map_cons,List.drop_succ_cons,List.drop_zero,List.headD_cons]
  congr 1
  apply Array.ext'
  refine sr (lO ..) ?_
  simp [aY]
section
variable {β:Bool}{S:Sx}{fs:List Env}{H H0:AH}{hp:Heap}{s:Shared}{A:Around}{E:Value->Shared->Prop}
theorem kc {a:Addr}{vs vs':List V}{n:Nat}{h':Heap}{xs':Array Value}{Q:V->AH->Prop}{v:V}{x:Value}(R:aI S fs H s)(T:Tr H0 hp H s.heap)(e:H a=some (.list vs))(hs:Heap.SameBut a s.heap h')
  (g:h'.get? a=some {cls:=.type "list", data:=.seq xs' n}) (r:cO vs' xs'.toList) (rv:VR v x) (q:Q v (H.set a (.list vs'))) (tk:Nat):PV S fs H0 hp Q x {s with heap:=h',toks:=tk} :=
 ⟨v,_,rv,(R.put e rfl hs g (.list r)).toks tk,T.trans (Tr.put e hs g),q⟩
theorem Bn {b:BM}{u:V}{x:Value}{vs:List V}{xs:List Value}{Q:V->AH->Prop}(hg:A.guards=some [])(hβ:(b=.bappend\/b=.bextend)->β=true)(R:aI S fs H s)(T:Tr H0 hp H s.heap)(r:VR u x)(rs:cO vs xs)(h:we b u vs H Q) :
  aF β (model S.prog S.w) A (call (.builtin (zc b)) (x::xs)) (PV S fs H0 hp Q) E s:=by
 induction b with
 | append =>
  refine r.onR h λ a h=>rs.on1 h λ v y rv z=>bc λ zz=>?_
  obtain ⟨ws,e,hz,q⟩:=z
  obtain ⟨ys,n,g,ry⟩:=R.listAt (.inl e)
  refine zz ?_
  exact ah (wpAny_list_append_plain ⟨n,g⟩ (λ h' ⟨n',g'⟩ hs=>kc R T e hs g' (ry.push rv) .none q s.toks) (by have:=ry.length;rw [Array.length_toList] at this;refine sr this (sr sizeLine_eq ?_);exact hz))
 | pop =>
  refine r.onR h λ a h=>rs.on0 h λ z=>bc λ zz=>?_
  obtain ⟨ws,v,e,hz,q⟩:=z
  obtain ⟨ys,n,g,ry⟩:=R.listAt (.inl e)
  obtain ⟨zs,z,ez,rz,rv⟩:=ry.snoc_inv
  refine zz ?_
  have hl:ys.size=zs.length+1:=by have:=congrArg List.length ez;simpa using this
  have hy:ys[ys.size-1]?=some z:=by
   refine sl Array.getElem?_toList (sr ez (sr hl ?_))
   simp
  obtain ⟨n',e'⟩:=eQ (λ xs=>xs.eraseIdxIfInBounds (ys.size-1)) ys n
  have g':=Heap.get?_update_self (Obj.mapSeq λ xs=>xs.eraseIdxIfInBounds (ys.size-1)) g (by refine sr e' ?_;rfl)
  rw [e'] at g'
  refine ah (call_meets F.slot_list_pop ⟨_,g,rfl⟩ F.entry_list_pop (F.args_list_pop_1 _) (PySem.MeetsSeq.list_pop_last a ys n z hy (by have:=rz.length;refine sr sizeLine_eq (sr hl (sr this ?_));lia)) ⟨g,?_⟩)
  refine kc R T e (Heap.SameBut.update ..) g' ?_ rv q s.toks
  have:(ys.eraseIdxIfInBounds (ys.size-1)).toList=zs:=by
   have e1:(ys.eraseIdxIfInBounds (ys.size-1)).toList=ys.toList.eraseIdx (ys.size-1):=by simp
   refine sr e1 (sr ez (sr hl ?_))
   simp [List.eraseIdx_append_of_length_le]
  exact sr this rz
 | pop0 w =>
  refine r.onR h λ a h=>rs.on1 h λ v y rv h=>rv.onI h λ i t z=>bc λ zz=>?_
  obtain ⟨rfl,v,ws,e,hz,q⟩:=z
  obtain ⟨ys,n,g,ry⟩:=R.listAt (.inl e)
  obtain ⟨ys⟩:=ys
  refine zz ?_
  rcases ry with _ | @⟨_,z,_,zs,rv,rz⟩
  obtain ⟨n',e'⟩:=eQ (λ xs=>xs.eraseIdxIfInBounds 0) (z::zs).toArray n
  have g':=Heap.get?_update_self (Obj.mapSeq λ xs=>xs.eraseIdxIfInBounds 0) g (by refine sr e' ?_;rfl)
  rw [e'] at g'
  refine ah (call_meets (id:="list.pop") F.slot_list_pop ⟨_,g,rfl⟩ F.entry_list_pop (F.args_list_pop_2 _ _) (PySem.MeetsSeq.list_pop_at a (z::zs).toArray n 0 t 0 z (by decide) (by simp [seqIndex?]) (by simp) (by have:=rz.length;refine sr sizeLine_eq ?_;simp;lia)) ⟨g,?_⟩)
  refine kc R T e (Heap.SameBut.update ..) g' ?_ rv q s.toks
  simpa using rz
 | bappend =>
  obtain rfl:=hβ (.inl rfl)
  refine r.onR h λ a h=>rs.on1 h λ v y rv h=>rv.onI h λ i t z=>bc λ zz=>?_
  obtain ⟨l,e,hi,hz,q⟩:=z
  obtain ⟨arr,rfl,g⟩:=R.barrAt e
  refine zz ?_
  dsimp only [eW] at hi
  simp only [Bool.and_eq_true,decide_eq_true_eq] at hi
  refine r0 hg g hi.1 hi.2 (by simpa using hz) λ h' g' hs=>⟨.none,_,.none,(R.put e rfl hs g' (OR.barr (x:=arr.push i.toNat.toUInt8))).toks s.toks,T.trans (Tr.put e hs g'),?_⟩
  have:(arr.push i.toNat.toUInt8).toList.map UInt8.toNat=arr.toList.map UInt8.toNat++[i.toNat]:=by
   simp [toUInt8];lia
  exact sr this q
 | bextend =>
  obtain rfl:=hβ (.inr rfl)
  refine r.onR h λ a h=>rs.on1 h λ v y rv h=>rv.onY h λ b t z=>bc λ zz=>?_
  obtain ⟨l,e,hz,q⟩:=z
  obtain ⟨arr,rfl,g⟩:=R.barrAt e
  exact zz (r7 hg g (by simpa using hz) λ h' g' hs=>⟨.none,_,.none,(R.put e rfl hs g' (OR.barr (x:=arr++b))).toks s.toks,T.trans (Tr.put e hs g'),(sr (ee ..) q)⟩)
 | getI =>
  refine r.onR h λ a h=>rs.on2 h λ v y d z rv rd h=>rv.onI h λ k t z=>bc λ zz=>?_
  obtain ⟨es,e,q⟩:=z
  obtain ⟨o,_,g,rp,hd,lo⟩:=R.idictAt e
  refine zz ?_
  have D:s.heap.DictOf (intKind S.prog S.w) a _:=Heap.dictOf_iff.mpr ⟨_,g,hd⟩
  exact ah (call_meetsIn F.slot_dict_get D.typeIs F.entry_dict_get (F.args_dict_get_3 _ _ _) (meets_dict_get_default (intKind S.prog S.w) a (intKind_is _ _ _ _) lo z) ⟨_,D.mapOf,PV.same R T (kB (λ _ _ z=>z) rp rd) q _⟩)
 | getS =>
  refine r.onR h λ a h=>rs.on2 h λ v y d z rv rd h=>rv.onS h λ k t z=>bc λ zz=>?_
  obtain ⟨es,e,q⟩:=z
  obtain ⟨o,_,g,rp,hd,lo⟩:=R.sdictAt e
  refine zz ?_
  have D:s.heap.DictOf (strKind S.prog S.w) a _:=Heap.dictOf_iff.mpr ⟨_,g,hd⟩
  exact ah (call_meetsIn F.slot_dict_get D.typeIs F.entry_dict_get (F.args_dict_get_3 _ _ _) (meets_dict_get_default (strKind S.prog S.w) a (strKind_is _ _ _ _) lo z) ⟨_,D.mapOf,PV.same R T (kB (λ _ _ z=>eg z) rp rd) q _⟩)
 | join =>
  refine r.onS h λ l t h=>rs.on1 h λ v y rv h=>rv.onR h λ a h=>?_
  induction l with
  | cons _ _=>exact h.elim
  | nil =>
   refine bc λ zz=>?_
   obtain ⟨ws,ss,e,hi,hz,hz2,q⟩:=h
   obtain ⟨ys,n,g,ry⟩:=R.listAt e
   refine zz (ah (join_list (aW g) (j1 ry hi) ?_ λ t' k=>PV.same R T (iU (qd ss) t') q k))
   have:((ss.map aY).map (·.length)).sum=ss.flatten.length:=by
    refine sr List.length_flatten (sr map_map ?_);rfl
   refine sr this (sr (show ((⟨([]:List Nat).toArray⟩:Str).length)=0 from rfl) ?_)
   lia
end
section
variable {K:Kt}{β:Bool}{X:Int->Prop}{ls:Ls}{P P1 P2 P3:AH->(V->AH->Prop)->Prop}{PE:AH->(List V->AH->Prop)->Prop}
theorem BC (O:a7 K){b:BM}{o:Expr}{name:Str}{apos pos:Pos}{args:List Expr}(hb:dz o=true)
  (hp:(backTo pos (starEach args K.env)).any (·.1)=false) (hn:args.length<30) (hl:(apos.endLine==pos.line)=true) (hnm:name=pK b) (hβ:(b=.bappend\/b=.bextend)->β=true)
  (ho:an K β X (eval o K.env) ls P1) (he:fc K β X (spliced (backTo pos (starEach args K.env))) ls PE) :
  an K β X (eval (.Call (.Attribute o name apos) args [] pos) K.env) ls λ H Q=>P1 H λ u H1=>jw b u H1/\PE H1 λ vs H2x=>we b u vs H2x Q:=by
 subst hnm
 exact tH (Pre:=jw b) (f:=.builtin (zc b)) (G:=we b) hb hp hn hl
  (λ x u s H pl Z E r R p z=>zX R r p z) (λ h hb=>⟨_,.inr rfl,fT⟩) ho he
  (λ x u xs vs s H Q r rs R g=>Bn O.room.2.1 hβ R (Tr.refl _ _) r rs g)
theorem yA {a:Expr}{k p1 p2 p pos}(ha:an K β X (eval a K.env) ls P1) :
  an K β X (eval (.Subscript a (.Slice none none (some (.UnaryOp .USub (.Constant (.int 1) k p1) p2)) p) pos) K.env) ls λ H Q=>P1 H λ u H1=>match u with
   | .ref a=>∃ l,H1 a=some (.barr l)/\l.length<=16777216/\∀ c,H1 c=none->Q (.ref c) (H1.set c (.barr l.reverse))
   | _=>False:=λ s H Q R L pp=>by
 refine an.bind (t:=eval a K.env) ha R L pp (λ x u s1x H1 r1x R1x L1x T1 p1x=>aa (ai (aa (ae (aa (ai (ae (aa (ai (aa (ah (wpAny_Constant_int (aa (ag (ai (ah (neg_int ?_))))))))))))))))) λ _ _ h=>h
 induction r1x with
 | ref a' =>
  refine bc λ zz=>nT p1x λ l e hz q=>zz ?_
  refine ah (wpAny_newObj_type ?_ (by show 3<=sizeLine+2;refine sr sizeLine_eq ?_;decide))
  refine aa (ag (bc λ zz=>?_))
  refine aT (R1x.barrAt e) λ arr ez1 g=>?_;subst ez1
  refine zz ?_
  refine aj (ah (tail_any (T:="bytearray") (E:=λ _ _=>False) (value:=a) (slice:=.Slice none none (some (.UnaryOp .USub (.Constant (.int 1) k p1) p2)) p) ⟨_,Heap.get?_push_of_some _ g,rfl⟩ de.lookup
   (yj (x:=arr) (Heap.get?_push_of_some _ g) ⟨_,Heap.get?_push_size _ rfl,rfl,rfl⟩ (by simpa using hz) ?_) rfl)) (λ _ _ h=>h) λ _ _ h=>h.elim
  have R2x:=(R1x.toks (s1x.toks+1+1)).push {cls:=.type "slice", data:=.fields #[.none,.none,.int (-1) (s1x.toks+1)]}
  have T2:=Tr.push H1 s1x.heap {cls:=.type "slice", data:=.fields #[.none,.none,.int (-1) (s1x.toks+1)]}
  exact PV.made R2x (T1.trans T2) (OR.barr (x:=arr.reverse)) rfl (λ c hc=>by
   have:=q c hc
   rwa [show arr.reverse.toList.map UInt8.toNat=(arr.toList.map UInt8.toNat).reverse by simp]) _
 | _=>exact p1x.elim
end
theorem iy {K L:Type}[DecidableEq K][DecidableEq L]{f:K->L}(hf:∀ a b,f a=f b->a=b){es:List (K×V)}{kvs:List (L×Value)}(r:bQ f es kvs)(hn:(kvs.map (·.1)).Nodup){k:K}{d:V}{x:Value}(rd:VR d x) :
  bQ f (cG es k d) (stored kvs (f k) x):=by
 have absent:∀ {es:List (K×V)} {kvs:List (L×Value)},bQ f es kvs->f k∉kvs.map (·.1)->bQ f (cG es k d) (kvs++[(f k,x)]):=by
  intro es kvs r
  induction r with
  | nil=>intro _;exact .cons rd .nil
  | @cons j v es x' ds rv r ih =>
   intro h
   have hj:j≠k:=λ e=>h (by simp [e])
   dsimp only [cG]
   refine sr (show decide (j=k)=false by simp [hj]) ?_
   exact .cons rv (ih λ m=>h (by simp at m ⊢;exact .inr m))
 have same:∀ {kvs:List (L×Value)},f k∉kvs.map (·.1)->kvs.map (λ kv=>if kv.1=f k then (kv.1,x) else kv)=kvs:=by
  intro kvs h
  induction kvs with
  | nil=>rfl
  | cons a l ih =>
   have h1:a.1≠f k:=λ e=>h (by simp [e])
   exact sr map_cons (sr (if_neg h1) (sr (ih λ m=>h (by simp at m ⊢;exact .inr m)) rfl))
 have there:∀ {es:List (K×V)} {kvs:List (L×Value)},bQ f es kvs->(kvs.map (·.1)).Nodup->f k∈kvs.map (·.1)->bQ f (cG es k d) (kvs.map (λ kv=>if kv.1=f k then (kv.1,x) else kv)):=by
  intro es kvs r
  induction r with
  | nil=>intro _ h;contradiction
  | @cons j v es x' ds rv r ih =>
   intro hn hm
   rw [map_cons,nodup_cons] at hn
   dsimp only [cG]
   by_cases hj:j=k
   .subst hj
    exact sr (show decide (j=j)=true by simp) (sr map_cons (sr (if_pos rfl) (sr (same hn.1) (.cons rd r))))
   .have h1:f j≠f k:=λ e=>hj (hf _ _ e)
    refine sr (show decide (j=k)=false by simp [hj]) (sr map_cons (sr (if_neg h1) ?_))
    exact .cons rv (ih hn.2 (by simp at hm;rcases hm with h|h;exact absurd h.symm h1;simpa using h))
 dsimp only [stored]
 by_cases h:f k∈kvs.map (·.1)
 .refine sr (if_pos (by obtain ⟨p,hp,e⟩:=mem_map.mp h;exact any_eq_true.mpr ⟨p,hp,by simp [e]⟩)) ?_
  exact there r hn h
 .refine sr (if_neg (λ q=>by obtain ⟨p,hp,e⟩:=any_eq_true.mp q;exact h (mem_map.mpr ⟨p,hp,by simpa using e⟩))) ?_
  exact absent r h
theorem bQ.len {K L:Type}{f:K->L}{es:List (K×V)}{kvs:List (L×Value)}(r:bQ f es kvs):kvs.length=es.length:=by
 induction r with
 | nil=>rfl
 | cons _ _ ih=>simp [ih]
section
variable {β:Bool}{prog:Program}{w:World}{A:Around}{E:Value->Shared->Prop}{s:Shared}
theorem lL {l:Addr} {items:Array Value} {n:Nat} {k:Int} {t:Tok} {v:Value} {Q:Unit->Shared->Prop} (ho:s.heap.get? l=some {cls:=.type "list", data:=.seq items n})
  (h0:0<=k) (hfit:k<2 ^ 63) (hn:k<items.size)
  (hQ:∀ h' n',h'.get? l=some {cls:=.type "list", data:=.seq (items.setIfInBounds k.toNat v) n'}->Heap.SameBut l s.heap h'->Q () {s with heap:=h'}) :
  wpAny (model prog w) A (setItem (.ref l) (.int k t) v) Q E s:=by
 have hl:=aW ho
 refine wpAny_holding (wpAny_bind (wpAny_sequenceKey hl.typeIs (by decide) ?_))
 refine wpAny_bind (wpAny_callSpecial?_slot (name:=Str.ofString "__setitem__") hl.typeIs slot_list_setitem
  (wpAny_call_entry slot_list_setitem hl.typeIs entry_list_setitem ?_ (args_list_setitem _ _ _)))
 show wpAny _ _ (Builtin.List.listSubscript? (.int k t) >>= _) _ _ s
 refine wpAny_bind (wpAny_listSubscript_int (fitsIndex_of h0 hfit) ?_)
 obtain ⟨j,rfl⟩:=Int.eq_ofNat_of_zero_le h0
 have hj:j<items.size:=by omega
 have hx':items[j]?=some items[j]:=Array.getElem?_eq_getElem hj
 refine wpAny_bind (wpAny_bind (wpAny_seqItemAt ho rfl (wpAny_pure (sr hx' ?_))))
 show wpAny _ _ (setSeqItemAt l j v >>= _) _ _ s
 obtain ⟨n',e'⟩:=eQ (·.setIfInBounds j v) items n
 have g':=Heap.get?_update_self (Obj.mapSeq (·.setIfInBounds j v)) ho (by refine sr e' ?_;rfl)
 rw [e'] at g'
 refine wpAny_bind (wpAny_setSeqItemAt ho rfl ?_)
 first
  | exact wpAny_bind (wpAny_pure (wpAny_pure ⟨.none,rfl,wpAny_pure (hQ _ _ g' (Heap.SameBut.update ..))⟩))
  | exact wpAny_pure ⟨.none,rfl,wpAny_pure (hQ _ _ g' (Heap.SameBut.update ..))⟩
end
section
variable {β:Bool}{S:Sx}{fs:List Env}{H H0:AH}{hp:Heap}{s:Shared}{A:Around}{E:Value->Shared->Prop}
theorem qo {u i v:V}{x y z:Value}{Q:AH->Prop}{Z:Unit->Shared->Prop}(R:aI S fs H s)(r:VR u x)(ri:VR i y)(rv:VR v z)(h:dj u i v H Q)
  (hZ:∀ s' H',aI S fs H' s'->Tr H s.heap H' s'.heap->Q H'->Z () s'):wpAny (model S.prog S.w) A (setItem x y z) Z E s:=by
 induction r with
 | ref a =>
  induction ri with
  | int k t =>
   rcases h with ⟨vs,e,hz,h0,h1,q⟩|⟨es,e,hz,q⟩
   .obtain ⟨ys,n,g,ry⟩:=R.listAt (.inl e)
    have hl:ys.size=vs.length:=by have:=ry.length;simpa using this
    exact lL g h0 (by lia) (by lia) λ h' n' g' hs=>hZ _ _ (R.put e rfl hs g' (.list (sr Array.toList_setIfInBounds (ry.set rv)))) (Tr.put e hs g') q
   .refine sf (R.idictAt e) λ o uz1 g rp hd lo=>?_
    have hl:=rp.len
    refine wpAny_setItem_pairs (knd:=intKind S.prog S.w) (intKind_is _ _ _ _) (Heap.dictOf_iff.mpr ⟨_,g,hd⟩) (λ h' hd' hs=>?_) (by refine sr hl (sr sizeLine_eq ?_);exact hz)
    exact bc λ zz=>aT (Heap.dictOf_iff.mp hd') λ o' g' d'=>Bo hd λ uz1 uz2 uz3 uz4 uz5 uz6 hnd=>zz (hZ _ _ ((R.put e rfl hs g' (.idict (iy (λ _ _ z=>z) rp hnd rv) d')).toks _) (Tr.put e hs g') q)
  | str k t =>
   refine bc λ zz=>nT h λ es e hz q=>sf (R.sdictAt e) λ o uz1 g rp hd lo=>zz ?_
   have hl:=rp.len
   refine wpAny_setItem_pairs (knd:=strKind S.prog S.w) (strKind_is _ _ _ _) (Heap.dictOf_iff.mpr ⟨_,g,hd⟩) (λ h' hd' hs=>?_) (by refine sr hl (sr sizeLine_eq ?_);exact hz)
   exact bc λ zz=>aT (Heap.dictOf_iff.mp hd') λ o' g' d'=>Bo hd λ uz1 uz2 uz3 uz4 uz5 uz6 hnd=>zz (hZ _ _ ((R.put e rfl hs g' (.sdict (iy (λ _ _ z=>eg z) rp hnd rv) d')).toks _) (Tr.put e hs g') q)
  | _=>exact h.elim
 | _=>contradiction<;>exact h.elim
end
theorem Gh {h h' base:Heap}:∀ {l:List Env},h.FunFrames base l->(∀ env∈l,∀ L o,env.frame=some L->h.get? L=some o->(∀ vs,o.data≠.fields vs)->∃ o',h'.get? L=some o'/\∀ vs,o'.data≠.fields vs)->h'.FunFrames base l
 | [],_,_=>trivial
 | _::_,⟨k,⟨L,o,a,b,c,d⟩,r⟩,H=>by
  exact aT (H _ mem_cons_self L o a c d) λ o' e f=>⟨k,⟨L,o',a,b,e,f⟩,Gh r λ env m=>H env (mem_cons_of_mem _ m)⟩
def aP (W:List Addr)(h h':Heap):Prop:=∀ b o,b∉W->h.get? b=some o->h'.get? b=some o
theorem aP.trans {W h h' h''}(x:aP W h h')(y:aP W h' h''):aP W h h'':=λ b o n e=>y b o n (x b o n e)
theorem aP.refl (W:List Addr)(h:Heap):aP W h h:=λ _ _ _ e=>e
theorem Gi {a:Addr}{h h':Heap}(x:Heap.SameBut a h h'):aP [a] h h':=λ b o n e=>(x.2 b (by simpa using n)).trans e
theorem aP.mono {W W':List Addr}{h h':Heap}(x:aP W h h')(m:∀ b∈W,b∈W'):aP W' h h':=λ b o n e=>x b o (λ q=>n (m b q)) e
theorem aI.local_step {S:Sx}{fs:List Env}{H:AH}{s:Shared}{W:List Addr}{h':Heap}(R:aI S fs H s)(hW:∀ b∈W,H b=none/\S.h0x.get? b=none)(k:aP W s.heap h')
  (hf:∀ b∈W,∀ o,s.heap.get? b=some o->(∀ vs,o.data≠.fields vs)->∃ o',h'.get? b=some o'/\∀ vs,o'.data≠.fields vs) (tk:Nat):aI S fs H {s with heap:=h',toks:=tk} where
 base:=λ b o e=>k b o (λ m=>by rw [(hW b m).2] at e;contradiction) (R.base b o e)
 objs:=λ b bo e=>by
  obtain ⟨x,ob,y,z⟩:=R.objs b bo e
  exact ⟨x,ob,k b ob (λ m=>by rw [(hW b m).1] at e;contradiction) y,z⟩
 frames:=Gh R.frames λ env m L o e g d=>by
  by_cases hm:L∈W
  .exact hf L hm o g d
  .exact ⟨o,k L o hm g,d⟩
 hid:=R.hid
 gens:=R.gens
 os:=R.os
theorem Tr.local_step {H0 H:AH}{h0x h h':Heap}{W:List Addr}(T:Tr H0 h0x H h)(k:aP W h h')(hW:∀ b∈W,h0x.get? b=none):Tr H0 h0x H h':=⟨λ b o e n =>
 ⟨k b o (λ m=>by rw [hW b m] at e;contradiction) (T.get e n),T.hid e n⟩,λ b e=>by
 by_cases hm:b∈W
 .exact hW b hm
 .refine T.dom b ?_
  induction q:h.get? b with
  | none=>rfl
  | some o=>rw [k b o hm q] at e;contradiction⟩
section
variable {K:Kt}{β:Bool}{ls:Ls}{s:Shared}{H H0:AH}{h0x:Heap}
structure At (K:Kt) (H0:AH) (h0x:Heap) (ls:Ls) (H:AH) (s:Shared):Prop where
 R:aI K.S K.fs H s
 L:bh K.env K.slots ls H s.heap
 T:Tr H0 h0x H s.heap
theorem At.toks (a:At K H0 h0x ls H s)(t:Nat):At K H0 h0x ls H {s with toks:=t}:=⟨a.R.toks t,a.L,a.T⟩
theorem ia (O:a7 K)(hb:h0x.get? K.env.locals=none)(a:At K H0 h0x ls H s){k:Nat}{nm:Str}{v:V}{x:Value}{Z:Unit->Shared->Prop}{E}(e:K.slots[k]?=some nm)(hk:K.env.kindOf nm=some .local)(rv:VR v x)
  (h:∀ s',At K H0 h0x (lput ls k v) H s'->aP [K.env.locals] s.heap s'.heap->Z () s'):wpAny K.M K.A (storeName K.env nm x) Z E s:=by
 obtain ⟨R,L,T⟩:=a
 obtain ⟨n,m,hm,c⟩:=id L
 refine wpAny_storeName_local hk hm (λ h' hm' hs=>h _ ?_ (Gi hs)) (by refine sr O.kind ?_;rfl)
 have kw:=Gi hs
 refine ⟨R.local_step (W:=[K.env.locals]) (λ b hb'=>?_) kw (λ b hb' o g d=>?_) _,L.store O.nodup e hk rv hm hm' hs,T.local_step kw λ b hb'=>?_⟩
 .exact sr (GP hb') ⟨n,O.lb⟩
 .refine sr (GP hb') (ug hm' λ o' es ep g' d' uz1=>?_)
  exact ⟨o',g',λ vs q=>by rw [d'] at q;contradiction⟩
 .exact sr (GP hb') hb
theorem ck (O:a7 K)(hb:h0x.get? K.env.locals=none)(a:At K H0 h0x ls H s){k:Nat}{nm:Str}{pos:Pos}{v:V}{x:Value}{Z:Unit->Shared->Prop}{E}(e:K.slots[k]?=some nm)(hk:K.env.kindOf nm=some .local)(rv:VR v x)
  (h:∀ s',At K H0 h0x (lput ls k v) H s'->aP [K.env.locals] s.heap s'.heap->Z () s'):wpAny K.M K.A (assign (.Name nm pos) K.env x) Z E s :=
 wpAny_assign_Name (ia O hb a e hk rv h)
noncomputable def bZ:List Expr->Option (List Str)
 | []=>some []
 | .Name n _::r=>(bZ r).map (n::·)
 | _=>none
theorem qW {elts:List Expr}{names:List Str}{env:Env}(e:bZ elts=some names):∃ ps:List Pos,ps.length=names.length/\assignEach elts env=(names.zip ps).map λ p=>(false,assign (.Name p.1 p.2) env):=by
 induction elts generalizing names with
 | nil=>(injection e with e;subst e);exact ⟨[],rfl,rfl⟩
 | cons x r ih =>
  induction x using Expr.casesOn with
  | Name n p =>
   refine aT (Option.map_eq_some_iff.mp (show (bZ r).map (n::·)=some names from e)) λ ms e1 ez1=>?_;subst ez1
   refine aT (ih e1) λ ps hl he=>?_
   exact ⟨p::ps,by simp [hl],(congrArg ((false,assign (.Name n p) env)::·) he:_)⟩
  | _=>injection (show (none:Option (List Str))=some names from e)
theorem mr (O:a7 K)(hb:h0x.get? K.env.locals=none){Z:Unit->Shared->Prop}{E}:∀ {ks:List Nat} {names:List Str} {ps:List Pos} {vs:List V} {xs:List Value} {ls ls':Ls} {s:Shared},At K H0 h0x ls H s->ps.length=names.length->ks.map (λ k=>K.slots[k]?)=names.map some->(∀ n∈names,K.env.kindOf n=some .local) ->
  cO vs xs->lputs ls ks vs=some ls'->(∀ s',At K H0 h0x ls' H s'->aP [K.env.locals] s.heap s'.heap->Z () s') ->
  wpAny K.M K.A (assignInOrder ((names.zip ps).map λ p=>assign (.Name p.1 p.2) K.env) xs) Z E s
 | [],names,ps,vs,xs,ls,ls',s,a,hl,hk,hn,r,e,h=>by
  induction names with
  | cons _ _=>simp at hk
  | nil =>
   induction r with
   | cons _ _=>contradiction
   | nil=>(injection e with e;subst e);exact wpAny_pure (h s a (aP.refl _ _))
 | k::ks,names,ps,vs,xs,ls,ls',s,a,hl,hk,hn,r,e,h=>by
  induction names with
  | nil=>simp at hk
  | cons n names =>
   induction ps with
   | nil=>contradiction
   | cons p ps =>
    induction r with
    | nil=>contradiction
    | @cons v x vs xs rv r =>
     simp only [map_cons,List.cons.injEq] at hk
     show wpAny _ _ (holding xs (assign (.Name n p) K.env x) >>= λ _=>assignInOrder ((names.zip ps).map λ p=>assign (.Name p.1 p.2) K.env) xs) _ _ s
     exact wpAny_bind (wpAny_holding (ck O hb a hk.1 (hn n (by simp)) rv λ s' a' kw=>(mr O hb a' (by simpa using hl) hk.2 (λ m hm=>hn m (by simp [hm])) r e λ s'' a'' kw'=>h s'' a'' (kw.trans kw'))))
end
section
variable {K:Kt}{β:Bool}{ls:Ls}{s:Shared}{H H0:AH}{h0x:Heap}
theorem At.grow (a:At K H0 h0x ls H s){h':Heap}(k:∀ b o,s.heap.get? b=some o->h'.get? b=some o):At K H0 h0x ls H {s with heap:=h'} :=
 ⟨a.R.grow k,a.L.tr (Tr.grow k),a.T.trans (Tr.grow k)⟩
theorem h9 {h h':Heap}(e:Heap.ExtBut h.objs.size h h'):∀ b o,h.get? b=some o->h'.get? b=some o:=λ b o g=>e b o (ne_of_lt (Heap.lt_size g)) g
theorem vB {elts:List Expr}{names:List Str}{env:Env}(e:bZ elts=some names):(assignEach elts env).findIdx? (·.1)=none/\(assignEach elts env).length=names.length:=by
 refine aT (qW (env:=env) e) λ ps hl he=>sr he ?_
 refine ⟨?_,by simp [hl]⟩
 rw [List.findIdx?_eq_none_iff]
 intro x hx
 refine aT (mem_map.mp hx) λ p uz1 ez1=>?_;subst ez1
 rfl
theorem iW:∀ {ks:List Nat} {vs:List V} {ls ls':Ls},lputs ls ks vs=some ls'->ks.length=vs.length
 | [],[],_,_,_=>rfl
 | [],_::_,_,_,e=>by contradiction
 | _::_,[],_,_,e=>by contradiction
 | _::ks,_::vs,_,_,e=>by simp only [length_cons];exact sr (iW (ks:=ks) (vs:=vs) e) rfl
theorem dq (O:a7 K)(hb:h0x.get? K.env.locals=none)(a:At K H0 h0x ls H s){elts:List Expr}{names:List Str}{ks:List Nat}{kk pos}{t:Addr}{vs:List V}{xs:Array Value}{n:Nat}{ls':Ls}{Z:Unit->Shared->Prop}{E}
  (he:bZ elts=some names) (hk:ks.map (λ k=>K.slots[k]?)=names.map some) (hn:∀ n∈names,K.env.kindOf n=some .local) (g:s.heap.get? t=some {cls:=.type "tuple", data:=.seq xs n}) (r:cO vs xs.toList) (e:lputs ls ks vs=some ls')
  (h:∀ s',At K H0 h0x ls' H s'->aP [K.env.locals] s.heap s'.heap->Z () s'):wpAny K.M K.A (assign (.Tuple elts kk pos) K.env (.ref t)) Z E s:=by
 refine aT (qW (env:=K.env) he) λ ps hl ea=>?_
 obtain ⟨h1,h2⟩:=vB (env:=K.env) he
 have hlen:names.length=xs.size:=by
  have e1:=iW e
  have e2:=congrArg List.length hk
  have e3:=r.length
  simp at e2 e3
  lia
 refine wpAny_assign_Tuple O.room.1 (items:=xs) (d0 g) (h2.trans hlen) h1 λ h' hx=>sr ea ?_
 have k:=h9 hx
 exact sr map_map (mr O hb (a.grow k) hl hk hn r e λ s' a' kw=>h s' a' (aP.trans (λ b o _ g=>k b o g) kw))
inductive dH (K:Kt):Tg->Expr->Prop
 | one {k n p} (a:K.slots[k]?=some n) (b:K.env.kindOf n=some .local):dH K (.one k) (.Name n p)
 | two {x y n m p q kk ps} (a:K.slots[x]?=some n) (b:K.slots[y]?=some m) (c:K.env.kindOf n=some .local) (d:K.env.kindOf m=some .local):dH K (.two x y) (.Tuple [.Name n p,.Name m q] kk ps)
 | three {k x y i p0 n m p q kk p1 k2 ps} (a:K.slots[k]?=some i) (b:K.env.kindOf i=some .local) (c:K.slots[x]?=some n) (d:K.slots[y]?=some m) (e:K.env.kindOf n=some .local) (f:K.env.kindOf m=some .local) :
  dH K (.three k x y) (.Tuple [.Name i p0,.Tuple [.Name n p,.Name m q] kk p1] k2 ps)
def qH (it:It)(y:Value)(h:Heap):Prop:=match it with
 | .v v=>VR v y
 | .pair a b=>∃ T xa xb n,y=.ref T/\h.get? T=some {cls:=.type "tuple", data:=.seq #[xa,xb] n}/\VR a xa/\VR b xb
theorem vh (O:a7 K)(hb:h0x.get? K.env.locals=none)(a:At K H0 h0x ls H s){tg:Tg}{e:Expr}{it:It}{y:Value}{P:Ls->Prop}{Z:Unit->Shared->Prop}{E}(ht:dH K tg e)(hi:qH it y s.heap)(p:iS tg it H ls P)
  (h:∀ s' ls',At K H0 h0x ls' H s'->P ls'->aP [K.env.locals] s.heap s'.heap->Z () s'):wpAny K.M K.A (assign e K.env y) Z E s:=by
 have two {n m:Str} (k1:K.env.kindOf n=some .local) (k2:K.env.kindOf m=some .local):∀ q∈[n,m],K.env.kindOf q=some .local:=λ q hq=>(mem_cons.mp hq).elim (λ e=>e▸k1) λ hq=>GP hq▸k2
 have ks {x z:Nat} {n m:Str} (e1:K.slots[x]?=some n) (e2:K.slots[z]?=some m):[x,z].map (λ k=>K.slots[k]?)=[n,m].map some:=by refine sr map_cons (sr map_cons (sr e1 (sr e2 ?_)));rfl
 induction ht with
 | one e0 k0 =>
  rcases it with v|⟨u,w⟩
  .exact ck O hb a e0 k0 hi λ s' a' kw=>h s' _ a' p kw
  .exact p.elim
 | @two x z n m p1 p2 kk ps e1 e2 k1 k2 =>
  rcases it with v|⟨u,w⟩
  .refine (show VR v y from hi).onR p λ t p=>k9 p λ u w et q=>?_
   obtain ⟨_,_,g,r⟩:=a.R.tupAt et
   exact dq O hb a (ks:=[x,z]) rfl (ks e1 e2) (two k1 k2) g r rfl λ s' a' kw=>h s' _ a' q kw
  .refine Cj hi λ T xa xb nn ez1 g ra rb=>?_;subst ez1
   exact dq O hb a (ks:=[x,z]) (vs:=[u,w]) rfl (ks e1 e2) (two k1 k2) g (.cons ra (.cons rb .nil)) rfl λ s' a' kw=>h s' _ a' p kw
 | @three k x z i p0 n m p1 p2 k3 p3 k4 p4 e0 k0 e1 e2 k1 k2 =>
  rcases it with v|⟨u,w⟩
  .exact p.elim
  .refine Cj hi λ T xa xb nn ez1 g ra rb=>?_;subst ez1
   revert g
   refine rb.onR p λ t p g=>k9 p λ a1 b1 et q=>wpAny_assign_Tuple O.room.1 (items:=#[xa,.ref t]) (d0 g) rfl rfl λ h' hx=>?_
   have kg:=h9 hx
   have a':=a.grow kg
   show wpAny _ _ (holding [.ref t] (assign (.Name i p0) K.env xa) >>= λ _=>holding [] (assign (.Tuple [.Name n p1,.Name m p2] k3 p3) K.env (.ref t)) >>= λ _=>pure ()) _ _ _
   refine wpAny_bind (wpAny_holding (ck O hb a' e0 k0 ra λ s2x a2x kw2=>?_))
   obtain ⟨_,_,g2x,r⟩:=a2x.R.tupAt et
   exact wpAny_bind (wpAny_holding (dq O hb a2x (ks:=[x,z]) rfl (ks e1 e2) (two k1 k2) g2x r rfl λ s3x a3 kw3=>wpAny_pure (h s3x _ a3 q (aP.trans (λ b o _ g=>kg b o g) (kw2.trans kw3)))))
end
def ew (src:Src)(u:V)(I J:Addr)(i n:Nat)(h:Heap):Prop:=match src,u with
 | .list,.ref a=>h.IsListIter I a i
 | .enum,.ref a=>I≠J/\(∃ old,IsEnum h I J (i:Int) old)/\h.IsListIter J a i
 | .range,.int _=>IsRangeIter h I (i:Int) ((n:Int)-(i:Int)) 1
 | .str,.str l=>∃ t ty,(ty="str_ascii_iterator"\/ty="str_iterator")/\h.IsStrIter I ty (aY l) t i
 | .bytes,.bytes l=>∃ b t,l=b.toList.map UInt8.toNat/\KBw.IsBytesIter h I b t i
 | _,_=>False
@[elab_as_elim] theorem eO {C:Src->V->Prop} {src u I J i n h} (x:ew src u I J i n h) (h1:∀ a,C .list (.ref a)) (h2:∀ a,C .enum (.ref a)) (h3:∀ n,C .range (.int n)) (h4:∀ l,C .str (.str l)) (h5:∀ l,C .bytes (.bytes l)):C src u:=by
 rcases src with _|_|_|_|_<;>rcases u with _|_|_|_|_|_<;>first|exact x.elim|exact h1 _|exact h2 _|exact h3 _|exact h4 _|exact h5 _
@[elab_as_elim] theorem oE {C:Src->V->Prop} {src u H items} (x:cF src u H items) (h1:∀ a,C .list (.ref a)) (h2:∀ a,C .enum (.ref a)) (h3:∀ n,C .range (.int n)) (h4:∀ l,C .str (.str l)) (h5:∀ l,C .bytes (.bytes l)):C src u:=by
 rcases src with _|_|_|_|_<;>rcases u with _|_|_|_|_|_<;>first|exact x.elim|exact h1 _|exact h2 _|exact h3 _|exact h4 _|exact h5 _
def xh (src:Src)(u:V)(I J:Addr)(i n:Nat)(y:Value)(h:Heap):Prop:=match src,u with
 | .enum,.ref a=>I≠J/\(∃ T x,y=.ref T/\T≠I/\T≠J/\IsEnumOut h I J ((i:Int)+1) x T)/\h.IsListIter J a (i+1)
 | _,_=>ew src u I J (i+1) n h
structure mY (S:Sx) (I J:Addr) (H:AH) (h:Heap):Prop where
 hid:∀ b∈[I,J],H b=none/\S.h0x.get? b=none
 fld:∀ b∈[I,J],∃ o vs,h.get? b=some o/\o.data=.fields vs
theorem mY.tr {S I J H h H' h'}(x:mY S I J H h)(T:Tr H h H' h'):mY S I J H' h' :=
 ⟨λ b m=>by obtain ⟨o,vs,g,_⟩:=x.fld b m;exact ⟨T.hid g (x.hid b m).1,(x.hid b m).2⟩,
  λ b m=>by obtain ⟨o,vs,g,d⟩:=x.fld b m;exact ⟨o,vs,T.get g (x.hid b m).1,d⟩⟩
theorem ew.keep {src u I J i n h h'}(x:ew src u I J i n h)(k:∀ b∈[I,J],∀ o,h.get? b=some o->h'.get? b=some o):ew src u I J i n h':=by
 have x0:=x
 revert x
 refine eO x0 (λ a x=>?_) (λ a x=>?_) (λ n x=>?_) (λ l x=>?_) λ l x=>?_
 .exact aT x λ o g r=>⟨o,k _ (by simp) o g,r⟩
 .obtain ⟨e,⟨old,g⟩,o,g',r⟩:=x;exact ⟨e,⟨old,k I (by simp) _ g⟩,o,k J (by simp) o g',r⟩
 .exact k I (by simp) _ x
 .obtain ⟨t,ty,e,o,g,r⟩:=x;exact ⟨t,ty,e,o,k _ (by simp) o g,r⟩
 .obtain ⟨b,t,e,o,g,r⟩:=x;exact ⟨b,t,e,o,k _ (by simp) o g,r⟩
theorem iN:∀ (vs:List V) (n i:Nat),(bM n vs)[i]?=(vs[i]?).map λ v=>It.pair (.int ((n+i:Nat):Int)) v
 | [],_,_=>by simp [bM]
 | v::r,n,0=>by simp [bM]
 | v::r,n,i+1=>by
  simp only [bM,List.getElem?_cons_succ]
  refine sr (iN r (n+1) i) ?_
  congr 1
  funext v
  congr 2
  lia
theorem eU:∀ (vs:List V) (n:Nat),(bM n vs).length=vs.length
 | [],_=>rfl
 | _::r,n=>by simp [bM,eU r]
section
variable {S:Sx}{fs:List Env}{H:AH}{s:Shared}{A:Around}{E:Value->Shared->Prop}
structure Nx (S:Sx) (I J:Addr) (H:AH) (s:Shared) (s':Shared):Prop where
 kw:aP [I,J] s.heap s'.heap
 fld:∀ b∈[I,J],∃ o vs,s'.heap.get? b=some o/\o.data=.fields vs
 rest:s'.gens=s.gens/\s'.os=s.os
theorem Nx.of {I J:Addr}{h':Heap}{tk:Nat}{o':Obj}{ws:Array Value}(hd:mY S I J H s.heap)(hs:Heap.SameBut I s.heap h')(g:h'.get? I=some o')(d:o'.data=.fields ws):Nx S I J H s {s with heap:=h',toks:=tk} :=
 ⟨(Gi hs).mono (by simp),λ b m=>by
  by_cases hb:b=I
  .subst hb;exact ⟨_,_,g,d⟩
  .refine k9 (hd.fld b m) λ o vs g d=>?_;exact ⟨o,vs,(hs.2 b hb).trans g,d⟩,rfl,rfl⟩
theorem vk {src:Src}{u:V}{I J:Addr}{items:List It}{i:Nat}{item:It}{Z:Option Value->Shared->Prop}(R:aI S fs H s)(hd:mY S I J H s.heap)(hi:ew src u I J i items.length s.heap)(hs:ay src u items H)(hsr:∃ H1,cF src u H1 items)
  (e:items[i]?=some item) (h:∀ y h' tk,Nx S I J H s {s with heap:=h',toks:=tk}->xh src u I J i items.length y h'->qH item y h'->Z (some y) {s with heap:=h',toks:=tk}) :
  wpAny (model S.prog S.w) A (pyNext (.ref I)) Z E s:=by
 have hlt:i<items.length:=(List.getElem?_eq_some_iff.mp e).1
 have hi0:=hi
 revert hi hs hsr h
 refine eO hi0 (λ a hi hs hsr h=>?_) (λ a hi hs hsr h=>?_) (λ n hi hs hsr h=>?_) (λ l hi hs hsr h=>?_) (λ l hi hs hsr h=>?_)
 all_goals clear hi0
 .obtain ⟨vs,ha,rfl⟩:=hs
  obtain ⟨ys,n,g,ry⟩:=R.listAt ha
  rw [getElem?_map] at e
  obtain ⟨v,ev,rfl⟩:=Option.map_eq_some_iff.mp e
  obtain ⟨x,ex,rv⟩:=ry.get ev
  refine wpAny_pyNext_list_item hi (aW g) (x:=x) (by refine sl Array.getElem?_toList ?_;exact ex) λ h' hi' hs'=>?_
  obtain ⟨o,g,z,d⟩:=hi'
  exact h x h' s.toks (.of hd hs' g d) ⟨o,g,z,d⟩ rv
 .obtain ⟨vs,ha,rfl⟩:=hs
  obtain ⟨ys,n,g,ry⟩:=R.listAt ha
  rw [iN] at e
  obtain ⟨v,ev,rfl⟩:=Option.map_eq_some_iff.mp e
  obtain ⟨x,ex,rv⟩:=ry.get ev
  obtain ⟨hne,⟨old,he⟩,hit⟩:=hi
  refine wpAny_pyNext_enum_item he hit (aW g) (x:=x) (by refine sl Array.getElem?_toList ?_;exact ex) hne λ h' ho hit' hT hsz hk=>?_
  have hI:I<s.heap.objs.size:=Heap.lt_size he
  have hJ:J<s.heap.objs.size:=by obtain ⟨_,x,_⟩:=hit;exact Heap.lt_size x
  refine h (.ref s.heap.objs.size) h' _ ⟨λ b o m g=>hk b o (λ q=>m (by simp [q])) (λ q=>m (by simp [q])) g,λ b m=>?_,rfl,rfl⟩ ⟨hne,⟨_,_,rfl,ne_of_gt hI,ne_of_gt hJ,ho⟩,hit'⟩ ⟨_,_,_,_,rfl,hT,?_,rv⟩
  .rcases mem_cons.mp m with rfl|m
   .exact ⟨_,_,ho,rfl⟩
   .refine sr (GP m) ?_
    obtain ⟨o,g,_,d⟩:=hit';exact ⟨o,_,g,d⟩
  .exact sr (zero_add ..) (.int _ _)
 .obtain ⟨H1,hn,hr⟩:=hsr
  subst hr
  rw [getElem?_map] at e
  obtain ⟨j,ej,rfl⟩:=Option.map_eq_some_iff.mp e
  have hj:j=i:=by
   have:=List.getElem?_range (n:=n.toNat) (i:=i) (by simpa using hlt)
   rw [this] at ej;exact (Option.some.inj ej).symm
  subst hj
  refine wpAny_pyNext_range_item hi (by simp at hlt ⊢;lia) λ h' hi' hs'=>?_
  refine h _ h' _ (.of hd hs' hi' rfl) ?_ (.int _ _)
  show IsRangeIter h' I ((j+1:Nat):Int) _ 1
  have e1:((j+1:Nat):Int)=(j:Int)+1:=by lia
  have e2:∀ m:Nat,(m:Int)-((j+1:Nat):Int)=(m:Int)-(j:Int)-1:=by intro m;lia
  exact sr (e2 ..) (sr (e1 ..) hi')
 .obtain ⟨H1,hn,hr⟩:=hsr
  subst hr
  obtain ⟨t,ty,hty,hi⟩:=hi
  rw [getElem?_map] at e
  obtain ⟨c,ec,rfl⟩:=Option.map_eq_some_iff.mp e
  have hc:(aY l).cps[i]?=some c:=by simpa [aY] using ec
  have fin:∀ h',h'.IsStrIter I ty (aY l) t (i+1)->Heap.SameBut I s.heap h'->Z (some (.str ⟨#[c]⟩ s.toks)) {s with heap:=h',toks:=s.toks+1}:=λ h' hi' hs'=>by
   obtain ⟨o,g,z,d⟩:=hi'
   exact h _ h' _ (.of hd hs' g d) ⟨t,ty,hty,o,g,z,d⟩ (.str [c] _)
  rcases hty with rfl|rfl
  .exact wpAny_pyNext_ascii_item hi hc fin
  .exact wpAny_pyNext_wide_item hi hc fin
 .obtain ⟨H1,hn,hr⟩:=hsr
  subst hr
  obtain ⟨b,t,rfl,hi⟩:=hi
  rw [getElem?_map] at e
  obtain ⟨c,ec,rfl⟩:=Option.map_eq_some_iff.mp e
  rw [getElem?_map] at ec
  obtain ⟨c8,ec8,rfl⟩:=Option.map_eq_some_iff.mp ec
  refine KBw.next_item hi (c:=c8) (by refine sl Array.getElem?_toList ?_;exact ec8) λ h' hi' hs'=>?_
  obtain ⟨o,g,z,d⟩:=hi'
  exact h _ h' _ (.of hd hs' g d) ⟨b,t,rfl,o,g,z,d⟩ (.int _ _)
end
section
variable {S:Sx}{fs:List Env}{H:AH}{s:Shared}{A:Around}{E:Value->Shared->Prop}
theorem q9 {src:Src}{u:V}{I J:Addr}{items:List It}{Z:Option Value->Shared->Prop}(hh:A.handled=none)(R:aI S fs H s)(hi:ew src u I J items.length items.length s.heap)(hs:ay src u items H)(hsr:∃ H1,cF src u H1 items)
  (h:∀ h' tk,aP [I,J] s.heap h'->Z none {s with heap:=h',toks:=tk}) :
  wpAny (model S.prog S.w) A (pyNext (.ref I)) Z E s:=by
 have hi0:=hi
 revert hi hs hsr h
 refine eO hi0 (λ a hi hs hsr h=>?_) (λ a hi hs hsr h=>?_) (λ n hi hs hsr h=>?_) (λ l hi hs hsr h=>?_) (λ l hi hs hsr h=>?_)
 all_goals clear hi0
 .obtain ⟨vs,ha,rfl⟩:=hs
  obtain ⟨ys,n,g,ry⟩:=R.listAt ha
  have hl:=ry.length
  exact wpAny_pyNext_list_end hh hi (aW g) (Array.getElem?_eq_none (by simp at hl ⊢;lia)) λ h' k=>h h' s.toks λ b o m e=>k b o (λ q=>m (by simp [q])) e
 .obtain ⟨vs,ha,rfl⟩:=hs
  obtain ⟨ys,n,g,ry⟩:=R.listAt ha
  have hl:=ry.length
  rw [eU] at hi
  obtain ⟨hne,⟨old,he⟩,hit⟩:=hi
  exact wpAny_pyNext_enum_end hh he hit (aW g) (Array.getElem?_eq_none (by simp at hl ⊢;lia)) λ h' k=>h h' s.toks λ b o m e=>k b o (λ q=>m (by simp [q])) e
 .exact wpAny_pyNext_range_end hh hi (by lia) λ h' k=>h h' s.toks λ b o m e=>k b o (λ q=>m (by simp [q])) e
 .obtain ⟨H1,hn,hr⟩:=hsr
  subst hr
  obtain ⟨t,ty,hty,hi⟩:=hi
  have hc:(aY l).cps[(l.map λ c=>It.v (.str [c])).length]?=none:=by simp [aY]
  rcases hty with rfl|rfl
  .exact wpAny_pyNext_ascii_end hh hi hc λ h' k=>h h' s.toks λ b o m e=>k b o (λ q=>m (by simp [q])) e
  .exact wpAny_pyNext_wide_end hh hi hc λ h' k=>h h' s.toks λ b o m e=>k b o (λ q=>m (by simp [q])) e
 .obtain ⟨H1,hn,hr⟩:=hsr
  subst hr
  obtain ⟨b,t,rfl,hi⟩:=hi
  exact KBw.next_end hh hi (Array.getElem?_eq_none (by simp)) λ h' k=>h h' s.toks λ b o m e=>k b o (λ q=>m (by simp [q])) e
theorem B4 {src:Src}{u:V}{I J:Addr}{n i:Nat}{e:Expr}{item:It}{y:Value}{Z:Unit->Shared->Prop}(R:aI S fs H s)(hd:mY S I J H s.heap)(hm:xh src u I J i n y s.heap)(hy:qH item y s.heap)
  (ht:(∃ nm p,e=.Name nm p)/\src≠.enum\/(∃ es k p,e=.Tuple es k p)/\(src=.list\/src=.enum))
  (h:∀ h',aP [I,J] s.heap h'->(∀ b∈[I,J],∃ o vs,h'.get? b=some o/\o.data=.fields vs)->ew src u I J (i+1) n h'->qH item y h'->Z () {s with heap:=h'}) :
  wpAny (model S.prog S.w) A (letOwnedTupleGo e (.ref I) y) Z E s:=by
 rcases ht with ⟨⟨nm,p,rfl⟩,hs⟩|⟨⟨es,k,p,rfl⟩,hs⟩
 .have hi:ew src u I J (i+1) n s.heap:=by
   cases src<;>first|exact absurd rfl hs|exact hm
  exact wpAny_pure (h s.heap (aP.refl _ _) hd.fld hi hy)
 .rcases hs with rfl|rfl
  .induction u with
   | ref a =>
    refine nT (id hm) λ o g hc hdt=>?_
    induction y with
    | ref b =>
     refine wpAny_bind (wpAny_load g (sr hc (sr hdt ?_)))
     dsimp only
     exact sr (if_neg (by simp)) (wpAny_pure (h s.heap (aP.refl _ _) hd.fld hm hy))
    | _=>exact wpAny_pure (h s.heap (aP.refl _ _) hd.fld hm hy)
   | _=>exact hm.elim
  .induction u with
   | ref a =>
    refine mL hm λ hne uz1 hit=>?_;obtain ⟨T,x,rfl,hTI,hTJ,ho⟩:=uz1
    refine wpAny_letOwnedTupleGo_enum ho λ h' he hs=>h h' ((Gi hs).mono (by simp)) (λ b m=>?_) ⟨hne,⟨x,by simpa using he⟩,?_⟩ ?_
    .by_cases hb:b=I
     .subst hb;exact ⟨_,_,he,rfl⟩
     .exact k9 (hd.fld b m) λ o vs g d=>⟨o,vs,(hs.2 b hb).trans g,d⟩
    .exact aT hit λ o g r=>⟨o,(hs.2 J hne.symm).trans g,r⟩
    .induction item with
     | v v=>exact hy
     | pair a b =>
      refine Em hy λ T' xa xb n e g r=>?_
      (injection e with e;subst e)
      exact ⟨_,xa,xb,n,rfl,(hs.2 _ hTI).trans g,r⟩
   | _=>exact hm.elim
def tp (src:Src)(u:V)(y:Value)(H:AH)(S:Sx)(h:Heap):Prop:=match src,u with
 | .range,.int n=>∃ r t t' t'',y=.ref r/\IsRange h r 0 n 1 t t' t''/\n<=16777216
 | .enum,.ref a=>∃ I J,y=.ref I/\ew .enum (.ref a) I J 0 0 h/\mY S I J H h
 | .range,_=>False
 | .enum,_=>False
 | _,u=>VR u y
theorem oH {src:Src}{u:V}{y:Value}{items:List It}{Z:Value->Shared->Prop}(R:aI S fs H s)(hy:tp src u y H S s.heap)(hi:cF src u H items)
  (h:∀ I J h',(∀ b o,s.heap.get? b=some o->h'.get? b=some o)->mY S I J H h'->(src≠.enum->s.heap.get? I=none/\s.heap.get? J=none)->(src=.enum->y=.ref I/\mY S I J H s.heap/\ew .enum u I J 0 0 s.heap)->ew src u I J 0 items.length h'->Z (.ref I) {s with heap:=h'}) :
  wpAny (model S.prog S.w) A (pyIter y) Z E s:=by
 have fresh:∀ (ty:String) (vs:Array Value),(∀ b o,s.heap.get? b=some o->(s.heap.push {cls:=.type ty,data:=.fields vs}).get? b=some o)/\mY S s.heap.objs.size s.heap.objs.size H (s.heap.push {cls:=.type ty,data:=.fields vs}):=λ ty vs=>by
  refine ⟨λ b o e=>Heap.get?_push_of_some _ e,⟨λ b m=>?_,λ b m=>?_⟩⟩
  .have:b=s.heap.objs.size:=by simpa using m
   subst this;exact ⟨R.fresh,R.base_none (aX _)⟩
  .have:b=s.heap.objs.size:=by simpa using m
   subst this;exact ⟨_,_,Heap.get?_push_size _ rfl,rfl⟩
 have nn:=aX s.heap
 have hi0:=hi
 revert hy hi h
 refine oE hi0 (λ a hy hi h=>?_) (λ a hy hi h=>?_) (λ n hy hi h=>?_) (λ l hy hi h=>?_) (λ l hy hi h=>?_)
 all_goals clear hi0
 .refine nT hi λ vs ha hz ez1=>?_;subst ez1
  obtain ⟨ys,n,g,ry⟩:=R.listAt ha
  refine VR.ref1 hy ?_
  exact wpAny_pyIter_list (aW g) (h _ _ _ (fresh _ _).1 (fresh _ _).2 (λ _=>⟨nn,nn⟩) (λ q=>by contradiction) ⟨_,Heap.get?_push_size _ rfl,rfl,rfl⟩)
 .refine nT hi λ vs ha hz ez1=>?_;subst ez1
  refine ln hy λ I J ez1 uz1 hd=>?_;subst ez1;obtain ⟨hne,⟨old,he⟩,hit⟩:=uz1
  exact wpAny_pyIter_enum he (h I J s.heap (λ _ _ e=>e) hd (λ q=>absurd rfl q) (λ _=>⟨rfl,hd,hne,⟨old,he⟩,hit⟩) ⟨hne,⟨old,he⟩,hit⟩)
 .obtain ⟨hz,rfl⟩:=hi
  refine Em hy λ r t t' t'' ez1 hr uz1=>?_;subst ez1
  have hsz:Builtin.Range.rangeSize 0 n 1=(n.toNat:Int):=by
   dsimp only [Builtin.Range.rangeSize]
   refine sr (if_pos (by decide)) ?_
   split<;>simp<;>lia
  refine wpAny_pyIter_range hr ?_ (h _ _ _ (fresh _ _).1 (fresh _ _).2 (λ _=>⟨nn,nn⟩) (λ q=>by contradiction) ?_)
  .dsimp only [Builtin.Range.small,Builtin.Range.rangeFitsLong]
   simp
   lia
  .show IsRangeIter _ _ _ _ _
   have:=Heap.get?_push_size s.heap (o:={cls:=.type "range_iterator", data:=.fields #[rawInt 0,rawInt (Builtin.Range.rangeSize 0 n 1),rawInt 1]}) rfl
   rw [hsz] at this ⊢
   simpa using this
 .obtain ⟨hz,rfl⟩:=hi
  refine Gd hy λ t=>?_
  rcases ha:(aY l).cps.all (·<128) with _|_
  .exact wpAny_pyIter_wide ha (h _ _ _ (fresh _ _).1 (fresh _ _).2 (λ _=>⟨nn,nn⟩) (λ q=>by contradiction) ⟨t,_,.inr rfl,_,Heap.get?_push_size _ rfl,rfl,rfl⟩)
  .exact wpAny_pyIter_ascii ha (h _ _ _ (fresh _ _).1 (fresh _ _).2 (λ _=>⟨nn,nn⟩) (λ q=>by contradiction) ⟨t,_,.inl rfl,_,Heap.get?_push_size _ rfl,rfl,rfl⟩)
 .obtain ⟨hz,rfl⟩:=hi
  cases hy with
  | bytes b t=>exact KBw.pyIter_bytes (h _ _ _ (fresh _ _).1 (fresh _ _).2 (λ _=>⟨nn,nn⟩) (λ q=>by contradiction) ⟨b,t,rfl,_,Heap.get?_push_size _ rfl,rfl,rfl⟩)
end
section
variable {K:Kt}{β:Bool}{X:Int->Prop}{ls:Ls}{P P1:AH->(V->AH->Prop)->Prop}
def iG (K:Kt)(β:Bool)(X:Int->Prop)(src:Src)(t:Sem Value)(ls:Ls)(P:AH->(V->AH->Prop)->Prop):Prop :=
 ∀ s H (Q:V->AH->Prop),(∀ u H',Q u H'->∃ items,cF src u H' items)->aI K.S K.fs H s->bh K.env K.slots ls H s.heap->P H Q ->
  aF β K.M K.A t (λ y s'=>∃ u H',aI K.S K.fs H' s'/\Tr H s.heap H' s'.heap/\tp src u y H' K.S s'.heap/\Q u H' /\
   (∀ I J,src=.enum->mY K.S I J H' s'.heap->y=.ref I->ew .enum u I J 0 0 s'.heap->s.heap.get? I=none/\s.heap.get? J=none)) (PX K.S K.fs H s.heap X) s
theorem k7 {src:Src}{t:Sem Value}(hs:src=.list\/src=.str\/src=.bytes)(h:an K β X t ls P):iG K β X src t ls P:=λ s H Q hq R L p=>by
 refine aj (h s H _ R L p) (λ y s' z=>?_) λ _ _ z=>z
 obtain ⟨u,H',r,R',T',q⟩:=z
 refine ⟨u,H',R',T',?_,q,λ I J e=>by subst e;rcases hs with h|h|h<;>contradiction⟩
 rcases hs with rfl|rfl|rfl<;>exact r
theorem uO (O:a7 K) {a:Expr} {id:Str} {p0 pos:Pos} (hx:K.env.kindOf id=some .globalImplicit) (hd:(id==("__debug__" : Str))=false) (hm:K.S.mg id=none) (hm':K.S.mb id=some (.type "range"))
  (hs:starEach [a] K.env=[(false,eval a K.env)]) (h:an K β X (eval a K.env) ls P):iG K β X .range (eval (.Call (.Name id p0) [a] [] pos) K.env) ls P:=λ s H Q hq R L p=>by
 refine aa (ah (fE O R hx hd hm hm' (sr hs ?_)))
 show aF _ _ _ (callWith pos (.type "range") [] [(false,eval a K.env)] []) _ _ _
 refine dy rfl (h.bind R L p (λ x u s1x H1 r1x R1x L1x T1 p1x=>aa (ae (aa (ai (ae (ae ⟨⟨_,.inr rfl,jx⟩,?_⟩)))))) λ _ _ h=>h)
 have q:=p1x
 obtain ⟨items,hi⟩:=hq _ _ q
 induction r1x with
 | int n t =>
  refine ah (call_range_1 ?_)
  refine ⟨.int n,H1,(R1x.push _).toks _,T1.trans (Tr.push H1 s1x.heap _),⟨_,_,_,_,rfl,IsRange.new _ _ _ _ _ _ _,hi.1.2⟩,q,λ I J e=>by contradiction⟩
 | _=>exact hi.elim
theorem u5 (O:a7 K) {a:Expr} {id:Str} {p0 pos:Pos} (hx:K.env.kindOf id=some .globalImplicit) (hd:(id==("__debug__" : Str))=false) (hm:K.S.mg id=none) (hm':K.S.mb id=some (.type "enumerate"))
  (hs:starEach [a] K.env=[(false,eval a K.env)]) (h:an K β X (eval a K.env) ls P):iG K β X .enum (eval (.Call (.Name id p0) [a] [] pos) K.env) ls P:=λ s H Q hq R L p=>by
 refine aa (ah (fE O R hx hd hm hm' (sr hs ?_)))
 show aF _ _ _ (callWith pos (.type "enumerate") [] [(false,eval a K.env)] []) _ _ _
 refine dy rfl (h.bind R L p (λ x u s1x H1 r1x R1x L1x T1 p1x=>aa (ae (aa (ai (ae (ae ⟨⟨_,.inr rfl,jx⟩,?_⟩)))))) λ _ _ h=>h)
 have q:=p1x
 obtain ⟨items,hi⟩:=hq _ _ q
 induction r1x with
 | ref a =>
  refine bc λ zz=>nT hi λ vs ha hz uz1=>?_
  obtain ⟨ys,n,g,ry⟩:=R1x.listAt ha
  refine zz (ah (call_enumerate_list (aW g) λ h' he hit hsz k=>?_))
  have n1:∀ b,s1x.heap.objs.size<=b->s1x.heap.get? b=none:=λ b hb=>by
   induction e:s1x.heap.get? b with
   | none=>rfl
   | some o=>exact absurd (Heap.lt_size e) (not_lt.mpr hb)
  have hid:∀ b,s1x.heap.objs.size<=b->H1 b=none/\K.S.h0x.get? b=none:=λ b hb=>⟨R1x.none_of_fresh (n1 b hb),R1x.base_none (n1 b hb)⟩
  refine ⟨.ref a,H1,R1x.grow k,T1.trans (Tr.grow k),⟨_,_,rfl,⟨Nat.succ_ne_self _,⟨_,he⟩,hit⟩,⟨λ b m=>?_,λ b m=>?_⟩⟩,q,λ I J _ hh e hi=>?_⟩
  .rcases mem_cons.mp m with rfl|m
   .exact hid _ (le_succ _)
   .exact sr (GP m) (hid _ (le_refl _))
  .rcases mem_cons.mp m with rfl|m
   .exact ⟨_,_,he,rfl⟩
   .exact sr (GP m) (nT hit λ o g uz1 d=>⟨o,_,g,d⟩)
  ·(injection e with e;subst e)
   refine bc λ zz=>?_
   refine mL hi λ uz1 uz2 uz3=>?_;obtain ⟨old,he'⟩:=uz2
   refine zz ?_
   have:J=s1x.heap.objs.size:=by
    have:=he.symm.trans he'
    simp at this
    exact this.1.symm
   subst this
   exact ⟨T1.dom _ (n1 _ (le_succ _)),T1.dom _ (n1 _ (le_refl _))⟩
 | _=>exact hi.elim
end
section
variable {K:Kt}{β:Bool}{X:Int->Prop}{ls:Ls}{P P1:AH->(V->AH->Prop)->Prop}{H0:AH}{h0x:Heap}
theorem At.nx0 {H:AH}{s:Shared}{I J:Addr}{h':Heap}{tk:Nat}(a:At K H0 h0x ls H s)(hd:mY K.S I J H s.heap)(h0:h0x.get? I=none/\h0x.get? J=none)(kw:aP [I,J] s.heap h') :
  At K H0 h0x ls H {s with heap:=h',toks:=tk}:=by
 have noF:∀ b∈[I,J],∀ o,s.heap.get? b=some o->(∀ vs,o.data≠.fields vs)->False:=λ b m o g d=>by
  refine k9 (hd.fld b m) λ o' vs g' d'=>?_
  rw [g] at g';(injection g' with g';subst g');exact d vs d'
 refine ⟨a.R.local_step (W:=[I,J]) hd.hid kw (λ b m o g d=>(noF b m o g d).elim) tk,?_,a.T.local_step kw λ b m=>?_⟩
 .obtain ⟨n,m,hm,c⟩:=a.L
  refine ⟨n,m,?_,λ k v e=>?_⟩
  .refine ug hm λ o es ep g d r=>?_
   exact ⟨o,es,ep,kw _ _ (λ q=>noF _ q o g λ vs e=>by rw [d] at e;contradiction) g,d,r⟩
  .refine ln (c k v e) λ nm x e1 e2 e3=>?_
   refine ⟨nm,x,e1,e2,e3.imp id λ ⟨f1,cc,o,f2,f3,f4,f5⟩=>⟨f1,cc,o,f2,f3,kw _ _ (λ q=>noF _ q o f4 λ vs e=>by rw [f5] at e;contradiction) f4,f5⟩⟩
 .rcases mem_cons.mp m with rfl|m
  .exact h0.1
  .exact sr (GP m) h0.2
theorem At.nx {H:AH}{s:Shared}{I J:Addr}{h':Heap}{tk:Nat}(a:At K H0 h0x ls H s)(hd:mY K.S I J H s.heap)(h0:h0x.get? I=none/\h0x.get? J=none)(kw:aP [I,J] s.heap h')(fld:∀ b∈[I,J],∃ o vs,h'.get? b=some o/\o.data=.fields vs) :
  At K H0 h0x ls H {s with heap:=h',toks:=tk}/\mY K.S I J H h':=⟨a.nx0 hd h0 kw,⟨hd.hid,fld⟩⟩
theorem qz (O:a7 K)(hb:h0x.get? K.env.locals=none){H:AH}{s:Shared}{src:Src}{u:V}{I J:Addr}{items:List It}{i:Nat}{item:It}{tg:Tg}{e:Expr}{p:Ls->Prop}{Z:Shared->Prop}{E}{f:Value->Sem Unit}
  (hf:∀ y,f y=(letOwnedTupleGo e (.ref I) y >>= λ _=>assign e K.env y))
  (a:At K H0 h0x ls H s) (hd:mY K.S I J H s.heap) (h0:h0x.get? I=none/\h0x.get? J=none) (hi:ew src u I J i items.length s.heap) (hs:ay src u items H) (hsr:∃ H1,cF src u H1 items)
  (ht:dH K tg e) (hte:(∃ nm p,e=.Name nm p)/\src≠.enum\/(∃ es k p,e=.Tuple es k p)/\(src=.list\/src=.enum)) (ei:items[i]?=some item) (pb:iS tg item H ls p)
  (h:∀ ls' s',At K H0 h0x ls' H s'->mY K.S I J H s'.heap->ew src u I J (i+1) items.length s'.heap->aP [I,J,K.env.locals] s.heap s'.heap->p ls'->Z s') :
  wpAny K.M K.A (pyNext (.ref I)) (λ r s1x=>∃ y,r=some y/\wpAny K.M K.A (letOwnedTupleGo e (.ref I) y) (λ _ s2x=>wpAny K.M K.A (assign e K.env y) (λ _ s3x=>Z s3x) E s2x) E s1x) E s:=by
 refine vk a.R hd hi hs hsr ei λ y h' tk nx hm hy=>⟨y,rfl,?_⟩
 obtain ⟨a1x,hd1x⟩:=a.nx (tk:=tk) hd h0 nx.kw nx.fld
 refine B4 a1x.R hd1x hm hy hte λ h2x kw2 fld2 hi2 hy2=>?_
 obtain ⟨a2x,hd2x⟩:=a1x.nx (tk:=tk) hd1x h0 kw2 fld2
 refine vh O hb a2x ht hy2 pb λ s3x ls' a3 pp kw3=>?_
 have noL:∀ b∈[I,J],b∉[K.env.locals]:=λ b m q=>by
  refine k9 (hd2x.fld b m) λ o vs g d=>?_
  obtain ⟨_,m',⟨o',es,ep,g',d',_⟩,_⟩:=a2x.L
  rw [GP q] at g
  rw [g] at g';cases g';rw [d] at d';contradiction
 refine h ls' s3x a3 ⟨hd2x.hid,λ b m=>?_⟩ (hi2.keep λ b m o g=>kw3 b o (noL b m) g) ((nx.kw.mono (λ b m=>List.mem_append_left [K.env.locals] m)).trans ((kw2.mono (λ b m=>List.mem_append_left [K.env.locals] m)).trans (kw3.mono λ b m=>by refine sr (GP m) ?_;simp))) pp
 exact k9 (hd2x.fld b m) λ o vs g d=>⟨o,vs,kw3 b o (noL b m) g,d⟩
end
noncomputable abbrev sO (h h':Heap):Prop:=Heap.UpToSlots h h'
section
variable {S:Sx}{M:Model}{A:Around}{E:Value->Shared->Prop}{s:Shared}{env:Env}{outer:List Env}{L e:Addr}{told:Int}{Q:Unit->Shared->Prop}
theorem o8 {head:Value}{hadNext:Bool}{d:Addr}{vs:Array Value}{hs:Int}{t t':Tok}{n:Nat}
  (hfr:A.frames=some (env::outer)) (hl:s.heap.FunFrames S.h0x (env::outer)) (hf:env.frame=some L) (hkb:S.h0x.StaysIn s.heap)
  (he:s.heap.get? e=some {cls:=.ref (S.ca 0),dict:=some d,data:=.fields vs}) (hen:S.h0x.get? e=none) (hsz:1<vs.size) (hde:d≠e) (hdd:∃ sl,s.heap.get? d=some {dictOf [⟨hs,.str (nm 0) t,.int told t'⟩] n with slots:=sl})
  (h:∀ h',S.h0x.StaysIn h'->h'.FunFrames S.h0x (env::outer)->lJ S e told (some (rawInt L)) h'->sO s.heap h'->Q () {s with heap:=h'}) :
  wpAny M A (do let a <- frameOf env;let pl <- entryPlaceOf L hadNext;let b <- EntryCells.newEntry head a .none (rawInt L) .none pl;setField (.ref e) 1 b) Q E s:=by
 have hene:e∉(env::outer).filterMap (·.frame):=λ hm=>by
  obtain ⟨_,o,ho,hnf⟩:=Heap.FunFrames.mem hl hm
  rw [he] at ho;injection ho with ho;subst ho;exact hnf vs rfl
 refine wpAny_bind (wpAny_frameOf_fun hfr hl hf λ h1x hs1x=>wpAny_bind (wpAny_entryPlaceOf λ pl hpl=>wpAny_bind (wpAny_newObj_type ?_ (hpl.sizeOk5 _ _ _ _ _))))
 generalize hpf:([head,.ref L,.none,rawInt L,.none]++(if pl.isEmpty then replicate 6 Value.none else pl)).toArray=pf
 have he1:h1x.get? e=some {cls:=.ref (S.ca 0),dict:=some d,data:=.fields vs}:=(hs1x.2.1 e hene).trans he
 have kb1:S.h0x.StaysIn h1x:=λ b o hbo=>(hs1x.2.1 b λ hm=>by rw [(Heap.FunFrames.mem hl hm).1] at hbo;contradiction).trans (hkb b o hbo)
 have he2:=Heap.get?_push_of_some (h:=h1x) {cls:=.type "traceback", dict:=none,data:=.fields pf} he1
 refine wpAny_setField he2 rfl hsz (h _ ?_ ?_ ?_ ?_)
 all_goals
  have hTe:h1x.objs.size≠e:=ne_of_gt (Heap.lt_size he1)
  have keep:∀ b o,b≠e->h1x.get? b=some o->((h1x.push {cls:=.type "traceback", dict:=none,data:=.fields pf}).update e (Obj.mapFields (·.setIfInBounds 1 (Value.ref h1x.objs.size)))).get? b=some o:=λ b o hbe hb=>by
   refine sr (Heap.get?_update_other _ _ (Ne.symm hbe)) ?_
   exact Heap.get?_push_of_some _ hb
  have noRecord:∀ b o,s.heap.get? b=some o->(∀ vs,o.data≠.fields vs)->b≠e:=λ b o hb hnf q=>by
   rw [q,he] at hb;injection hb with hb;subst hb;exact hnf vs rfl
 .exact λ b o hbo=>keep b o (λ q=>by rw [q,hen] at hbo;contradiction) (kb1 b o hbo)
 .exact Heap.FunFrames.of_keeps (λ b o hb hnf=>by
   obtain ⟨sl,hs⟩:=hs1x.2.2 b o hb
   exact ⟨_,keep b _ (noRecord b o hb hnf) hs,rfl⟩) hl
 .obtain ⟨sl,hd0⟩:=hdd
  obtain ⟨sl',hd1⟩:=hs1x.2.2 d _ hd0
  refine ⟨d,vs.setIfInBounds 1 (.ref h1x.objs.size),hs,t,t',n,?_,hen,by simpa using hsz,hde,⟨sl',keep d _ hde hd1⟩,h1x.objs.size,{cls:=.type "traceback", dict:=none,data:=.fields pf},pf,?_,kb1.fresh,hTe,ne_of_gt (Heap.lt_size hd1),?_,rfl,?_⟩
  .exact Heap.get?_update_self _ he2 rfl
  .simp [hsz]
  .exact (Heap.get?_update_other _ _ (Ne.symm hTe)).trans (Heap.get?_push_size _ rfl)
  .rw [<- hpf];simp
 .intro b o hb hnf
  obtain ⟨sl,hs⟩:=hs1x.2.2 b o hb
  exact ⟨sl,keep b _ (noRecord b o hb hnf) hs⟩
theorem nP {fl:Option Value}(hfr:A.frames=some (env::outer))(hl:s.heap.FunFrames S.h0x (env::outer))(hf:env.frame=some L)(hkb:S.h0x.StaysIn s.heap)(x:lJ S e told fl s.heap)
  (hfl:fl=none\/fl=some .none\/fl=some (rawInt L))
  (h:∀ h',S.h0x.StaysIn h'->h'.FunFrames S.h0x (env::outer)->lJ S e told (some (rawInt L)) h'->sO s.heap h'->Q () {s with heap:=h'}) :
  wpAny M A (noteFrame (.ref e) env) Q E s:=by
 obtain ⟨d,vs,hs,t,t',n,he,hen,hsz,hde,hdd,tr⟩:=id x
 dsimp only [noteFrame]
 simp only [hf]
 rcases hfl with rfl|rfl|rfl
 .exact wpAny_bind (wpAny_field he rfl (x:=.none) tr (o8 hfr hl hf hkb he hen hsz hde hdd h))
 .refine EJ tr λ T oT ts h1 hnT hTe hTd hT hdT h3=>wpAny_bind (wpAny_field he rfl h1 (wpAny_bind (wpAny_field hT hdT h3 (wpAny_bind (wpAny_setField hT hdT (Array.getElem?_eq_some_iff.mp h3).1 ?_)))))
  have other:∀ b,b≠T->(s.heap.update T (Obj.mapFields (·.setIfInBounds 3 Value.none))).get? b=s.heap.get? b:=λ b hb=>Heap.get?_update_other _ _ (Ne.symm hb)
  have noRecord:∀ b o,s.heap.get? b=some o->(∀ vs,o.data≠.fields vs)->b≠T:=λ b o hb hnf q=>by
   rw [q,hT] at hb;injection hb with hb;subst hb;exact hnf ts hdT
  refine o8 hfr (Heap.FunFrames.of_keeps (λ b o hb hnf=>⟨o,(other b (noRecord b o hb hnf)).trans hb,rfl⟩) hl) hf
   (λ b o hbo=>(other b λ q=>by rw [q,hnT] at hbo;contradiction).trans (hkb b o hbo)) ((other e (Ne.symm hTe)).trans he) hen hsz hde (by obtain ⟨sl,g⟩:=hdd;exact ⟨sl,(other d (Ne.symm hTd)).trans g⟩) ?_
  intro h' a b c k
  exact h h' a b c λ b o hb hnf=>k b o ((other b (noRecord b o hb hnf)).trans hb) hnf
 .refine EJ tr λ T oT ts h1 hnT hTe hTd hT hdT h3=>wpAny_bind (wpAny_field he rfl h1 (wpAny_bind (wpAny_field hT hdT h3 ?_)))
  exact sr (if_pos (show (rawInt L==rawInt L)=true from by simp)) (wpAny_pure (h s.heap hkb hl x (Heap.UpToSlots.refl _)))
theorem gf {f:Value}{fr:Option Addr}{l:List Env}(hl:s.heap.FunFrames S.h0x l)(hkb:S.h0x.StaysIn s.heap)(x:lJ S e told (some f) s.heap)
  (h:∀ h',S.h0x.StaysIn h'->h'.FunFrames S.h0x l->lJ S e told (some (fr.elim .none λ f=>rawInt f)) h'->sO s.heap h'->Q () {s with heap:=h'}) :
  wpAny M A (setFlight (.ref e) fr) Q E s:=by
 refine bc λ zz=>?_
 obtain ⟨d,vs,hs,t,t',n,he,hen,hsz,hde,hdd,T,oT,ts,h1,hnT,hTe,hTd,hT,hdT,h3⟩:=x
 refine zz ?_
 have hsz3:3<ts.size:=(Array.getElem?_eq_some_iff.mp h3).1
 have other:∀ b,b≠T->(s.heap.update T (Obj.mapFields (·.setIfInBounds 3 (fr.elim Value.none λ f=>rawInt f)))).get? b=s.heap.get? b:=λ b hb=>Heap.get?_update_other _ _ (Ne.symm hb)
 have noRecord:∀ b o,s.heap.get? b=some o->(∀ vs,o.data≠.fields vs)->b≠T:=λ b o hb hnf q=>by
  rw [q,hT] at hb;injection hb with hb;subst hb;exact hnf ts hdT
 refine wpAny_bind (wpAny_field he rfl h1 ?_)
 refine wpAny_setField hT hdT hsz3 (h _ (λ b o hbo=>(other b λ q=>by rw [q,hnT] at hbo;contradiction).trans (hkb b o hbo))
  (Heap.FunFrames.of_keeps (λ b o hb hnf=>⟨o,(other b (noRecord b o hb hnf)).trans hb,rfl⟩) hl) ?_ λ b o hb hnf=>⟨o.slots,(other b (noRecord b o hb hnf)).trans hb⟩)
 refine ⟨d,vs,hs,t,t',n,(other e (Ne.symm hTe)).trans he,hen,hsz,hde,(by obtain ⟨sl,g⟩:=hdd;exact ⟨sl,(other d (Ne.symm hTd)).trans g⟩),T,_,_,h1,hnT,hTe,hTd,Heap.get?_update_self _ hT (Obj.isFreed_of_fields (Obj.data_mapFields hdT _)),Obj.data_mapFields hdT _,by simp [hsz3]⟩
end
structure EM (K:Kt) (H0:AH) (h0x:Heap) (told:Int) (e:Value) (s':Shared):Prop where
 exc:∃ a fl,e=.ref a/\lJ K.S a told fl s'.heap/\(fl=none\/fl=some .none\/∃ L,K.env.frame=some L/\fl=some (rawInt L))
 base:K.S.h0x.StaysIn s'.heap
 frames:s'.heap.FunFrames K.S.h0x K.fs
 ns:∀ b m,H0 b=none->h0x.Ns b m->s'.heap.Ns b m
 gens:s'.gens=#[]
 os:s'.os=K.S.os
def kz (K:Kt)(H0:AH)(h0x:Heap)(X:Int->Prop):Value->Shared->Prop:=λ e s'=>∃ told,EM K H0 h0x told e s'/\X told
noncomputable def PF (K:Kt)(H0:AH)(h0x:Heap)(N:Ls->AH->Prop)(Rr:V->AH->Prop):Flow->Shared->Prop
 | .next,s'=>∃ ls' H',At K H0 h0x ls' H' s'/\N ls' H'
 | .ret v,s'=>PV K.S K.fs H0 h0x Rr v s'
 | _,_=>False
noncomputable abbrev BP:=Ls->AH->(Ls->AH->Prop)->(V->AH->Prop)->Prop
def fj (K:Kt)(β:Bool)(X:Int->Prop)(stmts:List Stmt)(P:BP):Prop :=
 ∀ H0 h0x ls s H N Rr,h0x.get? K.env.locals=none->At K H0 h0x ls H s->P ls H N Rr->aF β K.M K.A (execs stmts K.env) (PF K H0 h0x N Rr) (kz K H0 h0x X) s
section
variable {K:Kt}{β:Bool}{X:Int->Prop}
theorem PX.body {H0 H:AH}{h0x h:Heap}{e s'}(T:Tr H0 h0x H h)(p:PX K.S K.fs H h X e s'):kz K H0 h0x X e s':=by
 refine aT p λ told x y=>aT x.exc λ a ea ex=>?_
 exact ⟨told,⟨⟨a,_,ea,ex,.inr (.inl rfl)⟩,x.base,x.frames,λ b m n g=>by obtain ⟨p,q⟩:=T.ns n g;exact x.ns b m q p,x.gens,x.os⟩,y⟩
theorem an.at {α:Type}{t:Sem Value}{f:Value->Sem α}{ls:Ls}{P:AH->(V->AH->Prop)->Prop}{H0 H:AH}{h0x:Heap}{s:Shared}{Q:V->AH->Prop}{Z:α->Shared->Prop}(h:an K β X t ls P)(a:At K H0 h0x ls H s)(p:P H Q)
  (k:∀ x u s1x H1,VR u x->At K H0 h0x ls H1 s1x->Tr H s.heap H1 s1x.heap->Q u H1->aF β K.M K.A (f x) Z (kz K H0 h0x X) s1x):aF β K.M K.A (t >>= f) Z (kz K H0 h0x X) s :=
 h.bind a.R a.L p (λ x u s1x H1 r R L T q=>k x u s1x H1 r ⟨R,L,a.T.trans T⟩ T q) λ e s' z=>z.body a.T
theorem Gj {α:Type}{t:Sem Value}{vs:List Value}{f:Value->Sem α}{ls:Ls}{P:AH->(V->AH->Prop)->Prop}{H0 H:AH}{h0x:Heap}{s:Shared}{Q:V->AH->Prop}{Z:α->Shared->Prop}(h:an K β X t ls P)(a:At K H0 h0x ls H s)(p:P H Q)
  (k:∀ x u s1x H1,VR u x->At K H0 h0x ls H1 s1x->Tr H s.heap H1 s1x.heap->Q u H1->aF β K.M K.A (f x) Z (kz K H0 h0x X) s1x):aF β K.M K.A (holding vs t >>= f) Z (kz K H0 h0x X) s :=
 an.at (t:=holding vs t) h.hold a p k
theorem xW:fj K β X [] λ ls H N Rr=>N ls H:=λ H0 h0x ls s H N Rr hb a p=>ae ⟨ls,H,a,p⟩
theorem gK {st:Stmt}{rest:List Stmt}{P:BP}{H0:AH}{h0x:Heap}{s:Shared}{N:Ls->AH->Prop}{Rr:V->AH->Prop}(hr:fj K β X rest P)(hb:h0x.get? K.env.locals=none)
  (h:aF β K.M K.A (exec st K.env) (λ fl s'=>fl=.next/\∃ ls' H',At K H0 h0x ls' H' s'/\P ls' H' N Rr) (kz K H0 h0x X) s):aF β K.M K.A (execs (st::rest) K.env) (PF K H0 h0x N Rr) (kz K H0 h0x X) s:=by
 refine aL (aj h (λ fl s' z=>?_) λ _ _ z=>z)
 obtain ⟨rfl,ls',H',a,p⟩:=z
 exact hr H0 h0x ls' s' H' N Rr hb a p
theorem An {e:Expr}{pos:Pos}{rest:List Stmt}{P:Ls->AH->(V->AH->Prop)->Prop}(h:∀ ls,an K β X (eval e K.env) ls (P ls)):fj K β X (.Return (some e) pos::rest) λ ls H _ Rr=>P ls H Rr:=λ H0 h0x ls s H N Rr hb a p=>by
 exact aL (aa (ag (an.at (h ls) a p λ x u s1x H1 r a1x T q=>ae ⟨u,H1,r,a1x.R,a1x.T,q⟩)))
theorem zL {pos:Pos}{rest:List Stmt}:fj K β X (.Return none pos::rest) λ ls H _ Rr=>Rr .none H:=λ H0 h0x ls s H N Rr hb a p=>by
 exact aL (aa (ag (ae ⟨.none,H,.none,a.R,a.T,p⟩)))
theorem a7.inter (O:a7 K):interactive K.env=false:=by dsimp only [interactive];refine sr O.kind ?_;rfl
noncomputable def eE (v:Expr):Bool:=!(v.ctorIdx==8||v.ctorIdx==9||v.ctorIdx==10)
theorem kI {v:Expr}{t:Option Expr}{n:Nat}{env:Env}(h:eE v=true):swapsWith v t n env=pure false:=by
 cases v<;>first|rfl|contradiction
theorem A6 (O:a7 K){nm:Str}{k:Nat}{p0 pos:Pos}{v:Expr}{rest:List Stmt}{P:Ls->AH->(V->AH->Prop)->Prop}{PR:BP}(hs:K.slots[k]?=some nm)(hk:K.env.kindOf nm=some .local)(hc:eE v=true)
  (h:∀ ls,an K β X (eval v K.env) ls (P ls)) (hr:fj K β X rest PR) :
  fj K β X (.Assign [.Name nm p0] v pos::rest) λ ls H N Rr=>P ls H λ u H1=>PR (lput ls k u) H1 N Rr:=λ H0 h0x ls s H N Rr hb a p=>by
 exact gK hr hb (sr (exec_Assign_Name K.env nm p0 v pos (kI hc)) (aa (ag (an.at (h ls) a p λ x u s1x H1 r a1x T q=>(aa (ag (aa (ah (wpAny_bindName (ia O hb a1x hs hk r λ s' a' _=>ae ⟨rfl,_,_,a',q⟩))))))))))
theorem Dw (O:a7 K){f:Expr}{as:List Expr}{kw:List Keyword}{cp:Pos}{e:Expr}(he:e=.Call f as kw cp){pos:Pos}{rest:List Stmt}{P:Ls->AH->(V->AH->Prop)->Prop}{PR:BP}(hc:eE e=true)
  (h:∀ ls,an K β X (eval e K.env) ls (P ls)) (hr:fj K β X rest PR) :
  fj K β X (.Expr e pos::rest) λ ls H N Rr=>P ls H λ _ H1=>PR ls H1 N Rr:=λ H0 h0x ls s H N Rr hb a p=>by
 refine gK hr hb (sr (exec_Expr K.env e pos O.inter (kI hc)) (aa (ag (an.at (h ls) a p λ x u s1x H1 r a1x T q=>?_))))
 have dn:aF β K.M K.A (pure Flow.next) (λ fl s'=>fl=.next/\∃ ls' H',At K H0 h0x ls' H' s'/\PR ls' H' N Rr) (kz K H0 h0x X) s1x:=ae ⟨rfl,_,_,a1x,q⟩
 have lg:aF β K.M K.A (do standAt pos;let _ <- runValue (.builtin "proto.let_go" {});pure Flow.next) (λ fl s'=>fl=.next/\∃ ls' H',At K H0 h0x ls' H' s'/\PR ls' H' N Rr) (kz K H0 h0x X) s1x :=
  aa (ag (aa (ah (wpAny_runValue (codeAny_builtin entry_let_go (show wpAny _ _ (ret .none) _ _ s1x from wpAny_pure (ae ⟨rfl,_,_,a1x,q⟩)))))))
 clear r
 subst he
 induction x with
 | ref=>exact lg
 | _=>exact dn
theorem xX {c:Expr}{sa sb:List Stmt}{pos:Pos}{rest:List Stmt}{PC:Ls->AH->(Bool->AH->Prop)->Prop}{PA PB PR:BP}(hc:∀ ls,cv K β X (isTrue c K.env (eval c K.env)) ls (PC ls))(ha:fj K β X sa PA)(hbb:fj K β X sb PB)(hr:fj K β X rest PR) :
  fj K β X (.If c sa sb pos::rest) λ ls H N Rr=>PC ls H λ t H1 =>
   (t=true->PA ls H1 (λ ls' H'=>PR ls' H' N Rr) Rr)/\(t=false->PB ls H1 (λ ls' H'=>PR ls' H' N Rr) Rr):=λ H0 h0x ls s H N Rr hb a p=>by
 refine aL (aa (ag (cv.bind (hc ls) a.R a.L p (λ t s1x H1 R1x L1x T1 q=>?_) λ e s' z=>z.body a.T)))
 have a1x:At K H0 h0x ls H1 s1x:=⟨R1x,L1x,a.T.trans T1⟩
 have fin:∀ {stmts:List Stmt} {PP:BP},fj K β X stmts PP->PP ls H1 (λ ls' H'=>PR ls' H' N Rr) Rr->aF β K.M K.A (execs stmts K.env) (λ fl s'=>match fl with | .next=>aF β K.M K.A (execs rest K.env) (PF K H0 h0x N Rr) (kz K H0 h0x X) s' | fl=>PF K H0 h0x N Rr fl s') (kz K H0 h0x X) s1x:=λ h pp =>
  aj (h H0 h0x ls s1x H1 _ Rr hb a1x pp) (λ fl s' z=>by
   induction fl with
   | next=>obtain ⟨ls',H',a',q'⟩:=z;exact hr H0 h0x ls' s' H' N Rr hb a' q'
   | ret v=>exact z
   | _=>exact z.elim) λ _ _ z=>z
 induction t with
 | true=>exact fin ha (q.1 rfl)
 | false=>exact fin hbb (q.2 rfl)
end
theorem jP {v o:Expr}{m:Str}{p:Pos}{n:Nat}{env:Env}:swapsWith v (some (.Attribute o m p)) n env=pure false:=by cases v<;>rfl
theorem rE {v o m:Expr}{p:Pos}{n:Nat}{env:Env}:swapsWith v (some (.Subscript o m p)) n env=pure false:=by cases v<;>rfl
theorem ji {v:Expr}{es:List Expr}{k:Nat}{p:Pos}{n:Nat}{env:Env}:swapsWith v (some (.Tuple es k p)) n env=pure false:=by cases v<;>rfl
theorem rP {α:Type}:∀ {l:List α},l.length=2->∃ a b,l=[a,b]
 | [a,b],_=>⟨a,b,rfl⟩
theorem zx (o i:Expr)(pos:Pos)(env:Env)(v:Value):assign (.Subscript o i pos) env v=(do
  let ov <- holding [v] (eval o env)
  let iv <- holding [v,ov] (eval i env)
  standAt pos
  holding [v,ov,iv] (setItem ov iv v)
  release (match i with | .Slice _ _ none _=>[iv,v,ov]|_=>[v,ov,iv]) []):=rfl
section
variable {K:Kt}{β:Bool}{X:Int->Prop}
theorem cO.two_inv {v w:V}{x y:Value}(r:cO [v,w] [x,y]):VR v x/\VR w y:=by
 cases r with|cons a r=>cases r with|cons b _=>exact ⟨a,b⟩
theorem dB {t v:Expr}{pos:Pos}{H0:AH}{h0x:Heap}{s:Shared}{Z:Flow->Shared->Prop}(hs:swapsWith v (some t) pos.line K.env=pure false)(hw:swappedStores [t] v K.env=pure none)(he:assignEach [t] K.env=[(false,assign t K.env)])
  (h:aF β K.M K.A (eval v K.env >>= λ x=>assign t K.env x >>= λ _=>pure .next) Z (kz K H0 h0x X) s):aF β K.M K.A (exec (.Assign [t] v pos) K.env) Z (kz K H0 h0x X) s:=by
 refine aa (ag ?_)
 show aF _ _ _ (swapsWith v (some t) pos.line K.env >>= _) _ _ s
 exact sr hs (aa (ae (sr (if_neg (by decide)) (sr hw (sr he h)))))
theorem zd (O:a7 K)(SO:nq K.S){o v:Expr}{k:Nat}{apos pos:Pos}{rest:List Stmt}{PV PO:Ls->AH->(V->AH->Prop)->Prop}{PR:BP}(hk:k<12)
  (hv:∀ ls,an K β X (eval v K.env) ls (PV ls)) (ho:∀ ls,an K β X (eval o K.env) ls (PO ls)) (hr:fj K β X rest PR) :
  fj K β X (.Assign [.Attribute o (nm k) apos] v pos::rest) λ ls H N Rr=>PV ls H λ v H1=>PO ls H1 λ u H2x=>cN u k v H2x λ H3=>PR ls H3 N Rr:=λ H0 h0x ls s H N Rr hb a p=>by
 refine gK hr hb (dB (jP) rfl rfl (an.at (hv ls) a p λ x v s1x H1 r1x a1x T1 p1x=>aa ?_))
 show aF _ _ _ (do let ov <- holding [x] (eval o K.env);standAt apos.atName;holding [x,ov] (setAttr ov (nm k) x);release [x,ov] []) _ _ _
 exact Gj (ho ls) a1x p1x λ y u s2x H2x r2x a2x T2 p2x=>aa (ag (aa (ai (ah (kK SO hk a2x.R (Tr.refl _ _) r2x r1x p2x λ s3x H3 R3x T3 q=>(cZ (ae ⟨rfl,ls,H3,⟨R3x,a2x.L.tr T3,a2x.T.trans T3⟩,q⟩)))))))
theorem yJ (O:a7 K){o i v:Expr}{ipos pos:Pos}{rest:List Stmt}{PV PO PI:Ls->AH->(V->AH->Prop)->Prop}{PR:BP}
  (hv:∀ ls,an K β X (eval v K.env) ls (PV ls)) (ho:∀ ls,an K β X (eval o K.env) ls (PO ls)) (hi:∀ ls,an K β X (eval i K.env) ls (PI ls)) (hr:fj K β X rest PR) :
  fj K β X (.Assign [.Subscript o i ipos] v pos::rest) λ ls H N Rr=>PV ls H λ v H1=>PO ls H1 λ u H2x=>PI ls H2x λ j H3=>dj u j v H3 λ H4=>PR ls H4 N Rr:=λ H0 h0x ls s H N Rr hb a p=>by
 exact gK hr hb (dB (rE) rfl rfl (an.at (hv ls) a p λ x v s1x H1 r1x a1x T1 p1x=>aa (Gj (ho ls) a1x p1x λ y u s2x H2x r2x a2x T2 p2x=>Gj (hi ls) a2x p2x λ z j s3x H3 r3x a3 T3 p3x=>aa (ag (aa (ai (ah (qo a3.R r2x r3x r1x p3x λ s4x H4 R4x T4 q=>(cZ (ae ⟨rfl,ls,H4,⟨R4x,a3.L.tr T4,a3.T.trans T4⟩,q⟩))))))))))
theorem ya (O:a7 K){elts:List Expr}{kk:Nat}{tpos pos:Pos}{v:Expr}{names:List Str}{ks:List Nat}{rest:List Stmt}{P:Ls->AH->(V->AH->Prop)->Prop}{PR:BP}
  (he:bZ elts=some names) (hk:ks.map (λ k=>K.slots[k]?)=names.map some) (hn:∀ n∈names,K.env.kindOf n=some .local) (hnd:ks.Nodup)
  (hw:swappedStores [.Tuple elts kk tpos] v K.env=pure none\/(ks.length=2/\swappedStores [.Tuple elts kk tpos] v K.env=pure (some names)))
  (h:∀ ls,an K β X (eval v K.env) ls (P ls)) (hr:fj K β X rest PR) :
  fj K β X (.Assign [.Tuple elts kk tpos] v pos::rest) λ ls H N Rr=>P ls H λ u H1=>match u with
   | .ref t=>∃ vs,H1 t=some (.tup vs)/\∃ ls',lputs ls ks vs=some ls'/\PR ls' H1 N Rr
   | _=>False:=λ H0 h0x ls s H N Rr hb a p=>by
 refine gK hr hb ?_
 rcases hw with hw|⟨h2,hw⟩
 .refine dB (ji) hw rfl (an.at (h ls) a p λ x u s1x H1 r1x a1x T1 p1x=>r1x.mR p1x λ t p1x=>bc λ zz=>?_)
  obtain ⟨vs,et,ls',el,q⟩:=p1x
  obtain ⟨_,_,g,r⟩:=a1x.R.tupAt et
  exact zz (aa (ah (dq O hb a1x he hk hn g r el λ s2x a2x _=>ae ⟨rfl,ls',H1,a2x,q⟩)))
 .refine sr (PyProof.Rows.exec_Assign ..) (aa (ag ?_))
  show aF _ _ _ (swapsWith v (some (.Tuple elts kk tpos)) pos.line K.env >>= _) _ _ s
  refine sr ji (aa (ae (sr (if_neg (by decide)) (sr hw (an.at (h ls) a p λ x u s1x H1 r1x a1x T1 p1x=>aa (ae (r1x.mR p1x λ t p1x=>bc λ zz=>?_)))))))
  obtain ⟨vs,et,ls',el,q⟩:=p1x
  obtain ⟨xs,n,g,r⟩:=a1x.R.tupAt et
  have e1:=iW el
  refine AN (rP h2) λ k1 k2 ez1=>?_;subst ez1
  refine zz ?_
  obtain ⟨n1,n2,rfl⟩:=rP (show names.length=2 by have:=congrArg List.length hk;simpa using this.symm)
  refine bc λ zz=>?_
  refine AN (rP (show vs.length=2 from e1.symm)) λ v1 v2 ez1=>?_;subst ez1
  obtain ⟨xs⟩:=xs
  refine AN (rP (show xs.length=2 from r.length)) λ x1 x2 ez1=>?_;subst ez1
  refine zz ?_
  simp only [map_cons,map_nil,List.cons.injEq,and_true] at hk
  obtain ⟨ra,rb⟩:=r.two_inv
  show aF _ _ _ (do rule "assign.swapped-stores";let items <- unpackItems (.ref t) 2 none;assignInOrder [bindName K.env n2,bindName K.env n1] items.reverse;pure Flow.next) _ _ _
  refine aa (ah (wpAny_rule (aa (ah (wpAny_unpackItems_tuple (items:=#[x1,x2]) O.room.1 (d0 g) λ h' hx=>?_)))))
  have a2x:=a1x.grow (h9 hx)
  have hne:k1≠k2:=by simpa using hnd
  refine aa (aa (ai (ah (wpAny_bindName (ia O hb a2x hk.2 (hn n2 (by simp)) rb λ s3x a3 _=>aa (ai (ah (wpAny_bindName (ia O hb a3 hk.1 (hn n1 (by simp)) ra λ s4x a4 _=>ae (ae ⟨rfl,ls',H1,?_,q⟩))))))))))
  have comm:∀ (l:Ls) {i j:Nat} (x y:V),i≠j->lput (lput l i x) j y=lput (lput l j y) i x:=by
   intro l
   induction l with
   | nil=>intros;rfl
   | cons z r ih =>
    intro i j x y h
    cases i<;>cases j<;>simp only [lput]
    .exact absurd rfl h
    .exact sr (ih x y λ e=>h (by rw [e])) rfl
  have:ls'=lput (lput ls k2 v2) k1 v1:=by
   (injection el with el;subst el)
   exact comm ls v1 v2 hne
  exact sr this a4
end
section
variable {K:Kt}{β:Bool}{X:Int->Prop}
def j5 (K:Kt):Prop:=∃ outer L,K.fs=K.env::outer/\K.env.frame=some L
theorem kz.loop (O:a7 K)(F:j5 K){H0:AH}{h0x:Heap}{e:Value}{s':Shared}(p:kz K H0 h0x X e s'):fu β K.M K.A K.env (xC β K.M K.A K.env (kz K H0 h0x X)) e s':=by
 refine bc λ zz=>k9 F λ outer L hfs hL=>?_
 refine aT p λ told uz1 hx=>?_;obtain ⟨⟨a,fl,rfl,x,hfl⟩,hb,hf,ns,hg,ho⟩:=uz1
 refine zz ?_
 have hfl':fl=none\/fl=some .none\/fl=some (rawInt L):=by
  rcases hfl with h|h|⟨L',h1,h2⟩
  .exact .inl h
  .exact .inr (.inl h)
  .rw [hL] at h1;(injection h1 with h1;subst h1);exact .inr (.inr h2)
 rw [hfs] at hf
 refine ah (nP (outer:=outer) (by exact sr O.frames (sr hfs rfl)) hf hL hb x hfl' λ h1x b1x f1x x1x k1x=>DR x1x.fly λ d vs T he h1=>aa (ah (wpAny_field he rfl h1 (sr hL (ah (gf (l:=K.env::outer) f1x b1x x1x λ h2x b2x f2x x2x k2x=>?_))))))
 exact ⟨told,⟨⟨a,_,rfl,x2x,.inr (.inr ⟨L,hL,rfl⟩)⟩,b2x,by refine sr hfs ?_;exact f2x,λ b m n g=>(k1x.trans k2x).ns (ns b m n g),hg,ho⟩,hx⟩
theorem wr (O:a7 K)(F:j5 K){c:Expr}{sb:List Stmt}{pos:Pos}{rest:List Stmt}{PC:Ls->AH->(Bool->AH->Prop)->Prop}{PB PR:BP}(hc:∀ ls,cv K β X (isTrue c K.env (eval c K.env)) ls (PC ls))(hbb:fj K β X sb PB)(hr:fj K β X rest PR) :
  fj K β X (.While c sb [] pos::rest) λ ls H N Rr=>∃ I:Nat->Ls->AH->Prop,(∃ n,I n ls H)/\∀ n ls H,I n ls H->PC ls H λ t H1 =>
   (t=true->PB ls H1 (λ ls' H'=>∃ m,m<n/\I m ls' H') Rr)/\(t=false->PR ls H1 N Rr):=λ H0 h0x ls s H N Rr hb a p=>by
 refine aT p λ I uz1 step=>?_;obtain ⟨n,hn⟩:=uz1
 refine aL (aa (ag (kA (oz (λ n s=>∃ ls H,At K H0 h0x ls H s/\I n ls H) (λ n s hI=>k9 hI λ ls H a hI=>aj (hc ls s H _ a.R a.L (step n ls H hI)) (λ t s1x z=>?_) λ e s' z=>kz.loop O F (z.body a.T)) n ⟨ls,H,a,hn⟩))))
 obtain ⟨H1,R1x,T1,q⟩:=z
 have a1x:At K H0 h0x ls H1 s1x:=⟨R1x,a.L.tr T1,a.T.trans T1⟩
 induction t with
 | true =>
  refine aj (hbb H0 h0x ls s1x H1 _ Rr hb a1x (q.1 rfl)) (λ fl s' z=>?_) λ e s' z=>kz.loop O F z
  induction fl with
  | next=>obtain ⟨ls',H',a',m,hm,hI'⟩:=z;exact ⟨m,hm,ls',H',a',hI'⟩
  | ret v=>exact z
  | _=>exact z.elim
 | false =>
  exact hr H0 h0x ls s1x H1 N Rr hb a1x (q.2 rfl)
theorem vr (O:a7 K)(SO:nq K.S){n:Str}{p0 ap tpos pos:Pos}{o v:Expr}{k kk at_:Nat}{rest:List Stmt}{P PO:Ls->AH->(V->AH->Prop)->Prop}{PR:BP}(hk:at_<12)
  (hs:K.slots[k]?=some n) (hn:K.env.kindOf n=some .local) (hw:swappedStores [.Tuple [.Name n p0,.Attribute o (nm at_) ap] kk tpos] v K.env=pure none)
  (h:∀ ls,an K β X (eval v K.env) ls (P ls)) (ho:∀ ls,an K false (λ _=>False) (eval o K.env) ls (PO ls)) (hr:fj K β X rest PR) :
  fj K β X (.Assign [.Tuple [.Name n p0,.Attribute o (nm at_) ap] kk tpos] v pos::rest) λ ls H N Rr=>P ls H λ u H1=>match u with
   | .ref t=>∃ x y,H1 t=some (.tup [x,y])/\PO (lput ls k x) H1 λ u H2x=>cN u at_ y H2x λ H3=>PR (lput ls k x) H3 N Rr
   | _=>False:=λ H0 h0x ls s H N Rr hb a p=>by
 refine gK hr hb (dB ji hw rfl (an.at (h ls) a p λ x u s1x H1 r1x a1x T1 p1x=>r1x.mR p1x λ t p1x=>bc λ zz=>k9 p1x λ x y et q=>?_))
 obtain ⟨xs,nn,g,r⟩:=a1x.R.tupAt et
 obtain ⟨xs⟩:=xs
 refine AN (rP (show xs.length=2 from r.length)) λ x1 x2 ez1=>?_;subst ez1
 refine zz ?_
 obtain ⟨ra,rb⟩:=r.two_inv
 refine aa (ah (wpAny_assign_Tuple (items:=#[x1,x2]) O.room.1 (d0 g) rfl rfl λ h' hx=>?_))
 have a2x:=a1x.grow (h9 hx)
 refine wpAny_bind (wpAny_holding (ck O hb a2x hs hn ra λ s3x a3 _=>wpAny_bind (wpAny_holding ?_)))
 show wpAny _ _ (do let ov <- holding [x2] (eval o K.env);standAt ap.atName;holding [x2,ov] (setAttr ov (nm at_) x2);release [x2,ov] []) _ _ _
 refine jo (aa (ai (aj (ho (lput ls k x) s3x H1 _ a3.R a3.L q) (λ z s4x w=>?_) λ _ _ w=>by obtain ⟨_,_,w⟩:=w;exact w.elim)))
 refine bc λ zz=>?_
 obtain ⟨u,H4,r4x,R4x,T4,q4⟩:=w
 refine zz (aa (ag (aa (ai (ah (kK SO hk R4x (Tr.refl _ _) r4x rb q4 λ s5 H5 R5x T5x q5=>?_))))))
 have T45:=T4.trans T5x
 exact cZ (wpAny_pure (ae ⟨rfl,_,H5,⟨R5x,a3.L.tr T45,a3.T.trans T45⟩,q5⟩))
end
section
variable {K:Kt}{β:Bool}{X:Int->Prop}
noncomputable abbrev rq (K:Kt)(h:Heap):Heap:=hideAll h [K.env.locals]
theorem Tr.cut {H0 H:AH}{h0x h:Heap}(T:Tr H0 h0x H h)(hb:h0x.get? K.env.locals=none):Tr H0 h0x H (rq K h) where
 keep:=λ b o e n=>by
  refine ⟨hideAll_get _ (T.get e n) λ m=>?_,T.hid e n⟩
  rw [GP m,hb] at e;contradiction
 dom:=λ b e=>by
  by_cases h1:b=K.env.locals
  .exact sr h1 hb
  .refine T.dom b ?_
   induction q:h.get? b with
   | none=>rfl
   | some o=>rw [hideAll_get _ q (λ m=>h1 (GP m))] at e;contradiction
theorem At.cut {H0 H:AH}{h0x:Heap}{ls:Ls}{s:Shared}(a:At K H0 h0x ls H s):At K H (rq K s.heap) ls H s :=
 ⟨a.R,a.L,⟨λ b o e n=>⟨of_hideAll _ e,n⟩,λ b e=>by
  induction q:(rq K s.heap).get? b with
  | none=>rfl
  | some o=>rw [of_hideAll _ q] at e;contradiction⟩⟩
theorem At.uncut {H0 H H':AH}{h0x:Heap}{ls ls':Ls}{s s':Shared}(a:At K H0 h0x ls H s)(hb:h0x.get? K.env.locals=none)(a':At K H (rq K s.heap) ls' H' s'):At K H0 h0x ls' H' s' :=
 ⟨a'.R,a'.L,(a.T.cut hb).trans a'.T⟩
inductive A4 (K:Kt) (H0:AH) (h0x:Heap) (src:Src) (u:V) (I J:Addr) (items:List It) (W:List It->Ls->AH->Prop) (n:Nat) (s:Shared):Prop
 | mk (i:Nat) (ls:Ls) (H:AH) (a:At K H0 h0x ls H s) (b:mY K.S I J H s.heap) (c:ew src u I J i items.length s.heap) (d:i<=items.length) (e:n=items.length-i) (w:W (items.drop i) ls H)
theorem A2 (O:a7 K)(F:j5 K){src:Src}{tg:Tg}{e it:Expr}{sb:List Stmt}{pos:Pos}{rest:List Stmt}{P:Ls->AH->(V->AH->Prop)->Prop}{PB PR:BP}
  (hs:∀ x,foldedSetIterable it K.env x=pure x) (ht:dH K tg e) (hte:(∃ nm p,e=.Name nm p)/\src≠.enum\/(∃ es k p,e=.Tuple es k p)/\(src=.list\/src=.enum))
  (h:∀ ls,iG K β X src (eval it K.env) ls (P ls)) (hbb:fj K β (λ _=>False) sb PB) (hr:fj K β X rest PR) :
  fj K β X (.For e it sb [] pos::rest) λ ls H N Rr=>P ls H λ u H1=>∃ items,cF src u H1 items /\
   iL (ay src u items) tg (λ ls' H' Kt=>PB ls' H' Kt Rr) items ls H1 λ ls' H'=>PR ls' H' N Rr:=λ H0 h0x ls s H N Rr hb a p=>by
 refine aL ?_
 refine aa (ag (aa (aj (h ls s H _ (λ u H' q=>by obtain ⟨i,x,_⟩:=q;exact ⟨i,x⟩) a.R a.L p) (λ y s1x z=>?_) λ e s' z=>z.body a.T)))
 obtain ⟨u,H1,R1x,T1,hy,⟨items,hi,w⟩,fr⟩:=z
 refine sr (hs ..) (aa (ae (aa (ag (aa (ai (ah (oH R1x hy hi λ I J h' k hd hne hen hit=>?_))))))))
 have a1x:At K H0 h0x ls H1 s1x:=⟨R1x,a.L.tr T1,a.T.trans T1⟩
 have a2x:=a1x.grow k
 have h0:h0x.get? I=none/\h0x.get? J=none:=by
  by_cases hsrc:src=.enum
  .obtain ⟨e1,e2,e3⟩:=hen hsrc
   obtain ⟨n1,n2⟩:=fr I J hsrc e2 e1 e3
   exact ⟨a.T.dom _ n1,a.T.dom _ n2⟩
  .obtain ⟨n1,n2⟩:=hne hsrc
   exact ⟨a1x.T.dom _ n1,a1x.T.dom _ n2⟩
 obtain ⟨W,hW⟩:∃ W:List It->Ls->AH->Prop,W=λ its ls H=>iL (ay src u items) tg (λ ls' H' Kt=>PB ls' H' Kt Rr) its ls H λ ls' H'=>PR ls' H' N Rr:=⟨_,rfl⟩
 have hc:∀ it r ls H,W (it::r) ls H->ay src u items H/\iS tg it H ls λ ls'=>PB ls' H (λ ls'' H''=>W r ls'' H'') Rr:=by subst hW;exact λ _ _ _ _ w=>w
 have hn:∀ ls H,W [] ls H->ay src u items H/\PR ls H N Rr:=by subst hW;exact λ _ _ w=>w
 have w:W items ls H1:=hW▸w
 clear hW
 refine kA (rV (A4 K H0 h0x src u I J items W) (λ n s hI=>?_) items.length ⟨0,ls,H1,a2x,hd,hit,zero_le _,rfl,w⟩)
 obtain ⟨i,ls,H,a,hd,hit,hle,rfl,w⟩:=hI
 by_cases hlt:i<items.length
 .rw [List.drop_eq_getElem_cons hlt] at w
  obtain ⟨hst,w⟩:=hc _ _ _ _ w
  generalize hgf:items[i]=item at w
  have ei:items[i]?=some item:=by exact sr (getElem?_eq_getElem hlt) (sr hgf rfl)
  have sh:∃ H1,cF src u H1 items:=⟨_,hi⟩
  refine wpAny_mono (qz (K:=K) (f:=λ y=>letOwnedTupleGo e (.ref I) y >>= λ _=>assign e K.env y) (E:=λ _ _=>False) (Z:=λ s3x=>aF β K.M K.A (execs sb K.env) (λ f s3x=>match f with
      | .next | .cont=>∃ m,m<items.length-i/\A4 K H0 h0x src u I J items W m s3x
      | .brk=>False
      | .ret v=>PV K.S K.fs H0 h0x Rr v s3x) (λ _ _=>False) s3x) O hb (λ _=>rfl) a hd h0 hit hst sh ht hte ei w λ ls' s' a' hd' hi' _ w'=>?_) (λ r s1x z=>?_) λ _ _ z=>z
  .have b0:(rq K s'.heap).get? K.env.locals=none:=hideAll_none _ (mem_singleton.mpr rfl)
   refine aj (hbb H (rq K s'.heap) ls' s' H _ Rr b0 a'.cut w') (λ f s3x z=>?_) λ e s3x z=>?_
   .induction f with
    | next =>
     obtain ⟨ls2,H2x,a2x,w2x⟩:=z
     have a3:=a'.uncut hb a2x
     have noL:∀ b∈[I,J],b∉[K.env.locals]:=λ b m q=>by
      obtain ⟨o,vs,g,d⟩:=hd'.fld b m
      obtain ⟨_,m',⟨o',es,ep,g',d',_⟩,_⟩:=a'.L
      rw [GP q] at g
      rw [g] at g';cases g';rw [d] at d';contradiction
     have kp:∀ b∈[I,J],∀ o,s'.heap.get? b=some o->s3x.heap.get? b=some o/\H2x b=none:=λ b m o g=>a2x.T.keep b o (hideAll_get _ g (noL b m)) (hd'.hid b m).1
     refine ⟨items.length-(i+1),Nat.sub_succ_lt_self _ _ hlt,i+1,ls2,H2x,a3,⟨λ b m=>?_,λ b m=>?_⟩,hi'.keep λ b m o g=>(kp b m o g).1,hlt,rfl,w2x⟩
     .obtain ⟨o,vs,g,d⟩:=hd'.fld b m
      exact ⟨(kp b m o g).2,(hd'.hid b m).2⟩
     .obtain ⟨o,vs,g,d⟩:=hd'.fld b m
      exact ⟨o,vs,(kp b m o g).1,d⟩
    | ret v =>
     obtain ⟨u',H',r',R',T',q'⟩:=z
     exact ⟨u',H',r',R',(a'.T.cut hb).trans T',q'⟩
    | _=>exact z.elim
   .obtain ⟨_,_,z⟩:=z;exact z
  .obtain ⟨y,rfl,z⟩:=z
   refine ah (wpAny_mono z (λ _ s2x z=>ah (wpAny_mono z (λ _ s3x z=>aj z (λ f s3x z=>?_) λ _ _ z=>z.elim) λ _ _ z=>z.elim)) λ _ _ z=>z.elim)
   induction f with
   | brk=>exact z.elim
   | _=>exact z
 .have:i=items.length:=Nat.le_antisymm hle (not_lt.mp hlt)
  subst this
  rw [List.drop_length] at w
  obtain ⟨hst,w⟩:=hn _ _ w
  exact q9 O.room.1 a.R hit hst ⟨_,hi⟩ λ h' tk kw=>(hr H0 h0x ls _ H N Rr hb (a.nx0 hd h0 kw) w)
end
section
variable {prog:Program}{w:World}{A:Around}{E:Value->Shared->Prop}{R:Result->Shared->Prop}{s:Shared}
theorem oI {elt target iter:Expr}{scope:Scope}{pos:Pos}{it acc:Value}{env:Env}(I:Nat->Shared->Prop)
  (turn:∀ n s,I n s->wpAny (model prog w) A (pyNext it) (λ r s1x=>match r with
   | none=>R (.ok .next) s1x
   | some v=>wpAny (model prog w) A (letOwnedTupleGo target it v) (λ _ s1'=>wpAny (model prog w) A (assign target env v) (λ _ s2x=>wpAny (model prog w) A (eval elt env) (λ x s3x =>
     wpAny (model prog w) A (call (.builtin "list.append") [acc,x]) (λ _ s4x=>∃ m,m<n/\I m s4x) (λ _ _=>False) s3x) (λ _ _=>False) s2x) (λ _ _=>False) s1') (λ _ _=>False) s1x) (λ _ _=>False) s)
  (n:Nat) (h:I n s) :
  codeAny (model prog w) A (.compLoop (.ListComp elt [⟨target,iter,[],0⟩] scope pos) 0 it acc env) R s:=by
 refine codeAny_loop rfl I (λ n s hI=>?_) n h
 show wpAny _ _ ((compTurn (.ListComp elt [⟨target,iter,[],0⟩] scope pos) 0 it acc env).onRaise (λ x=>do noteFrame x env;theTreesLotGoes x)) _ _ s
 refine wpAny_noted (sr (compTurn_list1 ..) (wpAny_bind (wpAny_standAt (wpAny_bind (wpAny_mono (turn n s hI) (λ r s1x h1x=>?_) λ _ _ h'=>h'.elim)))))
 induction r with
 | none=>exact wpAny_pure h1x
 | some v =>
  exact wpAny_bind (wpAny_mono h1x (λ _ s1' h1'=>wpAny_bind (wpAny_mono h1' (λ _ s2x h2x=>wpAny_bind (wpAny_bind (wpAny_mono h2x (λ x s3x h3x=>wpAny_bind (wpAny_mono h3x
   (λ _ s4x h4x=>wpAny_pure (wpAny_pure ⟨rfl,h4x⟩)) λ _ _ h'=>h'.elim)) λ _ _ h'=>h'.elim))) λ _ _ h'=>h'.elim)) λ _ _ h'=>h'.elim)
end
section
variable {S:Sx}{fs:List Env}{H:AH}{s:Shared}{A:Around}{E:Value->Shared->Prop}
theorem u9 {src:Src}{u:V}{I J:Addr}{i n:Nat}{Z:Value->Shared->Prop}(hi:ew src u I J i n s.heap)(h:Z (.ref I) s):wpAny (model S.prog S.w) A (pyIter (.ref I)) Z E s:=by
 have hi0:=hi
 revert hi
 refine eO hi0 (λ a hi=>?_) (λ a hi=>?_) (λ n hi=>?_) (λ l hi=>?_) (λ l hi=>?_)
 all_goals clear hi0
 .exact wpAny_pyIter_listiter hi h
 .refine mL hi λ uz1 uz2 uz3=>?_;obtain ⟨old,he⟩:=uz2;exact wpAny_pyIter_enum he h
 .exact wpAny_pyIter_rangeiter hi h
 .refine k9 hi λ t ty hty hi=>?_
  rcases hty with rfl|rfl
  .exact wpAny_pyIter_striter_ascii hi h
  .exact wpAny_pyIter_striter_wide hi h
 .exact k9 hi λ b t uz1 hi=>(KBw.pyIter_self hi h)
end
theorem aI.local_out {S:Sx}{fs:List Env}{H:AH}{s:Shared}{W:List Addr}{h':Heap}(R:aI S fs H s)(hW:∀ b∈W,H b=none/\S.h0x.get? b=none)(k:aP W s.heap h')
  (hf:∀ env∈fs,∀ L,env.frame=some L->L∉W) (tk:Nat):aI S fs H {s with heap:=h',toks:=tk} where
 base:=λ b o e=>k b o (λ m=>by rw [(hW b m).2] at e;contradiction) (R.base b o e)
 objs:=λ b bo e=>by
  obtain ⟨x,ob,y,z⟩:=R.objs b bo e
  exact ⟨x,ob,k b ob (λ m=>by rw [(hW b m).1] at e;contradiction) y,z⟩
 frames:=Gh R.frames λ env m L o e g d=>⟨o,k L o (hf env m L e) g,d⟩
 hid:=R.hid
 gens:=R.gens
 os:=R.os
theorem aI.no_frame {S:Sx}{fs:List Env}{H:AH}{s:Shared}(R:aI S fs H s){a:Addr}(h:s.heap.get? a=none):∀ env∈fs,∀ L,env.frame=some L->L∉[a]:=λ env m L e q=>by
 refine sf (FunFrames.mem R.frames env m) λ L' o e' uz1 g uz2=>?_
 rw [e] at e';(injection e' with e';subst e')
 rw [GP q,h] at g;contradiction
section
variable {K:Kt}{ls:Ls}{s:Shared}{H H0:AH}{h0x:Heap}
theorem At.app (a:At K H0 h0x ls H s){D:Addr}{ys:Array Value}{h':Heap}{ys':Array Value}(hD:H D=none)(h0:h0x.get? D=none)(hb:K.S.h0x.get? D=none)(g:s.heap.PlainList D ys)(g':h'.PlainList D ys')(hs:Heap.SameBut D s.heap h') :
  At K H0 h0x ls H {s with heap:=h'}:=by
 have kw:=Gi hs
 obtain ⟨n,g⟩:=g
 obtain ⟨n',g'⟩:=g'
 refine ⟨a.R.local_step (W:=[D]) (λ b m=>by refine sr (GP m) ?_;exact ⟨hD,hb⟩) kw (λ b m o e _=>?_) s.toks,?_,a.T.local_step kw λ b m=>by refine sr (GP m) ?_;exact h0⟩
 .refine sr (GP m) ?_
  exact ⟨_,g',λ vs q=>by contradiction⟩
 .obtain ⟨n,m,hm,c⟩:=a.L
  refine ⟨n,m,?_,λ k v e=>?_⟩
  .refine ug hm λ o es ep g1 d r=>⟨o,es,ep,kw _ _ (λ q=>?_) g1,d,r⟩
   rw [GP q,g] at g1;cases g1;contradiction
  .refine ln (c k v e) λ nm x e1 e2 e3=>⟨nm,x,e1,e2,e3.imp id λ ⟨f1,cc,o,f2,f3,f4,f5⟩=>⟨f1,cc,o,f2,f3,kw _ _ (λ q=>?_) f4,f5⟩⟩
   rw [GP q,g] at f4;cases f4;contradiction
def CT (items:List It):Prop:=items.length<=16777216
theorem rJ {src u H items}(h:cF src u H items):items.length<=16777216:=by
 cases src<;>cases u<;>first|exact h.elim|skip
 .refine nT h λ vs uz1 z ez1=>?_;subst ez1;simpa using z
 .obtain ⟨z,rfl⟩:=h;simp;lia
 .obtain ⟨z,rfl⟩:=h;simpa using z
 .obtain ⟨z,rfl⟩:=h;simpa using z
 .refine nT h λ vs uz1 z ez1=>?_;subst ez1;exact sr (eU ..) z
inductive xH (K:Kt) (H0:AH) (h0x:Heap) (src:Src) (u:V) (I J D:Addr) (items:List It) (W:List It->Ls->List V->AH->Prop) (n:Nat) (s:Shared):Prop
 | mk (i:Nat) (ls:Ls) (H:AH) (vs:List V) (ys:Array Value) (c1:At K H0 h0x ls H s) (c2:mY K.S I J H s.heap) (c3:ew src u I J i items.length s.heap) (c4:i<=items.length) (c5:n=items.length-i) (c6:H D=none) (c7:s.heap.PlainList D ys) (c8:cO vs ys.toList) (c9:vs.length=i) (c10:W (items.drop i) ls vs H)
theorem rG (O:a7 K){src:Src}{tg:Tg}{te elt iter:Expr}{scope:Scope}{pos:Pos}{u:V}{I J D:Addr}{items:List It}{PE:Ls->AH->(V->AH->Prop)->Prop}{KK:List V->AH->Prop}{R:Result->Shared->Prop}{H1:AH}
  (hb:h0x.get? K.env.locals=none) (h0:h0x.get? I=none/\h0x.get? J=none) (hD0:h0x.get? D=none) (hDb:K.S.h0x.get? D=none)
  (ht:dH K tg te) (hte:(∃ nm p,te=.Name nm p)/\src≠.enum\/(∃ es k p,te=.Tuple es k p)/\(src=.list\/src=.enum))
  (he:∀ ls,an K false (λ _=>False) (eval elt K.env) ls (PE ls)) (sh:cF src u H1 items)
  (a:At K H0 h0x ls H s) (hd:mY K.S I J H s.heap) (hit:ew src u I J 0 items.length s.heap) (hDI:D∉[I,J]) (hDC:D≠K.env.locals) (hDh:H D=none) (hacc:s.heap.PlainList D #[])
  (w:d6 (ay src u items) tg PE items ls [] H KK)
  (hR:∀ s' ls' H' vs ys,At K H0 h0x ls' H' s'->H' D=none->s'.heap.PlainList D ys->cO vs ys.toList->KK vs H'->R (.ok .next) s') :
  codeAny K.M K.A (.compLoop (.ListComp elt [⟨te,iter,[],0⟩] scope pos) 0 (.ref I) (.ref D) K.env) R s:=by
 obtain ⟨W,hW⟩:∃ W:List It->Ls->List V->AH->Prop,W=λ its ls vs H=>d6 (ay src u items) tg PE its ls vs H KK:=⟨_,rfl⟩
 have hc:∀ it r ls vs H,W (it::r) ls vs H->ay src u items H/\iS tg it H ls λ ls'=>PE ls' H λ v H'=>W r ls' (vs++[v]) H':=by subst hW;exact λ _ _ _ _ _ w=>w
 have hn:∀ ls vs H,W [] ls vs H->ay src u items H/\KK vs H:=by subst hW;exact λ _ _ _ w=>w
 have w:W items ls [] H:=hW▸w
 clear hW
 refine oI (prog:=K.S.prog) (w:=K.S.w) (xH K H0 h0x src u I J D items W) (λ n s hI=>?_) items.length ⟨0,ls,H,[],#[],a,hd,hit,zero_le _,rfl,hDh,hacc,.nil,rfl,w⟩
 obtain ⟨i,ls,H,vs,ys,a,hd,hit,hle,rfl,hDh,hacc,rv,hvl,w⟩:=hI
 by_cases hlt:i<items.length
 .rw [List.drop_eq_getElem_cons hlt] at w
  obtain ⟨hst,w⟩:=hc _ _ _ _ _ w
  generalize hgf:items[i]=item at w
  have ei:items[i]?=some item:=by exact sr (getElem?_eq_getElem hlt) (sr hgf rfl)
  refine wpAny_mono (qz (K:=K) (f:=λ y=>letOwnedTupleGo te (.ref I) y >>= λ _=>assign te K.env y) (E:=λ _ _=>False) (Z:=λ s3x=>wpAny K.M K.A (eval elt K.env) (λ x s3x =>
     wpAny K.M K.A (call (.builtin "list.append") [.ref D,x]) (λ _ s4x=>∃ m,m<items.length-i/\xH K H0 h0x src u I J D items W m s4x) (λ _ _=>False) s3x) (λ _ _=>False) s3x)
   O hb (λ _=>rfl) a hd h0 hit hst ⟨_,sh⟩ ht hte ei w λ ls' s' a' hd' hi' kw w'=>?_) (λ r s1x z=>?_) λ _ _ z=>z
  .have hacc':s'.heap.PlainList D ys:=by
    obtain ⟨n,g⟩:=hacc
    exact ⟨n,kw _ _ (by simp at hDI ⊢;exact ⟨hDI.1,hDI.2,hDC⟩) g⟩
   refine jo (aj (he ls' s' H _ a'.R a'.L w') (λ x s3x z=>?_) λ _ _ z=>by obtain ⟨_,_,z⟩:=z;exact z)
   obtain ⟨v,H3,rx,R3x,T3,w3⟩:=z
   have a3:At K H0 h0x ls' H3 s3x:=⟨R3x,a'.L.tr T3,a'.T.trans T3⟩
   have hd3:=hd'.tr T3
   have hi3:=hi'.keep λ b m o g=>T3.get g (hd'.hid b m).1
   obtain ⟨n,g⟩:=hacc'
   have g3x:=T3.get g hDh
   have hD3:=T3.hid g hDh
   have hl:=rJ sh
   refine wpAny_list_append_plain ⟨n,g3x⟩ (λ h' g' hs=>?_) (by have:=rv.length;simp at this;refine sr this (sr sizeLine_eq ?_);lia)
   have kw4:=Gi hs
   have nD:∀ b∈[I,J],b∉[D]:=λ b m q=>hDI (by refine sl (GP q) ?_;exact m)
   refine ⟨items.length-(i+1),Nat.sub_succ_lt_self _ _ hlt,i+1,ls',H3,vs++[v],_,a3.app hD3 hD0 hDb ⟨n,g3x⟩ g' hs,⟨hd3.hid,λ b m=>?_⟩,hi3.keep λ b m o g=>kw4 b o (nD b m) g,hlt,rfl,hD3,g',rv.push rx,by simp [hvl],w3⟩
   obtain ⟨o,fs,g,d⟩:=hd3.fld b m
   exact ⟨o,fs,kw4 b o (nD b m) g,d⟩
  .obtain ⟨y,rfl,z⟩:=z
   exact z
 .have:i=items.length:=Nat.le_antisymm hle (not_lt.mp hlt)
  subst this
  rw [List.drop_length] at w
  obtain ⟨hst,w⟩:=hn _ _ _ w
  refine q9 O.room.1 a.R hit hst ⟨_,sh⟩ λ h' tk kw=>?_
  have a':=a.nx0 (tk:=tk) hd h0 kw
  obtain ⟨n,g⟩:=hacc
  exact hR _ ls H vs ys a' hDh ⟨n,kw _ _ hDI g⟩ rv w
end
noncomputable abbrev sd (K:Kt)(scope:Scope)(cl:List (Str×Addr))(slots:List Str)(C:Addr):Kt:={K with env:=compEnvC scope cl C K.env,slots:=slots}
structure eG (K:Kt) (scope:Scope) (cl:List (Str×Addr)) (slots:List Str) (n:Nat) (caps:List (Nat×Nat)):Prop where
 clos:closureFor scope K.env=pure cl
 kind:scope.kind=.function
 names:∀ x∈scope.names,x.2=.local->scope.names.lookup x.1=some .local
 cell:∀ y∈scope.names,y.2≠.cell
 nodup:slots.Nodup
 nodbg:∀ nm∈slots,(nm==("__debug__" : Str))=false
 len:slots.length=n
 caps:∀ io∈caps,∃ nm,slots[io.1]?=some nm/\K.slots[io.2]?=some nm/\K.env.kindOf nm=some .cell/\(compEnvC scope cl 0 K.env).kindOf nm=some .cell/\cl.lookup nm=K.env.cells.lookup nm
theorem eG.ok {K:Kt}(O:a7 K){scope cl slots n caps}(c:eG K scope cl slots n caps){C:Addr}(h:K.S.h0x.get? C=none):a7 (sd K scope cl slots C) :=
 ⟨c.kind,O.glob,O.blt,O.frames,c.nodup,c.nodbg,O.room,h⟩
theorem gG:∀ (r:Ls) {i k:Nat} {v w:V},lget (lput r i v) k=some w->(k=i/\w=v)\/lget r k=some w
 | [],_,_,_,_,e=>by contradiction
 | _::_,0,0,_,_,e=>by (injection e with e;subst e);exact .inl ⟨rfl,rfl⟩
 | _::_,0,_+1,_,_,e=>.inr e
 | _::_,_+1,0,_,_,e=>.inr e
 | _::r,_+1,_+1,_,_,e=>by
  rcases gG r e with ⟨rfl,h⟩|h
  .exact .inl ⟨rfl,h⟩
  .exact .inr h
theorem dK:∀ (n k:Nat),lget (replicate n none) k=none
 | 0,_=>rfl
 | _+1,0=>rfl
 | n+1,k+1=>dK n k
theorem gP {ls:Ls}:∀ {caps:List (Nat×Nat)} {r:Ls} {k:Nat} {v:V},lget (dc ls caps r) k=some v->lget r k=some v\/∃ o,(k,o)∈caps/\lget ls o=some v
 | [],_,_,_,e=>.inl e
 | (i,o)::cs,r,k,v,e=>by
  dsimp only [dc] at e
  induction q:lget ls o with
  | none =>
   rw [q] at e
   rcases gP e with h|⟨o',m,h⟩
   .exact .inl h
   .exact .inr ⟨o',by simp [m],h⟩
  | some w =>
   rw [q] at e
   rcases gP e with h|⟨o',m,h⟩
   .rcases gG r h with ⟨rfl,rfl⟩|h
    .exact .inr ⟨o,by simp,q⟩
    .exact .inl h
   .exact .inr ⟨o',by simp [m],h⟩
theorem eG.loc {K:Kt}{scope cl slots n caps}(c:eG K scope cl slots n caps){ls:Ls}{H:AH}{h:Heap}(L:bh K.env K.slots ls H h){C:Addr}{m}(hC:H C=none)(hm:h.Ns C m) :
  bh (compEnvC scope cl C K.env) slots (dc ls caps (replicate n none)) H h:=by
 refine ⟨hC,m,hm,λ k v e=>?_⟩
 rcases gP e with h1|⟨o,hmem,h1⟩
 .rw [dK] at h1;contradiction
 .refine EX (c.caps _ hmem) λ nm e1 e2 e3 e4 e5=>bc λ zz=>?_
  obtain ⟨_,_,_,lc⟩:=L
  refine ln (lc o v h1) λ nm' x f1 r f2=>zz ?_
  obtain rfl:nm'=nm:=Option.some.inj (f1.symm.trans e2)
  refine ⟨nm',x,e1,r,.inr ⟨e4,?_⟩⟩
  rcases f2 with ⟨g1,_⟩|⟨_,cc,ob,g2,g3,g4,g5⟩
  .rw [e3] at g1;contradiction
  .exact ⟨cc,ob,e5.trans g2,g3,g4,g5⟩
theorem mo {K:Kt}(O:a7 K){scope:Scope}{cl:List (Str×Addr)}{slots:List Str}{n:Nat}{caps:List (Nat×Nat)}(c:eG K scope cl slots n caps){src:Src}{tg:Tg}{te elt iter:Expr}{pos p0:Pos}
  {use:Option (Value->Sem Unit)} {Z:Value->Shared->Prop} {P:AH->(V->AH->Prop)->Prop} {PE:Ls->AH->(V->AH->Prop)->Prop} {KK:List V->AH->Prop} {ls:Ls} {s:Shared} {H:AH}
  (hs:∀ x,foldedSetIterable iter K.env x=pure x)
  (ht:∀ C,dH (sd K scope cl slots C) tg te) (hte:(∃ nm p,te=.Name nm p)/\src≠.enum\/(∃ es k p,te=.Tuple es k p)/\(src=.list\/src=.enum))
  (h:iG K false (λ _=>False) src (eval iter K.env) ls P) (he:∀ C,K.S.h0x.get? C=none->∀ ls',an (sd K scope cl slots C) false (λ _=>False) (eval elt (compEnvC scope cl C K.env)) ls' (PE ls'))
  (R:aI K.S K.fs H s) (L:bh K.env K.slots ls H s.heap)
  (p:P H λ u H1=>∃ items,cF src u H1 items/\d6 (ay src u items) tg PE items (dc ls caps (replicate n none)) [] H1 KK)
  (fin:∀ D C s' H' vs ys m,aI K.S K.fs H' s'->Tr H s.heap H' s'.heap->H' D=none->H' C=none->s.heap.get? D=none->s.heap.get? C=none->K.S.New D->K.S.h0x.get? C=none ->
   (∀ env∈K.fs,∀ L,env.frame=some L->L∉[D])->(∀ env∈K.fs,∀ L,env.frame=some L->L∉[C])->D≠C->s'.heap.PlainList D ys->cO vs ys.toList->s'.heap.Ns C m->KK vs H' ->
   compPost K.M K.A (λ _ _=>False) use Z (.ref D) C (.ok .next) s') :
  wpAny K.M K.A (comprehension (.ListComp elt [⟨te,iter,[],0⟩] scope pos) scope K.env p0 (newList []) false (eval iter K.env) use) Z (λ _ _=>False) s:=by
 refine wpAny_comprehension_free (use:=use) rfl hs c.clos c.kind c.names (wpAny_mono (jo (h s H _ (λ u H' q=>by obtain ⟨i,x,_⟩:=q;exact ⟨i,x⟩) R L p)) (λ y s1x z=>?_) λ _ _ z=>by obtain ⟨_,_,z⟩:=z;exact z)
 refine bc λ zz=>?_
 refine Bo z λ u H1 R1x T1 hy uz1 fr=>?_;obtain ⟨items,hi,w⟩:=uz1
 refine zz (oH R1x hy hi λ I J h2x k hd hne hen hit=>?_)
 have h0:s.heap.get? I=none/\s.heap.get? J=none:=by
  by_cases hsrc:src=.enum
  .exact mL (hen hsrc) λ e1 e2 e3=>(fr I J hsrc e2 e1 e3)
  .obtain ⟨n1,n2⟩:=hne hsrc
   exact ⟨T1.dom _ n1,T1.dom _ n2⟩
 have R2x:=R1x.grow k
 have T2:=T1.trans (Tr.grow (H:=H1) k)
 refine wpAny_newObj_type (wpAny_newFunctionEnv c.cell (by intro y hy;simp at hy) (λ h3x hns hsb=>?_) c.kind)
 dsimp only at hns hsb ⊢
 generalize hHp:h2x.push {cls:=.type "list", dict:=none,data:=.seq ([]:List Value).toArray}=hp at hns hsb ⊢
 have hCs:hp.objs.size=h2x.objs.size+1:=by exact sl (hHp ..) (sr (Heap.size_push ..) rfl)
 have hDC:h2x.objs.size≠hp.objs.size:=by exact sr hCs (ne_of_lt (lt_succ_self _))
 have below:∀ b,b<h2x.objs.size->b≠hp.objs.size/\b≠h2x.objs.size:=λ b hb=>⟨by refine sr hCs ?_;exact ne_of_lt (Nat.lt_succ_of_lt hb),ne_of_lt hb⟩
 have old:∀ b o,h2x.get? b=some o->h3x.get? b=some o:=λ b o e=>hsb.extBut b o (below b (Heap.lt_size e)).1 (Heap.get?_push_of_some _ (hHp▸Heap.get?_push_of_some _ e))
 have hacc:h3x.PlainList h2x.objs.size #[]:=⟨_,hsb.extBut _ _ hDC (Heap.get?_push_of_some _ (hHp▸Heap.get?_push_size _ rfl))⟩
 have fresh:∀ a,h2x.objs.size<=a->h2x.get? a=none:=λ a ha=>by
  induction e:h2x.get? a with
  | none=>rfl
  | some o'=>exact absurd (Heap.lt_size e) (not_lt.mpr ha)
 have fC:=fresh hp.objs.size (by refine sr hCs ?_;exact le_succ _)
 have fD:=fresh h2x.objs.size (le_refl _)
 have R3x:=(R2x.grow (h':=h3x) old).toks (s1x.toks+([]:List (Str×Value)).length)
 have T3:=T2.trans (Tr.grow (H:=H1) old)
 have L3x:=c.loc (L.tr T3) (R2x.none_of_fresh fC) hns
 have bC:=R2x.base_none fC
 have nD:=R2x.new_size
 have sC:=T2.dom _ fC
 have sD:=T2.dom _ fD
 have hnD:=R2x.none_of_fresh fD
 have frD:=R2x.no_frame fD
 have frC:=R2x.no_frame fC
 have OI:=c.ok O bC
 have hDI:h2x.objs.size∉[I,J]:=λ m=>by
  refine bc λ zz=>k9 (hd.fld _ m) λ o vs g uz1=>zz ?_
  have g:h2x.get? h2x.objs.size=some o:=g
  rw [fD] at g;contradiction
 have hd3:=hd.tr (Tr.grow (H:=H1) old)
 have hit3:=hit.keep λ b m o g=>old b o g
 have a3:At (sd K scope cl slots hp.objs.size) H s.heap (dc ls caps (replicate n none)) H1 {s1x with heap:=h3x,toks:=s1x.toks+([]:List (Str×Value)).length}:=⟨R3x,L3x,T3⟩
 have loop:codeAny K.M K.A (.compLoop (.ListComp elt [⟨te,iter,[],0⟩] scope pos) 0 (.ref I) (.ref h2x.objs.size) (compEnvC scope cl hp.objs.size K.env)) (compPost K.M K.A (λ _ _=>False) use Z (.ref h2x.objs.size) hp.objs.size)
   {s1x with heap:=h3x,toks:=s1x.toks+([]:List (Str×Value)).length}:=by
  refine rG (K:=sd K scope cl slots hp.objs.size) OI sC h0 sD nD.1 (ht _) hte (he _ bC) hi a3 hd3 hit3 hDI hDC hnD hacc w λ s' ls' H' vs ys a' hD' g' rv kk=>bc λ zz=>?_
  obtain ⟨hC',m',hm',_⟩:=a'.L
  exact zz (fin _ _ s' H' vs ys m' a'.R a'.T hD' hC' sD sC nD bC frD frC hDC g' rv hm' kk)
 exact codeAny_compStart_list loop (u9 (S:=K.S) hit3 loop)
theorem Tr.name {H0 H:AH}{h0x h:Heap}(T:Tr H0 h0x H h){a:Addr}(ao:AO)(e:h0x.get? a=none):Tr H0 h0x (H.set a ao) h:=⟨λ b o g n=>⟨T.get g n,by
 have:b≠a:=by rintro rfl;rw [e] at g;contradiction
 refine sr (F4 _ _ this) ?_;exact T.hid g n⟩,T.dom⟩
section
variable {K:Kt}{β:Bool}{X:Int->Prop}{ls:Ls}
theorem v9 (O:a7 K){scope:Scope}{cl:List (Str×Addr)}{slots:List Str}{n:Nat}{caps:List (Nat×Nat)}(c:eG K scope cl slots n caps){src:Src}{tg:Tg}{te elt iter:Expr}{pos:Pos}
  {P:AH->(V->AH->Prop)->Prop} {PE:Ls->AH->(V->AH->Prop)->Prop}
  (hs:∀ x,foldedSetIterable iter K.env x=pure x)
  (ht:∀ C,dH (sd K scope cl slots C) tg te) (hte:(∃ nm p,te=.Name nm p)/\src≠.enum\/(∃ es k p,te=.Tuple es k p)/\(src=.list\/src=.enum))
  (h:iG K false (λ _=>False) src (eval iter K.env) ls P) (he:∀ C,K.S.h0x.get? C=none->∀ ls',an (sd K scope cl slots C) false (λ _=>False) (eval elt (compEnvC scope cl C K.env)) ls' (PE ls')) :
  an K β X (eval (.ListComp elt [⟨te,iter,[],0⟩] scope pos) K.env) ls λ H Q=>P H λ u H1=>∃ items,cF src u H1 items /\
   d6 (ay src u items) tg PE items (dc ls caps (replicate n none)) [] H1 λ vs H2x=>vs.length<=16777216/\∀ c,H2x c=none->Q (.ref c) (H2x.set c (.list vs)):=λ s H Q R L p=>by
 refine ah (wpAny_mono (mo (use:=none) (Z:=PV K.S K.fs H s.heap Q) O c hs ht hte h he R L p λ D C s' H' vs ys m R' T' hD hC sD sC nD bC frD frC hDC g rv hm kk=>⟨m,hm,λ h' hs'=>?_⟩) (λ _ _ z=>z) λ _ _ z=>z.elim)
 have kw:=Gi hs'
 obtain ⟨nn,g⟩:=g
 have R2x:=R'.local_out (W:=[C]) (λ b m=>by refine sr (GP m) ?_;exact ⟨hC,bC⟩) kw frC s'.toks
 have T2:=T'.local_step kw λ b m=>by exact sr (GP m) sC
 have g2x:=kw D _ (λ q=>hDC (GP q)) g
 exact ⟨.ref D,_,.ref D,R2x.name (ao:=.list vs) (.inl nD) g2x (.list rv) λ env m q=>frD env m D q (by simp),T2.name _ sD,kk.2 D hD⟩
theorem xP (O:a7 K){scope:Scope}{cl:List (Str×Addr)}{slots:List Str}{n:Nat}{caps:List (Nat×Nat)}(c:eG K scope cl slots n caps){src:Src}{tg:Tg}{te elt iter:Expr}{pos cpos p0:Pos}{y:Str}{k:Nat}{rest:List Stmt}
  {P:Ls->AH->(V->AH->Prop)->Prop} {PE:Ls->AH->(V->AH->Prop)->Prop} {PR:BP} (hy:K.slots[k]?=some y) (hk:K.env.kindOf y=some .local)
  (hw:swapsWith (.ListComp elt [⟨te,iter,[],0⟩] scope cpos) (some (.Name y p0)) pos.line K.env=pure true)
  (hs:∀ x,foldedSetIterable iter K.env x=pure x)
  (ht:∀ C,dH (sd K scope cl slots C) tg te) (hte:(∃ nm p,te=.Name nm p)/\src≠.enum\/(∃ es k p,te=.Tuple es k p)/\(src=.list\/src=.enum))
  (h:∀ ls,iG K false (λ _=>False) src (eval iter K.env) ls (P ls)) (he:∀ C,K.S.h0x.get? C=none->∀ ls',an (sd K scope cl slots C) false (λ _=>False) (eval elt (compEnvC scope cl C K.env)) ls' (PE ls')) (hr:fj K β X rest PR) :
  fj K β X (.Assign [.Name y p0] (.ListComp elt [⟨te,iter,[],0⟩] scope cpos) pos::rest) λ ls H N Rr=>P ls H λ u H1=>∃ items,cF src u H1 items /\
   d6 (ay src u items) tg PE items (dc ls caps (replicate n none)) [] H1 λ vs H2x=>vs.length<=16777216/\∀ c,H2x c=none->PR (lput ls k (.ref c)) (H2x.set c (.list vs)) N Rr:=λ H0 h0x ls s H N Rr hb a p=>by
 refine gK hr hb (sr (exec_Assign_Name_used _ _ _ _ hw) (aa (ag (aa (ah ?_)))))
 show wpAny _ _ (do let _ <- comprehension (.ListComp elt [⟨te,iter,[],0⟩] scope cpos) scope K.env _ (newList []) false (eval iter K.env) (some (assign (.Name y p0) K.env))) _ _ s
 refine wpAny_bind (wpAny_mono (mo (use:=some (assign (.Name y p0) K.env)) (Z:=λ _ s'=>∃ ls' H',At K H0 h0x ls' H' s'/\PR ls' H' N Rr) O c hs ht hte (h ls) he a.R a.L p λ D C s' H' vs ys m R' T' hD hC sD sC nD bC frD frC hDC g rv hm kk=>?_)
  (λ _ s' hq=>wpAny_pure (ae ⟨rfl,hq⟩)) λ _ _ z=>z.elim)
 obtain ⟨nn,g⟩:=g
 have R2x:=R'.name (ao:=.list vs) (.inl nD) g (.list rv) λ env m q=>frD env m D q (by simp)
 have T2:=T'.name (.list vs) sD
 have h0C:=a.T.dom _ sC
 have a2x:At K H0 h0x ls (H'.set D (.list vs)) s':=⟨R2x,a.L.tr T2,a.T.trans T2⟩
 have hCD:(H'.set D (.list vs)) C=none:=by exact sr (F4 _ _ (Ne.symm hDC)) hC
 refine ck O hb a2x hy hk (.ref D) λ s3x a3 kw=>?_
 have hLC:C≠K.env.locals:=by
  rintro rfl
  obtain ⟨_,m',⟨o,_,_,ho,_⟩,_⟩:=a.L
  rw [sC] at ho;contradiction
 refine ug hm λ oC es ep gC dC kC=>?_
 have gC3:=kw C oC (λ q=>hLC (GP q)) gC
 refine ⟨m,⟨oC,es,ep,gC3,dC,kC⟩,λ h' hs'=>?_⟩
 have kw':=Gi hs'
 refine ⟨_,_,⟨a3.R.local_out (W:=[C]) (λ b m=>by refine sr (GP m) ?_;exact ⟨hCD,bC⟩) kw' frC s3x.toks,?_,a3.T.local_step kw' λ b m=>by refine sr (GP m) ?_;exact h0C⟩,kk.2 D hD⟩
 obtain ⟨n1,m1,hm1,c1⟩:=a3.L
 refine ⟨n1,m1,?_,λ k v e=>?_⟩
 .exact ug hm1 λ o es ep g1 d r=>⟨o,es,ep,kw' _ _ (λ q=>hLC (GP q).symm) g1,d,r⟩
 .refine ln (c1 k v e) λ nm x e1 e2 e3=>⟨nm,x,e1,e2,e3.imp id λ ⟨f1,cc,o,f2,f3,f4,f5⟩=>⟨f1,cc,o,f2,f3,kw' _ _ (λ q=>?_) f4,f5⟩⟩
  rw [GP q,gC3] at f4;cases f4;rw [dC] at f5;contradiction
end
theorem fe:∀ {names:List Str} {vals:List Value},vals.length=names.length->∀ n∈names,∃ v,(names.zip vals).lookup n=some v
 | [],_,_,_,m=>by contradiction
 | k::ns,[],h,_,_=>by contradiction
 | k::ns,v::vs,h,n,m=>by
  refine sr List.zip_cons_cons (sr lookup_cons ?_)
  induction hb:n==k with
  | true=>exact ⟨v,rfl⟩
  | false =>
   refine fe (by simpa using h) n ?_
   rcases mem_cons.mp m with rfl|m
   .simp at hb
   .exact m
theorem fv {α γ:Type}{f g:α->Option γ}:∀ {l:List α},(∀ x∈l,f x=g x)->l.filterMap f=l.filterMap g
 | [],_=>rfl
 | x::r,h=>by exact sr filterMap_cons (sr filterMap_cons (sr (h x (by simp)) (sr (fv λ y m=>h y (by simp [m])) rfl)))
theorem kR {α γ:Type}{f:α->γ->Sem (ForInStep γ)}{c:γ}:∀ {l:List α},(∀ x∈l,f x c=pure (.yield c))->forIn l c f=pure c
 | [],_=>rfl
 | x::r,h=>by
  exact sr (forIn_cons ..) (sr (h x mem_cons_self ..) (sr (pure_bind ..) (kR λ y m=>h y (mem_cons_of_mem _ m))))
theorem gA:∀ {names:List Str} {vals:List Value},vals.length=names.length->names.Nodup->names.filterMap (λ n=>((names.zip vals).lookup n).map (n,·))=names.zip vals
 | [],_,_,_=>rfl
 | k::ns,[],h,_=>by contradiction
 | k::ns,v::vs,h,hn=>by
  obtain ⟨h1,h2⟩:=nodup_cons.mp hn
  refine sr List.zip_cons_cons (sr filterMap_cons ?_)
  have e1:List.lookup k ((k,v)::ns.zip vs)=some v:=by refine sr lookup_cons ?_;simp
  refine sr e1 ?_
  show (k,v)::_=_
  congr 1
  have:∀ n∈ns,(List.lookup n ((k,v)::ns.zip vs)).map (λ x=>(n,x))=((ns.zip vs).lookup n).map (λ x=>(n,x)):=λ n m=>by
   refine sr lookup_cons ?_
   have:(n==k)=false:=by
    rw [beq_eq_false_iff_ne];rintro rfl;exact h1 m
   exact sr this rfl
  exact sr (fv this) (sr (gA (by simpa using h) h2) rfl)
noncomputable def d9 (p:Arguments):Bool:=p.posonlyargs.isEmpty&&p.kwonlyargs.isEmpty&&p.vararg.isNone&&p.kwarg.isNone
theorem lx {α γ:Type}{x:α}{f:α->Sem γ}:(pure x >>= f)=f x:=rfl
theorem vV {names:List Str}{vals:List Value}{dv:Value}{M A E s Q}(hd:dv=.none\/∃ T o items n,dv=.ref T/\s.heap.get? T=some o/\o.data=.seq items n)(h:Q (names.zip vals) s){f:Option (Array Value)->Sem (List (Str×Value))}(hf:∀ d,f d=pure (names.zip vals)) :
  wpAny M A (seqItems? dv >>= f) Q E s:=by
 rcases hd with rfl|⟨T,o,items,n,rfl,g,d⟩
 .show wpAny M A (((do notAStandIn .none;pure none):Sem (Option (Array Value))) >>= f) Q E s
  exact wpAny_bind (wpAny_bind (wpAny_pure (wpAny_pure (hf _▸wpAny_pure h))))
 .exact wpAny_bind (wpAny_seqItems g d (hf _▸wpAny_pure h))
theorem rW {l:List Str}{p:Str->Bool}(h:∀ n∈l,¬ p n=true):¬ (!(l.filter p).isEmpty)=true:=by
 exact sr (List.filter_eq_nil_iff.mpr h) Bool.noConfusion
theorem rS {p:Arguments}(h:d9 p=true):p=⟨[],p.args,none,[],p.kw_defaults,none,p.defaults⟩:=by
 obtain ⟨po,ar,va,ko,kd,kw,df⟩:=p
 rcases po with _|_
 .rcases ko with _|_
  .rcases va with _|_
   .rcases kw with _|_
    .rfl
    .exact absurd h Bool.false_ne_true
   .exact absurd h Bool.false_ne_true
  .exact absurd h Bool.false_ne_true
 .exact absurd h Bool.false_ne_true
theorem sV {fd:FuncData}(h:d9 fd.params=true):fd={fd with params:=⟨[],fd.params.args,none,[],fd.params.kw_defaults,none,fd.params.defaults⟩} :=
 congrArg (λ p=>{fd with params:=p}) (rS h)
theorem oZ {fd:FuncData}{names:List Str}{vals:List Value}{M A E s Q}(hp:d9 fd.params=true)(hn:fd.params.args.map (·.arg)=names)(hnd:names.Nodup)(hl:vals.length=names.length)
  (hd:fd.defaults=.none\/∃ T o items n,fd.defaults=.ref T/\s.heap.get? T=some o/\o.data=.seq items n) (h:Q (names.zip vals) s):wpAny M A (bindArgs fd ⟨vals,[]⟩) Q E s:=by
 subst hn
 have look:∀ n∈fd.params.args.map (·.arg),¬ (((fd.params.args.map (·.arg)).zip vals).lookup n).isNone=true:=λ n m=>by
  obtain ⟨v,e⟩:=fe hl n m
  exact sr e Bool.noConfusion
 refine sr (sV hp) (vV (dv:=fd.defaults) hd h (f:=λ o=>_) λ d=>?_)
 dsimp only [lx,map_nil,nil_append,append_nil,List.forIn_nil]
 refine (if_neg (λ q=>absurd (GL ((Bool.and_eq_true _ _).mp q).1) (not_lt.mpr (le_of_eq hl)))).trans ((if_neg (rW λ n m=>look n (List.mem_of_mem_take m))).trans ((congrArg (· >>= _) (kR (c:=(fd.params.args.map (·.arg)).zip vals) λ x hx=>?_)).trans ?_))
 .exact if_neg (look _ (List.mem_of_mem_drop (List.of_mem_zip hx).1))
 .exact congrArg (pure (f:=Sem)) ((congrArg (List.filterMap _) (append_nil (fd.params.args.map (·.arg)))).trans (gA hl hnd))
theorem ju {kd:Str->Option NameKind}:∀ {binds:List (Str×Value)} {m:Str->Option Value} {n:Str},n∉binds.map (·.1)->bindL kd binds m n=m n
 | [],_,_,_=>rfl
 | (k,v)::r,m,n,h=>by
  simp only [map_cons,mem_cons,not_or] at h
  dsimp only [bindL]
  refine sr (ju h.2) ?_
  split
  .simp [h.1]
  .rfl
theorem jv {kd:Str->Option NameKind}:∀ {binds:List (Str×Value)} {m:Str->Option Value} {n:Str},n∉binds.map (·.1)->bindC kd binds m n=m n
 | [],_,_,_=>rfl
 | (k,v)::r,m,n,h=>by
  simp only [map_cons,mem_cons,not_or] at h
  dsimp only [bindC]
  refine sr (jv h.2) ?_
  split
  .rfl
  .simp [h.1]
theorem mx {kd:Str->Option NameKind}:∀ {binds:List (Str×Value)} {m:Str->Option Value} {n:Str} {x:Value},(binds.map (·.1)).Nodup->(n,x)∈binds->kd n=some .local->bindL kd binds m n=some x
 | [],_,_,_,_,h,_=>by contradiction
 | (k,v)::r,m,n,x,hn,h,hk=>by
  obtain ⟨h1,h2⟩:=nodup_cons.mp hn
  dsimp only [bindL]
  rcases mem_cons.mp h with e|h
  ·(injection e with e e';subst e e')
   refine sr (ju h1) (sr (if_pos hk) ?_);simp
  .exact mx h2 h hk
theorem l4 {kd:Str->Option NameKind}:∀ {binds:List (Str×Value)} {m:Str->Option Value} {n:Str} {x:Value},(binds.map (·.1)).Nodup->(n,x)∈binds->kd n≠some .local->bindC kd binds m n=some x
 | [],_,_,_,_,h,_=>by contradiction
 | (k,v)::r,m,n,x,hn,h,hk=>by
  obtain ⟨h1,h2⟩:=nodup_cons.mp hn
  dsimp only [bindC]
  rcases mem_cons.mp h with e|h
  ·(injection e with e e';subst e e')
   refine sr (jv h1) (sr (if_neg hk) ?_);simp
  .exact l4 h2 h hk
set_option tactic.hygienic true in
theorem cI:∀ {names:List (Str×NameKind)} {n:Nat} {acc:List (Str×Addr)} {nm:Str},(acc.lookup nm).isSome=true\/(nm,NameKind.cell)∈names->((cellsFrom n names acc).lookup nm).isSome=true
 | [],_,_,_,h=>by
  rcases h with h|h
  .exact h
  .contradiction
 | (k,kind)::r,n,acc,nm,h=>by
  dsimp only [cellsFrom]
  split
  .refine cI ?_
   rcases h with h|h
   .left
    refine sr lookup_cons ?_
    split
    .rfl
    .exact h
   .rcases mem_cons.mp h with e|h
    ·(injection e with e;subst e);left;refine sr lookup_cons ?_;simp
    .exact .inr h
  .rename_i hk
   refine cI ?_
   rcases h with h|h
   .exact .inl h
   .rcases mem_cons.mp h with e|h
    ·(injection e with e e';subst e e');exact absurd rfl hk
    .exact .inr h
def jM (K:Kt):Prop:=∀ nm,K.env.kindOf nm=some .cell->(K.env.cells.lookup nm).isSome=true
theorem aI.pop {S:Sx}{env:Env}{fs:List Env}{H:AH}{s:Shared}(R:aI S (env::fs) H s):aI S fs H s :=
 ⟨R.base,R.objs,R.frames.2.2,λ e m=>R.hid e (mem_cons_of_mem _ m),R.gens,R.os⟩
theorem l7:∀ {vs:List V} {n k:Nat} {v:V},lget (vs.map some++replicate n none) k=some v->vs[k]?=some v
 | [],n,k,v,e=>by rw [map_nil,nil_append,dK] at e;contradiction
 | w::vs,n,0,v,e=>by (injection e with e;subst e);rfl
 | w::vs,n,k+1,v,e=>by refine sr List.getElem?_cons_succ ?_;exact l7 e
noncomputable def Ee (fd:FuncData):Option (List Stmt):=match fd.body with | .stmts b=>some b|_=>none
structure nW (S:Sx) (f:Nat) (fd:FuncData) (body:List Stmt) (names:List Str):Prop where
 fn:∃ oc od osl,S.K.lookup (S.fa f)=some ⟨oc,od,.func fd,osl⟩
 code:codeIn S.K fd.code fd.qualname=true
 co:fd.scope.isCoroutine=false
 gen:fd.scope.isGenerator=false
 kind:fd.scope.kind=.function
 body:fd.body=.stmts body
 clo:fd.closure=[]
 glob:fd.globals=mainGlobals
 blt:fd.builtins=builtinsNs
 plain:d9 fd.params=true
 nms:fd.params.args.map (·.arg)=names
 dflt:fd.defaults=.none\/∃ T o items n,fd.defaults=.ref T/\S.K.lookup T=some o/\o.data=.seq items n
 kinds:∀ x∈names,fd.scope.names.lookup x=some .local\/fd.scope.names.lookup x=some .cell
theorem fW {S:Sx}{k f:Nat}{fd:FuncData}{body:List Stmt}{names slots:List Str}{β:Bool}{vs:List V}{H:AH}{Z E:Value->Shared->Prop}{A:Around}{fs:List Env}{s:Shared}{xs:List Value}(F:nW S f fd body names)
  (hsl:slots.Nodup) (hdb:∀ nm∈slots,(nm==("__debug__" : Str))=false) (hpre:slots.take names.length=names) (hlen:vs.length=names.length)
  (hroom:lu (k+1) A) (hfs:A.frames=some fs) (R:aI S fs H s) (rv:cO vs xs)
  (hb:∀ K:Kt,K.S=S->K.k=k->K.slots=slots->K.env.scope=fd.scope->K.fs=K.env::fs->a7 K->j5 K->jM K->K.A.frames=some (K.env::fs)->K.env.frame=some K.env.locals->s.heap.get? K.env.locals=none->∀ s1x,At K H s.heap (vs.map some++replicate (slots.length-names.length) none) H s1x->(∀ b o,s.heap.get? b=some o->s1x.heap.get? b=some o) ->
   aF β K.M K.A (execs body K.env) (λ fl s'=>Z (match fl with | .ret v=>v|_=>.none) s') (λ e s'=>aF β K.M K.A (leaving K.env e) (λ _ s''=>E e s'') (λ e' s''=>E e' s'') s') s1x) :
  aF β (model S.prog S.w) A (call (.ref (S.fa f)) xs) Z E s:=by
 refine bc λ zz=>Fa F.fn λ oc od osl hl=>?_
 have XK:=S.X.keeps R.base
 have ho:=XK _ _ hl
 refine Ai hroom λ r1 r2 r3 r4=>zz ?_
 have hnd:names.Nodup:=by exact sl hpre (hsl.sublist (List.take_sublist _ _))
 have hxl:xs.length=names.length:=rv.length.trans hlen
 refine fx (gr (by have:recursionLimit=1000:=rfl;lia) ho rfl F.co F.gen F.body (codeRec_of XK F.code) ?_)
 refine oZ F.plain F.nms hnd hxl (F.dflt.imp id λ ⟨T,o,items,n,e,g,d⟩=>⟨T,o,items,n,e,XK _ _ g,d⟩) (sr F.clo (sr F.glob (sr F.blt ?_)))
 have hkind:∀ x∈names.zip xs,fd.scope.names.lookup x.1=some .local\/(fd.scope.names.lookup x.1=some .cell/\((cellsFrom (s.heap.objs.size+1) fd.scope.names []).lookup x.1).isSome=true):=λ x m=>by
  rcases F.kinds x.1 (List.of_mem_zip m).1 with h|h
  .exact .inl h
  .exact .inr ⟨h,cI (.inr (mem_of_lookup h))⟩
 refine wpAny_newFunctionEnv_cells F.kind hkind λ env he s1x x=>bc λ zz=>?_
 refine k9 x.done λ h1x tk ez1 hk1x=>?_;subst ez1
 refine zz ?_
 have hL:env.locals=s.heap.objs.size:=by refine sr he ?_;rfl
 have hfr:env.frame=some env.locals:=by refine sr he ?_;rfl
 have hsc:env.scope=fd.scope:=by refine sr he ?_;rfl
 have hgl:env.globals=mainGlobals:=by refine sr he ?_;rfl
 have hbl:env.builtins=builtinsNs:=by refine sr he ?_;rfl
 have hcl:env.cells=cellsFrom (s.heap.objs.size+1) fd.scope.names []:=by refine sr he ?_;rfl
 clear he
 have fresh:∀ a,s.heap.objs.size<=a->s.heap.get? a=none:=λ a ha=>by
  induction e:s.heap.get? a with
  | none=>rfl
  | some o'=>exact absurd (Heap.lt_size e) (not_lt.mpr ha)
 have fL:=fresh env.locals (by refine sr hL ?_;exact le_refl _)
 refine ⟨((S.T.nolimit.keeps R.base).keeps hk1x),ql ?_⟩
 have OK:a7 ⟨S,k,A.deeper env,env::fs,env,slots⟩:=⟨by show env.scope.kind=_;refine sr hsc ?_;exact F.kind,hgl,hbl,by show Option.map _ A.frames=_;refine sr hfs ?_;rfl,hsl,hdb,
  ⟨r1,r2,by show A.depth+1+3*k+2<=900;lia,by show A.units+3+20*k+110<=9000;lia⟩,R.base_none fL⟩
 have kof:∀ n,env.kindOf n=fd.scope.names.lookup n:=λ n=>by refine sl hsc ?_;rfl
 have CE:jM ⟨S,k,A.deeper env,env::fs,env,slots⟩:=λ n e=>by
  have e:env.kindOf n=some .cell:=e
  rw [kof] at e
  exact sr hcl (cI (.inr (mem_of_lookup e)))
 refine bc λ zz=>ug (id x.toInCall.ns) λ oL es ep gL dL kL=>zz ?_
 have gL:h1x.get? env.locals=some oL:=gL
 have R1x:aI S (env::fs) H {s with heap:=h1x,toks:=tk}:=by
  have R0:=(R.grow hk1x).toks tk
  refine ⟨R0.base,R0.objs,⟨by refine sr hsc (sr F.kind ?_);decide,⟨env.locals,oL,hfr,R.base_none fL,gL,λ vs q=>by rw [dL] at q;contradiction⟩,R0.frames⟩,λ e m L q=>?_,R0.gens,R0.os⟩
  rcases mem_cons.mp m with rfl|m
  .rw [hfr] at q;(injection q with q;subst q);exact R.none_of_fresh fL
  .exact R.hid e m L q
 have zmap:(names.zip xs).map (·.1)=names:=by
  rw [List.map_fst_zip];lia
 have L1x:bh env slots (vs.map some++replicate (slots.length-names.length) none) H h1x:=by
  refine ⟨R.none_of_fresh fL,_,x.toInCall.ns,λ j v e=>?_⟩
  have ev:=l7 e
  refine bc λ zz=>aT (rv.get ev) λ y ey ry=>zz ?_
  have hj:j<names.length:=by exact sl hlen ((List.getElem?_eq_some_iff.mp ev).1)
  have en:names[j]?=some names[j]:=getElem?_eq_getElem hj
  have es:slots[j]?=some names[j]:=by
   have q:(slots.take names.length)[j]?=some names[j]:=by exact sr hpre en
   rw [List.getElem?_take,if_pos hj] at q
   exact q
  have hm:(names[j],y)∈names.zip xs:=by
   refine mem_of_getElem? (i:=j) ?_
   rw [List.getElem?_zip_eq_some]
   exact ⟨en,ey⟩
  refine ⟨names[j],y,es,ry,?_⟩
  rcases F.kinds names[j] (getElem_mem hj) with h|h
  .left
   have hk:env.kindOf names[j]=some .local:=by exact sr (kof ..) h
   exact ⟨hk,mx (by refine sr zmap ?_;exact hnd) hm hk⟩
  .right
   have hk:env.kindOf names[j]=some .cell:=by exact sr (kof ..) h
   have hcs:=CE _ hk
   refine bc λ zz=>?_
   obtain ⟨c,hc⟩:=Option.isSome_iff_exists.mp hcs
   have hc:env.cells.lookup names[j]=some c:=hc
   refine aT (x.cell _ _ hc) λ o g d=>zz ?_
   rw [l4 (by refine sr zmap ?_;exact hnd) hm (by refine sr hk ?_;decide)] at d
   exact ⟨hk,c,o,hc,R.none_of_fresh (fresh c (by have:=x.above _ _ (mem_of_lookup hc);rw [hL] at this;exact Nat.le_of_lt this)),g,d⟩
 have T1:Tr H s.heap H h1x:=Tr.grow hk1x
 exact hb ⟨S,k,A.deeper env,env::fs,env,slots⟩ rfl rfl rfl hsc rfl OK ⟨fs,env.locals,rfl,hfr⟩ CE (by show Option.map _ A.frames=_;refine sr hfs ?_;rfl) hfr fL _ ⟨R1x,L1x,T1⟩ hk1x
theorem qm {S:Sx}{k f:Nat}{fd:FuncData}{body:List Stmt}{names slots:List Str}{β:Bool}{X:Int->Prop}{vs:List V}{H:AH}{Q:V->AH->Prop}{P:BP}(F:nW S f fd body names)
  (hsl:slots.Nodup) (hdb:∀ nm∈slots,(nm==("__debug__" : Str))=false) (hpre:slots.take names.length=names) (hlen:vs.length=names.length)
  (hb:∀ K:Kt,K.S=S->K.k=k->K.slots=slots->K.env.scope=fd.scope->a7 K->j5 K->jM K->fj K β X body P)
  (p:P (vs.map some++replicate (slots.length-names.length) none) H (λ _ H'=>Q .none H') Q):af S (k+1) β X f vs H Q:=λ A fs s xs hroom hfs R rv=>by
 refine fW F hsl hdb hpre hlen hroom hfs R rv λ K eS ek esl esc efs OK FE CE hfr' hfr fL s1x a k1x=>?_
 subst eS
 have bo:=hb K rfl ek esl esc OK FE CE
 refine aj (bo H s.heap _ s1x H _ Q fL a p) (λ fl s' z=>?_) λ e s' z=>?_
 .induction fl with
  | next =>
   exact k9 z λ ls' H' a' q=>⟨.none,H',.none,(efs▸a'.R).pop,a'.T,q⟩
  | ret v =>
   obtain ⟨u,H',r',R',T',q⟩:=z
   exact ⟨u,H',r',(efs▸R').pop,T',q⟩
  | _=>exact z.elim
 .refine aT z λ told uz1 hx=>?_;obtain ⟨⟨a,fl,rfl,xx,hfl⟩,hb',hf',ns,hg,hos⟩:=uz1
  have hfl':fl=none\/fl=some .none\/fl=some (rawInt K.env.locals):=by
   rcases hfl with h|h|⟨L',h1,h2⟩
   .exact .inl h
   .exact .inr (.inl h)
   .rw [hfr] at h1;(injection h1 with h1;subst h1);exact .inr (.inr h2)
  exact ah (wpAny_bind (nP (S:=K.S) (outer:=fs) hfr' (efs▸hf') hfr hb' xx hfl' λ h3x b3x f3x x3x k3x=>gf (S:=K.S) (l:=K.env::fs) (fr:=none) f3x b3x x3x λ h4x b4x f4x x4x k4x=>⟨told,⟨⟨a,rfl,x4x⟩,b4x,f4x.2.2,λ b m n g=>(k3x.trans k4x).ns (ns b m n g),hg,hos⟩,hx⟩))
end Internal
end
section
open PySem PySem.W PySem.Calls PyProof.Rows PySem.Builtin PySem.Builtin.ObjectAttr
namespace Internal
noncomputable def nQ:List Value:=[.type "Exception", .type "BaseException", .type "object"]
theorem pU (self:Value):refuseLoop self "__setattr__" nQ=pure ():=by
 kernel_rfl
noncomputable def AX (e:Value):Bool:=if q:e.ctorIdx=10 then true else false
@[elab_as_elim] theorem yP {C:Value->Prop} {e:Value} (h:AX e=true) (f:∀ a,C (.ref a)):C e :=
 if q:e.ctorIdx=10 then Value.ref.elim (motive:=C) e q f else absurd ((dif_neg q).symm.trans h) nofun
noncomputable def dR:List Value->Bool
 | []=>false
 | v::r=>decide (v::r=nQ)||(AX v&&dR r)
theorem gO {P:List Value->Prop}(h0:P nQ)(h1:∀ c r,P r->P (.ref c::r)):∀ {l},dR l=true->P l
 | [],e=>Bool.noConfusion e
 | v::r,e=>((Bool.or_eq_true _ _).mp e).elim (λ e=>GL e▸h0) λ e=>yP (C:=λ v=>P (v::r)) ((Bool.and_eq_true _ _).mp e).1 λ c=>h1 c r (gO h0 h1 ((Bool.and_eq_true _ _).mp e).2)
theorem kH {v x:Value}{r:List Value}(h:r.contains x=true):(v::r).contains x=true:=by exact sr (contains_cons ..) (sr (h ..) (sr (Bool.or_true ..) rfl))
theorem kW {v x:Value}{r:List Value}(g:(x==v)=false)(h:r.contains x=false):(v::r).contains x=false:=by refine sr contains_cons (sr h (sr g ?_));rfl
theorem mZ {l:List Value} (h:dR l=true):(∀ self,refuseLoop self "__setattr__" l=pure ())/\l.contains (.type "object")=true/\l.isEmpty=false :=
 gO (P:=λ l=>(∀ self,refuseLoop self "__setattr__" l=pure ())/\l.contains (.type "object")=true/\l.isEmpty=false) ⟨pU,by decide +kernel,rfl⟩
  (λ c r h=>⟨λ self=>(refuseLoop_ref self _ _ _).trans (h.1 self),kH h.2.1,rfl⟩) h
noncomputable def mK (K:Frag)(C:Addr):Bool:=(clsIn K C).any λ cd=>dR cd.mro&&cd.hasDict
section
variable {R:Result->Shared->Prop}{prog:Program}{w:World}{A:Around}{s:Shared}{K:Frag}{C x:Addr}
theorem vT {tk:Tok}{v:Value}{name:Str}{fs:Array Value}(X:K.In s.heap)(g:s.heap.get? x=some {cls:=.ref C,data:=.fields fs})(hp:mK K C=true)(ht:takerIn K C name=some none)
  (h:∀ h' n,aP [x] s.heap h'->h'.get? x=some {cls:=.ref C,dict:=some s.heap.objs.size,data:=.fields fs}->h'.get? s.heap.objs.size=some (dictOf [⟨PyData.keyHash w.params name,.str name s.toks,v⟩] n)->R (.ok (.ret .none)) {s with heap:=h',toks:=s.toks+1}) :
  codeAny (model prog w) A (.call (.builtin "object.__setattr__") ⟨[.ref x,.str name tk,v],[]⟩) R s:=by
 have SF:=PySem.F.store_object
 have I:InstAt s.heap x {cls:=.ref C,data:=.fields fs} C none:=⟨g,rfl,rfl,trivial⟩
 refine aT (any_some hp) λ cd hc ho=>?_
 obtain ⟨ho,hd⟩:=Bool.and_eq_true_iff.mp ho
 refine mL (mZ ho) λ hr hob ne=>?_
 have sub:Looks (model prog w) s.heap (isInstance (.ref x) (.type "object")) true:=I.type.andThen (looks_mroIn X (by unfold mroIn;exact sr (hc ..) (sr (Option.bind_some ..) (sr (if_neg (by rw [ne];decide) ..) (sr (hob ..) rfl)))))
 refine codeAny_call_builtin SF.slot.plain SF.entry (@check_slot (model prog w) _ _ s "object.__setattr__" "object" "__setattr__" (.ref x) [.str name tk,v] [] _ SF.kind SF.split sub (SF.args (.ref x) (.str name tk) v) (aT (Option.bind_eq_some_iff.mp ht) λ attr ha hr'=>?_))
 have hm:Looks (model prog w) s.heap (mroOf (.ref C)) cd.mro:=(looks_clsIn X hc).andThen .now
 have L3:Looks (model prog w) s.heap (storeTaker? attr) none:=by
  induction attr with
  | none=>exact .now
  | some a =>
   refine aT (Option.map_eq_some_iff.mp hr') λ b hb e=>(looks_takesIn X hb).andThen ?_
   cases b
   .exact .now
   .contradiction
 refine sr (osa_eq ..) (sr (refuse_eq ..) (wpAny_bind (wpAny_bind (I.type.here (wpAny_bind (hm.here (sr (hr ..) (wpAny_pure (wpAny_bind (I.type.here (wpAny_bind ((looks_findIn X ha).here (wpAny_bind (L3.here (wpAny_bind (wpAny_pure (wpAny_bind (wpAny_bind (wpAny_loadPart g (wpAny_bind ((looks_clsIn X hc).here (sr hd (sr (if_neg (by decide)) ?_)))))))))))))))))))))))
 refine sr (if_neg (show ¬ ((!true||!typeHasDict (Value.ref C))=true) from by simp [typeHasDict])) ?_
 have hx:x≠s.heap.objs.size:=ne_of_lt (Heap.lt_size g)
 have g1x:=Heap.get?_push_of_some {cls:=.type "dict", data:=.dict #[]} g
 refine wpAny_bind (wpAny_alloc (wpAny_bind (wpAny_update g1x ?_)))
 generalize hH:(s.heap.push {cls:=.type "dict", data:=.dict #[]}).update x (λ o=>{cls:=o.cls,dict:=some s.heap.objs.size,data:=o.data,slots:=o.slots})=H2
 have gx:H2.get? x=some {cls:=.ref C,dict:=some s.heap.objs.size,data:=.fields fs}:=by exact sl hH (Heap.get?_update_self _ g1x rfl)
 have gd:H2.get? s.heap.objs.size=some (dictOf [] 0):=by exact sl hH ((Heap.get?_update_ne _ _ _ _ hx.symm).trans (Heap.get?_push_at rfl rfl))
 have kw:aP [x] s.heap H2:=λ b o n e=>by
  exact sl hH ((Heap.get?_update_ne _ _ _ _ λ q=>n (by simp [q])).trans (Heap.get?_push_of_some _ e))
 refine wpAny_pure (wpAny_bind (wpAny_pure (wpAny_bind (wpAny_bind (wpAny_bind (wpAny_askSetting (wpAny_pure (wpAny_bind (wpAny_mkText (wpAny_bind (wpAny_loadPart gd (wpAny_updatePart gd ?_))))))))))))
 have D':=Heap.get?_update_self (Obj.putName name (PyData.keyHash w.params name) (.str name s.toks) v) gd (by refine sr (putName_dict ..) ?_;rfl)
 rw [putName_dict] at D'
 refine wpAny_bind (wpAny_lookBehind D' (pastItsLine_dict (by refine sr size_toArray (sr sizeLine_eq ?_);simp [putL])) ?_)
 refine wpAny_pure (h _ _ (λ b o n e=>?_) ?_ D')
 .exact (Heap.get?_update_ne _ _ _ _ (ne_of_lt (Heap.lt_size e))).trans (kw b o n e)
 .exact (Heap.get?_update_ne _ _ _ _ hx).trans gx
end
end Internal
end
section
open PySem PySem.W PySem.Calls PyProof.Rows
namespace Internal
structure ExcOk (S:Sx):Prop where
 over:mK S.K (S.ca 0)=true
 sa:findIn S.K (.ref (S.ca 0)) "__setattr__"=some (some (.builtin "object.__setattr__"))
 told:takerIn S.K (S.ca 0) (nm 0)=some none
theorem v6 {S:Sx}{k:Nat}{fd:FuncData}{n0 n1:Str}{p0 p1 ap pos:Pos}{β:Bool}{H:AH}{Z E:Value->Shared->Prop}{A:Around}{fs:List Env}{s:Shared}{e:Addr}{vs:Array Value}{told:Int}{tk:Tok}(X:ExcOk S)
  (F:nW S 0 fd [.Assign [.Attribute (.Name n0 p0) (nm 0) ap] (.Name n1 p1) pos] [n0,n1]) (hne:n0≠n1) (hdb:∀ nm∈[n0,n1],(nm==("__debug__" : Str))=false)
  (hroom:lu (k+1) A) (hfs:A.frames=some fs) (R:aI S fs H s) (ge:s.heap.get? e=some {cls:=.ref (S.ca 0),data:=.fields vs}) (hH:H e=none) (hb:S.h0x.get? e=none) (hv:vs[1]?=some .none)
  (h:∀ s',aI S fs H s'->(∀ b o,b≠e->s.heap.get? b=some o->H b=none->s'.heap.get? b=some o)->(∃ d,s'.heap.get? e=some {cls:=.ref (S.ca 0),dict:=some d,data:=.fields vs})->lJ S e told none s'.heap->Z .none s'):aF β (model S.prog S.w) A (call (.ref (S.fa 0)) [.ref e,.int told tk]) Z E s:=by
 refine fW (vs:=[.ref e,.int told]) F (slots:=[n0,n1]) (by simpa using hne) hdb rfl rfl hroom hfs R (.cons (.ref e) (.cons (.int told tk) .nil)) λ K eS ek esl esc efs OK FE CE hfr' hfr fL s1x a k1x=>?_
 subst eS
 have wk:∀ {Z':Flow->Shared->Prop},aF β K.M K.A (execs [.Assign [.Attribute (.Name n0 p0) (nm 0) ap] (.Name n1 p1) pos] K.env) Z' (kz K H s.heap λ _=>False) s1x->aF β K.M K.A (execs [.Assign [.Attribute (.Name n0 p0) (nm 0) ap] (.Name n1 p1) pos] K.env) Z' (λ e s'=>aF β K.M K.A (leaving K.env e) (λ _ s''=>E e s'') (λ e' s''=>E e' s'') s') s1x :=
  λ w=>aj w (λ _ _ z=>z) λ _ _ z=>by obtain ⟨_,_,z⟩:=z;exact z.elim
 refine wk (aL (dB jP rfl rfl ?_))
 refine an.at (pD OK (k:=1) (by refine sr esl ?_;rfl)) a (Q:=λ u H'=>u=.int told/\H'=H) ⟨rfl,rfl⟩ λ x v s2x H2x r2x a2x T2 q2x=>?_
 obtain ⟨rfl,rfl⟩:=q2x
 refine aa ?_
 show aF _ _ _ (do let ov <- holding [x] (eval (.Name n0 p0) K.env);standAt ap.atName;holding [x,ov] (setAttr ov (nm 0) x);release [x,ov] []) _ _ _
 refine Gj (pD OK (k:=0) (by refine sr esl ?_;rfl)) a2x (Q:=λ u H'=>u=.ref e/\H'=H2x) ⟨rfl,rfl⟩ λ y u s3x H3 r3x a3 T3 q3x=>?_
 obtain ⟨rfl,rfl⟩:=q3x
 refine r3x.ref1 ?_
 have g3x:=T3.get (T2.get (k1x _ _ ge) hH) hH
 have XX:=K.S.X.keeps a3.R.base
 have I:InstAt s3x.heap e {cls:=.ref (K.S.ca 0),data:=.fields vs} (K.S.ca 0) none:=⟨g3x,rfl,rfl,trivial⟩
 have hnf:∀ env∈K.fs,∀ L,env.frame=some L->L∉[e]:=λ env m L q hm=>by
  refine sf (FunFrames.mem a3.R.frames env m) λ L' o q' uz1 gL nf=>?_
  rw [q] at q';(injection q' with q';subst q')
  rw [GP hm,g3x] at gL
  (injection gL with gL;subst gL);exact nf vs rfl
 refine aa (ag (aa (ai (ah (set_plain XX I X.sa (vT (s:={s3x with toks:=s3x.toks+1}) XX g3x X.over X.told λ h' n kw gx gd=>?_))))))
 revert gd
 refine r2x.int1 λ t2x gd=>?_
 have R4x:aI K.S K.fs H3 {s3x with heap:=h',toks:=s3x.toks+1+1}:=a3.R.local_out (W:=[e]) (λ b m=>by refine sr (GP m) ?_;exact ⟨hH,hb⟩) kw hnf _
 have fin:aF β K.M K.A (pure Flow.next) (λ f s'=>match f with
   | .next=>aF β K.M K.A (execs [] K.env) (λ fl s'=>Z (match fl with | .ret v=>v|_=>.none) s') (kz K H3 s.heap λ _=>False) s'
   | fl=>Z (match fl with | .ret v=>v|_=>.none) s') (kz K H3 s.heap λ _=>False) {s3x with heap:=h',toks:=s3x.toks+1+1}:=by
  refine ae (ae (h _ (efs▸R4x).pop (λ b o n g hHb=>?_) ⟨_,gx⟩ ?_))
  .exact kw b o (by simpa using n) (T3.get (T2.get (k1x b o g) hHb) hHb)
  .exact ⟨s3x.heap.objs.size,vs,_,_,t2x,n,gx,hb,(Array.getElem?_eq_some_iff.mp hv).1,Ne.symm (ne_of_lt (Heap.lt_size g3x)),⟨#[],gd⟩,hv⟩
 exact cZ fin
theorem er {l:List Value} (h:dR l=true):l.contains (.type "Exception")=true/\l.contains (.type "BaseException")=true/\l.contains (.type "AttributeError")=false/\l.contains (.type "NameError")=false :=
 gO (P:=λ l=>l.contains (.type "Exception")=true/\l.contains (.type "BaseException")=true/\l.contains (.type "AttributeError")=false/\l.contains (.type "NameError")=false)
  ⟨by decide +kernel,by decide +kernel,by decide +kernel,by decide +kernel⟩ (λ c r h=>⟨kH h.1,kH h.2.1,kW rfl h.2.2.1,kW rfl h.2.2.2⟩) h
noncomputable def Dk (e:Data)(k:ClassData->Bool):Bool:=if q:e.ctorIdx=8 then Data.cls.elim (motive:=λ _=>Bool) e q k else false
@[elab_as_elim] theorem AJ {C:Data->Prop} {e:Data} {k} (h:Dk e k=true) (f:∀ c,k c=true->C (.cls c)):C e :=
 if q:e.ctorIdx=8 then Data.cls.elim (motive:=λ e=>Dk e k=true->C e) e q f h else absurd ((dif_neg q).symm.trans h) nofun
noncomputable abbrev AT (o:Obj)(i:Nat):Option Value:=o.slots.toList.getD i none
noncomputable def mW (K:Frag) (C:Addr):Bool:=(K.lookup C).any λ o=>(decide (o.cls=.type "type")&&decide (o.slots.toList=[AT o 0,AT o 1,AT o 2,AT o 3,some (.builtin "Exception.__new__"),AT o 5])) &&
 Dk o.data λ cd=>(cd.hasDict&&!cd.hasDel)&&(decide (cd.mro=.ref C::cd.mro.tail)&&dR cd.mro.tail)
inductive nU (K:Frag) (C:Addr):Prop
 | mk (nm q:Str) (N:Addr) (bs bm:List Value) (sn:List Str) (sub:List Value) (ab:Bool) (col:Option Bool) (dd:Option Addr) (k0 k1 k2 k3 k5:Option Value) (h:K.lookup C=some (excClassObj nm q C N bs bm true sn sub ab col dd k0 k1 k2 k3 k5 "Exception.__new__")) (m:dR bm=true)
theorem zY:∀ {o:Obj} {x:Value} {y:Data} {z:List (Option Value)},o.cls=x->o.data=y->o.slots.toList=z->o=⟨x,o.dict,y,⟨z⟩⟩
 | ⟨_,_,_,⟨_⟩⟩,_,_,_,rfl,rfl,rfl=>rfl
theorem Aq:∀ {c:ClassData} {v:List Value},c.hasDict=true->c.hasDel=false->c.mro=v->c={name:=c.name,bases:=c.bases,mro:=v,ns:=c.ns,qualname:=c.qualname,hasDict:=true,slotNames:=c.slotNames,subclasses:=c.subclasses,abstract:=c.abstract,collection:=c.collection}
 | ⟨_,_,_,_,_,_,_,_,_,_,_⟩,_,rfl,rfl,rfl=>rfl
theorem eD {K:Frag}{C:Addr}(e:mW K C=true):nU K C :=
 let ⟨o,ho,e⟩:=(Option.any_eq_true _ _).mp e
 have aT:=(Bool.and_eq_true _ _).mp e
 have e1:=(Bool.and_eq_true _ _).mp aT.1
 AJ (C:=λ dt=>o.data=dt->nU K C) aT.2 (λ cd h hd =>
  have h12:=(Bool.and_eq_true _ _).mp h
  have h1:=(Bool.and_eq_true _ _).mp h12.1
  have h2:=(Bool.and_eq_true _ _).mp h12.2
  .mk _ _ _ _ _ _ _ _ _ _ _ _ _ _ _ (ho.trans (congrArg some (zY (GL e1.1) (hd.trans (congrArg Data.cls (Aq h1.1 ((Bool.not_eq_true' _).mp h1.2) (GL h2.1)))) (GL e1.2)))) h2.2) rfl
end Internal
end
section
open PySem PySem.W PySem.Calls
namespace Internal
section
variable {prog:Program}{w:World}{M:Model}{A:Around}{R:Result->Shared->Prop}{E:Value->Shared->Prop}{h:Heap}{g:Array GenState}{d:Drawn}{t:Nat}{os:OsState}
variable {nm q:Str}{C N:Addr}{bs bm:List Value}{hdct:Bool}{sn:List Str}{sub:List Value}{ab:Bool}{col:Option Bool}{dd:Option Addr}{k0 k1 k2 k3 k5:Option Value}
theorem lK (hm:dR bm=true) {rest:List Value} {Q:Unit->Shared->Prop} (hC:h.get? C=some (excClassObj nm q C N bs bm hdct sn sub ab col dd k0 k1 k2 k3 k5 "Exception.__new__"))
  (hq:Q () ⟨h,g,d,t,os⟩):wpAny M A (checkBuiltinCall "Exception.__new__" ⟨.ref C::rest,[]⟩) Q E ⟨h,g,d,t,os⟩:=by
 have F:=PySem.F.excBase_Exception
 have hcont:(Value.ref C::bm).contains (.type "Exception")=true:=by exact sr (contains_cons ..) (sr ((er hm).1 ..) (sr (Bool.or_true ..) rfl))
 have hk:=F.newKind
 have hs:=F.newSplit
 have hr:=F.newRow
 unfold checkBuiltinCall
 generalize builtinKind "Exception.__new__"=k at hk ⊢
 generalize splitId "Exception.__new__"=sp at hs ⊢
 generalize Manifest.signature? "Exception.__new__"=sg at hr ⊢
 subst hk hs hr
 repeat (first|refine wpAny_loadPart_at hC ?_|(refine wpAny_isSubtype_exc hC ?_;refine sr hcont ?_)|refine wpAny_staticBase_exc hC ?_|refine wpAny_madeBy_exc hC ?_|wp_step|simp only [bne_self_eq_false,Bool.false_eq_true,if_false])
 exact hq
theorem vW (hm:dR bm=true) {rest:List Value} (hC:h.get? C=some (excClassObj nm q C N bs bm hdct sn sub ab col dd k0 k1 k2 k3 k5 "Exception.__new__"))
  (hq:R (.ok (.ret (.ref (h.objs.size+1)))) ⟨(h.push {cls:=.type "tuple", data:=.seq rest.toArray}).push
   {cls:=.ref C,data:=.fields #[.ref h.objs.size,.none,.none,.none,.bool false,.none]},g,d,t,os⟩) (hrest:rest.length<=sizeLine:=by size_fits) :
  codeAny (model prog w) A (.builtin "Exception.__new__" ⟨.ref C::rest,[]⟩) R ⟨h,g,d,t,os⟩:=by
 have F:=PySem.F.excBase_Exception
 have hends:=F.ends
 obtain ⟨m1,m2,m3,m4⟩:=er hm
 have hcB:(Value.ref C::bm).contains (.type "Exception")=true:=by exact sr (contains_cons ..) (sr (m1 ..) (sr (Bool.or_true ..) rfl))
 have hcA:(Value.ref C::bm).contains (.type "AttributeError")=false:=by refine sr contains_cons (sr m3 ?_);rfl
 have hcN:(Value.ref C::bm).contains (.type "NameError")=false:=by refine sr contains_cons (sr m4 ?_);rfl
 refine codeAny_builtinAt F.entry (wpAt_bind (wpAt_bind (wpAt_stack λ p below=>wpAt_of_wpAny ?_)))
 wp_walk
 refine wpAt_of_wpAny (sr F.owner ?_)
 repeat (first|with_reducible refine wpAny_madeHere_exc F.canon hC ?_|with_reducible refine wpAny_loadPart_at hC ?_|(with_reducible refine wpAny_isSubtype_exc hC ?_;first|rewrite [hcB]|rewrite [hcA]|rewrite [hcN])|wp_step)
 show R _ _
 exact sr (Heap.size_push ..) hq
end
theorem sX {β:Bool}{prog:Program}{w:World}{A:Around}{Q:Value->Shared->Prop}{E:Value->Shared->Prop}{s:Shared}{F:Frag}{C fI:Addr}{rest:List Value}(X:F.In s.heap)(hm:mW F C=true)
  (hi:findIn F (.ref C) "__init__"=some (some (.ref fI))) (hf:typeIn F (.ref fI)=some (.type "function")) (hl:rest.length<=sizeLine)
  (hq:∀ h' e,Heap.MadeExcOf s.heap h' e (.ref C) rest->aF β (model prog w) (A.under (.builtin "type.__call__" ⟨.ref C::rest,[]⟩)) (call (.ref fI) (.ref e::rest)) (λ r s'=>r=.none/\Q (.ref e) s') E {s with heap:=h'}) :
  aF β (model prog w) A (call (.ref C) rest) Q E s:=by
 obtain ⟨nm,q,N,bs,bm,sn,sub,ab,col,dd,k0,k1,k2,k3,k5,hK,hbm⟩:=eD hm
 obtain ⟨h,g,d,t,os⟩:=s
 have hC:=X _ _ hK
 have hi':=looks_findIn (M:=model prog w) X hi
 have made:Looks (model prog w) h (Bind.madeBy (.ref C)) (some "Exception.__new__"):=λ A Q E s k q=>by
  obtain ⟨h',g',d',t',os'⟩:=s
  exact wpAny_madeBy_exc (k _ _ hC) q
 have hmr:Looks (model prog w) h (mroOf (.ref C)) (.ref C::bm):=λ A Q E s k q=>by
  obtain ⟨h',g',d',t',os'⟩:=s
  exact wpAny_mroOf_exc (k _ _ hC) q
 have self:Looks (model prog w) h (isSubtype (.ref C) (.ref C)) true:=λ A Q E s k q=>by
  obtain ⟨h',g',d',t',os'⟩:=s
  refine wpAny_isSubtype_exc (k _ _ hC) ?_
  refine sr contains_cons ?_;simpa using q
 have cll:Looks (model prog w) h (specialOf (.ref C) "__call__") (some (.builtin "type.__call__")):=by
  have t1:Looks (model prog w) h (typeOf (.ref C)) (.type "type"):=(Looks.ld hC).andThen .now
  exact t1.andThen (Looks.of_pure tc_lookup)
 refine fx (aR rfl (aa (ah (wpAny_load hC (aS cll (aa (ae (aa (ae (ae (a:=Fin.again (.call (.builtin "type.__call__") ⟨.ref C::rest,[]⟩)) (And.intro rfl (bP (iw (by decide +kernel)) (Code.quiet_builtin _ (by decide +kernel)) entry_typeCall (wpAny_check_type_call_sub hC (aS hmr (aS made ?_)))))))))))))))
 refine aa (ae (aa (ai (ah (wpAny_call (codeAny_call_builtin_code (Code.quiet_builtin _ PySem.F.excBase_Exception.quiet) (lK hbm hC (vW hbm hC ?_ hl))))))))
 have k:∀ b o,h.get? b=some o->((h.push {cls:=.type "tuple", data:=.seq rest.toArray}).push {cls:=.ref C,data:=.fields #[.ref h.objs.size,.none,.none,.none,.bool false,.none]}).get? b=some o:=λ b o e=>Heap.get?_push_of_some _ (Heap.get?_push_of_some _ e)
 have hx:((h.push {cls:=.type "tuple", data:=.seq rest.toArray}).push {cls:=.ref C,data:=.fields #[.ref h.objs.size,.none,.none,.none,.bool false,.none]}).get? (h.objs.size+1)=some {cls:=.ref C,data:=.fields #[.ref h.objs.size,.none,.none,.none,.bool false,.none]}:=by heap_get
 have t1:Looks (model prog w) ((h.push {cls:=.type "tuple", data:=.seq rest.toArray}).push {cls:=.ref C,data:=.fields #[.ref h.objs.size,.none,.none,.none,.bool false,.none]}) (typeOf (.ref (h.objs.size+1))) (.ref C):=(Looks.ld hx).andThen .now
 have s1:Looks (model prog w) ((h.push {cls:=.type "tuple", data:=.seq rest.toArray}).push {cls:=.ref C,data:=.fields #[.ref h.objs.size,.none,.none,.none,.bool false,.none]}) (isInstance (.ref (h.objs.size+1)) (.ref C)) true:=t1.andThen (self.keeps k)
 refine aS s1 (aa (ai (aS (a:=some (.ref fI)) (t1.andThen (hi'.keeps k)) (ai (aS (bind_fn (X.keeps k) _ hf) (aa (aj (hq _ (h.objs.size+1) ⟨k,Heap.get?_none_of_le (le_succ _),h.objs.size,hx,Heap.get?_none_of_le (le_refl _),?_⟩) (λ v s' z=>?_) λ _ _ z=>z)))))))
 .exact Heap.get?_push_of_some _ (Heap.get?_push_at rfl rfl)
 .obtain ⟨rfl,z⟩:=z
  exact ae (ae z)
section
variable {M:Model}{A:Around}{E:Value->Shared->Prop}{env:Env}{s:Shared}
variable {nm q:Str}{C N:Addr}{bs bm:List Value}{hdct:Bool}{sn:List Str}{sub:List Value}{ab:Bool}{col:Option Bool}{dd:Option Addr}{k0 k1 k2 k3 k5:Option Value}{newId:String}
theorem pB {β:Bool}{x:Sem Value}{Q:Flow->Shared->Prop}(hm:dR bm=true)(hh:A.handled=none)
  (h:aF β M A x (λ v s1x=>∃ e t d,v=.ref e/\s1x.heap.get? C=some (excClassObj nm q C N bs bm hdct sn sub ab col dd k0 k1 k2 k3 k5 newId) /\
   s1x.heap.get? e=some {cls:=.ref C,dict:=some d,data:=.fields #[.ref t,.none,.none,.none,.bool false,.none]}/\E (.ref e) s1x) E s) :
  aF β M A (raiseStmt env (some x) none) Q E s:=by
 have hcB:(Value.ref C::bm).contains (.type "BaseException")=true:=by exact sr (contains_cons ..) (sr ((er hm).2.1 ..) (sr (Bool.or_true ..) rfl))
 refine aa (aj h (λ v s1x h1x=>ah (bc λ zz=>?_)) λ _ _ x=>x)
 refine Cv h1x λ e t d ez1 hC he hE=>?_;subst ez1
 obtain ⟨hp,g,d',tk,os⟩:=s1x
 refine zz ?_
 repeat (first|with_reducible refine wpAny_loadPart_at he ?_|with_reducible refine wpAny_loadPart_at hC ?_|(with_reducible refine wpAny_isSubtype_exc hC ?_;refine sr hcB ?_)|wp_step)
 exact wpAny_raiseNew_none hh hE
end
end Internal
end
section
open PySem PySem.W PySem.Calls PyProof.Rows
namespace Internal
structure jO (S:Sx):Prop extends ExcOk S where
 cls:mW S.K (S.ca 0)=true
 init:findIn S.K (.ref (S.ca 0)) "__init__"=some (some (.ref (S.fa 0)))
 fn:typeIn S.K (.ref (S.fa 0))=some (.type "function")
 keep:keepIn S.K (.ref (S.ca 0))=true
 body:∃ fd n0 n1 p0 p1 ap pos,nW S 0 fd [.Assign [.Attribute (.Name n0 p0) (nm 0) ap] (.Name n1 p1) pos] [n0,n1]/\n0≠n1/\∀ nm∈[n0,n1],(nm==("__debug__" : Str))=false
section
variable {K:Kt}{β:Bool}{X:Int->Prop}
@[elab_as_elim] theorem cO.int1 {C:List Value->Prop} {i:Int} {xs:List Value} (r:cO [.int i] xs) (k:∀ t,C [.int i t]):C xs :=
 r.on1 (K:=λ v=>v=.int i) rfl λ v x r e=>VR.onI (K:=λ j=>j=i) r (by refine sr e ?_;rfl) λ j t e=>e▸k t
theorem vt (O:a7 K)(RO:jO K.S)(hk:0<K.k){id:Str}{p0 cpos pos:Pos}{args:List Expr}{rest:List Stmt}{PE:Ls->AH->(List V->AH->Prop)->Prop}
  (hp:(backTo cpos (starEach args K.env)).any (·.1)=false) (hx:K.env.kindOf id=some .globalImplicit) (hd:(id==("__debug__" : Str))=false) (hm:K.S.mg id=some (.ref (K.S.ca 0)))
  (he:∀ ls,fc K β X (spliced (backTo cpos (starEach args K.env))) ls (PE ls)) :
  fj K β X (.Raise (some (.Call (.Name id p0) args [] cpos)) none pos::rest) λ ls H _ _=>PE ls H λ vs _=>∃ i,vs=[.int i]/\X i:=λ H0 h0x ls s H N Rr hb a p=>by
 refine aL (bc λ zz=>?_)
 obtain ⟨nm,q,N',bs,bm,sn,sub,ab,col,dd,k0,k1,k2,k3,k5,hK,hbm⟩:=eD RO.cls
 refine zz (aa (ag (pB (C:=K.S.ca 0) (nm:=nm) (q:=q) (N:=N') (bs:=bs) (bm:=bm) (hdct:=true) (sn:=sn) (sub:=sub) (ab:=ab) (col:=col) (dd:=dd) (k0:=k0) (k1:=k1) (k2:=k2) (k3:=k3) (k5:=k5) (newId:="Exception.__new__") hbm O.room.1 ?_)))
 generalize excClassObj nm q (K.S.ca 0) N' bs bm true sn sub ab col dd k0 k1 k2 k3 k5 "Exception.__new__"=ob at hK ⊢
 clear hbm
 refine aa (aa (ah (gm O a.R hx hd hm (dy hp (aj (he ls s H _ a.R a.L p) (λ xs s1x z=>bc λ zz=>?_) λ _ _ z=>z.body a.T)))))
 obtain ⟨vs,H1,r,R1x,T1,i,rfl,hX⟩:=z
 refine zz ?_
 have XX:=K.S.X.keeps R1x.base
 refine ⟨g8 XX RO.keep,(r.int1 λ tk=>?_)⟩
 obtain ⟨k',hk'⟩:∃ k',K.k=k'+1:=⟨K.k-1,by lia⟩
 refine bc λ zz=>FJ RO.body λ fd n0 n1 q0 q1 ap ps F hne hdb=>zz ?_
 refine sX (F:=K.S.K) XX RO.cls RO.init RO.fn (by refine sr sizeLine_eq ?_;simp) λ h' e hmd=>?_
 refine bc λ zz=>nT hmd.there λ t ge uz1 uz2=>zz ?_
 have R2x:=R1x.grow hmd.keeps
 have hH:=R1x.none_of_fresh hmd.new
 have hb':=R1x.base_none hmd.new
 have hroom:=lu.under (args:=⟨.ref (K.S.ca 0)::[.int i tk],[]⟩) O.room rfl
 rw [hk'] at hroom
 refine v6 (H:=H1) (fs:=K.fs) RO.toExcOk F hne hdb hroom (by
  show pushEnvs (Code.builtin "type.__call__" ⟨.ref (K.S.ca 0)::[.int i tk],[]⟩).envs K.A.frames=some K.fs
  refine sr O.frames ?_;rfl) R2x ge hH hb' rfl λ s2x R3x kp ⟨d,gd⟩ ex=>?_
 refine ⟨rfl,(aa (ag (ae ⟨e,t,d,rfl,R3x.base _ _ (K.S.X _ _ hK),gd,?_⟩)))⟩
 .refine ⟨i,⟨⟨e,none,rfl,ex,.inl rfl⟩,R3x.base,R3x.frames,λ b m n g=>(bc λ zz=>?_),R3x.gens,R3x.os⟩,hX⟩
  obtain ⟨g1x,n1x⟩:=(a.T.trans T1).ns n g
  refine ug g1x λ o es ep go dd' r'=>zz ⟨o,es,ep,kp b o (λ q=>?_) (hmd.keeps _ _ go) n1x,dd',r'⟩
  rw [q,hmd.new] at go;contradiction
end
noncomputable def l0 (e:Expr)(k:BoolOp->(List Expr)->Pos->Bool):Bool:=if q:e.ctorIdx=0 then Expr.BoolOp.elim (motive_1:=λ _=>Bool) e q k else false
@[elab_as_elim] theorem jL {C:Expr->Prop} {e:Expr} {k} (h:l0 e k=true) (f:∀ y0 y1 y2,k y0 y1 y2=true->C (.BoolOp y0 y1 y2)):C e :=
 if q:e.ctorIdx=0 then Expr.BoolOp.elim (motive_1:=λ e=>l0 e k=true->C e) e q f h else absurd ((dif_neg q).symm.trans h) nofun
noncomputable def wy (e:Expr)(k:Expr->Operator->Expr->Pos->Bool):Bool:=if q:e.ctorIdx=2 then Expr.BinOp.elim (motive_1:=λ _=>Bool) e q k else false
@[elab_as_elim] theorem uc {C:Expr->Prop} {e:Expr} {k} (h:wy e k=true) (f:∀ y0 y1 y2 y3,k y0 y1 y2 y3=true->C (.BinOp y0 y1 y2 y3)):C e :=
 if q:e.ctorIdx=2 then Expr.BinOp.elim (motive_1:=λ e=>wy e k=true->C e) e q f h else absurd ((dif_neg q).symm.trans h) nofun
noncomputable def Aj (e:Expr)(k:UnaryOp->Expr->Pos->Bool):Bool:=if q:e.ctorIdx=3 then Expr.UnaryOp.elim (motive_1:=λ _=>Bool) e q k else false
@[elab_as_elim] theorem qD {C:Expr->Prop} {e:Expr} {k} (h:Aj e k=true) (f:∀ y0 y1 y2,k y0 y1 y2=true->C (.UnaryOp y0 y1 y2)):C e :=
 if q:e.ctorIdx=3 then Expr.UnaryOp.elim (motive_1:=λ e=>Aj e k=true->C e) e q f h else absurd ((dif_neg q).symm.trans h) nofun
noncomputable def Cp (e:Expr)(k:Expr->Expr->Expr->Pos->Bool):Bool:=if q:e.ctorIdx=5 then Expr.IfExp.elim (motive_1:=λ _=>Bool) e q k else false
@[elab_as_elim] theorem xf {C:Expr->Prop} {e:Expr} {k} (h:Cp e k=true) (f:∀ y0 y1 y2 y3,k y0 y1 y2 y3=true->C (.IfExp y0 y1 y2 y3)):C e :=
 if q:e.ctorIdx=5 then Expr.IfExp.elim (motive_1:=λ e=>Cp e k=true->C e) e q f h else absurd ((dif_neg q).symm.trans h) nofun
noncomputable def rc (e:Expr)(k:(List (Option Expr))->(List Expr)->Pos->Bool):Bool:=if q:e.ctorIdx=6 then Expr.Dict.elim (motive_1:=λ _=>Bool) e q k else false
@[elab_as_elim] theorem qS {C:Expr->Prop} {e:Expr} {k} (h:rc e k=true) (f:∀ y0 y1 y2,k y0 y1 y2=true->C (.Dict y0 y1 y2)):C e :=
 if q:e.ctorIdx=6 then Expr.Dict.elim (motive_1:=λ e=>rc e k=true->C e) e q f h else absurd ((dif_neg q).symm.trans h) nofun
noncomputable def mN (e:Expr)(k:Expr->(List Comprehension)->Scope->Pos->Bool):Bool:=if q:e.ctorIdx=8 then Expr.ListComp.elim (motive_1:=λ _=>Bool) e q k else false
@[elab_as_elim] theorem ot {C:Expr->Prop} {e:Expr} {k} (h:mN e k=true) (f:∀ y0 y1 y2 y3,k y0 y1 y2 y3=true->C (.ListComp y0 y1 y2 y3)):C e :=
 if q:e.ctorIdx=8 then Expr.ListComp.elim (motive_1:=λ e=>mN e k=true->C e) e q f h else absurd ((dif_neg q).symm.trans h) nofun
noncomputable def iY (e:Expr)(k:Expr->(List CmpOp)->(List Expr)->Pos->Bool):Bool:=if q:e.ctorIdx=15 then Expr.Compare.elim (motive_1:=λ _=>Bool) e q k else false
@[elab_as_elim] theorem dG {C:Expr->Prop} {e:Expr} {k} (h:iY e k=true) (f:∀ y0 y1 y2 y3,k y0 y1 y2 y3=true->C (.Compare y0 y1 y2 y3)):C e :=
 if q:e.ctorIdx=15 then Expr.Compare.elim (motive_1:=λ e=>iY e k=true->C e) e q f h else absurd ((dif_neg q).symm.trans h) nofun
noncomputable def ku (e:Expr)(k:Expr->(List Expr)->(List Keyword)->Pos->Bool):Bool:=if q:e.ctorIdx=16 then Expr.Call.elim (motive_1:=λ _=>Bool) e q k else false
@[elab_as_elim] theorem ij {C:Expr->Prop} {e:Expr} {k} (h:ku e k=true) (f:∀ y0 y1 y2 y3,k y0 y1 y2 y3=true->C (.Call y0 y1 y2 y3)):C e :=
 if q:e.ctorIdx=16 then Expr.Call.elim (motive_1:=λ e=>ku e k=true->C e) e q f h else absurd ((dif_neg q).symm.trans h) nofun
noncomputable def cH (e:Expr)(k:Const->Nat->Pos->Bool):Bool:=if q:e.ctorIdx=19 then Expr.Constant.elim (motive_1:=λ _=>Bool) e q k else false
@[elab_as_elim] theorem bN {C:Expr->Prop} {e:Expr} {k} (h:cH e k=true) (f:∀ y0 y1 y2,k y0 y1 y2=true->C (.Constant y0 y1 y2)):C e :=
 if q:e.ctorIdx=19 then Expr.Constant.elim (motive_1:=λ e=>cH e k=true->C e) e q f h else absurd ((dif_neg q).symm.trans h) nofun
noncomputable def il (e:Expr)(k:Expr->Str->Pos->Bool):Bool:=if q:e.ctorIdx=20 then Expr.Attribute.elim (motive_1:=λ _=>Bool) e q k else false
@[elab_as_elim] theorem eN {C:Expr->Prop} {e:Expr} {k} (h:il e k=true) (f:∀ y0 y1 y2,k y0 y1 y2=true->C (.Attribute y0 y1 y2)):C e :=
 if q:e.ctorIdx=20 then Expr.Attribute.elim (motive_1:=λ e=>il e k=true->C e) e q f h else absurd ((dif_neg q).symm.trans h) nofun
noncomputable def pT (e:Expr)(k:Expr->Expr->Pos->Bool):Bool:=if q:e.ctorIdx=21 then Expr.Subscript.elim (motive_1:=λ _=>Bool) e q k else false
@[elab_as_elim] theorem jU {C:Expr->Prop} {e:Expr} {k} (h:pT e k=true) (f:∀ y0 y1 y2,k y0 y1 y2=true->C (.Subscript y0 y1 y2)):C e :=
 if q:e.ctorIdx=21 then Expr.Subscript.elim (motive_1:=λ e=>pT e k=true->C e) e q f h else absurd ((dif_neg q).symm.trans h) nofun
noncomputable def ci (e:Expr)(k:Str->Pos->Bool):Bool:=if q:e.ctorIdx=23 then Expr.Name.elim (motive_1:=λ _=>Bool) e q k else false
@[elab_as_elim] theorem bk {C:Expr->Prop} {e:Expr} {k} (h:ci e k=true) (f:∀ y0 y1,k y0 y1=true->C (.Name y0 y1)):C e :=
 if q:e.ctorIdx=23 then Expr.Name.elim (motive_1:=λ e=>ci e k=true->C e) e q f h else absurd ((dif_neg q).symm.trans h) nofun
noncomputable def pi (e:Expr)(k:(List Expr)->Pos->Bool):Bool:=if q:e.ctorIdx=24 then Expr.List.elim (motive_1:=λ _=>Bool) e q k else false
@[elab_as_elim] theorem ni {C:Expr->Prop} {e:Expr} {k} (h:pi e k=true) (f:∀ y0 y1,k y0 y1=true->C (.List y0 y1)):C e :=
 if q:e.ctorIdx=24 then Expr.List.elim (motive_1:=λ e=>pi e k=true->C e) e q f h else absurd ((dif_neg q).symm.trans h) nofun
noncomputable def lm (e:Expr)(k:(List Expr)->Nat->Pos->Bool):Bool:=if q:e.ctorIdx=25 then Expr.Tuple.elim (motive_1:=λ _=>Bool) e q k else false
@[elab_as_elim] theorem fO {C:Expr->Prop} {e:Expr} {k} (h:lm e k=true) (f:∀ y0 y1 y2,k y0 y1 y2=true->C (.Tuple y0 y1 y2)):C e :=
 if q:e.ctorIdx=25 then Expr.Tuple.elim (motive_1:=λ e=>lm e k=true->C e) e q f h else absurd ((dif_neg q).symm.trans h) nofun
noncomputable def kT (e:Expr)(k:(Option Expr)->(Option Expr)->(Option Expr)->Pos->Bool):Bool:=if q:e.ctorIdx=26 then Expr.Slice.elim (motive_1:=λ _=>Bool) e q k else false
@[elab_as_elim] theorem kl {C:Expr->Prop} {e:Expr} {k} (h:kT e k=true) (f:∀ y0 y1 y2 y3,k y0 y1 y2 y3=true->C (.Slice y0 y1 y2 y3)):C e :=
 if q:e.ctorIdx=26 then Expr.Slice.elim (motive_1:=λ e=>kT e k=true->C e) e q f h else absurd ((dif_neg q).symm.trans h) nofun
noncomputable def rZ (e:PySem.Stmt)(k:(Option Expr)->Pos->Bool):Bool:=if q:e.ctorIdx=3 then PySem.Stmt.Return.elim (motive_2:=λ _=>Bool) e q k else false
@[elab_as_elim] theorem mV {C:PySem.Stmt->Prop} {e:PySem.Stmt} {k} (h:rZ e k=true) (f:∀ y0 y1,k y0 y1=true->C (.Return y0 y1)):C e :=
 if q:e.ctorIdx=3 then PySem.Stmt.Return.elim (motive_2:=λ e=>rZ e k=true->C e) e q f h else absurd ((dif_neg q).symm.trans h) nofun
noncomputable def o6 (e:PySem.Stmt)(k:(List Expr)->Expr->Pos->Bool):Bool:=if q:e.ctorIdx=5 then PySem.Stmt.Assign.elim (motive_2:=λ _=>Bool) e q k else false
@[elab_as_elim] theorem i6 {C:PySem.Stmt->Prop} {e:PySem.Stmt} {k} (h:o6 e k=true) (f:∀ y0 y1 y2,k y0 y1 y2=true->C (.Assign y0 y1 y2)):C e :=
 if q:e.ctorIdx=5 then PySem.Stmt.Assign.elim (motive_2:=λ e=>o6 e k=true->C e) e q f h else absurd ((dif_neg q).symm.trans h) nofun
noncomputable def yy (e:PySem.Stmt)(k:Expr->Expr->(List Stmt)->(List Stmt)->Pos->Bool):Bool:=if q:e.ctorIdx=9 then PySem.Stmt.For.elim (motive_2:=λ _=>Bool) e q k else false
@[elab_as_elim] theorem zA {C:PySem.Stmt->Prop} {e:PySem.Stmt} {k} (h:yy e k=true) (f:∀ y0 y1 y2 y3 y4,k y0 y1 y2 y3 y4=true->C (.For y0 y1 y2 y3 y4)):C e :=
 if q:e.ctorIdx=9 then PySem.Stmt.For.elim (motive_2:=λ e=>yy e k=true->C e) e q f h else absurd ((dif_neg q).symm.trans h) nofun
noncomputable def qc (e:PySem.Stmt)(k:Expr->(List Stmt)->(List Stmt)->Pos->Bool):Bool:=if q:e.ctorIdx=11 then PySem.Stmt.While.elim (motive_2:=λ _=>Bool) e q k else false
@[elab_as_elim] theorem sY {C:PySem.Stmt->Prop} {e:PySem.Stmt} {k} (h:qc e k=true) (f:∀ y0 y1 y2 y3,k y0 y1 y2 y3=true->C (.While y0 y1 y2 y3)):C e :=
 if q:e.ctorIdx=11 then PySem.Stmt.While.elim (motive_2:=λ e=>qc e k=true->C e) e q f h else absurd ((dif_neg q).symm.trans h) nofun
noncomputable def zp (e:PySem.Stmt)(k:Expr->(List Stmt)->(List Stmt)->Pos->Bool):Bool:=if q:e.ctorIdx=12 then PySem.Stmt.If.elim (motive_2:=λ _=>Bool) e q k else false
@[elab_as_elim] theorem yz {C:PySem.Stmt->Prop} {e:PySem.Stmt} {k} (h:zp e k=true) (f:∀ y0 y1 y2 y3,k y0 y1 y2 y3=true->C (.If y0 y1 y2 y3)):C e :=
 if q:e.ctorIdx=12 then PySem.Stmt.If.elim (motive_2:=λ e=>zp e k=true->C e) e q f h else absurd ((dif_neg q).symm.trans h) nofun
noncomputable def qq (e:PySem.Stmt)(k:(Option Expr)->(Option Expr)->Pos->Bool):Bool:=if q:e.ctorIdx=16 then PySem.Stmt.Raise.elim (motive_2:=λ _=>Bool) e q k else false
@[elab_as_elim] theorem uQ {C:PySem.Stmt->Prop} {e:PySem.Stmt} {k} (h:qq e k=true) (f:∀ y0 y1 y2,k y0 y1 y2=true->C (.Raise y0 y1 y2)):C e :=
 if q:e.ctorIdx=16 then PySem.Stmt.Raise.elim (motive_2:=λ e=>qq e k=true->C e) e q f h else absurd ((dif_neg q).symm.trans h) nofun
noncomputable def Cr (e:PySem.Stmt)(k:Expr->Pos->Bool):Bool:=if q:e.ctorIdx=24 then PySem.Stmt.Expr.elim (motive_2:=λ _=>Bool) e q k else false
@[elab_as_elim] theorem xv {C:PySem.Stmt->Prop} {e:PySem.Stmt} {k} (h:Cr e k=true) (f:∀ y0 y1,k y0 y1=true->C (.Expr y0 y1)):C e :=
 if q:e.ctorIdx=24 then PySem.Stmt.Expr.elim (motive_2:=λ e=>Cr e k=true->C e) e q f h else absurd ((dif_neg q).symm.trans h) nofun
noncomputable def yr (e:PySem.Stmt)(k:(List Stmt)->(List ExceptHandler)->(List Stmt)->(List Stmt)->Pos->Bool):Bool:=if q:e.ctorIdx=17 then PySem.Stmt.Try.elim (motive_2:=λ _=>Bool) e q k else false
@[elab_as_elim] theorem zu {C:PySem.Stmt->Prop} {e:PySem.Stmt} {k} (h:yr e k=true) (f:∀ y0 y1 y2 y3 y4,k y0 y1 y2 y3 y4=true->C (.Try y0 y1 y2 y3 y4)):C e :=
 if q:e.ctorIdx=17 then PySem.Stmt.Try.elim (motive_2:=λ e=>yr e k=true->C e) e q f h else absurd ((dif_neg q).symm.trans h) nofun
noncomputable def zn (e:PySem.Data)(k:FuncData->Bool):Bool:=if q:e.ctorIdx=7 then PySem.Data.func.elim (motive:=λ _=>Bool) e q k else false
@[elab_as_elim] theorem xQ {C:PySem.Data->Prop} {e:PySem.Data} {k} (h:zn e k=true) (f:∀ y0,k y0=true->C (.func y0)):C e :=
 if q:e.ctorIdx=7 then PySem.Data.func.elim (motive:=λ e=>zn e k=true->C e) e q f h else absurd ((dif_neg q).symm.trans h) nofun
noncomputable def yQ (e:PySem.Data)(k:(Array Value)->Nat->Bool):Bool:=if q:e.ctorIdx=2 then PySem.Data.seq.elim (motive:=λ _=>Bool) e q k else false
@[elab_as_elim] theorem zP {C:PySem.Data->Prop} {e:PySem.Data} {k} (h:yQ e k=true) (f:∀ y0 y1,k y0 y1=true->C (.seq y0 y1)):C e :=
 if q:e.ctorIdx=2 then PySem.Data.seq.elim (motive:=λ e=>yQ e k=true->C e) e q f h else absurd ((dif_neg q).symm.trans h) nofun
noncomputable def yw (e:PySem.FuncBody)(k:(List Stmt)->Bool):Bool:=if q:e.ctorIdx=0 then PySem.FuncBody.stmts.elim (motive:=λ _=>Bool) e q k else false
@[elab_as_elim] theorem zG {C:PySem.FuncBody->Prop} {e:PySem.FuncBody} {k} (h:yw e k=true) (f:∀ y0,k y0=true->C (.stmts y0)):C e :=
 if q:e.ctorIdx=0 then PySem.FuncBody.stmts.elim (motive:=λ e=>yw e k=true->C e) e q f h else absurd ((dif_neg q).symm.trans h) nofun
noncomputable def yv (e:PySem.Value)(k:Addr->Bool):Bool:=if q:e.ctorIdx=10 then PySem.Value.ref.elim (motive:=λ _=>Bool) e q k else false
@[elab_as_elim] theorem yf {C:PySem.Value->Prop} {e:PySem.Value} {k} (h:yv e k=true) (f:∀ y0,k y0=true->C (.ref y0)):C e :=
 if q:e.ctorIdx=10 then PySem.Value.ref.elim (motive:=λ e=>yv e k=true->C e) e q f h else absurd ((dif_neg q).symm.trans h) nofun
noncomputable def tI (e:PySem.Value)(k:Int->Tok->Bool):Bool:=if q:e.ctorIdx=4 then PySem.Value.int.elim (motive:=λ _=>Bool) e q k else false
@[elab_as_elim] theorem v8 {C:PySem.Value->Prop} {e:PySem.Value} {k} (h:tI e k=true) (f:∀ y0 y1,k y0 y1=true->C (.int y0 y1)):C e :=
 if q:e.ctorIdx=4 then PySem.Value.int.elim (motive:=λ e=>tI e k=true->C e) e q f h else absurd ((dif_neg q).symm.trans h) nofun
noncomputable def uu (e:PySem.Value)(k:(Array UInt8)->Tok->Bool):Bool:=if q:e.ctorIdx=7 then PySem.Value.bytes.elim (motive:=λ _=>Bool) e q k else false
@[elab_as_elim] theorem vm {C:PySem.Value->Prop} {e:PySem.Value} {k} (h:uu e k=true) (f:∀ y0 y1,k y0 y1=true->C (.bytes y0 y1)):C e :=
 if q:e.ctorIdx=7 then PySem.Value.bytes.elim (motive:=λ e=>uu e k=true->C e) e q f h else absurd ((dif_neg q).symm.trans h) nofun
noncomputable def v1 {α:Type}(l:List α)(k:α->Bool):Bool:=match l with | []=>false|a::r=>r.isEmpty&&k a
noncomputable def v2 {α:Type}(l:List α)(k:α->α->Bool):Bool:=match l with | []=>false|a::r=>v1 r (k a)
noncomputable def vC {α:Type}(l:List α)(k:α->List α->Bool):Bool:=match l with | []=>false|a::r=>k a r
noncomputable def vO {α:Type}(o:Option α)(k:α->Bool):Bool:=match o with|none=>false|some a=>k a
section
variable {α:Type}
@[elab_as_elim] theorem fh {C:List α->Prop} {l:List α} {k} (h:vC l k=true) (f:∀ a r,k a r=true->C (a::r)):C l:=by
 cases l with
 | nil=>cases h
 | cons a r=>exact f a r h
@[elab_as_elim] theorem fP {C:Option α->Prop} {o:Option α} {k} (h:vO o k=true) (f:∀ a,k a=true->C (some a)):C o:=by
 cases o with
 | none=>cases h
 | some a=>exact f a h
@[elab_as_elim] theorem bw {C:List α->Prop} {l:List α} (h:l.isEmpty=true) (f:C []):C l:=by
 cases l with
 | nil=>exact f
 | cons a r=>cases h
@[elab_as_elim] theorem gY {C:Option α->Prop} {o:Option α} (h:o.isNone=true) (f:C none):C o:=by
 cases o with
 | none=>exact f
 | some a=>cases h
theorem Eh {p:Prop}[Decidable p]{C:Prop}(h:decide p=true)(f:p->C):C:=f (GL h)
theorem al {a b:Bool}(h:(a&&b)=true):a=true:=(Bool.and_eq_true_iff.mp h).1
theorem ar {a b:Bool}(h:(a&&b)=true):b=true:=(Bool.and_eq_true_iff.mp h).2
theorem BE {a b:Bool}{C:Prop}(h:(a&&b)=true)(f:a=true->b=true->C):C:=f (Bool.and_eq_true_iff.mp h).1 (Bool.and_eq_true_iff.mp h).2
@[elab_as_elim] theorem cP {C:List α->Prop} {l:List α} {k} (h:v1 l k=true) (f:∀ a,k a=true->C [a]):C l :=
 fh (k:=λ a r=>r.isEmpty&&k a) h λ a r h=>BE h λ h1 h2=>bw h1 (f a h2)
@[elab_as_elim] theorem g7 {C:List α->Prop} {l:List α} {k} (h:v2 l k=true) (f:∀ a b,k a b=true->C [a,b]):C l :=
 fh (k:=λ a r=>v1 r (k a)) h λ a r h=>cP (C:=λ r=>C (a::r)) h λ b h=>f a b h
@[elab_as_elim] theorem bG {C:α->Prop} {x y:α} [Decidable (x=y)] (h:decide (x=y)=true) (f:C y):C x:=GL h▸f
end
structure Cx where
 slots:List Str
 names:List (Str×NameKind)
 β:Bool
noncomputable def Cx.kd (c:Cx)(n:Str):Option NameKind:=c.names.lookup n
noncomputable def Cx.gl (c:Cx) (n:Str):Bool:=decide (c.kd n=some .globalImplicit)&&!(n==("__debug__" : Str))
noncomputable def Cx.loc (c:Cx)(k:Nat)(n:Str):Bool:=decide (c.slots[k]?=some n)&&decide (c.kd n=some .local)
noncomputable def xF:List (Nat×String):=[(1, "param_is_digit"),(2, "param_number"),(13, "tparm_program"),(14, "param_figures"),(15, "param_padded"),(16, "param_written"),(22, "param_quotient"),(23, "param_two"),(24, "param_compared"),
 (33, "expand"),(34, "_law_signs"),(35, "_law_writers"),(36, "_law_ends"),(37, "_law_deck"),(38, "_law_draw"),(39, "_law_test"),(40, "_law_piece"),(41, "_law_pieces"),(42, "_law_reckoned"),(43, "_law_figures"),(44, "_law_out"),
 (45, "_law_large"),(46, "_law_pop"),(47, "_law_done"),(48, "_law_branch"),(49, "_law_octets"),(50, "law")]
noncomputable def xd:List (Nat×Nat×String):=[(1,3, "ParmReader"),(2,17, "ParamStack"),(3,25, "ParamRun")]
noncomputable def xr:List (Nat×Nat×String):=[(1,4, "refuse"),(1,5, "end_text"),(1,6, "put"),(1,7, "program"),(1,8, "read_one"),(1,9, "read_named"),(1,10, "read_constant"),(1,11, "read_branch"),(1,12, "read_writer"),
 (2,18, "push"),(2,19, "pop"),(2,20, "pop_number"),(2,21, "pop_octets"),(3,26, "param"),(3,27, "variables"),(3,28, "make_more"),(3,29, "write"),(3,30, "do"),(3,31, "reckon"),(3,32, "run")]
noncomputable def xK:List (Nat×String):=[(0, "PERCENT"),(1, "WORD"),(2, "NUL_SHOWN"),(3, "TWO_OPERATORS"),(4, "ONE_OPERATORS"),(5, "WRITERS"),(6, "DIGITS")]
noncomputable def j6:BI->String
 | .len | .lenL | .lenB=>"len"
 | .abs=>"abs" | .min=>"min" | .int=>"int" | .str=>"str" | .chr=>"chr" | .ord=>"ord"
 | .bytesL | .bytesB _=>"bytes"
 | .barr=>"bytearray" | .list=>"list" | .isInt | .isBytes=>"isinstance"
noncomputable def kF:BI->String
 | .isInt=>"int" | _=>"bytes"
noncomputable def BJ (f:Nat)(n:Str):Bool:=xF.any λ p=>decide (p.1=f)&&decide (Str.ofString p.2=n)
noncomputable def Bc (c f:Nat)(n:Str):Bool:=xd.any λ p=>decide (p.1=c)&&(decide (p.2.1=f)&&decide (Str.ofString p.2.2=n))
noncomputable def Ap (c f:Nat)(n:Str):Bool:=xr.any λ p=>decide (p.1=c)&&(decide (p.2.1=f)&&decide (Str.ofString p.2.2=n))
noncomputable def Bu (k:Nat)(n:Str):Bool:=xK.any λ p=>decide (p.1=k)&&decide (Str.ofString p.2=n)
noncomputable def tC (e:Expr):Bool:=decide (e.ctorIdx=22)
noncomputable def a8 (l:List Expr):Bool:=l.all λ e=>!tC e
theorem cS {e:Expr}{r:List Expr}{env:Env}(h:a8 [e]=true):starEach (e::r) env=(false,eval e env)::starEach r env:=by
 cases e<;>first|rfl|contradiction
theorem cJ {pos:Pos}{env:Env}:∀ {l:List Expr},a8 l=true->(backTo pos (starEach l env)).any (·.1)=false
 | [],_=>rfl
 | e::r,h=>by
  refine sr (cS (by show (!tC e&&true)=true;rw [Bool.and_true];exact (Bool.and_eq_true_iff.mp h).1)) ?_
  exact cJ (l:=r) (Bool.and_eq_true_iff.mp h).2
noncomputable def jm (e:Expr):Bool:=!(e.ctorIdx==3||e.ctorIdx==0||e.ctorIdx==5||e.ctorIdx==15)
noncomputable def dT (e:Expr):Bool:=!(e.ctorIdx==7)
noncomputable def jS (e:Expr):Bool:=!(e.ctorIdx==26)
structure EW (e:Expr):Prop where
 test:jm e=true->∀ env,isTrue e env (eval e env)=(do let v <- eval e env;standAt e.pos;holding [v] (PySem.truthy v))
 set:dT e=true->∀ env x,foldedSetIterable e env x=pure x
 sub:jS e=true->∀ x y,subscripted e false x y=operate [x,y] (getItem x y)
 marks:dT e=true->∀ op,behindInMarks op e=false
theorem ord (e:Expr):EW e:=by
 cases e<;>exact ⟨by first|exact λ h=>Bool.noConfusion h|exact λ _ _=>rfl,by first|exact λ h=>Bool.noConfusion h|exact λ _ _ _=>rfl,by first|exact λ h=>Bool.noConfusion h|exact λ _ _ _=>rfl,by first|exact λ h=>Bool.noConfusion h|exact λ _ _=>rfl⟩
theorem vI {a:Expr}{env:Env}(h:jm a=true):isTrue a env (eval a env)=(do let v <- eval a env;standAt a.pos;holding [v] (PySem.truthy v)):=(ord a).test h env
theorem pQ {e:Expr}{env:Env}(h:dT e=true)(x:Value):foldedSetIterable e env x=pure x:=(ord e).set h env x
theorem yk {i:Expr}(h:jS i=true)(x y:Value):subscripted i false x y=operate [x,y] (getItem x y):=(ord i).sub h x y
theorem iH {op:CmpOp}{e:Expr}(h:dT e=true):behindInMarks op e=false:=(ord e).marks h op
noncomputable def im (c:Cx)(sc:Scope):Cx:=⟨sc.names.map (·.1),sc.names.map λ (n,k)=>if (k==.free&&ScopeKind.function==.function&&c.kd n==some .cell) then (n,.cell) else (n,k),false⟩
noncomputable def uF (c:Cx)(sc:Scope)(n:Nat)(caps:List (Nat×Nat)):Bool :=
 decide (sc.kind=.function)&&(sc.names.all λ x=>!(decide (x.2=.local))||decide (sc.names.lookup x.1=some .local))&&(sc.names.all λ x=>!(decide (x.2=.cell)))&&decide (sc.names.map (·.1)).Nodup &&
 ((sc.names.map (·.1)).all λ nm=>!(nm==("__debug__" : Str)))&&decide (sc.names.length=n)&&(sc.names.all λ x=>!(decide (x.2=.free))||decide (c.kd x.1=some .cell)) &&
 caps.all λ io=>vO c.slots[io.2]? λ nm=>decide ((sc.names.map (·.1))[io.1]?=some nm)&&decide (c.kd nm=some .cell)&&decide ((im c sc).kd nm=some .cell)&&decide ((nm,NameKind.free)∈sc.names)
noncomputable def BK (c:Cx)(k:Nat)(e:Expr):Bool:=ci e λ n _=>c.loc k n
noncomputable def EA (c:Cx)(x y:Nat)(e:Expr):Bool:=lm e λ es _ _=>v2 es λ a b=>BK c x a&&BK c y b
noncomputable def CX (c:Cx)(tg:Tg)(e:Expr):Bool:=match tg with
 | .one k=>BK c k e
 | .two x y=>EA c x y e
 | .three k x y=>lm e λ es _ _=>v2 es λ a b=>BK c k a&&EA c x y b
noncomputable def Do (src:Src)(e:Expr):Bool:=(ci e (λ _ _=>true)&&match src with | .enum=>false|_=>true)||(lm e (λ _ _ _=>true)&&match src with | .enum=>true | .list=>true|_=>false)
noncomputable def um:List (List Nat)->List (Option Expr)->Bool
 | [],r=>r.isEmpty
 | k::ks,r=>vC r λ o r=>vO o (λ e=>cH e λ c _ _=>decide (c=.str (aY k)))&&um ks r
noncomputable def E6 (k:List Keyword):Bool:=k.isEmpty
noncomputable def Ak (c:Cx)(e:Expr)(k:Str->List Expr->Bool):Bool:=ku e λ f xs kw _=>kw.isEmpty&&ci f λ n _=>c.gl n&&k n xs
noncomputable def lU:BI->Bool
 | .isInt=>true | .isBytes=>true|_=>false
noncomputable def nv:BI->Bool
 | .barr=>true|_=>false
noncomputable def w9:Src->Bool
 | .range=>true|_=>false
noncomputable def B6:Src->Bool
 | .enum=>true|_=>false
noncomputable def Bt:BM->Bool
 | .bappend=>true | .bextend=>true|_=>false
noncomputable def zh (c:Cx)(src:Src)(e:Expr)(k:Expr->Bool):Bool :=
 match w9 src||B6 src with
 | true=>Ak c e λ n xs=>decide (n=Str.ofString (match w9 src with|true=>"range" | false=>"enumerate"))&&v1 xs λ y=>a8 [y]&&k y
 | false=>k e
noncomputable def Fb:Es->(E->Bool)->Bool
 | .nil,_=>false
 | .cons a r,k=>match r with | .nil=>k a | .cons ..=>false
mutual
noncomputable def cE (c:Cx):E->Expr->Bool
 | .none,e=>cH e λ x _ _=>decide (x=.none)
 | .bool b,e=>cH e λ x _ _=>decide (x=.bool b)
 | .int i,e=>cH e λ x _ _=>decide (x=.int i)
 | .str l,e=>cH e λ x _ _=>decide (x=.str (aY l))
 | .bytes l,e=>cH e λ x _ _=>decide (x=.bytes (l.map toUInt8))&&decide (l=(l.map toUInt8).map UInt8.toNat)
 | .var k,e=>ci e λ n _=>decide (c.slots[k]?=some n)
 | .glb k,e=>ci e λ n _=>c.gl n&&Bu k n
 | .bin op a b,e=>wy e λ x o y _=>decide (o=op.op)&&(cE c a x&&cE c b y)
 | .cmp op a b,e=>iY e λ x o y _=>decide (o=[op.op])&&v1 y λ y=>dT y&&(cE c a x&&cE c b y)
 | .isN a,e=>iY e λ x o y _=>decide (o=[.Is])&&v1 y λ y=>cH y (λ z _ _=>decide (z=.none))&&cE c a x
 | .notN a,e=>iY e λ x o y _=>decide (o=[.IsNot])&&v1 y λ y=>cH y (λ z _ _=>decide (z=.none))&&cE c a x
 | .neg a,e=>Aj e λ o x _=>decide (o=.USub)&&cE c a x
 | .inv a,e=>Aj e λ o x _=>decide (o=.Invert)&&cE c a x
 | .and a b,e=>l0 e λ o xs _=>decide (o=.And)&&v2 xs λ x y=>cE c a x&&cE c b y
 | .or a b,e=>l0 e λ o xs _=>decide (o=.Or)&&v2 xs λ x y=>cE c a x&&cE c b y
 | .ite t a b,e=>Cp e λ z x y _=>cT c t z&&(cE c a x&&cE c b y)
 | .attr a k,e=>il e λ x m _=>ci x (λ _ _=>true)&&(decide (k<12)&&decide (m=nm k))&&cE c a x
 | .sub a i,e=>pT e λ x y _=>jS y&&(cE c a x&&cE c i y)
 | .slc a lo hi,e=>pT e λ x y _=>kT y λ l h s _=>s.isNone&&vO l λ l=>vO h λ h=>cE c a x&&(cE c lo l&&cE c hi h)
 | .slcTo a hi,e=>pT e λ x y _=>kT y λ l h s _=>l.isNone&&s.isNone&&vO h λ h=>cE c a x&&cE c hi h
 | .rev a,e=>pT e λ x y _=>kT y λ l h s _=>l.isNone&&h.isNone&&vO s λ s=>Aj s λ o z _=>decide (o=.USub)&&cH z (λ w _ _=>decide (w=.int 1))&&cE c a x
 | .tup es,e=>lm e λ xs _ _=>a8 xs&&cEs c es xs
 | .lst es,e=>pi e λ xs _=>a8 xs&&cEs c es xs
 | .dct ks es,e=>rc e λ keys xs _=>um ks keys&&(decide (0<xs.length)&&decide (xs.length<=15)&&decide (ks.length=xs.length))&&cEs c es xs
 | .empI,e=>rc e λ keys xs _=>keys.isEmpty&&xs.isEmpty
 | .call f es,e=>Ak c e λ n xs=>BJ f n&&a8 xs&&cEs c es xs
 | .meth k f o es,e=>ku e λ g xs kw p=>kw.isEmpty&&il g λ x m ap=>iq k&&Ap k f m&&(decide (ap.endLine=p.line)&&dz x)&&(decide (xs.length<30)&&a8 xs)&&(cE c o x&&cEs c es xs)
 | .mk k f es,e=>Ak c e λ n xs=>Bc k f n&&a8 xs&&cEs c es xs
 | .bi b es,e=>Ak c e λ n xs=>decide (n=Str.ofString (j6 b))&&match lU b with
   | true=>v2 xs λ x t=>ci t (λ tn _=>c.gl tn&&decide (tn=Str.ofString (kF b)))&&a8 [x]&&cEs c es [x]
   | false=>(!nv b||c.β)&&a8 xs&&cEs c es xs
 | .bm b o es,e=>ku e λ g xs kw p=>kw.isEmpty&&il g λ x m ap=>decide (m=pK b)&&((!Bt b||c.β)&&decide (ap.endLine=p.line)&&dz x)&&(decide (xs.length<30)&&a8 xs)&&(cE c o x&&cEs c es xs)
 | .comp src tg n caps elt it,e=>mN e λ x gs sc _=>v1 gs λ g=>g.ifs.isEmpty&&decide (g.is_async=0)&&(uF c sc n caps&&(CX (im c sc) tg g.target&&Do src g.target&&dT g.iter)&&cE (im c sc) elt x&&zh c src g.iter λ y=>cE {c with β:=false} it y)
noncomputable def cT (c:Cx):T->Expr->Bool
 | .not t,e=>Aj e λ o x _=>decide (o=.Not)&&cT c t x
 | .and a b,e=>l0 e λ o xs _=>decide (o=.And)&&v2 xs λ x y=>cT c a x&&cT c b y
 | .or a b,e=>l0 e λ o xs _=>decide (o=.Or)&&v2 xs λ x y=>cT c a x&&cT c b y
 | .ite t a b,e=>Cp e λ z x y _=>cT c t z&&(cT c a x&&cT c b y)
 | .cmp op a b,e=>iY e λ x o y _=>decide (o=[op.op])&&v1 y λ y=>dT y&&(cE c a x&&cE c b y)
 | .chain a o b p d,e=>iY e λ x o' y _=>decide (o'=[o.op,p.op])&&v2 y λ y z=>dT z&&(cE c a x&&(cE c b y&&cE c d z))
 | .isN a,e=>iY e λ x o y _=>decide (o=[.Is])&&v1 y λ y=>cH y (λ z _ _=>decide (z=.none))&&cE c a x
 | .notN a,e=>iY e λ x o y _=>decide (o=[.IsNot])&&v1 y λ y=>cH y (λ z _ _=>decide (z=.none))&&cE c a x
 | .eqNil a,e=>iY e λ x o y _=>decide (o=[.Eq])&&v1 y λ y=>pi y (λ l _=>l.isEmpty)&&cE c a x
 | .neNil a,e=>iY e λ x o y _=>decide (o=[.NotEq])&&v1 y λ y=>pi y (λ l _=>l.isEmpty)&&cE c a x
 | .neInts a b,e=>iY e λ x o y _=>decide (o=[.NotEq])&&v1 y λ y=>dT y&&(cE c a x&&cE c b y)
 | .val a,e=>jm e&&cE c a e
noncomputable def cEs (c:Cx):Es->List Expr->Bool
 | .nil,xs=>xs.isEmpty
 | .cons e r,xs=>vC xs λ x ys=>cE c e x&&cEs c r ys
end
theorem zl {K:Kt} {β:Bool} {X:Int->Prop} {ls:Ls} {pos:Pos} {ao:AO} (ho:∀ S,OR S ao {cls:=.type "dict", data:=.dict #[]}) :
  an K β X (eval (.Dict [] [] pos) K.env) ls λ H Q=>∀ c,H c=none->Q (.ref c) (H.set c ao):=λ s H Q R L p=>by
 show aF _ _ _ (do standAt pos;newDict) _ _ s
 refine aa (ag (ah (wpAny_newObj_type (PV.made R (Tr.refl _ _) (ho _) rfl p s.toks) ?_)))
 dsimp only [sizeOk];first|exact zero_le _|trivial|decide
structure xl (S:Sx):Prop where
 fn:∀ f n,BJ f n=true->S.mg n=some (.ref (S.fa f))/\keepIn S.K (.ref (S.fa f))=true
 cl:∀ c f n,Bc c f n=true->S.mg n=some (.ref (S.ca c))/\keepIn S.K (.ref (S.ca c))=true/\makesIn S.K (S.ca c)=true/\findIn S.K (.ref (S.ca c)) "__init__"=some (some (.ref (S.fa f)))/\typeIn S.K (.ref (S.fa f))=some (.type "function")
 me:∀ c f n,Ap c f n=true->findIn S.K (.ref (S.ca c)) n=some (some (.ref (S.fa f)))/\typeIn S.K (.ref (S.fa f))=some (.type "function")/\keepIn S.K (.ref (S.fa f))=true/\(List.range 12).all (λ k=>!(nm k==n))=true
 gl:∀ k n,Bu k n=true->∃ x,S.mg n=some x/\VR (j2 k) x
 bi:∀ b,S.mg (Str.ofString (j6 b))=none/\S.mb (Str.ofString (j6 b))=some (o9 b)
 ty:∀ b,(b=.isInt\/b=.isBytes)->S.mg (Str.ofString (kF b))=none/\S.mb (Str.ofString (kF b))=some (uR b)
 rng:S.mg (Str.ofString "range")=none/\S.mb (Str.ofString "range")=some (.type "range")
 enm:S.mg (Str.ofString "enumerate")=none/\S.mb (Str.ofString "enumerate")=some (.type "enumerate")
structure Ok (c:Cx) (K:Kt) (β:Bool):Prop where
 O:a7 K
 SO:nq K.S
 TO:xl K.S
 sl:K.slots=c.slots
 kd:∀ n,K.env.kindOf n=c.kd n
 ce:jM K
 bt:c.β=true->β=true
theorem Ok.low {c K β}(o:Ok c K β):Ok {c with β:=false} K false:=⟨o.O,o.SO,o.TO,o.sl,o.kd,o.ce,λ h=>by contradiction⟩
theorem Ok.gl {c K β} (o:Ok c K β) {n:Str} (h:c.gl n=true):K.env.kindOf n=some .globalImplicit/\(n==("__debug__" : Str))=false:=by
 dsimp only [Cx.gl] at h
 simp only [Bool.and_eq_true,decide_eq_true_eq,Bool.not_eq_true'] at h
 exact ⟨(o.kd n).trans h.1,h.2⟩
theorem Ok.loc {c K β}(o:Ok c K β){k:Nat}{n:Str}(h:c.loc k n=true):K.slots[k]?=some n/\K.env.kindOf n=some .local:=by
 dsimp only [Cx.loc] at h
 simp only [Bool.and_eq_true,decide_eq_true_eq] at h
 exact ⟨by refine sr o.sl ?_;exact h.1,(o.kd n).trans h.2⟩
noncomputable def gF (cells:List (Str×Addr)):List (Str×NameKind)->List (Str×Addr)->List (Str×Addr)
 | [],acc=>acc
 | (n,k)::r,acc=>gF cells r (if k==.free then (match cells.lookup n with|some a=>(n,a)::acc|none=>acc) else acc)
theorem kZ {env:Env}:∀ {names:List (Str×NameKind)} (acc:List (Str×Addr)),(∀ x∈names,x.2=.free->(env.cells.lookup x.1).isSome=true) ->
  (forIn names acc λ x r=>(do
   if x.2==.free then
    let a <- cellOf env x.1
    pure (ForInStep.yield ((x.1,a)::r))
   else pure (ForInStep.yield r):Sem _))=pure (gF env.cells names acc)
 | [],acc,h=>rfl
 | (n,k)::r,acc,h=>by
  refine sr (forIn_cons ..) ?_
  dsimp only [gF]
  induction hk:(k==NameKind.free) with
  | false =>
   simp only [hk,Bool.false_eq_true,if_false,pure_bind]
   exact kZ acc λ x m=>h x (mem_cons_of_mem _ m)
  | true =>
   obtain ⟨a,e⟩:=Option.isSome_iff_exists.mp (h _ mem_cons_self (by simpa using hk))
   simp only [cellOf,e,if_true,pure_bind]
   exact kZ _ λ x m=>h x (mem_cons_of_mem _ m)
set_option tactic.hygienic true in
theorem mt {cells:List (Str×Addr)}:∀ {names:List (Str×NameKind)} {acc:List (Str×Addr)} {n:Str},acc.lookup n=cells.lookup n->(gF cells names acc).lookup n=cells.lookup n
 | [],acc,n,h=>h
 | (m,k)::r,acc,n,h=>by
  dsimp only [gF]
  refine mt ?_
  split
  .split
   .rename_i a e
    refine sr lookup_cons ?_
    split
    .rename_i q;exact sr (eq_of_beq q) (sr e rfl)
    .exact h
   .exact h
  .exact h
theorem jh {cells:List (Str×Addr)}:∀ {names:List (Str×NameKind)} {acc:List (Str×Addr)} {n:Str},(n,NameKind.free)∈names->(cells.lookup n).isSome=true->(gF cells names acc).lookup n=cells.lookup n
 | [],acc,n,h,_=>by contradiction
 | (m,k)::r,acc,n,h,hs=>by
  rcases mem_cons.mp h with e|h
  ·(injection e with e e';subst e e')
   dsimp only [gF]
   refine mt ?_
   obtain ⟨a,e⟩:=Option.isSome_iff_exists.mp hs
   refine sr (if_pos (by decide)) (sr e ?_)
   simp [lookup_cons]
  .dsimp only [gF]
   exact jh h hs
theorem dD {c:Cx}{K:Kt}{β:Bool}(o:Ok c K β)(sc:Scope)(cl:List (Str×Addr))(C:Addr)(n:Str):(compEnvC sc cl C K.env).kindOf n=(im c sc).kd n:=by
 show (relabel sc K.env).names.lookup n=List.lookup n (im c sc).names
 dsimp only [relabel,im]
 simp only [o.O.kind,o.kd]
set_option tactic.hygienic true in
theorem rD {c:Cx}{sc:Scope}(h0:∀ x∈sc.names,x.2≠.cell){n:Str}(h:(im c sc).kd n=some .cell):(n,NameKind.free)∈sc.names/\c.kd n=some .cell:=by
 have m:=mem_of_lookup (show List.lookup n (im c sc).names=some .cell from h)
 dsimp only [im] at m
 refine aT (mem_map.mp m) λ uz1 m1 e=>?_;obtain ⟨n',k⟩:=uz1
 dsimp only at e
 split at e
 .rename_i q
  simp only [Bool.and_eq_true,beq_iff_eq] at q
  obtain ⟨⟨rfl,_⟩,q⟩:=q
  (injection e with e;subst e)
  exact ⟨m1,q⟩
 ·(injection e with e e';subst e e')
  exact absurd rfl (h0 _ m1)
theorem Ok.comp {c:Cx}{K:Kt}{β:Bool}(o:Ok c K β){sc:Scope}{n:Nat}{caps:List (Nat×Nat)}(h:uF c sc n caps=true) :
  ∃ cl,eG K sc cl (im c sc).slots n caps/\∀ C,K.S.h0x.get? C=none->Ok (im c sc) (sd K sc cl (im c sc).slots C) false:=by
 dsimp only [uF] at h
 simp only [Bool.and_eq_true,decide_eq_true_eq,all_eq_true,Bool.or_eq_true,Bool.not_eq_true',decide_eq_false_iff_not] at h
 refine bc λ zz=>?_
 obtain ⟨⟨⟨⟨⟨⟨⟨h1,h2⟩,h3⟩,h4⟩,h5⟩,h6⟩,h7⟩,h8⟩:=h
 refine zz ?_
 have hfree:∀ x∈sc.names,x.2=.free->(K.env.cells.lookup x.1).isSome=true:=λ x m e=>by
  rcases h7 x m with q|q
  .exact absurd e q
  .exact o.ce _ ((o.kd _).trans q)
 have CO:eG K sc (gF K.env.cells sc.names []) (im c sc).slots n caps:=by
  refine ⟨?_,h1,λ x m e=>?_,h3,h4,h5,by show (sc.names.map (·.1)).length=n;refine sr (length_map ..) ?_;exact h6,λ io m=>?_⟩
  .dsimp only [closureFor]
   have:=kZ (env:=K.env) (names:=sc.names) [] hfree
   simp only [bind_pure]
   exact this
  .rcases h2 x m with q|q
   .exact absurd e q
   .exact q
  .have q:=h8 io m
   refine sr o.sl (fP q λ nm' q=>?_)
   have hk:=(o.kd nm').trans (GL (ar (al (al q))))
   exact ⟨nm',GL (al (al (al q))),rfl,hk,(dD o sc _ 0 nm').trans (GL (ar (al q))),jh (GL (ar q)) (o.ce _ hk)⟩
 refine ⟨_,CO,λ C hC=>⟨CO.ok o.O hC,o.SO,o.TO,rfl,λ n=>dD o sc _ C n,λ n e=>?_,λ q=>by contradiction⟩⟩
 have e:(im c sc).kd n=some .cell:=(dD o sc _ C n).symm.trans e
 obtain ⟨m1,m2⟩:=rD h3 e
 show ((gF K.env.cells sc.names []).lookup n).isSome=true
 have:=o.ce n ((o.kd n).trans m2)
 exact sr (jh m1 this) this
theorem sy {c:Cx}{K:Kt}(sl:K.slots=c.slots)(kd:∀ n,K.env.kindOf n=c.kd n){k:Nat}{n:Str}(h:c.loc k n=true):K.slots[k]?=some n/\K.env.kindOf n=some .local:=by
 obtain ⟨h1,h2⟩:=Bool.and_eq_true_iff.mp h
 exact ⟨by refine sr sl ?_;exact GL h1,(kd n).trans (GL h2)⟩
theorem mq {c:Cx}{K:Kt}{C:Expr->Prop}(sl:K.slots=c.slots)(kd:∀ n,K.env.kindOf n=c.kd n){k:Nat}{e:Expr}(h:BK c k e=true)(f:∀ n p,K.slots[k]?=some n->K.env.kindOf n=some .local->C (.Name n p)):C e :=
 bk h λ n p h=>f n p (sy sl kd h).1 (sy sl kd h).2
theorem qi {c:Cx}{K:Kt}(sl:K.slots=c.slots)(kd:∀ n,K.env.kindOf n=c.kd n){tg:Tg}{e:Expr}(h:CX c tg e=true):dH K tg e:=by
 induction tg with
 | one k =>
  exact mq (C:=dH K (.one k)) sl kd h λ n p a b=>.one a b
 | two x y =>
  exact fO (C:=dH K (.two x y)) h λ es i p h=>g7 (C:=λ es=>dH K (.two x y) (.Tuple es i p)) h λ a b h =>
   mq (C:=λ a=>dH K (.two x y) (.Tuple [a,b] i p)) sl kd (al h) λ n q g1 g2=>mq (C:=λ b=>dH K (.two x y) (.Tuple [_,b] i p)) sl kd (ar h) λ m r g3 g4=>.two g1 g3 g2 g4
 | three k x y =>
  exact fO (C:=dH K (.three k x y)) h λ es i p h=>g7 (C:=λ es=>dH K (.three k x y) (.Tuple es i p)) h λ a b h =>
   mq (C:=λ a=>dH K (.three k x y) (.Tuple [a,b] i p)) sl kd (al h) λ n q g1 g2=>fO (C:=λ b=>dH K (.three k x y) (.Tuple [_,b] i p)) (ar h) λ es j p' h =>
   g7 (C:=λ es=>dH K (.three k x y) (.Tuple [_,.Tuple es j p'] i p)) h λ a b h=>mq (C:=λ a=>dH K (.three k x y) (.Tuple [_,.Tuple [a,b] j p'] i p)) sl kd (al h) λ n q g3 g4 =>
   mq (C:=λ b=>dH K (.three k x y) (.Tuple [_,.Tuple [_,b] j p'] i p)) sl kd (ar h) λ m r g5 g6=>.three g1 g2 g3 g5 g4 g6
theorem p6 {src:Src}{te:Expr}(h:Do src te=true):(∃ nm p,te=.Name nm p)/\src≠.enum\/(∃ es k p,te=.Tuple es k p)/\(src=.list\/src=.enum):=by
 rcases Bool.or_eq_true_iff.mp h with h|h
 .exact .inl ⟨bk (al h) λ n p _=>⟨n,p,rfl⟩,λ q=>by subst q;exact Bool.noConfusion (ar h)⟩
 .refine .inr ⟨fO (al h) λ n k p _=>⟨n,k,p,rfl⟩,?_⟩
  have h:=ar h
  cases src<;>first|exact .inl rfl|exact .inr rfl|contradiction
noncomputable abbrev iF (K:Kt)(β:Bool)(X:Int->Prop):Cw:=⟨af K.S K.k,β,X⟩
theorem Bz {x:Expr}{n:Str}{p:Pos}{env:Env}(h:a8 [x]=true):starEach [x,.Name n p] env=[(false,eval x env),(false,eval (.Name n p) env)]:=cS (r:=[.Name n p]) h
theorem vP {x:Expr}{r:List Expr}(h:a8 (x::r)=true):a8 [x]=true:=(Bool.and_true _).trans (al h)
theorem zH {b:BI}(h:lU b=true):b=.isInt\/b=.isBytes:=by cases b<;>first|exact .inl rfl|exact .inr rfl|contradiction
theorem Ci {b:BI}(h:nv b=false):b≠.barr:=by rintro rfl;contradiction
section
variable {c:Cx}{K:Kt}{β:Bool}{X:Int->Prop}{ls:Ls}
theorem kS {C:Expr->Prop} {e:Expr} {k} (o:Ok c K β) (h:Ak c e k=true) (f:∀ n p xs q,K.env.kindOf n=some .globalImplicit->(n==("__debug__" : Str))=false->k n xs=true->C (.Call (.Name n p) xs [] q)):C e :=
 ij h λ g xs kw q h=>bw (C:=λ kw=>C (.Call g xs kw q)) (al h) (bk (C:=λ g=>C (.Call g xs [] q)) (ar h) λ n p h=>f n p xs q (o.gl (al h)).1 (o.gl (al h)).2 (ar h))
theorem nw {src:Src}{k}{P:AH->(V->AH->Prop)->Prop}(o:Ok c K β){e:Expr}(h:zh c src e k=true)(hk:∀ y,k y=true->an K β X (eval y K.env) ls P):iG K β X src (eval e K.env) ls P:=by
 induction src with
 | range =>
  exact kS (C:=λ e=>iG K β X .range (eval e K.env) ls P) o h λ n p xs q g1 g2 h=>bG (C:=λ n=>K.env.kindOf n=some .globalImplicit->(n==("__debug__" : Str))=false->iG K β X .range (eval (.Call (.Name n p) xs [] q) K.env) ls P) (al h)
   (λ g1 g2=>cP (C:=λ xs=>iG K β X .range (eval (.Call (.Name _ p) xs [] q) K.env) ls P) (ar h) λ y h=>uO o.O g1 g2 o.TO.rng.1 o.TO.rng.2 (cS (al h)) (hk y (ar h))) g1 g2
 | enum =>
  exact kS (C:=λ e=>iG K β X .enum (eval e K.env) ls P) o h λ n p xs q g1 g2 h=>bG (C:=λ n=>K.env.kindOf n=some .globalImplicit->(n==("__debug__" : Str))=false->iG K β X .enum (eval (.Call (.Name n p) xs [] q) K.env) ls P) (al h)
   (λ g1 g2=>cP (C:=λ xs=>iG K β X .enum (eval (.Call (.Name _ p) xs [] q) K.env) ls P) (ar h) λ y h=>u5 o.O g1 g2 o.TO.enm.1 o.TO.enm.2 (cS (al h)) (hk y (ar h))) g1 g2
 | list=>exact k7 (.inl rfl) (hk e h)
 | str=>exact k7 (.inr (.inl rfl)) (hk e h)
 | bytes=>exact k7 (.inr (.inr rfl)) (hk e h)
noncomputable abbrev DG (K:Kt)(β:Bool)(X:Int->Prop)(ls:Ls)(pos:Pos)(ir:Es)(ks:List (List Nat))(keys:List (Option Expr))(es:List Expr):Prop :=
  ∃ prs:List (Sem Value×Sem Value),(evalEachOpt keys K.env).zip ((evalEach es K.env).map λ v=>do let x <- v;standAt pos;pure x)=prs.map (λ p=>(some p.1,p.2))/\prs.length=es.length /\
   uK K β X (evalPairs prs) ks ls λ H Q=>xes ir (iF K β X) ls H Q
noncomputable abbrev EG (K:Kt)(β:Bool)(X:Int->Prop)(ls:Ls)(P:AH->(V->AH->Prop)->Prop)(e:Expr):Prop:=an K β X (eval e K.env) ls P
noncomputable abbrev TG (K:Kt)(β:Bool)(X:Int->Prop)(ls:Ls)(P:AH->(Bool->AH->Prop)->Prop)(e:Expr):Prop:=cv K β X (isTrue e K.env (eval e K.env)) ls P
noncomputable abbrev SG (K:Kt)(β:Bool)(X:Int->Prop)(ls:Ls)(P:AH->(List V->AH->Prop)->Prop)(pos:Pos)(es:List Expr):Prop:=fc K β X (spliced (backTo pos (starEach es K.env))) ls P
theorem vi {b:BI} {a:E} {r:Es} {n:Str} {p q:Pos} {xs:List Expr} (o:Ok c K β) (g1:K.env.kindOf n=some .globalImplicit) (g2:(n==("__debug__" : Str))=false) (hn:decide (n=Str.ofString (j6 b))=true)
  (h:(match lU b with
   | true=>v2 xs λ x t=>ci t (λ tn _=>c.gl tn&&decide (tn=Str.ofString (kF b)))&&a8 [x]&&cEs c (.cons a r) [x]
   | false=>(!nv b||c.β)&&a8 xs&&cEs c (.cons a r) xs)=true)
  (ha:∀ y,cE c a y=true->EG K β X ls (λ H Q=>xe a (iF K β X) ls H Q) y) (hes:cEs c (.cons a r) xs=true->a8 xs=true->SG K β X ls (λ H Q=>xes (.cons a r) (iF K β X) ls H Q) q xs) :
  EG K β X ls (λ H Q=>xe (.bi b (.cons a r)) (iF K β X) ls H Q) (.Call (.Name n p) xs [] q):=by
 obtain rfl:=GL hn
 induction hb:lU b with
 | false =>
  rw [hb] at h
  exact xm o.O (cJ (ar (al h))) g1 g2 (o.TO.bi b).1 (o.TO.bi b).2 (λ q=>by subst q;exact o.bt (al (al h))) (by rintro rfl;cases hb) (by rintro rfl;contradiction) (hes (ar h) (ar (al h)))
 | true =>
  rw [hb] at h
  refine g7 (C:=λ xs=>EG K β X ls _ (.Call (.Name _ p) xs [] q)) h λ x t h=>bk (C:=λ t=>EG K β X ls _ (.Call (.Name _ p) [x,t] [] q)) (al (al h)) λ tn p1 g=>?_
  cases r with
  | cons _ _=>exact Bool.noConfusion (ar (ar h))
  | nil =>
   obtain rfl:=GL (ar g)
   have hi:=zH hb
   exact xV (b:=b) o.O hi g1 g2 (o.TO.bi b).1 ((o.TO.bi b).2.trans (by rcases hi with rfl|rfl<;>rfl)) (o.gl (al g)).1 (o.gl (al g)).2 (o.TO.ty b hi).1 (o.TO.ty b hi).2 (Bz (ar (al h))) (ha x (al (ar h)))
theorem sR {b:BI} {n:Str} {p q:Pos} {xs:List Expr} (o:Ok c K β) (g1:K.env.kindOf n=some .globalImplicit) (g2:(n==("__debug__" : Str))=false) (hn:decide (n=Str.ofString (j6 b))=true)
  (h:(match lU b with
   | true=>v2 xs λ x t=>ci t (λ tn _=>c.gl tn&&decide (tn=Str.ofString (kF b)))&&a8 [x]&&cEs c .nil [x]
   | false=>(!nv b||c.β)&&a8 xs&&cEs c .nil xs)=true)
  (hes:cEs c .nil xs=true->a8 xs=true->SG K β X ls (λ H Q=>xes .nil (iF K β X) ls H Q) q xs) :
  EG K β X ls (λ H Q=>xe (.bi b .nil) (iF K β X) ls H Q) (.Call (.Name n p) xs [] q):=by
 obtain rfl:=GL hn
 induction hb:lU b with
 | false =>
  rw [hb] at h
  exact xm o.O (cJ (ar (al h))) g1 g2 (o.TO.bi b).1 (o.TO.bi b).2 (λ q=>by subst q;exact o.bt (al (al h))) (by rintro rfl;cases hb) (by rintro rfl;contradiction) (hes (ar h) (ar (al h)))
 | true =>
  rw [hb] at h
  exact g7 (C:=λ xs=>EG K β X ls _ (.Call (.Name _ p) xs [] q)) h λ x t h=>Bool.noConfusion (ar h)
end
mutual
theorem sE:∀ (ir:E) (c:Cx) (e:Expr) (K:Kt) (β:Bool) (X:Int->Prop) (ls:Ls),cE c ir e=true->Ok c K β->EG K β X ls (λ H Q=>xe ir (iF K β X) ls H Q) e
 | .none,c,e,K,β,X,ls,h,o=>bN h λ x k p h=>bG (C:=λ x=>EG K β X ls _ (.Constant x k p)) h vA
 | .bool b,c,e,K,β,X,ls,h,o=>bN h λ x k p h=>bG (C:=λ x=>EG K β X ls _ (.Constant x k p)) h vx
 | .int b,c,e,K,β,X,ls,h,o=>bN h λ x k p h=>bG (C:=λ x=>EG K β X ls _ (.Constant x k p)) h zy
 | .str b,c,e,K,β,X,ls,h,o=>bN h λ x k p h=>bG (C:=λ x=>EG K β X ls _ (.Constant x k p)) h (yX rfl)
 | .bytes b,c,e,K,β,X,ls,h,o=>bN h λ x k p h=>bG (C:=λ x=>EG K β X ls _ (.Constant x k p)) (al h) (tG (GL (ar h)))
 | .var k,c,e,K,β,X,ls,h,o=>bk h λ n p h=>pD o.O (by refine sr o.sl ?_;exact GL h)
 | .glb k,c,e,K,β,X,ls,h,o=>bk h λ n p h=>(o.TO.gl _ _ (ar h)).elim λ x g=>yU o.O (o.gl (al h)).1 (o.gl (al h)).2 g.1 g.2
 | .bin op a b,c,e,K,β,X,ls,h,o=>uc h λ x o' y p h=>bG (C:=λ o'=>EG K β X ls _ (.BinOp x o' y p)) (al h) (uo (sE a _ _ _ _ _ _ (al (ar h)) o) (sE b _ _ _ _ _ _ (ar (ar h)) o))
 | .cmp op a b,c,e,K,β,X,ls,h,o=>dG h λ x o' y p h=>bG (C:=λ o'=>EG K β X ls _ (.Compare x o' y p)) (al h) (cP (C:=λ y=>EG K β X ls _ (.Compare x _ y p)) (ar h) λ y h =>
   yO o.O (sE a _ _ _ _ _ _ (al (ar h)) o) (sE b _ _ _ _ _ _ (ar (ar h)) o) (iH (al h)))
 | .isN a,c,e,K,β,X,ls,h,o=>dG h λ x o' y p h=>bG (C:=λ o'=>EG K β X ls _ (.Compare x o' y p)) (al h) (cP (C:=λ y=>EG K β X ls _ (.Compare x _ y p)) (ar h) λ y h =>
   bN (C:=λ y=>EG K β X ls _ (.Compare x _ [y] p)) (al h) λ z k q g=>bG (C:=λ z=>EG K β X ls _ (.Compare x _ [.Constant z k q] p)) g (yc (sE a _ _ _ _ _ _ (ar h) o)))
 | .notN a,c,e,K,β,X,ls,h,o=>dG h λ x o' y p h=>bG (C:=λ o'=>EG K β X ls _ (.Compare x o' y p)) (al h) (cP (C:=λ y=>EG K β X ls _ (.Compare x _ y p)) (ar h) λ y h =>
   bN (C:=λ y=>EG K β X ls _ (.Compare x _ [y] p)) (al h) λ z k q g=>bG (C:=λ z=>EG K β X ls _ (.Compare x _ [.Constant z k q] p)) g (v7 (sE a _ _ _ _ _ _ (ar h) o)))
 | .neg a,c,e,K,β,X,ls,h,o=>qD h λ o' x p h=>bG (C:=λ o'=>EG K β X ls _ (.UnaryOp o' x p)) (al h) (yq (sE a _ _ _ _ _ _ (ar h) o))
 | .inv a,c,e,K,β,X,ls,h,o=>qD h λ o' x p h=>bG (C:=λ o'=>EG K β X ls _ (.UnaryOp o' x p)) (al h) (yG (sE a _ _ _ _ _ _ (ar h) o))
 | .and a b,c,e,K,β,X,ls,h,o=>jL h λ o' xs p h=>bG (C:=λ o'=>EG K β X ls _ (.BoolOp o' xs p)) (al h) (g7 (C:=λ xs=>EG K β X ls _ (.BoolOp _ xs p)) (ar h) λ x y h=>zQ (sE a _ _ _ _ _ _ (al h) o) (sE b _ _ _ _ _ _ (ar h) o))
 | .or a b,c,e,K,β,X,ls,h,o=>jL h λ o' xs p h=>bG (C:=λ o'=>EG K β X ls _ (.BoolOp o' xs p)) (al h) (g7 (C:=λ xs=>EG K β X ls _ (.BoolOp _ xs p)) (ar h) λ x y h=>AD (sE a _ _ _ _ _ _ (al h) o) (sE b _ _ _ _ _ _ (ar h) o))
 | .ite t a b,c,e,K,β,X,ls,h,o=>xf h λ z x y p h=>yn (sT t _ _ _ _ _ _ (al h) o) (sE a _ _ _ _ _ _ (al (ar h)) o) (sE b _ _ _ _ _ _ (ar (ar h)) o)
 | .attr a k,c,e,K,β,X,ls,h,o=>eN h λ x m p h=>bG (C:=λ m=>EG K β X ls _ (.Attribute x m p)) (ar (ar (al h))) (bk (C:=λ x=>EG K β X ls (λ H Q=>xe a (iF K β X) ls H Q) x->EG K β X ls _ (.Attribute x _ p)) (al (al h))
   (λ n q _ z=>wO o.SO (GL (al (ar (al h)))) z) (sE a _ _ _ _ _ _ (ar h) o))
 | .sub a i,c,e,K,β,X,ls,h,o=>jU h λ x y p h=>xZ (sE a _ _ _ _ _ _ (al (ar h)) o) (sE i _ _ _ _ _ _ (ar (ar h)) o) (yk (al h))
 | .slc a lo hi,c,e,K,β,X,ls,h,o=>jU h λ x y p h=>kl (C:=λ y=>EG K β X ls _ (.Subscript x y p)) h λ l u s q h=>gY (C:=λ s=>EG K β X ls _ (.Subscript x (.Slice l u s q) p)) (al h)
   (fP (C:=λ l=>EG K β X ls _ (.Subscript x (.Slice l u _ q) p)) (ar h) λ l h=>fP (C:=λ u=>EG K β X ls _ (.Subscript x (.Slice _ u _ q) p)) h λ u h =>
   zf (sE a _ _ _ _ _ _ (al h) o) (sE lo _ _ _ _ _ _ (al (ar h)) o) (sE hi _ _ _ _ _ _ (ar (ar h)) o))
 | .slcTo a hi,c,e,K,β,X,ls,h,o=>jU h λ x y p h=>kl (C:=λ y=>EG K β X ls _ (.Subscript x y p)) h λ l u s q h=>gY (C:=λ s=>EG K β X ls _ (.Subscript x (.Slice l u s q) p)) (ar (al h))
   (gY (C:=λ l=>EG K β X ls _ (.Subscript x (.Slice l u _ q) p)) (al (al h)) (fP (C:=λ u=>EG K β X ls _ (.Subscript x (.Slice _ u _ q) p)) (ar h) λ u h=>tw (sE a _ _ _ _ _ _ (al h) o) (sE hi _ _ _ _ _ _ (ar h) o)))
 | .rev a,c,e,K,β,X,ls,h,o=>jU h λ x y p h=>kl (C:=λ y=>EG K β X ls _ (.Subscript x y p)) h λ l u s q h=>gY (C:=λ l=>EG K β X ls _ (.Subscript x (.Slice l u s q) p)) (al (al h))
   (gY (C:=λ u=>EG K β X ls _ (.Subscript x (.Slice _ u s q) p)) (ar (al h)) (fP (C:=λ s=>EG K β X ls _ (.Subscript x (.Slice _ _ s q) p)) (ar h) λ s h=>qD (C:=λ s=>EG K β X ls _ (.Subscript x (.Slice _ _ (some s) q) p)) h λ o' z r h =>
   bG (C:=λ o'=>EG K β X ls _ (.Subscript x (.Slice _ _ (some (.UnaryOp o' z r)) q) p)) (al (al h)) (bN (C:=λ z=>EG K β X ls _ (.Subscript x (.Slice _ _ (some (.UnaryOp _ z r)) q) p)) (ar (al h)) λ w k t g =>
   bG (C:=λ w=>EG K β X ls _ (.Subscript x (.Slice _ _ (some (.UnaryOp _ (.Constant w k t) r)) q) p)) g (yA (sE a _ _ _ _ _ _ (ar h) o)))))
 | .tup es,c,e,K,β,X,ls,h,o=>fO h λ xs k p h=>yd (sEs es _ _ _ _ _ _ _ (ar h) (al h) o)
 | .lst es,c,e,K,β,X,ls,h,o=>ni h λ xs p h=>xY (sEs es _ _ _ _ _ _ _ (ar h) (al h) o)
 | .dct ks es,c,e,K,β,X,ls,h,o=>qS h λ keys xs p h=>by
   obtain ⟨prs,a1,a2,b⟩:=sD es _ _ _ _ _ _ _ _ p (ar h) (al (al h)) (GL (ar (ar (al h)))) o
   exact zD a1 (λ q=>by subst q;exact absurd a2 (ne_of_lt (GL (al (al (ar (al h))))))) (GK (le_of_eq a2) (GL (ar (al (ar (al h)))))) b ((GL (ar (ar (al h)))).trans a2.symm)
 | .empI,c,e,K,β,X,ls,h,o=>qS h λ keys xs p h=>bw (C:=λ keys=>EG K β X ls _ (.Dict keys xs p)) (al h) (bw (C:=λ xs=>EG K β X ls _ (.Dict _ xs p)) (ar h)
   (zl λ S=>OR.idict .nil ⟨#[],0,⟨rfl,rfl,rfl⟩,rfl,λ _ h=>by simp at h,by simp;exact .nil,by simp⟩))
 | .call f es,c,e,K,β,X,ls,h,o=>kS (C:=EG K β X ls _) o h λ n p xs q g1 g2 h=>vZ o.O (cJ (ar (al h))) g1 g2 (o.TO.fn _ _ (al (al h))).1 (o.TO.fn _ _ (al (al h))).2 (sEs es _ _ _ _ _ _ _ (ar h) (ar (al h)) o)
 | .meth k f x es,c,e,K,β,X,ls,h,o=>ij h λ g xs kw p h=>bw (C:=λ kw=>EG K β X ls _ (.Call g xs kw p)) (al h) (eN (C:=λ g=>EG K β X ls _ (.Call g xs _ p)) (ar h) λ y m ap h=>by
   refine Ai (o.TO.me _ _ _ (ar (al (al (al h))))) λ g1 g2 g3 g4=>?_
   exact wv o.O o.SO (al (al (al (al h)))) (ar (ar (al (al h)))) (cJ (ar (ar (al h)))) (GL (al (ar (al h)))) (beq_iff_eq.mpr (GL (al (ar (al (al h)))))) g1 g2 g3 g4 (sE x _ _ _ _ _ _ (al (ar h)) o) (sEs es _ _ _ _ _ _ _ (ar (ar h)) (ar (ar (al h))) o))
 | .mk k f es,c,e,K,β,X,ls,h,o=>kS (C:=EG K β X ls _) o h λ n p xs q x1 x2 h=>by
   exact xn (o.TO.cl _ _ _ (al (al h))) λ g1 g2 g3 g4 g5=>(Bb o.O (cJ (ar (al h))) x1 x2 g1 g2 g3 g4 g5 (sEs es _ _ _ _ _ _ _ (ar h) (ar (al h)) o))
 | .bi b .nil,c,e,K,β,X,ls,h,o=>kS (C:=EG K β X ls _) o h λ n p xs q g1 g2 h=>sR o g1 g2 (al h) (ar h) λ h hs=>sEs .nil _ _ _ _ _ _ _ h hs o
 | .bi b (.cons a r),c,e,K,β,X,ls,h,o=>kS (C:=EG K β X ls _) o h λ n p xs q g1 g2 h=>vi o g1 g2 (al h) (ar h) (λ y h=>sE a _ _ _ _ _ _ h o) λ h hs=>sEs (.cons a r) _ _ _ _ _ _ _ h hs o
 | .bm b x es,c,e,K,β,X,ls,h,o=>ij h λ g xs kw p h=>bw (C:=λ kw=>EG K β X ls _ (.Call g xs kw p)) (al h) (eN (C:=λ g=>EG K β X ls _ (.Call g xs _ p)) (ar h) λ y m ap h =>
   BC o.O (ar (ar (al (al h)))) (cJ (ar (ar (al h)))) (GL (al (ar (al h)))) (beq_iff_eq.mpr (GL (ar (al (ar (al (al h))))))) (GL (al (al (al h)))) (λ q=>by
    have z:=al (al (ar (al (al h))))
    rcases q with rfl|rfl<;>exact o.bt z) (sE x _ _ _ _ _ _ (al (ar h)) o) (sEs es _ _ _ _ _ _ _ (ar (ar h)) (ar (ar (al h))) o))
 | .comp src tg n caps elt it,c,e,K,β,X,ls,h,o=>ot h λ x gs sc p h=>cP (C:=λ gs=>EG K β X ls _ (.ListComp x gs sc p)) h λ g h=>by
   obtain ⟨te,ie,ifs,as⟩:=g
   refine bw (C:=λ ifs=>EG K β X ls _ (.ListComp x [⟨te,ie,ifs,as⟩] sc p)) (al (al h)) (bG (C:=λ as=>EG K β X ls _ (.ListComp x [⟨te,ie,_,as⟩] sc p)) (ar (al h)) (aT (o.comp (al (al (al (ar h))))) λ cl CO hin=>?_))
   exact v9 o.O CO (pQ (ar (ar (al (al (ar h)))))) (λ C=>qi (K:=sd K _ cl _ C) rfl (λ n=>dD o _ cl C n) (al (al (ar (al (al (ar h))))))) (p6 (ar (al (ar (al (al (ar h)))))))
    (nw (c:={c with β:=false}) o.low (ar (ar h)) λ y hy=>sE it _ _ _ _ _ _ hy o.low) (λ C hC ls'=>sE elt _ _ _ _ _ _ (ar (al (ar h))) (hin C hC))
theorem sT:∀ (ir:T) (c:Cx) (e:Expr) (K:Kt) (β:Bool) (X:Int->Prop) (ls:Ls),cT c ir e=true->Ok c K β->TG K β X ls (λ H Q=>xt ir (iF K β X) ls H Q) e
 | .not t,c,e,K,β,X,ls,h,o=>qD h λ o' x p h=>bG (C:=λ o'=>TG K β X ls _ (.UnaryOp o' x p)) (al h) (ym (sT t _ _ _ _ _ _ (ar h) o))
 | .and a b,c,e,K,β,X,ls,h,o=>jL h λ o' xs p h=>bG (C:=λ o'=>TG K β X ls _ (.BoolOp o' xs p)) (al h) (g7 (C:=λ xs=>TG K β X ls _ (.BoolOp _ xs p)) (ar h) λ x y h=>zq (sT a _ _ _ _ _ _ (al h) o) (sT b _ _ _ _ _ _ (ar h) o))
 | .or a b,c,e,K,β,X,ls,h,o=>jL h λ o' xs p h=>bG (C:=λ o'=>TG K β X ls _ (.BoolOp o' xs p)) (al h) (g7 (C:=λ xs=>TG K β X ls _ (.BoolOp _ xs p)) (ar h) λ x y h=>Bh (sT a _ _ _ _ _ _ (al h) o) (sT b _ _ _ _ _ _ (ar h) o))
 | .ite t a b,c,e,K,β,X,ls,h,o=>xf h λ z x y p h=>zJ (sT t _ _ _ _ _ _ (al h) o) (sT a _ _ _ _ _ _ (al (ar h)) o) (sT b _ _ _ _ _ _ (ar (ar h)) o)
 | .cmp op a b,c,e,K,β,X,ls,h,o=>dG h λ x o' y p h=>bG (C:=λ o'=>TG K β X ls _ (.Compare x o' y p)) (al h) (cP (C:=λ y=>TG K β X ls _ (.Compare x _ y p)) (ar h) λ y h =>
   zT o.O (sE a _ _ _ _ _ _ (al (ar h)) o) (sE b _ _ _ _ _ _ (ar (ar h)) o) (iH (al h)))
 | .chain a op b op' d,c,e,K,β,X,ls,h,o=>dG h λ x o' y p h=>bG (C:=λ o'=>TG K β X ls _ (.Compare x o' y p)) (al h) (g7 (C:=λ y=>TG K β X ls _ (.Compare x _ y p)) (ar h) λ y z h =>
   ua o.O (sE a _ _ _ _ _ _ (al (ar h)) o) (sE b _ _ _ _ _ _ (al (ar (ar h))) o) (sE d _ _ _ _ _ _ (ar (ar (ar h))) o) (iH (al h)))
 | .isN a,c,e,K,β,X,ls,h,o=>dG h λ x o' y p h=>bG (C:=λ o'=>TG K β X ls _ (.Compare x o' y p)) (al h) (cP (C:=λ y=>TG K β X ls _ (.Compare x _ y p)) (ar h) λ y h =>
   bN (C:=λ y=>TG K β X ls _ (.Compare x _ [y] p)) (al h) λ z k q g=>bG (C:=λ z=>TG K β X ls _ (.Compare x _ [.Constant z k q] p)) g (zR (sE a _ _ _ _ _ _ (ar h) o)))
 | .notN a,c,e,K,β,X,ls,h,o=>dG h λ x o' y p h=>bG (C:=λ o'=>TG K β X ls _ (.Compare x o' y p)) (al h) (cP (C:=λ y=>TG K β X ls _ (.Compare x _ y p)) (ar h) λ y h =>
   bN (C:=λ y=>TG K β X ls _ (.Compare x _ [y] p)) (al h) λ z k q g=>bG (C:=λ z=>TG K β X ls _ (.Compare x _ [.Constant z k q] p)) g (wF (sE a _ _ _ _ _ _ (ar h) o)))
 | .eqNil a,c,e,K,β,X,ls,h,o=>dG h λ x o' y p h=>bG (C:=λ o'=>TG K β X ls _ (.Compare x o' y p)) (al h) (cP (C:=λ y=>TG K β X ls _ (.Compare x _ y p)) (ar h) λ y h =>
   ni (C:=λ y=>TG K β X ls _ (.Compare x _ [y] p)) (al h) λ z q g=>bw (C:=λ z=>TG K β X ls _ (.Compare x _ [.List z q] p)) g (tW o.O (sE a _ _ _ _ _ _ (ar h) o)))
 | .neNil a,c,e,K,β,X,ls,h,o=>dG h λ x o' y p h=>bG (C:=λ o'=>TG K β X ls _ (.Compare x o' y p)) (al h) (cP (C:=λ y=>TG K β X ls _ (.Compare x _ y p)) (ar h) λ y h =>
   ni (C:=λ y=>TG K β X ls _ (.Compare x _ [y] p)) (al h) λ z q g=>bw (C:=λ z=>TG K β X ls _ (.Compare x _ [.List z q] p)) g (ul o.O (sE a _ _ _ _ _ _ (ar h) o)))
 | .neInts a b,c,e,K,β,X,ls,h,o=>dG h λ x o' y p h=>bG (C:=λ o'=>TG K β X ls _ (.Compare x o' y p)) (al h) (cP (C:=λ y=>TG K β X ls _ (.Compare x _ y p)) (ar h) λ y h =>
   rY o.O (sE a _ _ _ _ _ _ (al (ar h)) o) (sE b _ _ _ _ _ _ (ar (ar h)) o) (iH (al h)))
 | .val a,c,e,K,β,X,ls,h,o=>yI (vI (al h)) (sE a _ _ _ _ _ _ (ar h) o)
theorem sEs:∀ (ir:Es) (c:Cx) (es:List Expr) (K:Kt) (β:Bool) (X:Int->Prop) (ls:Ls) (pos:Pos),cEs c ir es=true->a8 es=true->Ok c K β->SG K β X ls (λ H Q=>xes ir (iF K β X) ls H Q) pos es
 | .nil,c,es,K,β,X,ls,pos,h,hs,o=>bw h pR
 | .cons a r,c,es,K,β,X,ls,pos,h,hs,o=>fh (C:=λ es=>a8 es=true->SG K β X ls _ pos es) h (λ x ys h hs=>nH (cS (vP hs)) (sE a _ _ _ _ _ _ (al h) o) (sEs r _ _ _ _ _ _ _ (ar h) (ar hs) o)) hs
theorem sD:∀ (ir:Es) (c:Cx) (es:List Expr) (ks:List (List Nat)) (keys:List (Option Expr)) (K:Kt) (β:Bool) (X:Int->Prop) (ls:Ls) (pos:Pos),cEs c ir es=true->um ks keys=true->ks.length=es.length->Ok c K β->DG K β X ls pos ir ks keys es
 | .nil,c,es,ks,keys,K,β,X,ls,pos,h,hs,hl,o=>by
  obtain rfl:=isEmpty_iff.mp h
  obtain rfl:ks=[]:=List.eq_nil_of_length_eq_zero hl
  obtain rfl:=isEmpty_iff.mp hs
  exact ⟨[],rfl,rfl,ze⟩
 | .cons a r,c,es,[],keys,K,β,X,ls,pos,h,hs,hl,o=>fh (C:=λ es=>[].length=es.length->DG K β X ls pos (.cons a r) [] keys es) h (λ _ _ _ hl=>nomatch hl) hl
 | .cons a r,c,es,k::ks,keys,K,β,X,ls,pos,h,hs,hl,o=>fh (C:=λ es=>(k::ks).length=es.length->DG K β X ls pos (.cons a r) (k::ks) keys es) h (λ x ys h hl =>
   fh (C:=λ keys=>DG K β X ls pos (.cons a r) (k::ks) keys (x::ys)) hs λ y rr hs=>fP (C:=λ y=>DG K β X ls pos (.cons a r) (k::ks) (y::rr) (x::ys)) (al hs) λ y g =>
   bN (C:=λ y=>DG K β X ls pos (.cons a r) (k::ks) (some y::rr) (x::ys)) g λ w kk kp g=>bG (C:=λ w=>DG K β X ls pos (.cons a r) (k::ks) (some (.Constant w kk kp)::rr) (x::ys)) g
   ((sD r _ _ _ _ K β X ls pos (ar h) (ar hs) (Nat.succ.inj hl) o).elim λ prs z =>
   ⟨(eval (.Constant (.str (aY k)) kk kp) K.env,do let x <- eval x K.env;standAt pos;pure x)::prs,congrArg (_::·) z.1,congrArg Nat.succ z.2.1,vL (pos:=pos) rfl (sE a _ _ _ _ _ _ (al h) o) z.2.2⟩)) hl
end
noncomputable def hV (e:Expr):Bool:=!(e.ctorIdx==25)
theorem kr {ts:List Expr}{k:Nat}{p:Pos}{v:Expr}{env:Env}(h:hV v=true):swappedStores [.Tuple ts k p] v env=pure none:=by
 cases v<;>first|rfl|contradiction
theorem oi {env:Env}{n m:Str}{p q:Pos}{vs:List Expr}{k k':Nat}{pp p':Pos}(hb:env.blockKind=.function)(h2:vs.length=2)(h3:(vs.any fun | .Starred ..=>true|_=>false)=false)
  (h4:env.kindOf n=some .local) (h5:env.kindOf m=some .local) (hl:(q.line==p.line)=true) (h6:n≠m) (h7:vs.all (foldedForSure 8)=false) (h8:vs.all (constantsAlone 8)=false) :
  swappedStores [.Tuple [.Name n p,.Name m q] k pp] (.Tuple vs k' p') env=pure (some [n,m]):=by
 refine AN (rP h2) λ a b ez1=>?_;subst ez1
 have e0:(([n,m].length != 2)||([n,m].eraseDups.length != [n,m].length))=false:=by
  have:(m==n)=false:=by rw [beq_eq_false_iff_ne];exact λ e=>h6 e.symm
  simp [List.eraseDups,List.eraseDupsBy,List.eraseDupsBy.loop,this,h6.symm,h6]
 have ef:([.Name n p,.Name m q]:List Expr).filterMap (fun | .Name id pos=>if env.kindOf id==some .local&&pos.line==p.line then some id else none|_=>none)=[n,m]:=by
  refine sr filterMap_cons (sr filterMap_cons ?_)
  simp only [h4,h5,hl,beq_self_eq_true,Bool.and_self,if_true,List.filterMap_nil]
 dsimp only [swappedStores]
 show (if (!((2:Nat)==2||(2:Nat)==3)||(2:Nat) != 2||env.blockKind != ScopeKind.function)=true then pure none else _)=_
 refine sr hb (sr (if_neg (by decide)) ((if_neg (λ q=>Bool.noConfusion (h3.symm.trans q))).trans ?_))
 have key:∀ names:List Str,names=[n,m]->(if ((names.length != 2)||(names.eraseDups.length != names.length))=true then pure none
   else if [a,b].all (foldedForSure 8)=true then pure none
   else if [a,b].all (constantsAlone 8)=true then (do let _ <- (unsupported "assign.tuple-of-constant-expressions:order-of-the-stores" : Sem Unit);pure (some names))
   else pure (some names):Sem (Option (List Str)))=pure (some [n,m]):=by
  rintro _ rfl
  refine (if_neg (λ q=>Bool.noConfusion (e0.symm.trans q))).trans ?_
  exact sr (if_neg (by rw [h7];decide)) (sr (if_neg (by rw [h8];decide)) rfl)
 exact key _ ef
noncomputable def vd:List Expr->Bool:=λ vs=>vs.any fun | .Starred ..=>true|_=>false
noncomputable def Ef (c:Cx)(ts vs:List Expr):Bool:=v2 ts λ x y=>ci x λ n p=>ci y λ m q=>decide (vs.length=2)&&!vd vs&&decide (c.kd n=some .local)&&(decide (c.kd m=some .local)&&(q.line==p.line)) &&
   !decide (n=m)&&!vs.all (foldedForSure 8)&&!vs.all (constantsAlone 8)
theorem o7 {c:Cx}{K:Kt}{β:Bool}(o:Ok c K β){ts vs:List Expr}{names:List Str}{k k':Nat}{p p':Pos}(h:Ef c ts vs=true)(hn:bZ ts=some names):swappedStores [.Tuple ts k p] (.Tuple vs k' p') K.env=pure (some names):=by
 refine g7 (C:=λ ts=>bZ ts=some names->swappedStores [.Tuple ts k p] (.Tuple vs k' p') K.env=pure (some names)) h (λ x y h=>bk (C:=λ x=>bZ [x,y]=some names->swappedStores [.Tuple [x,y] k p] (.Tuple vs k' p') K.env=pure (some names)) h λ n p1 h =>
  bk (C:=λ y=>bZ [_,y]=some names->swappedStores [.Tuple [_,y] k p] (.Tuple vs k' p') K.env=pure (some names)) h λ m q h hn=>?_) hn
 (injection hn with hn;subst hn)
 simp only [Bool.and_eq_true,decide_eq_true_eq,Bool.not_eq_true',decide_eq_false_iff_not] at h
 obtain ⟨⟨⟨⟨⟨⟨h2,h3⟩,h4⟩,h5,hl⟩,h6⟩,h7⟩,h8⟩:=h
 exact oi (by dsimp only [Env.blockKind];refine sr o.O.kind ?_;rfl) h2 h3 ((o.kd _).trans h4) ((o.kd _).trans h5) hl h6 h7 h8
theorem ff {C:Prop}(h:false=true):C:=absurd h Bool.false_ne_true
noncomputable def iE (e:E)(k:Nat->Bool)(q:Src->Tg->Nat->List (Nat×Nat)->E->E->Bool):Bool:=E.casesOn (motive_1:=λ _=>Bool) e false (λ _=>false) (λ _=>false) (λ _=>false) (λ _=>false) k (λ _=>false) (λ _ _ _=>false) (λ _ _ _=>false) (λ _=>false) (λ _=>false) (λ _=>false) (λ _=>false) (λ _ _=>false) (λ _ _=>false) (λ _ _ _=>false) (λ _ _=>false) (λ _ _=>false) (λ _ _ _=>false) (λ _ _=>false) (λ _=>false) (λ _=>false) (λ _=>false) (λ _ _=>false) false (λ _ _=>false) (λ _ _ _ _=>false) (λ _ _ _=>false) (λ _ _=>false) (λ _ _ _=>false) q
theorem A9 {C:E->Prop}{e:E}{k q}(h:iE e k q=true)(f:∀ j,k j=true->C (.var j))(g:∀ a b c d x y,q a b c d x y=true->C (.comp a b c d x y)):C e :=
 E.casesOn (motive_1:=λ e=>iE e k q=true->C e) e ff (λ _=>ff) (λ _=>ff) (λ _=>ff) (λ _=>ff) f (λ _=>ff) (λ _ _ _=>ff) (λ _ _ _=>ff) (λ _=>ff) (λ _=>ff) (λ _=>ff) (λ _=>ff) (λ _ _=>ff) (λ _ _=>ff) (λ _ _ _=>ff) (λ _ _=>ff) (λ _ _=>ff) (λ _ _ _=>ff) (λ _ _=>ff) (λ _=>ff) (λ _=>ff) (λ _=>ff) (λ _ _=>ff) ff (λ _ _=>ff) (λ _ _ _ _=>ff) (λ _ _ _=>ff) (λ _ _=>ff) (λ _ _ _=>ff) g h
noncomputable def xR (e:E)(k:Nat->Bool):Bool:=iE e k λ _ _ _ _ _ _=>false
@[elab_as_elim] theorem s9 {C:E->Prop} {e:E} {k} (h:xR e k=true) (f:∀ j,k j=true->C (.var j)):C e:=A9 h f λ _ _ _ _ _ _=>ff
noncomputable def xj (e:E)(k:Src->Tg->Nat->List (Nat×Nat)->E->E->Bool):Bool:=iE e (λ _=>false) k
@[elab_as_elim] theorem wS {C:E->Prop} {e:E} {k} (h:xj e k=true) (f:∀ a b c d x y,k a b c d x y=true->C (.comp a b c d x y)):C e:=A9 h (λ _=>ff) f
noncomputable def Bf (c:Cx)(n:Str)(p0:Pos)(e:E)(v:Expr):Bool:=(eE v&&cE c e v)||xj e λ src tg m caps elt it=>mN v λ x gs sc cpos=>(p0.line==cpos.line)&&!(sc.names.any λ x=>x.1==n&&(x.2==.local||x.2==.cell))&&cE c (.comp src tg m caps elt it) (.ListComp x gs sc cpos)
noncomputable def cB (c:Cx):B->List Stmt->Bool
 | .done,ss=>ss.isEmpty
 | .ret e,ss=>vC ss λ s _=>rZ s λ x _=>vO x λ x=>cE c e x
 | .retN,ss=>vC ss λ s _=>rZ s λ x _=>x.isNone
 | .raise e,ss=>vC ss λ s _=>qq s λ x y _=>y.isNone&&vO x λ x=>Ak c x λ n xs=>decide (n=Str.ofString "BadParam")&&v1 xs λ y=>a8 [y]&&xR e λ k=>cE c (.var k) y
 | .set k e r,ss=>vC ss λ s rest=>o6 s λ ts v _=>v1 ts λ t=>ci t λ n p0=>c.loc k n&&cB c r rest&&Bf c n p0 e v
 | .setN ks e r,ss=>vC ss λ s rest=>o6 s λ ts v _=>v1 ts λ t=>lm t λ elts _ _=>cB c r rest&&cE c e v&&vO (bZ elts) λ names =>
   decide (ks.map (λ k=>c.slots[k]?)=names.map some)&&(names.all λ n=>decide (c.kd n=some .local))&&decide ks.Nodup&&(hV v||(ks.length==2&&lm v λ vs _ _=>Ef c elts vs))
 | .setVA k o a e r,ss=>vC ss λ s rest=>o6 s λ ts v _=>v1 ts λ t=>lm t λ es _ _=>v2 es λ t1 t2=>ci t1 λ n _=>il t2 λ o' m _=>cB c r rest&&cE c e v&&(decide (a<12)&&decide (m=nm a))&&c.loc k n&&hV v&&xR o λ j=>cE c (.var j) o'
 | .setA o k e r,ss=>vC ss λ s rest=>o6 s λ ts v _=>v1 ts λ t=>il t λ o' m _=>cB c r rest&&cE c e v&&cE c o o'&&(decide (k<12)&&decide (m=nm k))
 | .setS o i e r,ss=>vC ss λ s rest=>o6 s λ ts v _=>v1 ts λ t=>pT t λ o' i' _=>cB c r rest&&cE c e v&&cE c o o'&&cE c i i'
 | .ex e r,ss=>vC ss λ s rest=>Cr s λ x _=>ku x λ f as kw cp=>eE (.Call f as kw cp)&&cE c e (.Call f as kw cp)&&cB c r rest
 | .cond t a b r,ss=>vC ss λ s rest=>zp s λ x sa sb _=>cT c t x&&cB c a sa&&cB c b sb&&cB c r rest
 | .while t b r,ss=>vC ss λ s rest=>qc s λ x sb els _=>els.isEmpty&&(cT c t x&&cB c b sb&&cB c r rest)
 | .for src tg e b r,ss=>vC ss λ s rest=>yy s λ te it sb els _=>els.isEmpty&&((CX c tg te&&Do src te&&dT it)&&cB c b sb&&cB c r rest&&zh c src it λ y=>cE c e y)
theorem qv {c:Cx}{K:Kt}{β:Bool}(o:Ok c K β){elt:Expr}{gs:List Comprehension}{sc:Scope}{cpos p0:Pos}{n:Str}{l:Nat}(h1:(p0.line==cpos.line)=true)(h2:(sc.names.any λ x=>x.1==n&&(x.2==.local||x.2==.cell))=false)(hk:K.env.kindOf n=some .local) :
  swapsWith (.ListComp elt gs sc cpos) (some (.Name n p0)) l K.env=pure true:=by
 have hb:K.env.blockKind=.function:=by dsimp only [Env.blockKind];refine sr o.O.kind ?_;rfl
 show pure (K.env.blockKind==.function&&K.env.kindOf n==some .local&&p0.line==cpos.line&&!(sc.names.any λ x=>x.1==n&&(x.2==.local||x.2==.cell)))=_
 refine sr hb (sr hk (sr h1 (sr h2 ?_)));rfl
structure zg (K:Kt):Prop where
 RO:jO K.S
 pos:0<K.k
 mg:K.S.mg (Str.ofString "BadParam")=some (.ref (K.S.ca 0))
noncomputable def bB:B->Bool
 | .done=>true | .ret _=>true | .retN=>true | .raise _=>false
 | .set _ _ r=>bB r | .setN _ _ r=>bB r | .setVA _ _ _ _ r=>bB r
 | .setA _ _ _ r=>bB r | .setS _ _ _ r=>bB r | .ex _ r=>bB r
 | .cond _ a b r=>bB a&&bB b&&bB r | .while _ b r=>bB b&&bB r
 | .for _ _ _ b r=>bB b&&bB r
theorem Gk {K:Kt}{β:Bool}{X:Int->Prop}{ss:List Stmt}{P P':BP}(h:∀ ls H N Rr,P ls H N Rr->P' ls H N Rr)(b:fj K β X ss P'):fj K β X ss P:=λ H0 h0x ls s H N Rr hb a p=>b H0 h0x ls s H N Rr hb a (h _ _ _ _ p)
noncomputable abbrev BG (K:Kt)(β:Bool)(X:Int->Prop)(ir:B)(ss:List Stmt):Prop:=fj K β X ss λ ls H N Rr=>xs ir (iF K β X) ls H N Rr
section
variable {c:Cx}{K:Kt}{β:Bool}{X:Int->Prop}{rest:List Stmt}{r:B}
theorem yT {k:Nat} {n:Str} {p q q':Pos} {y:Expr} (o:Ok c K β) (z:zg K) (g1:K.env.kindOf n=some .globalImplicit) (g2:(n==("__debug__" : Str))=false) (hn:n=Str.ofString "BadParam") (h3:a8 [y]=true) (h4:cE c (.var k) y=true):BG K β X (.raise (.var k)) (.Raise (some (.Call (.Name n p) [y] [] q)) none q'::rest):=by
 subst hn
 refine Gk (λ ls H N Rr q=>?_) (vt (PE:=λ ls H Q=>xe (.var k) (iF K β X) ls H λ v H1=>Q [v] H1) o.O z.RO z.pos (cJ h3) g1 g2 z.mg (λ ls=>nH (cS h3) (sE (.var k) _ _ _ _ _ _ h4 o) pR) (X:=X))
 have q:(match lget ls k with|some v=>(match v with | .int i=>X i|_=>False)|none=>False):=q
 show (match lget ls k with|some v=>∃ i,[v]=[V.int i]/\X i|none=>False)
 induction hv:lget ls k with
 | none=>rw [hv] at q;exact q
 | some v =>
  rw [hv] at q
  induction v with
  | int i=>exact ⟨i,rfl,q⟩
  | _=>exact q.elim
theorem CP {k:Nat}{e:E}{n:Str}{p0 pos:Pos}{v:Expr}(o:Ok c K β)(h1:c.loc k n=true)(h3:Bf c n p0 e v=true)(hr:BG K β X r rest):BG K β X (.set k e r) (.Assign [.Name n p0] v pos::rest):=by
 rcases Bool.or_eq_true_iff.mp h3 with h3|h3
 .exact A6 o.O (o.loc h1).1 (o.loc h1).2 (al h3) (λ ls=>sE e _ _ _ _ _ _ (ar h3) o) hr
 .refine wS (C:=λ e=>BG K β X (.set k e r) (.Assign [.Name n p0] v pos::rest)) h3 λ src tg m caps elt it h=>ot (C:=λ v=>BG K β X (.set k _ r) (.Assign [.Name n p0] v pos::rest)) h λ x gs sc cpos h=>?_
  have h5:v1 gs (λ g=>_)=true:=ar h
  refine cP (C:=λ gs=>BG K β X (.set k _ r) (.Assign [.Name n p0] (.ListComp x gs sc cpos) pos::rest)) h5 λ g g5=>?_
  obtain ⟨te,ie,ifs,as⟩:=g
  refine bw (C:=λ ifs=>BG K β X (.set k _ r) (.Assign [.Name n p0] (.ListComp x [⟨te,ie,ifs,as⟩] sc cpos) pos::rest)) (al (al g5)) (bG (C:=λ as=>BG K β X (.set k _ r) (.Assign [.Name n p0] (.ListComp x [⟨te,ie,_,as⟩] sc cpos) pos::rest)) (ar (al g5)) (aT (o.comp (al (al (al (ar g5))))) λ cl CO hin=>?_))
  exact xP o.O CO (o.loc h1).1 (o.loc h1).2 (qv o (al (al h)) (by have:=ar (al h);simpa using this) (o.loc h1).2) (pQ (ar (ar (al (al (ar g5)))))) (λ C=>qi (K:=sd K _ cl _ C) rfl (λ n=>dD o _ cl C n) (al (al (ar (al (al (ar g5))))))) (p6 (ar (al (ar (al (al (ar g5)))))))
   (λ ls=>nw (X:=λ _=>False) (c:={c with β:=false}) o.low (ar (ar g5)) λ y hy=>sE it _ _ _ _ _ _ hy o.low) (λ C hC ls'=>sE elt _ _ _ _ _ _ (ar (al (ar g5))) (hin C hC)) hr
theorem AC {ks:List Nat}{e:E}{elts:List Expr}{i:Nat}{p pos:Pos}{v:Expr}(o:Ok c K β)(h2:cE c e v=true)(h3:(vO (bZ elts) λ names=>decide (ks.map (λ k=>c.slots[k]?)=names.map some)&&(names.all λ n=>decide (c.kd n=some .local))&&decide ks.Nodup&&(hV v||(ks.length==2&&lm v λ vs _ _=>Ef c elts vs)))=true)
  (hr:BG K β X r rest):BG K β X (.setN ks e r) (.Assign [.Tuple elts i p] v pos::rest):=by
 refine fP (C:=λ o=>bZ elts=o->BG K β X (.setN ks e r) (.Assign [.Tuple elts i p] v pos::rest)) h3 (λ names h hn=>?_) rfl
 refine ya o.O hn (by refine sr o.sl ?_;exact GL (al (al (al h)))) (λ n m=>(o.kd n).trans (GL (all_eq_true.mp (ar (al (al h))) n m))) (GL (ar (al h))) ?_ (λ ls=>sE e _ _ _ _ _ _ h2 o) hr
 rcases Bool.or_eq_true_iff.mp (ar h) with h6|h6
 .exact .inl (kr h6)
 .exact fO (C:=λ v=>_\/(_/\swappedStores [.Tuple elts i p] v K.env=pure (some names))) (ar h6) λ vs _ _ h7=>.inr ⟨eq_of_beq (al h6),o7 o h7 hn⟩
end
theorem sB:∀ (ir:B) (c:Cx) (ss:List Stmt) (K:Kt) (β:Bool) (X:Int->Prop),cB c ir ss=true->Ok c K β->j5 K->(bB ir=true\/zg K)->BG K β X ir ss
 | .done,c,ss,K,β,X,h,o,F,z=>bw h xW
 | .ret e,c,ss,K,β,X,h,o,F,z=>fh h λ s rest h=>mV (C:=λ s=>BG K β X (.ret e) (s::rest)) h λ x p h=>fP (C:=λ x=>BG K β X (.ret e) (.Return x p::rest)) h λ x h=>An λ ls=>sE e _ _ _ _ _ _ h o
 | .retN,c,ss,K,β,X,h,o,F,z=>fh h λ s rest h=>mV (C:=λ s=>BG K β X .retN (s::rest)) h λ x p h=>gY (C:=λ x=>BG K β X .retN (.Return x p::rest)) h zL
 | .raise e,c,ss,K,β,X,h,o,F,z=>fh h λ s rest h=>uQ (C:=λ s=>BG K β X (.raise e) (s::rest)) h λ x y p h=>gY (C:=λ y=>BG K β X (.raise e) (.Raise x y p::rest)) (al h) (fP (C:=λ x=>BG K β X (.raise e) (.Raise x none p::rest)) (ar h) λ x h =>
   kS (C:=λ x=>BG K β X (.raise e) (.Raise (some x) none p::rest)) o h λ n q xs q' g1 g2 h=>cP (C:=λ xs=>BG K β X (.raise e) (.Raise (some (.Call (.Name n q) xs [] q')) none p::rest)) (ar h) λ y h' =>
   s9 (C:=λ e=>BG K β X (.raise e) (.Raise (some (.Call (.Name n q) [y] [] q')) none p::rest)) (ar h') λ k h4=>z.elim (λ z=>nomatch z) λ z=>yT o z g1 g2 (GL (al h)) (al h') h4)
 | .set k e r,c,ss,K,β,X,h,o,F,z=>fh h λ s rest h=>i6 (C:=λ s=>BG K β X (.set k e r) (s::rest)) h λ ts v p h=>cP (C:=λ ts=>BG K β X (.set k e r) (.Assign ts v p::rest)) h λ t h =>
   bk (C:=λ t=>BG K β X (.set k e r) (.Assign [t] v p::rest)) h λ n p0 h=>CP o (al (al h)) (ar h) (sB r _ _ _ _ _ (ar (al h)) o F z)
 | .setN ks e r,c,ss,K,β,X,h,o,F,z=>fh h λ s rest h=>i6 (C:=λ s=>BG K β X (.setN ks e r) (s::rest)) h λ ts v p h=>cP (C:=λ ts=>BG K β X (.setN ks e r) (.Assign ts v p::rest)) h λ t h =>
   fO (C:=λ t=>BG K β X (.setN ks e r) (.Assign [t] v p::rest)) h λ es i q h=>AC o (ar (al h)) (ar h) (sB r _ _ _ _ _ (al (al h)) o F z)
 | .setVA k x a e r,c,ss,K,β,X,h,o,F,z=>fh h λ s rest h=>i6 (C:=λ s=>BG K β X (.setVA k x a e r) (s::rest)) h λ ts v p h=>cP (C:=λ ts=>BG K β X (.setVA k x a e r) (.Assign ts v p::rest)) h λ t h =>
   fO (C:=λ t=>BG K β X (.setVA k x a e r) (.Assign [t] v p::rest)) h λ es i q h=>g7 (C:=λ es=>BG K β X (.setVA k x a e r) (.Assign [.Tuple es i q] v p::rest)) h λ t1 t2 h =>
   bk (C:=λ t1=>BG K β X (.setVA k x a e r) (.Assign [.Tuple [t1,t2] i q] v p::rest)) h λ n p1 h=>eN (C:=λ t2=>BG K β X (.setVA k x a e r) (.Assign [.Tuple [_,t2] i q] v p::rest)) h λ o' m p2 h =>
   s9 (C:=λ x=>BG K β X (.setVA k x a e r) (.Assign [.Tuple [_,.Attribute o' m p2] i q] v p::rest)) (ar h) λ j h8=>bG (C:=λ m=>BG K β X (.setVA k _ a e r) (.Assign [.Tuple [_,.Attribute o' m p2] i q] v p::rest)) (ar (ar (al (al (al h)))))
   (vr o.O o.SO (GL (al (ar (al (al (al h)))))) (o.loc (ar (al (al h)))).1 (o.loc (ar (al (al h)))).2 (kr (ar (al h))) (λ ls=>sE e _ _ _ _ _ _ (ar (al (al (al (al h))))) o) (λ ls=>sE (.var j) {c with β:=false} _ _ false (λ _=>False) _ h8 o.low)
    (sB r _ _ _ _ _ (al (al (al (al (al h))))) o F z))
 | .setA x k e r,c,ss,K,β,X,h,o,F,z=>fh h λ s rest h=>i6 (C:=λ s=>BG K β X (.setA x k e r) (s::rest)) h λ ts v p h=>cP (C:=λ ts=>BG K β X (.setA x k e r) (.Assign ts v p::rest)) h λ t h =>
   eN (C:=λ t=>BG K β X (.setA x k e r) (.Assign [t] v p::rest)) h λ o' m p2 h=>bG (C:=λ m=>BG K β X (.setA x k e r) (.Assign [.Attribute o' m p2] v p::rest)) (ar (ar h))
   (zd o.O o.SO (GL (al (ar h))) (λ ls=>sE e _ _ _ _ _ _ (ar (al (al h))) o) (λ ls=>sE x _ _ _ _ _ _ (ar (al h)) o) (sB r _ _ _ _ _ (al (al (al h))) o F z))
 | .setS x i e r,c,ss,K,β,X,h,o,F,z=>fh h λ s rest h=>i6 (C:=λ s=>BG K β X (.setS x i e r) (s::rest)) h λ ts v p h=>cP (C:=λ ts=>BG K β X (.setS x i e r) (.Assign ts v p::rest)) h λ t h =>
   jU (C:=λ t=>BG K β X (.setS x i e r) (.Assign [t] v p::rest)) h λ o' i' p2 h =>
   yJ o.O (λ ls=>sE e _ _ _ _ _ _ (ar (al (al h))) o) (λ ls=>sE x _ _ _ _ _ _ (ar (al h)) o) (λ ls=>sE i _ _ _ _ _ _ (ar h) o) (sB r _ _ _ _ _ (al (al (al h))) o F z)
 | .ex e r,c,ss,K,β,X,h,o,F,z=>fh h λ s rest h=>xv (C:=λ s=>BG K β X (.ex e r) (s::rest)) h λ x p h=>ij (C:=λ x=>BG K β X (.ex e r) (.Expr x p::rest)) h λ f as kw cp h=>Dw o.O rfl (al (al h)) (λ ls=>sE e _ _ _ _ _ _ (ar (al h)) o) (sB r _ _ _ _ _ (ar h) o F z)
 | .cond t a b r,c,ss,K,β,X,h,o,F,z=>fh h λ s rest h=>yz (C:=λ s=>BG K β X (.cond t a b r) (s::rest)) h λ x sa sb p h =>
   xX (λ ls=>sT t _ _ _ _ _ _ (al (al (al h))) o) (sB a _ _ _ _ _ (ar (al (al h))) o F (z.imp (λ z=>al (al z)) id)) (sB b _ _ _ _ _ (ar (al h)) o F (z.imp (λ z=>ar (al z)) id)) (sB r _ _ _ _ _ (ar h) o F (z.imp (λ z=>ar z) id))
 | .while t b r,c,ss,K,β,X,h,o,F,z=>fh h λ s rest h=>sY (C:=λ s=>BG K β X (.while t b r) (s::rest)) h λ x sb els p h=>bw (C:=λ els=>BG K β X (.while t b r) (.While x sb els p::rest)) (al h)
   (wr o.O F (λ ls=>sT t _ _ _ _ _ _ (al (al (ar h))) o) (sB b _ _ _ _ _ (ar (al (ar h))) o F (z.imp (λ z=>al z) id)) (sB r _ _ _ _ _ (ar (ar h)) o F (z.imp (λ z=>ar z) id)))
 | .for src tg e b r,c,ss,K,β,X,h,o,F,z=>fh h λ s rest h=>zA (C:=λ s=>BG K β X (.for src tg e b r) (s::rest)) h λ te it sb els p h=>bw (C:=λ els=>BG K β X (.for src tg e b r) (.For te it sb els p::rest)) (al h)
   (A2 o.O F (pQ (ar (al (al (al (ar h)))))) (qi o.sl o.kd (al (al (al (al (al (ar h))))))) (p6 (ar (al (al (al (al (ar h))))))) (λ ls=>nw o (ar (ar h)) λ y hy=>sE e _ _ _ _ _ _ hy o)
    (sB b _ _ _ _ _ (ar (al (al (ar h)))) o F (z.imp (λ z=>al z) id)) (sB r _ _ _ _ _ (ar (al (ar h))) o F (z.imp (λ z=>ar z) id)))
noncomputable def bu (names:List (Str×NameKind)):List Str:=(names.filter λ x=>decide (x.2=.local)||decide (x.2=.cell)).map (·.1)
noncomputable def wA (K:Frag)(a:Addr)(k:FuncData->List Stmt->Bool):Bool:=vO (K.lookup a) λ o=>zn o.data λ fd=>yw fd.body λ body =>
 (codeIn K fd.code fd.qualname&&(!fd.scope.isCoroutine&&!fd.scope.isGenerator&&decide (fd.scope.kind=.function))&&(fd.closure.isEmpty&&decide (fd.globals=mainGlobals)&&decide (fd.builtins=builtinsNs))&&d9 fd.params &&
  (decide (fd.defaults.ctorIdx=0)||yv fd.defaults λ T=>vO (K.lookup T) λ o=>yQ o.data λ _ _=>true) &&
  ((fd.params.args.map (·.arg)).all λ x=>decide (fd.scope.names.lookup x=some .local)||decide (fd.scope.names.lookup x=some .cell)))&&k fd body
theorem qr {S:Sx}{f:Nat}{k}(h:wA S.K (S.fa f) k=true):∃ fd body,nW S f fd body (fd.params.args.map (·.arg))/\k fd body=true:=by
 refine fP (C:=λ o=>S.K.lookup (S.fa f)=o->_) h (λ o h hl=>?_) rfl
 obtain ⟨oc,od,da,osl⟩:=o
 refine xQ (C:=λ da=>S.K.lookup (S.fa f)=some ⟨oc,od,da,osl⟩->_) h (λ fd h hl=>zG (C:=λ b=>fd.body=b->_) h (λ body h hb=>?_) rfl) hl
 have g:=al h
 refine ⟨fd,body,⟨⟨_,_,_,hl⟩,al (al (al (al (al g)))),?_,?_,GL (ar (ar (al (al (al (al g)))))),hb,isEmpty_iff.mp (al (al (ar (al (al (al g)))))),GL (ar (al (ar (al (al (al g)))))),GL (ar (ar (al (al (al g))))),ar (al (al g)),rfl,?_,λ x m=>?_⟩,ar h⟩
 .have:=al (al (ar (al (al (al (al g))))));simpa using this
 .have:=ar (al (ar (al (al (al (al g))))));simpa using this
 .rcases Bool.or_eq_true_iff.mp (ar (al g)) with q|q
  .exact .inl (Value.none.elim (motive:=λ v=>v=.none) _ (GL q) rfl)
  .exact .inr (yf (C:=λ v=>∃ T o items n,v=.ref T/\S.K.lookup T=some o/\o.data=.seq items n) q λ T q=>fP (C:=λ z=>S.K.lookup T=z->∃ T' o items n,Value.ref T=.ref T'/\S.K.lookup T'=some o/\o.data=.seq items n) q
    (λ o q e=>zP (C:=λ d=>o.data=d->∃ T' o items n,Value.ref T=.ref T'/\S.K.lookup T'=some o/\o.data=.seq items n) q (λ i n _ e'=>⟨T,o,i,n,rfl,e,e'⟩) rfl) rfl)
 .exact (Bool.or_eq_true_iff.mp (all_eq_true.mp (ar g) x m)).imp GL GL
noncomputable def yp (fd:FuncData) (n m:Nat):Bool:=(decide (bu fd.scope.names).Nodup&&((bu fd.scope.names).all λ nm=>!(nm==("__debug__" : Str)))) &&
 (decide ((bu fd.scope.names).take n=fd.params.args.map (·.arg))&&decide ((fd.params.args.map (·.arg)).length=n)&&decide ((bu fd.scope.names).length=m))
structure C6 (slots names:List Str) (n m:Nat):Prop where
 nodup:slots.Nodup
 dbg:∀ nm∈slots,(nm==("__debug__" : Str))=false
 take:slots.take names.length=names
 len:names.length=n
 all:slots.length=m
theorem td {fd:FuncData}{n m:Nat}(h:yp fd n m=true):C6 (bu fd.scope.names) (fd.params.args.map (·.arg)) n m:=by
 have e:=GL (ar (al (ar h)))
 exact ⟨GL (al (al h)),λ nm m=>by have:=all_eq_true.mp (ar (al h)) nm m;simpa using this,by refine sr e ?_;exact GL (al (al (ar h))),e,GL (ar (ar h))⟩
noncomputable def DM (K:Frag)(a:Addr)(n m:Nat)(β:Bool)(ir:B):Bool:=wA K a λ fd body=>yp fd n m&&cB ⟨bu fd.scope.names,fd.scope.names,β⟩ ir body
structure Fn (S:Sx) (f n m:Nat) (β:Bool) (ir:B):Prop where
 ex:∃ fd body names slots,nW S f fd body names/\C6 slots names n m/\cB ⟨slots,fd.scope.names,β⟩ ir body=true
theorem BU {S:Sx}{f n m:Nat}{β:Bool}{ir:B}(h:DM S.K (S.fa f) n m β ir=true):Fn S f n m β ir :=
 let ⟨fd,body,F,h⟩:=qr h
 ⟨fd,body,_,_,F,td (al h),ar h⟩
structure B0 (S:Sx):Prop where
 SO:nq S
 TO:xl S
 RO:jO S
 bad:S.mg (Str.ofString "BadParam")=some (.ref (S.ca 0))
theorem Fn.call {S:Sx}{f n m k:Nat}{cβ β:Bool}{ir:B}{X:Int->Prop}{vs:List V}{H:AH}{Q:V->AH->Prop}(F:Fn S f n m cβ ir)(G:B0 S)(hr:bB ir=true\/0<k)(hlen:vs.length=n)(hβ:cβ=true->β=true)
  (p:xs ir ⟨af S k,β,X⟩ (vs.map some++replicate (m-n) none) H (λ _ H'=>Q .none H') Q):af S (k+1) β X f vs H Q:=by
 obtain ⟨fd,body,names,slots,F,⟨h1,h2,h3,rfl,rfl⟩,h6⟩:=F
 refine qm (P:=λ ls H N Rr=>xs ir ⟨af S k,β,X⟩ ls H N Rr) F h1 h2 h3 hlen (λ K eS ek esl esc OK FE CE=>?_) p
 subst eS
 have:=sB ir ⟨slots,fd.scope.names,cβ⟩ _ _ β X h6 ⟨OK,G.SO,G.TO,esl,λ n=>by show K.env.scope.names.lookup n=_;refine sr esc ?_;rfl,CE,hβ⟩ FE (hr.imp id λ q=>⟨G.RO,by refine sr ek ?_;exact q,G.bad⟩)
 exact sl ek this
theorem af.mono {S:Sx}{k f:Nat}{β:Bool}{X:Int->Prop}{vs:List V}{H:AH}{Q Q':V->AH->Prop}(h:∀ u H',Q u H'->Q' u H')(c:af S k β X f vs H Q):af S k β X f vs H Q':=λ A fs s xs a b R r =>
 aj (c A fs s xs a b R r) (λ _ _ z=>PV.mono h z) λ _ _ z=>z
theorem af.weak {S:Sx}{k f:Nat}{β:Bool}{X:Int->Prop}{vs:List V}{H:AH}{Q:V->AH->Prop}(c:af S k β X f vs H λ u H'=>∃ H'',dI H' H''/\Q u H''):af S k β X f vs H Q:=λ A fs s xs a b R r =>
 aj (c A fs s xs a b R r) (λ _ _ ⟨u,H',r',R',T',H'',w,q⟩=>⟨u,H'',r',R'.weak w,T'.weak w,q⟩) λ _ _ z=>z
theorem DU {S:Sx}{k f:Nat}{β:Bool}{X X':Int->Prop}{vs:List V}{H:AH}{Q:V->AH->Prop}(h:∀ t,X t->X' t)(c:af S k β X f vs H Q):af S k β X' f vs H Q:=λ A fs s xs a b R r =>
 aj (c A fs s xs a b R r) (λ _ _ z=>z) λ _ _ z=>PX.mono h z
noncomputable def Fk:B :=
 (.ret (.and (.cmp .lt (.var 1) (.bi .len (.cons (.var 0) .nil))) (.cmp .isin (.sub (.var 0) (.var 1)) (.glb 6))))
noncomputable def ET:B :=
 (.set 2 (.int 0)
 (.while (.val (.call 1 (.cons (.var 0) (.cons (.var 1) .nil))))
 (.set 2 (.bin .sub (.bin .add (.bin .mul (.var 2) (.int 10)) (.sub (.var 0) (.var 1))) (.int 48))
 (.set 1 (.bin .add (.var 1) (.int 1))
 .done))
 (.ret (.tup (.cons (.var 2) (.cons (.var 1) .nil))))))
noncomputable def EP:B :=
 (.setA (.var 0) 1 (.var 1)
 (.setA (.var 0) 2 (.int 0)
 (.setA (.var 0) 3 (.lst .nil)
 (.setA (.var 0) 4 (.bi .barr .nil)
 (.setA (.var 0) 5 (.lst .nil)
 .done)))))
noncomputable def Fy:B :=
 (.raise (.var 1))
noncomputable def EQ:B :=
 (.cond (.cmp .gt (.bi .lenB (.cons (.attr (.var 0) 4) .nil)) (.int 0))
 (.ex (.bm .append (.attr (.var 0) 3) (.cons (.tup (.cons (.str [116,101,120,116]) (.cons (.bi (.bytesB ()) (.cons (.attr (.var 0) 4) .nil)) .nil))) .nil))
 (.setA (.var 0) 4 (.bi .barr .nil)
 .done))
 .done
 .done)
noncomputable def Fq:B :=
 (.ex (.meth 1 5 (.var 0) .nil)
 (.ex (.bm .append (.attr (.var 0) 3) (.cons (.var 1) .nil))
 .done))
noncomputable def FK:B :=
 (.while (.cmp .lt (.attr (.var 0) 2) (.bi .len (.cons (.attr (.var 0) 1) .nil)))
 (.cond (.cmp .ne (.sub (.attr (.var 0) 1) (.attr (.var 0) 2)) (.glb 0))
 (.ex (.bm .bappend (.attr (.var 0) 4) (.cons (.sub (.attr (.var 0) 1) (.attr (.var 0) 2)) .nil))
 (.setA (.var 0) 2 (.bin .add (.attr (.var 0) 2) (.int 1))
 .done))
 (.ex (.meth 1 8 (.var 0) (.cons (.attr (.var 0) 2) .nil))
 .done)
 .done)
 (.ex (.meth 1 5 (.var 0) .nil)
 (.cond (.neNil (.attr (.var 0) 5))
 (.ex (.meth 1 4 (.var 0) (.cons (.bi .len (.cons (.attr (.var 0) 1) .nil)) .nil))
 .done)
 .done
 (.ret (.attr (.var 0) 3)))))
noncomputable def Fm:B :=
 (.cond (.cmp .ge (.bin .add (.var 1) (.int 1)) (.bi .len (.cons (.attr (.var 0) 1) .nil)))
 (.ex (.meth 1 4 (.var 0) (.cons (.var 1) .nil))
 .done)
 .done
 (.set 2 (.sub (.attr (.var 0) 1) (.bin .add (.var 1) (.int 1)))
 (.setA (.var 0) 2 (.bin .add (.var 1) (.int 2))
 (.cond (.cmp .eq (.var 2) (.glb 0))
 (.ex (.bm .bappend (.attr (.var 0) 4) (.cons (.glb 0) .nil))
 .done)
 (.cond (.cmp .eq (.var 2) (.sub (.bytes [99]) (.int 0)))
 (.ex (.meth 1 6 (.var 0) (.cons (.tup (.cons (.str [99,104,97,114]) .nil)) .nil))
 .done)
 (.cond (.cmp .eq (.var 2) (.sub (.bytes [108]) (.int 0)))
 (.ex (.meth 1 6 (.var 0) (.cons (.tup (.cons (.str [108,101,110,103,116,104]) .nil)) .nil))
 .done)
 (.cond (.cmp .eq (.var 2) (.sub (.bytes [105]) (.int 0)))
 (.ex (.meth 1 6 (.var 0) (.cons (.tup (.cons (.str [109,111,114,101]) .nil)) .nil))
 .done)
 (.cond (.cmp .isin (.var 2) (.bytes [112,80,103]))
 (.ex (.meth 1 9 (.var 0) (.cons (.var 1) (.cons (.var 2) .nil)))
 .done)
 (.cond (.cmp .isin (.var 2) (.bytes [39,123]))
 (.ex (.meth 1 10 (.var 0) (.cons (.var 1) (.cons (.var 2) .nil)))
 .done)
 (.cond (.cmp .isin (.var 2) (.glb 3))
 (.ex (.meth 1 6 (.var 0) (.cons (.tup (.cons (.str [116,119,111]) (.cons (.var 2) .nil))) .nil))
 .done)
 (.cond (.cmp .isin (.var 2) (.glb 4))
 (.ex (.meth 1 6 (.var 0) (.cons (.tup (.cons (.str [111,110,101]) (.cons (.var 2) .nil))) .nil))
 .done)
 (.cond (.cmp .isin (.var 2) (.bytes [63,116,101,59]))
 (.ex (.meth 1 11 (.var 0) (.cons (.var 1) (.cons (.var 2) .nil)))
 .done)
 (.ex (.meth 1 12 (.var 0) (.cons (.var 1) .nil))
 .done)
 .done)
 .done)
 .done)
 .done)
 .done)
 .done)
 .done)
 .done)
 .done))))
noncomputable def FG:B :=
 (.cond (.cmp .ge (.attr (.var 0) 2) (.bi .len (.cons (.attr (.var 0) 1) .nil)))
 (.ex (.meth 1 4 (.var 0) (.cons (.var 1) .nil))
 .done)
 .done
 (.set 3 (.sub (.attr (.var 0) 1) (.attr (.var 0) 2))
 (.setA (.var 0) 2 (.bin .add (.attr (.var 0) 2) (.int 1))
 (.cond (.cmp .eq (.var 2) (.sub (.bytes [112]) (.int 0)))
 (.cond (.not (.chain (.sub (.bytes [49]) (.int 0)) .le (.var 3) .le (.sub (.bytes [57]) (.int 0))))
 (.ex (.meth 1 4 (.var 0) (.cons (.var 1) .nil))
 .done)
 .done
 (.ex (.meth 1 6 (.var 0) (.cons (.tup (.cons (.str [112,97,114,97,109]) (.cons (.bin .sub (.var 3) (.int 48)) .nil))) .nil))
 .done))
 (.cond (.and (.not (.chain (.sub (.bytes [97]) (.int 0)) .le (.var 3) .le (.sub (.bytes [122]) (.int 0)))) (.not (.chain (.sub (.bytes [65]) (.int 0)) .le (.var 3) .le (.sub (.bytes [90]) (.int 0)))))
 (.ex (.meth 1 4 (.var 0) (.cons (.var 1) .nil))
 .done)
 .done
 (.ex (.meth 1 6 (.var 0) (.cons (.tup (.cons (.ite (.cmp .eq (.var 2) (.sub (.bytes [80]) (.int 0))) (.str [115,101,116]) (.str [103,101,116])) (.cons (.var 3) .nil))) .nil))
 .done))
 .done))))
noncomputable def C1:B :=
 (.cond (.cmp .eq (.var 2) (.sub (.bytes [39]) (.int 0)))
 (.cond (.cmp .ne (.slc (.attr (.var 0) 1) (.bin .add (.attr (.var 0) 2) (.int 1)) (.bin .add (.attr (.var 0) 2) (.int 2))) (.bytes [39]))
 (.ex (.meth 1 4 (.var 0) (.cons (.var 1) .nil))
 .done)
 .done
 (.ex (.meth 1 6 (.var 0) (.cons (.tup (.cons (.str [112,117,115,104]) (.cons (.sub (.attr (.var 0) 1) (.attr (.var 0) 2)) .nil))) .nil))
 (.setA (.var 0) 2 (.bin .add (.attr (.var 0) 2) (.int 2))
 .retN)))
 .done
 (.set 3 (.int 1)
 (.cond (.cmp .eq (.slc (.attr (.var 0) 1) (.attr (.var 0) 2) (.bin .add (.attr (.var 0) 2) (.int 1))) (.bytes [45]))
 (.set 3 (.neg (.int 1))
 (.setA (.var 0) 2 (.bin .add (.attr (.var 0) 2) (.int 1))
 .done))
 .done
 (.cond (.not (.val (.call 1 (.cons (.attr (.var 0) 1) (.cons (.attr (.var 0) 2) .nil)))))
 (.ex (.meth 1 4 (.var 0) (.cons (.var 1) .nil))
 .done)
 .done
 (.setVA 4 (.var 0) 2 (.call 2 (.cons (.attr (.var 0) 1) (.cons (.attr (.var 0) 2) .nil)))
 (.cond (.cmp .ne (.slc (.attr (.var 0) 1) (.attr (.var 0) 2) (.bin .add (.attr (.var 0) 2) (.int 1))) (.bytes [125]))
 (.ex (.meth 1 4 (.var 0) (.cons (.var 1) .nil))
 .done)
 .done
 (.setA (.var 0) 2 (.bin .add (.attr (.var 0) 2) (.int 1))
 (.ex (.meth 1 6 (.var 0) (.cons (.tup (.cons (.str [112,117,115,104]) (.cons (.bin .mul (.var 3) (.var 4)) .nil))) .nil))
 .done))))))))
noncomputable def Dn:B :=
 (.ex (.meth 1 5 (.var 0) .nil)
 (.cond (.cmp .eq (.var 2) (.sub (.bytes [63]) (.int 0)))
 (.ex (.bm .append (.attr (.var 0) 5) (.cons (.lst (.cons .none (.cons (.lst .nil) .nil))) .nil))
 .retN)
 .done
 (.cond (.eqNil (.attr (.var 0) 5))
 (.ex (.meth 1 4 (.var 0) (.cons (.var 1) .nil))
 .done)
 .done
 (.set 3 (.sub (.attr (.var 0) 5) (.neg (.int 1)))
 (.cond (.cmp .eq (.var 2) (.sub (.bytes [116]) (.int 0)))
 (.cond (.notN (.sub (.var 3) (.int 0)))
 (.ex (.meth 1 4 (.var 0) (.cons (.var 1) .nil))
 .done)
 .done
 (.setS (.var 3) (.int 0) (.bi .lenL (.cons (.attr (.var 0) 3) .nil))
 (.ex (.bm .append (.attr (.var 0) 3) (.cons (.tup (.cons (.str [117,110,108,101,115,115]) (.cons (.int 0) .nil))) .nil))
 .done)))
 (.cond (.cmp .eq (.var 2) (.sub (.bytes [101]) (.int 0)))
 (.cond (.isN (.sub (.var 3) (.int 0)))
 (.ex (.meth 1 4 (.var 0) (.cons (.var 1) .nil))
 .done)
 .done
 (.ex (.bm .append (.sub (.var 3) (.int 1)) (.cons (.bi .lenL (.cons (.attr (.var 0) 3) .nil)) .nil))
 (.ex (.bm .append (.attr (.var 0) 3) (.cons (.tup (.cons (.str [106,117,109,112]) (.cons (.int 0) .nil))) .nil))
 (.setS (.attr (.var 0) 3) (.sub (.var 3) (.int 0)) (.tup (.cons (.str [117,110,108,101,115,115]) (.cons (.bi .lenL (.cons (.attr (.var 0) 3) .nil)) .nil)))
 (.setS (.var 3) (.int 0) .none
 .done)))))
 (.cond (.notN (.sub (.var 3) (.int 0)))
 (.setS (.attr (.var 0) 3) (.sub (.var 3) (.int 0)) (.tup (.cons (.str [117,110,108,101,115,115]) (.cons (.bi .lenL (.cons (.attr (.var 0) 3) .nil)) .nil)))
 .done)
 .done
 (.for .list (.one 4) (.sub (.var 3) (.int 1))
 (.setS (.attr (.var 0) 3) (.var 4) (.tup (.cons (.str [106,117,109,112]) (.cons (.bi .lenL (.cons (.attr (.var 0) 3) .nil)) .nil)))
 .done)
 (.ex (.bm .pop (.attr (.var 0) 5) .nil)
 .done)))
 .done)
 .done)))))
noncomputable def xg:B :=
 (.cond (.or (.cmp .ge (.var 3) (.bi .len (.cons (.var 2) .nil))) (.cmp (.notin ()) (.sub (.var 2) (.var 3)) (.glb 5)))
 (.ex (.meth 1 4 (.var 0) (.cons (.var 1) .nil))
 .done)
 .done
 (.setA (.var 0) 2 (.bin .add (.var 3) (.int 1))
 (.ex (.meth 1 6 (.var 0) (.cons (.tup (.cons (.str [119,114,105,116,101]) (.cons (.sub (.var 2) (.var 3)) (.cons (.var 4) (.cons (.var 6) (.cons (.var 7) .nil)))))) .nil))
 .done)))
noncomputable def un:B :=
 (.set 7 .none
 (.cond (.cmp .eq (.slc (.var 2) (.var 3) (.bin .add (.var 3) (.int 1))) (.bytes [46]))
 (.setN [7,3] (.call 2 (.cons (.var 2) (.cons (.bin .add (.var 3) (.int 1)) .nil)))
 .done)
 .done xg))
noncomputable def wW:B :=
 (.while (.and (.cmp .lt (.var 3) (.bi .len (.cons (.var 2) .nil))) (.or (.cmp .isin (.sub (.var 2) (.var 3)) (.bytes [35,32,48])) (.and (.val (.var 5)) (.cmp .isin (.sub (.var 2) (.var 3)) (.bytes [45,43])))))
 (.set 4 (.bin .add (.var 4) (.slc (.var 2) (.var 3) (.bin .add (.var 3) (.int 1))))
 (.set 3 (.bin .add (.var 3) (.int 1))
 .done))
 (.setN [6,3] (.call 2 (.cons (.var 2) (.cons (.var 3) .nil))) un))
noncomputable def DH:B:=(.set 2 (.attr (.var 0) 1)
 (.set 3 (.bin .add (.var 1) (.int 1))
 (.set 4 (.bytes [])
 (.set 5 (.cmp .eq (.slc (.var 2) (.var 3) (.bin .add (.var 3) (.int 1))) (.bytes [58]))
 (.cond (.val (.var 5))
 (.set 3 (.bin .add (.var 3) (.int 1))
 .done)
 .done wW)))))
noncomputable def Dl:B :=
 (.ret (.meth 1 7 (.mk 1 3 (.cons (.var 0) .nil)) .nil))
noncomputable def DZ:B :=
 (.set 3 (.ite (.val (.var 2)) (.bytes [48,49,50,51,52,53,54,55,56,57,65,66,67,68,69,70]) (.bytes [48,49,50,51,52,53,54,55,56,57,97,98,99,100,101,102]))
 (.set 4 (.bi .barr .nil)
 (.set 5 (.var 0)
 (.while (.or (.cmp .gt (.var 5) (.int 0)) (.cmp .eq (.bi .lenB (.cons (.var 4) .nil)) (.int 0)))
 (.ex (.bm .bappend (.var 4) (.cons (.sub (.var 3) (.bin .mod (.var 5) (.var 1))) .nil))
 (.set 5 (.bin .fdiv (.var 5) (.var 1))
 .done))
 (.ret (.bi (.bytesB ()) (.cons (.rev (.var 4)) .nil)))))))
noncomputable def C7:B :=
 (.set 5 (.bin .sub (.bin .sub (.var 3) (.bi .len (.cons (.var 0) .nil))) (.bi .len (.cons (.var 1) .nil)))
 (.cond (.cmp .le (.var 5) (.int 0))
 (.ret (.bin .add (.var 0) (.var 1)))
 .done
 (.cond (.cmp .isin (.bytes [45]) (.var 2))
 (.ret (.bin .add (.bin .add (.var 0) (.var 1)) (.bin .mul (.bytes [32]) (.var 5))))
 .done
 (.cond (.and (.cmp .isin (.bytes [48]) (.var 2)) (.not (.val (.var 4))))
 (.ret (.bin .add (.bin .add (.var 0) (.bin .mul (.bytes [48]) (.var 5))) (.var 1)))
 .done
 (.ret (.bin .add (.bin .add (.bin .mul (.bytes [32]) (.var 5)) (.var 0)) (.var 1)))))))
noncomputable def w4:B :=
 (.cond (.notN (.var 3))
 (.cond (.and (.cmp .eq (.var 3) (.int 0)) (.cmp .eq (.var 4) (.int 0)))
 (.set 5 (.bytes [])
 .done)
 .done
 (.set 5 (.bin .add (.bin .mul (.bytes [48]) (.bin .sub (.var 3) (.bi .len (.cons (.var 5) .nil)))) (.var 5))
 .done))
 .done
 (.ret (.call 15 (.cons (.var 6) (.cons (.var 5) (.cons (.var 1) (.cons (.var 2) (.cons (.notN (.var 3)) .nil))))))))
noncomputable def Bg:B :=
 (.set 5 (.call 14 (.cons (.bi .abs (.cons (.var 4) .nil)) (.cons (.int 10) (.cons (.bool false) .nil))))
 (.cond (.cmp .lt (.var 4) (.int 0))
 (.set 6 (.bytes [45])
 .done)
 (.cond (.cmp .isin (.bytes [43]) (.var 1))
 (.set 6 (.bytes [43])
 .done)
 (.cond (.cmp .isin (.bytes [32]) (.var 1))
 (.set 6 (.bytes [32])
 .done)
 .done
 .done)
 .done)
 .done))
noncomputable def AG:B :=
 (.set 7 (.ite (.cmp .lt (.var 4) (.int 0)) (.bin .mod (.var 4) (.glb 1)) (.var 4))
 (.set 5 (.call 14 (.cons (.var 7) (.cons (.ite (.cmp .eq (.var 0) (.sub (.bytes [111]) (.int 0))) (.int 8) (.int 16)) (.cons (.cmp .eq (.var 0) (.sub (.bytes [88]) (.int 0))) .nil))))
 (.cond (.and (.cmp .isin (.bytes [35]) (.var 1)) (.cmp .gt (.var 7) (.int 0)))
 (.set 6 (.ite (.cmp .eq (.var 0) (.sub (.bytes [111]) (.int 0))) (.bytes [48]) (.bin .add (.bytes [48]) (.bi .bytesL (.cons (.lst (.cons (.var 0) .nil)) .nil))))
 .done)
 .done
 .done)))
noncomputable def Ds:B:=(.cond (.cmp .eq (.var 0) (.sub (.bytes [115]) (.int 0)))
 (.set 5 (.ite (.isN (.var 3)) (.var 4) (.slcTo (.var 4) (.var 3)))
 (.ret (.call 15 (.cons (.bytes []) (.cons (.var 5) (.cons (.ite (.cmp .isin (.bytes [45]) (.var 1)) (.bytes [45]) (.bytes [])) (.cons (.var 2) (.cons (.bool true) .nil))))))))
 .done
 (.set 6 (.bytes [])
 (.cond (.cmp .eq (.var 0) (.sub (.bytes [100]) (.int 0))) Bg AG w4)))
noncomputable def Dm:B :=
 (.setA (.var 0) 6 (.lst .nil)
 .done)
noncomputable def CY:B :=
 (.ex (.bm .append (.attr (.var 0) 6) (.cons (.var 1) .nil))
 .done)
noncomputable def CZ:B :=
 (.ret (.ite (.eqNil (.attr (.var 0) 6)) (.int 0) (.bm .pop (.attr (.var 0) 6) .nil)))
noncomputable def CA:B :=
 (.set 1 (.meth 2 19 (.var 0) .nil)
 (.ret (.ite (.val (.bi .isInt (.cons (.var 1) .nil))) (.var 1) (.int 0))))
noncomputable def Dj:B :=
 (.set 1 (.meth 2 19 (.var 0) .nil)
 (.ret (.ite (.val (.bi .isBytes (.cons (.var 1) .nil))) (.var 1) (.bytes []))))
noncomputable def Dv:B :=
 (.cond (.cmp .eq (.var 1) (.int 0))
 (.ret (.int 0))
 .done
 (.set 2 (.bin .fdiv (.bi .abs (.cons (.var 0) .nil)) (.bi .abs (.cons (.var 1) .nil)))
 (.ret (.ite (.cmp .eq (.cmp .lt (.var 0) (.int 0)) (.cmp .lt (.var 1) (.int 0))) (.var 2) (.neg (.var 2))))))
noncomputable def Ed:B :=
 (.cond (.cmp .eq (.var 0) (.sub (.bytes [43]) (.int 0)))
 (.ret (.bin .add (.var 1) (.var 2)))
 .done
 (.cond (.cmp .eq (.var 0) (.sub (.bytes [45]) (.int 0)))
 (.ret (.bin .sub (.var 1) (.var 2)))
 .done
 (.cond (.cmp .eq (.var 0) (.sub (.bytes [42]) (.int 0)))
 (.ret (.bin .mul (.var 1) (.var 2)))
 .done
 (.cond (.cmp .eq (.var 0) (.sub (.bytes [47]) (.int 0)))
 (.ret (.call 22 (.cons (.var 1) (.cons (.var 2) .nil))))
 .done
 (.cond (.cmp .eq (.var 0) (.sub (.bytes [109]) (.int 0)))
 (.ret (.ite (.cmp .eq (.var 2) (.int 0)) (.int 0) (.bin .sub (.var 1) (.bin .mul (.var 2) (.call 22 (.cons (.var 1) (.cons (.var 2) .nil)))))))
 .done
 (.ret (.call 24 (.cons (.var 0) (.cons (.var 1) (.cons (.var 2) .nil))))))))))
noncomputable def DE:B :=
 (.cond (.cmp .eq (.var 0) (.sub (.bytes [38]) (.int 0)))
 (.ret (.bin .band (.var 1) (.var 2)))
 .done
 (.cond (.cmp .eq (.var 0) (.sub (.bytes [124]) (.int 0)))
 (.ret (.bin .bor (.var 1) (.var 2)))
 .done
 (.cond (.cmp .eq (.var 0) (.sub (.bytes [94]) (.int 0)))
 (.ret (.bin (.bxor ()) (.var 1) (.var 2)))
 .done
 (.cond (.cmp .eq (.var 0) (.sub (.bytes [61]) (.int 0)))
 (.ret (.ite (.cmp .eq (.var 1) (.var 2)) (.int 1) (.int 0)))
 .done
 (.cond (.cmp .eq (.var 0) (.sub (.bytes [62]) (.int 0)))
 (.ret (.ite (.cmp .gt (.var 1) (.var 2)) (.int 1) (.int 0)))
 .done
 (.cond (.cmp .eq (.var 0) (.sub (.bytes [60]) (.int 0)))
 (.ret (.ite (.cmp .lt (.var 1) (.var 2)) (.int 1) (.int 0)))
 .done
 (.cond (.cmp .eq (.var 0) (.sub (.bytes [65]) (.int 0)))
 (.ret (.ite (.and (.cmp .ne (.var 1) (.int 0)) (.cmp .ne (.var 2) (.int 0))) (.int 1) (.int 0)))
 .done
 (.ret (.ite (.or (.cmp .ne (.var 1) (.int 0)) (.cmp .ne (.var 2) (.int 0))) (.int 1) (.int 0))))))))))
noncomputable def Dq:B :=
 (.setA (.var 0) 7 (.bi .list (.cons (.var 1) .nil))
 (.setA (.var 0) 8 .empI
 (.setA (.var 0) 9 (.var 2)
 (.setA (.var 0) 10 (.mk 2 17 .nil)
 (.setA (.var 0) 11 (.bi .barr .nil)
 .done)))))
noncomputable def CJ:B :=
 (.ret (.ite (.cmp .le (.var 1) (.bi .lenL (.cons (.attr (.var 0) 7) .nil))) (.sub (.attr (.var 0) 7) (.bin .sub (.var 1) (.int 1))) (.int 0)))
noncomputable def DC:B :=
 (.ret (.ite (.cmp .ge (.var 1) (.sub (.bytes [97]) (.int 0))) (.attr (.var 0) 8) (.attr (.var 0) 9)))
noncomputable def CC:B :=
 (.for .range (.one 1) (.bi .min (.cons (.int 2) (.cons (.bi .lenL (.cons (.attr (.var 0) 7) .nil)) .nil)))
 (.cond (.val (.bi .isInt (.cons (.sub (.attr (.var 0) 7) (.var 1)) .nil)))
 (.setS (.attr (.var 0) 7) (.var 1) (.bin .add (.sub (.attr (.var 0) 7) (.var 1)) (.int 1))
 .done)
 .done
 .done)
 .done)
noncomputable def C0:B :=
 (.setN [2,3,4,5,6] (.var 1)
 (.set 7 (.ite (.cmp .eq (.var 3) (.sub (.bytes [115]) (.int 0))) (.meth 2 21 (.attr (.var 0) 10) .nil) (.meth 2 20 (.attr (.var 0) 10) .nil))
 (.ex (.bm .bextend (.attr (.var 0) 11) (.cons (.call 16 (.cons (.var 3) (.cons (.var 4) (.cons (.var 5) (.cons (.var 6) (.cons (.var 7) .nil)))))) .nil))
 .done)))
noncomputable def As:B :=
 (.set 2 (.sub (.var 1) (.int 0))
 (.cond (.cmp .eq (.var 2) (.str [116,101,120,116]))
 (.ex (.bm .bextend (.attr (.var 0) 11) (.cons (.sub (.var 1) (.int 1)) .nil))
 .done)
 (.cond (.cmp .eq (.var 2) (.str [99,104,97,114]))
 (.set 3 (.bin .mod (.meth 2 20 (.attr (.var 0) 10) .nil) (.int 256))
 (.ex (.bm .bappend (.attr (.var 0) 11) (.cons (.ite (.cmp .eq (.var 3) (.int 0)) (.glb 2) (.var 3)) .nil))
 .done))
 (.cond (.cmp .eq (.var 2) (.str [119,114,105,116,101]))
 (.ex (.meth 3 29 (.var 0) (.cons (.var 1) .nil))
 .done)
 (.cond (.cmp .eq (.var 2) (.str [112,97,114,97,109]))
 (.ex (.meth 2 18 (.attr (.var 0) 10) (.cons (.meth 3 26 (.var 0) (.cons (.sub (.var 1) (.int 1)) .nil)) .nil))
 .done)
 (.cond (.cmp .eq (.var 2) (.str [112,117,115,104]))
 (.ex (.meth 2 18 (.attr (.var 0) 10) (.cons (.sub (.var 1) (.int 1)) .nil))
 .done)
 (.cond (.cmp .eq (.var 2) (.str [115,101,116]))
 (.setS (.meth 3 27 (.var 0) (.cons (.sub (.var 1) (.int 1)) .nil)) (.sub (.var 1) (.int 1)) (.meth 2 19 (.attr (.var 0) 10) .nil)
 .done)
 (.cond (.cmp .eq (.var 2) (.str [103,101,116]))
 (.ex (.meth 2 18 (.attr (.var 0) 10) (.cons (.bm .getI (.meth 3 27 (.var 0) (.cons (.sub (.var 1) (.int 1)) .nil)) (.cons (.sub (.var 1) (.int 1)) (.cons (.int 0) .nil))) .nil))
 .done)
 (.cond (.cmp .eq (.var 2) (.str [108,101,110,103,116,104]))
 (.ex (.meth 2 18 (.attr (.var 0) 10) (.cons (.bi .len (.cons (.meth 2 21 (.attr (.var 0) 10) .nil) .nil)) .nil))
 .done)
 (.cond (.cmp .eq (.var 2) (.str [109,111,114,101]))
 (.ex (.meth 3 28 (.var 0) .nil)
 .done)
 (.ex (.meth 3 31 (.var 0) (.cons (.var 1) .nil))
 .done)
 .done)
 .done)
 .done)
 .done)
 .done)
 .done)
 .done)
 .done)
 .done))
noncomputable def DF:B :=
 (.set 2 (.meth 2 20 (.attr (.var 0) 10) .nil)
 (.cond (.cmp .eq (.sub (.var 1) (.int 0)) (.str [116,119,111]))
 (.ex (.meth 2 18 (.attr (.var 0) 10) (.cons (.call 23 (.cons (.sub (.var 1) (.int 1)) (.cons (.meth 2 20 (.attr (.var 0) 10) .nil) (.cons (.var 2) .nil)))) .nil))
 .done)
 (.cond (.cmp .eq (.sub (.var 1) (.int 1)) (.sub (.bytes [33]) (.int 0)))
 (.ex (.meth 2 18 (.attr (.var 0) 10) (.cons (.ite (.cmp .eq (.var 2) (.int 0)) (.int 1) (.int 0)) .nil))
 .done)
 (.ex (.meth 2 18 (.attr (.var 0) 10) (.cons (.inv (.var 2)) .nil))
 .done)
 .done)
 .done))
noncomputable def CH:B :=
 (.set 2 (.int 0)
 (.while (.cmp .lt (.var 2) (.bi .lenL (.cons (.var 1) .nil)))
 (.set 3 (.sub (.var 1) (.var 2))
 (.set 2 (.bin .add (.var 2) (.int 1))
 (.cond (.cmp .eq (.sub (.var 3) (.int 0)) (.str [106,117,109,112]))
 (.set 2 (.sub (.var 3) (.int 1))
 .done)
 (.cond (.cmp .eq (.sub (.var 3) (.int 0)) (.str [117,110,108,101,115,115]))
 (.cond (.cmp .eq (.meth 2 20 (.attr (.var 0) 10) .nil) (.int 0))
 (.set 2 (.sub (.var 3) (.int 1))
 .done)
 .done
 .done)
 (.ex (.meth 3 30 (.var 0) (.cons (.var 3) .nil))
 .done)
 .done)
 .done)))
 (.ret (.bi (.bytesB ()) (.cons (.attr (.var 0) 11) .nil)))))
noncomputable def Dd:B :=
 (.ret (.meth 3 32 (.mk 3 25 (.cons (.var 1) (.cons (.ite (.isN (.var 2)) .empI (.var 2)) .nil))) (.cons (.call 13 (.cons (.var 0) .nil)) .nil)))
noncomputable def CM:B :=
 (.ret (.lst (.cons (.str [43]) (.cons (.str [45]) (.cons (.str [42]) (.cons (.str [47]) (.cons (.str [109]) (.cons (.str [38]) (.cons (.str [124]) (.cons (.str [94]) (.cons (.str [61]) (.cons (.str [62]) (.cons (.str [60]) (.cons (.str [65]) (.cons (.str [79]) .nil)))))))))))))))
noncomputable def Dz:B :=
 (.ret (.lst (.cons (.str [37,100]) (.cons (.str [37,50,100]) (.cons (.str [37,48,51,100]) (.cons (.str [37,58,45,52,100]) (.cons (.str [37,58,43,100]) (.cons (.str [37,46,51,100]) (.cons (.str [37,120]) (.cons (.str [37,88]) (.cons (.str [37,111]) (.cons (.str [37,99]) (.cons (.str [37,52,46,50,100]) (.cons (.str [37,53,120]) .nil))))))))))))))
noncomputable def Bk:B :=
 (.ret (.lst (.cons (.tup (.cons (.str [37]) (.cons (.int 0) .nil))) (.cons (.tup (.cons (.str [37,81]) (.cons (.int 0) .nil))) (.cons (.tup (.cons (.str [37,112,48]) (.cons (.int 0) .nil))) (.cons (.tup (.cons (.str [37,112]) (.cons (.int 0) .nil))) (.cons (.tup (.cons (.str [37,80,49]) (.cons (.int 0) .nil))) (.cons (.tup (.cons (.str [37,39,120]) (.cons (.int 0) .nil))) (.cons (.tup (.cons (.str [37,123,125]) (.cons (.int 0) .nil))) (.cons (.tup (.cons (.str [37,123,49,50]) (.cons (.int 0) .nil))) (.cons (.tup (.cons (.str [37,59]) (.cons (.int 0) .nil))) (.cons (.tup (.cons (.str [37,116]) (.cons (.int 0) .nil))) (.cons (.tup (.cons (.str [37,63,37,116,37,116,37,59]) (.cons (.int 4) .nil))) (.cons (.tup (.cons (.str [37,63,37,101,37,59]) (.cons (.int 2) .nil))) (.cons (.tup (.cons (.str [37,63,37,123,49,125,37,116,97]) (.cons (.int 9) .nil))) .nil)))))))))))))))
noncomputable def CS:B :=
 (.setN [2,3] (.tup (.cons (.comp .list (.one 1) 3 [] (.bin .mod (.bi .int (.cons (.var 1) .nil)) (.int 1000003)) (.slcTo (.var 0) (.int 24))) (.cons (.int 4511) .nil)))
 (.for .list (.one 1) (.var 2)
 (.set 3 (.bin .mod (.bin .add (.bin .add (.bin .mul (.var 3) (.int 31)) (.var 1)) (.int 1)) (.int 1000003))
 .done)
 (.ret (.dct [[108,101,102,116],[109,105,120,101,100]] (.cons (.var 2) (.cons (.var 3) .nil))))))
noncomputable def Da:B :=
 (.cond (.neNil (.sub (.var 0) (.str [108,101,102,116])))
 (.ret (.bin .mod (.bm (.pop0 ()) (.sub (.var 0) (.str [108,101,102,116])) (.cons (.int 0) .nil)) (.var 1)))
 .done
 (.setS (.var 0) (.str [109,105,120,101,100]) (.bin .mod (.bin .add (.bin .mul (.sub (.var 0) (.str [109,105,120,101,100])) (.int 4801)) (.int 97)) (.int 1000003))
 (.ret (.bin .mod (.bin .fdiv (.sub (.var 0) (.str [109,105,120,101,100])) (.int 7)) (.var 1)))))
noncomputable def xG:E:=(.tup (.cons (.call 41 (.cons (.var 3) (.cons (.int 2) (.cons (.bin .sub (.var 4) (.int 1)) .nil)))) (.cons (.call 41 (.cons (.var 3) (.cons (.int 2) (.cons (.bin .sub (.var 4) (.int 1)) .nil)))) .nil)))
noncomputable def rm:B:=(.set 4 (.bin .add (.bin .add (.bin .add (.bin .add (.var 4) (.ite (.cmp .gt (.var 5) (.int 0)) (.str [37,101]) (.str []))) (.sub (.var 6) (.int 0))) (.str [37,116])) (.sub (.var 7) (.int 0)))
 .done)
noncomputable def Aw:E:=(.tup (.cons (.sub (.var 1) (.int 1)) (.cons (.sub (.var 2) (.int 1)) .nil)))
noncomputable def A7:B:=(.ret (.tup (.cons (.var 4) (.cons (.tup (.cons (.str [105,102]) (.cons (.comp .list (.two 1 2) 3 [] Aw (.var 2)) (.cons (.ite (.notN (.var 3)) (.sub (.var 3) (.int 1)) (.lst .nil)) .nil)))) .nil))))
noncomputable def uG:B:=(.set 4 (.bin .add (.bin .add (.var 4) (.ite (.notN (.var 3)) (.bin .add (.str [37,101]) (.sub (.var 3) (.int 0))) (.str []))) (.str [37,59])) A7)
noncomputable def Cb:B:=(.set 2 (.comp .range (.one 1) 5 [(3,0),(4,1)] xG (.bin .add (.int 1) (.call 38 (.cons (.var 0) (.cons (.int 2) .nil)))))
 (.set 3 (.ite (.cmp .eq (.call 38 (.cons (.var 0) (.cons (.int 2) .nil))) (.int 0)) (.call 41 (.cons (.var 0) (.cons (.int 2) (.cons (.bin .sub (.var 1) (.int 1)) .nil)))) .none)
 (.set 4 (.str [37,63])
 (.for .enum (.three 5 6 7) (.var 2) rm uG))))
noncomputable def Ba:B :=
 (.setN [2,3] (.tup (.cons (.call 38 (.cons (.var 0) (.cons (.int 12) .nil))) (.cons (.call 38 (.cons (.var 0) (.cons (.int 9) .nil))) .nil)))
 (.cond (.cmp .eq (.var 2) (.int 0))
 (.ret (.tup (.cons (.sub (.lst (.cons (.str [120]) (.cons (.str [37,37]) (.cons (.str [36,60,53,62]) (.cons (.str [97,59]) .nil))))) (.bin .mod (.var 3) (.int 4))) (.cons (.lst (.cons (.tup (.cons (.str [108,105,116]) (.cons (.sub (.lst (.cons (.str [120]) (.cons (.str [37]) (.cons (.str [36,60,53,62]) (.cons (.str [97,59]) .nil))))) (.bin .mod (.var 3) (.int 4))) .nil))) .nil)) .nil))))
 .done
 (.cond (.cmp .eq (.var 2) (.int 1))
 (.set 4 (.sub (.lst (.cons (.int 1) (.cons (.int 3) (.cons (.int 4) .nil)))) (.bin .mod (.var 3) (.int 3)))
 (.ret (.tup (.cons (.bin .add (.str [37,112]) (.bi .str (.cons (.var 4) .nil))) (.cons (.lst (.cons (.tup (.cons (.str [112]) (.cons (.var 4) .nil))) .nil)) .nil)))))
 .done
 (.cond (.cmp .eq (.var 2) (.int 2))
 (.ret (.tup (.cons (.bin .add (.bin .add (.str [37,123]) (.bi .str (.cons (.bin .mul (.var 3) (.int 7)) .nil))) (.str [125])) (.cons (.lst (.cons (.tup (.cons (.str [110]) (.cons (.bin .mul (.var 3) (.int 7)) .nil))) .nil)) .nil))))
 .done
 (.cond (.cmp .eq (.var 2) (.int 3))
 (.ret (.tup (.cons (.bin .add (.bin .add (.str [37,39]) (.sub (.str [65,90,43]) (.bin .mod (.var 3) (.int 3)))) (.str [39])) (.cons (.lst (.cons (.tup (.cons (.str [110]) (.cons (.bi .ord (.cons (.sub (.str [65,90,43]) (.bin .mod (.var 3) (.int 3))) .nil)) .nil))) .nil)) .nil))))
 .done
 (.cond (.cmp .eq (.var 2) (.int 4))
 (.ret (.tup (.cons (.bin .add (.bin .add (.bin .add (.str [37,80]) (.sub (.str [97,65]) (.bin .mod (.var 3) (.int 2)))) (.str [37,103])) (.sub (.str [97,65]) (.bin .mod (.var 3) (.int 2)))) (.cons (.lst (.cons (.tup (.cons (.str [80]) (.cons (.sub (.str [97,65]) (.bin .mod (.var 3) (.int 2))) .nil))) (.cons (.tup (.cons (.str [103]) (.cons (.sub (.str [97,65]) (.bin .mod (.var 3) (.int 2))) .nil))) .nil))) .nil))))
 .done
 (.cond (.cmp .eq (.var 2) (.int 5))
 (.ret (.tup (.cons (.bin .add (.str [37,103]) (.sub (.str [97,65,98,66]) (.bin .mod (.var 3) (.int 4)))) (.cons (.lst (.cons (.tup (.cons (.str [103]) (.cons (.sub (.str [97,65,98,66]) (.bin .mod (.var 3) (.int 4))) .nil))) .nil)) .nil))))
 .done
 (.cond (.cmp .eq (.var 2) (.int 6))
 (.ret (.tup (.cons (.sub (.lst (.cons (.str [37,112,50,37,115]) (.cons (.str [37,112,50,37,108,37,100]) (.cons (.str [37,112,49,37,115]) .nil)))) (.bin .mod (.var 3) (.int 3))) (.cons (.lst (.cons (.tup (.cons (.str [116,101,120,116]) (.cons (.sub (.lst (.cons (.str [115]) (.cons (.str [108]) (.cons (.str []) .nil)))) (.bin .mod (.var 3) (.int 3))) .nil))) .nil)) .nil))))
 .done
 (.cond (.cmp .eq (.var 2) (.int 7))
 (.ret (.tup (.cons (.str [37,105,37,33]) (.cons (.lst (.cons (.tup (.cons (.str [105]) (.cons (.int 0) .nil))) (.cons (.tup (.cons (.str [33]) (.cons (.int 0) .nil))) .nil))) .nil))))
 .done
 (.cond (.and (.cmp .eq (.var 2) (.int 8)) (.cmp .gt (.var 1) (.int 0)))
 (.setN [5,6] (.call 39 (.cons (.var 0) (.cons (.var 1) .nil)))
 (.ret (.tup (.cons (.var 5) (.cons (.lst (.cons (.var 6) .nil)) .nil)))))
 .done
 (.cond (.cmp .eq (.var 2) (.int 9))
 (.ret (.tup (.cons (.str [37,126]) (.cons (.lst (.cons (.tup (.cons (.str [126]) (.cons (.int 0) .nil))) .nil)) .nil))))
 .done
 (.cond (.cmp .eq (.var 2) (.int 10))
 (.set 7 (.sub (.call 35 .nil) (.call 38 (.cons (.var 0) (.cons (.int 12) .nil))))
 (.ret (.tup (.cons (.var 7) (.cons (.lst (.cons (.tup (.cons (.str [111,117,116]) (.cons (.var 7) .nil))) .nil)) .nil)))))
 .done
 (.setN [8,4] (.tup (.cons (.sub (.call 34 .nil) (.call 38 (.cons (.var 0) (.cons (.int 13) .nil)))) (.cons (.sub (.lst (.cons (.int 1) (.cons (.int 3) (.cons (.int 4) .nil)))) (.bin .mod (.var 3) (.int 3))) .nil)))
 (.set 9 (.call 38 (.cons (.var 0) (.cons (.int 9) .nil)))
 (.ret (.tup (.cons (.bin .add (.bin .add (.bin .add (.bin .add (.bin .add (.bin .add (.str [37,112]) (.bi .str (.cons (.var 4) .nil))) (.str [37,123])) (.bi .str (.cons (.var 9) .nil))) (.str [125,37])) (.var 8)) (.str [37,100])) (.cons (.lst (.cons (.tup (.cons (.str [112]) (.cons (.var 4) .nil))) (.cons (.tup (.cons (.str [110]) (.cons (.var 9) .nil))) (.cons (.tup (.cons (.str [111,112]) (.cons (.var 8) .nil))) (.cons (.tup (.cons (.str [111,117,116]) (.cons (.str [37,100]) .nil))) .nil))))) .nil))))))))))))))))))
noncomputable def w5:B :=
 (.setN [6,7] (.call 40 (.cons (.var 0) (.cons (.var 2) .nil)))
 (.setN [3,4] (.tup (.cons (.bin .add (.var 3) (.var 6)) (.cons (.bin .add (.var 4) (.var 7)) .nil)))
 .done))
noncomputable def CR:B:=(.setN [3,4] (.tup (.cons (.str []) (.cons (.lst .nil) .nil)))
 (.for .range (.one 5) (.call 38 (.cons (.var 0) (.cons (.bin .add (.var 1) (.int 1)) .nil)))
 w5
 (.ret (.tup (.cons (.var 3) (.cons (.var 4) .nil))))))
noncomputable def Dr:B :=
 (.cond (.cmp .isin (.var 0) (.tup (.cons (.str [47]) (.cons (.str [109]) .nil))))
 (.cond (.cmp .eq (.var 2) (.int 0))
 (.ret (.int 0))
 .done
 (.set 3 (.bin .mul (.bin .fdiv (.bi .abs (.cons (.var 1) .nil)) (.bi .abs (.cons (.var 2) .nil))) (.ite (.cmp .eq (.cmp .lt (.var 1) (.int 0)) (.cmp .lt (.var 2) (.int 0))) (.int 1) (.neg (.int 1))))
 (.ret (.ite (.cmp .eq (.var 0) (.str [47])) (.var 3) (.bin .sub (.var 1) (.bin .mul (.var 3) (.var 2)))))))
 .done
 (.cond (.cmp .isin (.var 0) (.tup (.cons (.str [43]) (.cons (.str [45]) (.cons (.str [42]) .nil)))))
 (.ret (.ite (.cmp .eq (.var 0) (.str [43])) (.bin .add (.var 1) (.var 2)) (.ite (.cmp .eq (.var 0) (.str [45])) (.bin .sub (.var 1) (.var 2)) (.bin .mul (.var 1) (.var 2)))))
 .done
 (.cond (.cmp .isin (.var 0) (.tup (.cons (.str [38]) (.cons (.str [124]) (.cons (.str [94]) .nil)))))
 (.ret (.ite (.cmp .eq (.var 0) (.str [38])) (.bin .band (.var 1) (.var 2)) (.ite (.cmp .eq (.var 0) (.str [124])) (.bin .bor (.var 1) (.var 2)) (.bin (.bxor ()) (.var 1) (.var 2)))))
 .done
 (.cond (.cmp .isin (.var 0) (.tup (.cons (.str [65]) (.cons (.str [79]) .nil))))
 (.ret (.ite (.cmp .eq (.var 0) (.str [65])) (.bi .int (.cons (.and (.cmp .ne (.var 1) (.int 0)) (.cmp .ne (.var 2) (.int 0))) .nil)) (.bi .int (.cons (.or (.cmp .ne (.var 1) (.int 0)) (.cmp .ne (.var 2) (.int 0))) .nil))))
 .done
 (.ret (.ite (.cmp .eq (.var 0) (.str [61])) (.bi .int (.cons (.cmp .eq (.var 1) (.var 2)) .nil)) (.ite (.cmp .eq (.var 0) (.str [62])) (.bi .int (.cons (.cmp .gt (.var 1) (.var 2)) .nil)) (.bi .int (.cons (.cmp .lt (.var 1) (.var 2)) .nil)))))))))
noncomputable def CU:B :=
 (.set 2 (.str [])
 (.while (.cmp .gt (.var 0) (.int 0))
 (.setN [2,0] (.tup (.cons (.bin .add (.sub (.str [48,49,50,51,52,53,54,55,56,57,97,98,99,100,101,102]) (.bin .mod (.var 0) (.var 1))) (.var 2)) (.cons (.bin .fdiv (.var 0) (.var 1)) .nil)))
 .done)
 (.ret (.or (.var 2) (.str [48])))))
noncomputable def wX:B :=
 (.setN [3,2] (.tup (.cons (.ite (.cmp .lt (.var 1) (.int 0)) (.str [45]) (.str [])) (.cons (.bi .str (.cons (.bi .abs (.cons (.var 1) .nil)) .nil)) .nil)))
 (.cond (.cmp .isin (.var 0) (.tup (.cons (.str [37,46,51,100]) (.cons (.str [37,52,46,50,100]) .nil))))
 (.set 2 (.bin .add (.bin .mul (.str [48]) (.bin .sub (.ite (.cmp .eq (.var 0) (.str [37,46,51,100])) (.int 3) (.int 2)) (.bi .len (.cons (.var 2) .nil)))) (.var 2))
 (.ret (.ite (.cmp .eq (.var 0) (.str [37,46,51,100])) (.bin .add (.var 3) (.var 2)) (.bin .add (.bin .add (.bin .mul (.str [32]) (.bin .sub (.int 4) (.bi .len (.cons (.bin .add (.var 3) (.var 2)) .nil)))) (.var 3)) (.var 2)))))
 .done
 (.cond (.cmp .eq (.var 0) (.str [37,48,51,100]))
 (.ret (.bin .add (.bin .add (.var 3) (.bin .mul (.str [48]) (.bin .sub (.int 3) (.bi .len (.cons (.bin .add (.var 3) (.var 2)) .nil))))) (.var 2)))
 .done
 (.cond (.cmp .eq (.var 0) (.str [37,58,43,100]))
 (.ret (.bin .add (.or (.var 3) (.str [43])) (.var 2)))
 .done
 (.set 4 (.bin .add (.var 3) (.var 2))
 (.ret (.ite (.cmp .eq (.var 0) (.str [37,50,100])) (.bin .add (.bin .mul (.str [32]) (.bin .sub (.int 2) (.bi .len (.cons (.var 4) .nil)))) (.var 4)) (.ite (.cmp .eq (.var 0) (.str [37,58,45,52,100])) (.bin .add (.var 4) (.bin .mul (.str [32]) (.bin .sub (.int 4) (.bi .len (.cons (.var 4) .nil))))) (.var 4)))))))))
noncomputable def ud:B :=
 (.set 2 (.call 43 (.cons (.ite (.cmp .ge (.var 1) (.int 0)) (.var 1) (.bin .mod (.var 1) (.int 4294967296))) (.cons (.ite (.cmp .eq (.var 0) (.str [37,111])) (.int 8) (.int 16)) .nil)))
 (.cond (.cmp .eq (.var 0) (.str [37,88]))
 (.ret (.bm .join (.str []) (.cons (.comp .str (.one 1) 3 [] (.call 45 (.cons (.var 1) .nil)) (.var 2)) .nil)))
 .done
 (.ret (.ite (.cmp .eq (.var 0) (.str [37,53,120])) (.bin .add (.bin .mul (.str [32]) (.bin .sub (.int 5) (.bi .len (.cons (.var 2) .nil)))) (.var 2)) (.var 2)))))
noncomputable def AU:B:=(.cond (.cmp .eq (.var 0) (.str [37,99]))
 (.ret (.bi .chr (.cons (.ite (.cmp .gt (.bin .mod (.var 1) (.int 256)) (.int 0)) (.bin .mod (.var 1) (.int 256)) (.int 128)) .nil)))
 .done
 (.cond (.cmp .isin (.var 0) (.tup (.cons (.str [37,120]) (.cons (.str [37,88]) (.cons (.str [37,111]) (.cons (.str [37,53,120]) .nil))))))
 ud
 .done
 wX))
noncomputable def C2:B :=
 (.ret (.ite (.chain (.str [97]) .le (.var 0) .le (.str [102])) (.bi .chr (.cons (.bin .sub (.bi .ord (.cons (.var 0) .nil)) (.int 32)) .nil)) (.var 0)))
noncomputable def DK:B :=
 (.ret (.ite (.neNil (.sub (.var 0) (.str [115,116,97,99,107]))) (.bm .pop (.sub (.var 0) (.str [115,116,97,99,107])) .nil) (.int 0)))
noncomputable def BX:B :=
 (.for .list (.two 2 3) (.comp .list (.one 1) 2 [] (.tup (.cons (.sub (.var 1) (.int 0)) (.cons (.var 1) .nil))) (.var 1))
 (.cond (.cmp .eq (.var 2) (.str [108,105,116]))
 (.setS (.var 0) (.str [111,117,116]) (.bin .add (.sub (.var 0) (.str [111,117,116])) (.sub (.var 3) (.int 1)))
 .done)
 (.cond (.cmp .eq (.var 2) (.str [112]))
 (.ex (.bm .append (.sub (.var 0) (.str [115,116,97,99,107])) (.cons (.ite (.cmp .le (.sub (.var 3) (.int 1)) (.bi .lenL (.cons (.sub (.var 0) (.str [112,97,114,97,109,115])) .nil))) (.sub (.sub (.var 0) (.str [112,97,114,97,109,115])) (.bin .sub (.sub (.var 3) (.int 1)) (.int 1))) (.int 0)) .nil))
 .done)
 (.cond (.cmp .eq (.var 2) (.str [110]))
 (.ex (.bm .append (.sub (.var 0) (.str [115,116,97,99,107])) (.cons (.sub (.var 3) (.int 1)) .nil))
 .done)
 (.cond (.cmp .eq (.var 2) (.str [80]))
 (.setS (.var 0) (.sub (.var 3) (.int 1)) (.call 46 (.cons (.var 0) .nil))
 .done)
 (.cond (.cmp .eq (.var 2) (.str [103]))
 (.ex (.bm .append (.sub (.var 0) (.str [115,116,97,99,107])) (.cons (.bm .getS (.var 0) (.cons (.sub (.var 3) (.int 1)) (.cons (.int 0) .nil))) .nil))
 .done)
 (.cond (.cmp .eq (.var 2) (.str [116,101,120,116]))
 (.set 4 (.ite (.and (.cmp .gt (.bi .lenL (.cons (.sub (.var 0) (.str [112,97,114,97,109,115])) .nil)) (.int 1)) (.val (.bi .isBytes (.cons (.sub (.sub (.var 0) (.str [112,97,114,97,109,115])) (.int 1)) .nil)))) (.sub (.sub (.var 0) (.str [112,97,114,97,109,115])) (.int 1)) (.bytes []))
 (.cond (.cmp .ne (.sub (.var 3) (.int 1)) (.str []))
 (.setS (.var 0) (.str [111,117,116]) (.bin .add (.sub (.var 0) (.str [111,117,116])) (.ite (.cmp .eq (.sub (.var 3) (.int 1)) (.str [115])) (.bm .join (.str []) (.cons (.comp .bytes (.one 1) 3 [] (.bi .chr (.cons (.var 1) .nil)) (.var 4)) .nil)) (.bi .str (.cons (.bi .len (.cons (.var 4) .nil)) .nil))))
 .done)
 .done
 .done))
 (.cond (.cmp .eq (.var 2) (.str [105]))
 (.setS (.var 0) (.str [112,97,114,97,109,115]) (.comp .enum (.two 1 2) 5 [] (.ite (.and (.cmp .lt (.var 1) (.int 2)) (.val (.bi .isInt (.cons (.var 2) .nil)))) (.bin .add (.var 2) (.int 1)) (.var 2)) (.sub (.var 0) (.str [112,97,114,97,109,115])))
 .done)
 (.cond (.cmp .isin (.var 2) (.tup (.cons (.str [33]) (.cons (.str [126]) .nil))))
 (.set 5 (.call 46 (.cons (.var 0) .nil))
 (.ex (.bm .append (.sub (.var 0) (.str [115,116,97,99,107])) (.cons (.ite (.cmp .eq (.var 2) (.str [33])) (.bi .int (.cons (.cmp .eq (.var 5) (.int 0)) .nil)) (.bin .sub (.neg (.var 5)) (.int 1))) .nil))
 .done))
 (.cond (.cmp .eq (.var 2) (.str [111,117,116]))
 (.setS (.var 0) (.str [111,117,116]) (.bin .add (.sub (.var 0) (.str [111,117,116])) (.call 44 (.cons (.sub (.var 3) (.int 1)) (.cons (.call 46 (.cons (.var 0) .nil)) .nil))))
 .done)
 (.cond (.cmp .eq (.var 2) (.str [111,112]))
 (.set 6 (.call 46 (.cons (.var 0) .nil))
 (.ex (.bm .append (.sub (.var 0) (.str [115,116,97,99,107])) (.cons (.call 42 (.cons (.sub (.var 3) (.int 1)) (.cons (.call 46 (.cons (.var 0) .nil)) (.cons (.var 6) .nil)))) .nil))
 .done))
 (.ex (.call 48 (.cons (.var 0) (.cons (.var 3) .nil)))
 .done)
 .done)
 .done)
 .done)
 .done)
 .done)
 .done)
 .done)
 .done)
 .done)
 .done)
 .done)
noncomputable def qP:B :=
 (.ex (.call 47 (.cons (.var 0) (.cons (.var 2) .nil)))
 (.cond (.cmp .ne (.call 46 (.cons (.var 0) .nil)) (.int 0))
 (.ex (.call 47 (.cons (.var 0) (.cons (.var 3) .nil)))
 .retN)
 .done
 .done))
noncomputable def su:B :=
 (.ex (.call 47 (.cons (.var 0) (.cons (.sub (.var 1) (.int 2)) .nil)))
 .done)
noncomputable def Dh:B:=(.for .list (.two 2 3) (.sub (.var 1) (.int 1)) qP su)
noncomputable def C3:B :=
 (.ret (.bi .bytesL (.cons (.comp .str (.one 1) 3 [] (.bi .ord (.cons (.var 1) .nil)) (.var 0)) .nil)))
noncomputable def oW:List (Nat×Nat×Nat×Bool×B):=[(1,2,2,false,Fk),
 (2,2,3,false,ET),
 (3,2,2,true,EP),
 (4,2,2,false,Fy),
 (5,1,1,true,EQ),
 (6,2,2,false,Fq),
 (7,1,1,true,FK),
 (8,2,3,true,Fm),
 (9,3,4,false,FG),
 (10,3,5,false,C1),
 (11,3,5,false,Dn),
 (12,2,8,false,DH),
 (13,1,1,false,Dl),
 (14,3,6,true,DZ),
 (15,5,6,false,C7),
 (16,5,8,false,Ds),
 (17,1,1,false,Dm),
 (18,2,2,false,CY),
 (19,1,1,false,CZ),
 (20,1,2,false,CA),
 (21,1,2,false,Dj),
 (22,2,3,false,Dv),
 (23,3,3,false,Ed),
 (24,3,3,false,DE),
 (25,3,3,true,Dq),
 (26,2,2,false,CJ),
 (27,2,2,false,DC),
 (28,1,2,false,CC),
 (29,2,8,true,C0),
 (30,2,4,true,As),
 (31,2,3,false,DF),
 (32,2,4,false,CH),
 (33,3,3,false,Dd),
 (34,0,0,false,CM),
 (35,0,0,false,Dz),
 (36,0,0,false,Bk),
 (37,1,4,false,CS),
 (38,2,2,false,Da),
 (39,2,8,false,Cb),
 (40,2,10,false,Ba),
 (41,3,8,false,CR),
 (42,3,4,false,Dr),
 (43,2,3,false,CU),
 (44,2,5,false,AU),
 (45,1,1,false,C2),
 (46,1,1,false,DK),
 (47,2,7,false,BX),
 (48,2,4,false,Dh),
 (49,1,1,false,C3)]
end Internal
end
section
open PySem PySem.W PySem.Calls PyProof.Rows
set_option maxHeartbeats 8000000
namespace Internal
noncomputable def fill:List Obj->BT->Nat->BT
 | [],t,_=>t
 | o::r,t,n=>fill r (t.ins n o) (n+1)
noncomputable def uW (P:Params):BT:=fill (boot_heap P).objs.toList .nil 0
noncomputable def jH (ok:Nat->Option Value->Thread->Bool)(st:SharedT->Thread->Option (SharedT×Thread))(n0x:Nat)(ann:Option Value):Nat->SharedT->Thread->Option SharedT
 | 0,_,_=>none
 | n+1,s,t=>match through t with
  | true=>some s
  | false=>match ok n0x ann t with
   | false=>none
   | true=>match st s t with
    | some (s',t')=>jH ok st n0x ann n s' t'
    | none=>none
theorem kP {p:Program}{w:World}{n0x:Nat}{ann:Option Value}:∀ {n:Nat} {s s':SharedT} {t:Thread},jH stepOk (stepT (denote treeTable) p w) n0x ann n s t=some s'->topRun treeTable p w n0x ann n s.abs t=some s'.abs
 | 0,_,_,_,h=>by cases h
 | n+1,s,s',t,h=>by
  dsimp only [jH] at h
  dsimp only [topRun]
  cases ht:through t with
  | true=>rw [ht] at h;cases h;rfl
  | false =>
   rw [ht] at h
   cases hk:stepOk n0x ann t with
   | false=>rw [hk] at h;cases h
   | true =>
    rw [hk] at h
    cases hs:stepT (denote treeTable) p w s t with
    | none=>rw [hs] at h;cases h
    | some r=>obtain ⟨s2x,t2x⟩:=r;rw [hs] at h;exact sr (stepT_spec hs) (kP h)
theorem tR (P:Params):absHeap (uW P) 11 (boot_heap P).life=boot_heap P:=by kernel_rfl
noncomputable abbrev pw:Program:=PySem.Challenge.pw_og0270_01
noncomputable abbrev qw:Program:=view pw [41]
noncomputable abbrev loose:List Str:=pw.boundNames
noncomputable def o0 (h:Heap):Frag:=(List.range h.objs.size).filterMap λ a=>(h.get? a).map λ o=>(a,o)
theorem wT (h:Heap):Frag.In (o0 h) h:=by
 intro a o e
 obtain ⟨l,m⟩:∃ l:List Nat,l=List.range h.objs.size:=⟨_,rfl⟩
 dsimp only [o0] at e
 rw [<- m] at e
 clear m
 induction l with
 | nil=>cases e
 | cons b l ih =>
  rw [filterMap_cons] at e
  cases q:h.get? b with
  | none=>rw [q] at e;exact ih e
  | some x =>
   rw [q] at e
   simp only [Option.map_some,lookup_cons] at e
   by_cases hb:a=b
   .subst hb;simp at e;exact sr q (sr e rfl)
   .rw [beq_eq_false_iff_ne.mpr hb] at e;exact ih e
theorem rK:∀ w:World,(fencedOpening treeTable pw w 6000).map (λ s=>(s.heap,s.gens,s.drawn,s.toks))=some (boot_heap w.params,Array.mk [],boot_drawn,boot_toks) :=
 boot_open (by kernel_rfl) rfl (λ s=>by kernel_rfl)
theorem rB:∀ P:Params,((boot_heap P).isNs mainGlobals&&(#[]:Array GenState).size==0,(boot_heap P).objs.size,(boot_heap P).nsMap mainGlobals "__annotations__")=(true,11,some (.ref 6)):=λ P=>by kernel_rfl
end Internal
end
section
open PySem PySem.W PySem.Calls PyProof.Rows
namespace Internal
noncomputable def Bi:List Nat:=[29,54,61,75,82,89,96,103,110,117,124,131,138,152,159,166,173,187,194,201,208,215,229,236,243,257,264,271,278,285,292,299,306,321,328,335,342,347,354,359,366,373,380,387,392,399,406,411,418,423,430]
noncomputable def BA:List Nat:=[45,141,218,309]
noncomputable def w6 (f:Nat):Addr:=Bi.getD f 0
noncomputable def Ag (c:Nat):Addr:=BA.getD c 0
noncomputable def Ez (v:Option (Option Value))(k:Nat):Bool:=vO v λ o=>vO o λ x=>match j2 k with
 | .int j=>tI x λ i _=>decide (i=j)
 | .bytes l=>uu x λ b _=>decide (l=b.toList.map UInt8.toNat)
 | _=>false
section
variable (K:Frag)(fa ca:Nat->Addr)
noncomputable abbrev Ac (n:String):Option (Option Value):=nsIn K mainGlobals (Str.ofString n)
noncomputable def Cy (v:Option (Option Value)) (f:Nat):Bool:=decide (v=some (some (.ref (fa f))))&&decide (typeIn K (.ref (fa f))=some (.type "function"))
noncomputable def Bm:Bool :=
 (xF.all λ p=>decide (Ac K p.2=some (some (.ref (fa p.1))))&&keepIn K (.ref (fa p.1))) &&
 (xd.all λ p=>decide (Ac K p.2.2=some (some (.ref (ca p.1))))&&keepIn K (.ref (ca p.1))&&makesIn K (ca p.1)&&Cy K fa (findIn K (.ref (ca p.1)) "__init__") p.2.1) &&
 (xr.all λ p=>Cy K fa (findIn K (.ref (ca p.1)) (Str.ofString p.2.2)) p.2.1&&keepIn K (.ref (fa p.2.1))&&(List.range 12).all (λ k=>!(nm k==Str.ofString p.2.2))) &&
 (xK.all λ p=>Ez (Ac K p.2) p.1) &&
 (["len", "abs", "min", "int", "str", "chr", "ord", "bytes", "bytearray", "list", "isinstance", "range", "enumerate"].all λ n=>decide (Ac K n=some none)) &&
 decide (Ac K "BadParam"=some (some (.ref (ca 0))))
noncomputable def yl (C:Addr):Bool :=
 decide (findIn K (.ref C) "__getattribute__"=some (some (.builtin "object.__getattribute__")))&&decide (findIn K (.ref C) "__getattr__"=some none)&&decide (findIn K (.ref C) "__setattr__"=some (some (.builtin "object.__setattr__"))) &&
 hasDictIn K C&&plainOver K C&&((List.range 12).all λ k=>decide (findIn K (.ref C) (nm k)=some none))&&makesIn K C
noncomputable def Bd:Bool :=
 mK K (ca 0)&&decide (findIn K (.ref (ca 0)) "__setattr__"=some (some (.builtin "object.__setattr__")))&&(takerIn K (ca 0) (nm 0)==some none) &&
 mW K (ca 0)&&Cy K fa (findIn K (.ref (ca 0)) "__init__") 0&&keepIn K (.ref (ca 0))
noncomputable def sI:Bool:=wA K (fa 0) λ fd body=>v1 body λ s=>o6 s λ ts v _=>v1 ts λ t=>il t λ x m _=>ci x λ n0 _=>ci v λ n1 _=>v2 (fd.params.args.map (·.arg)) λ m0 m1 =>
 (decide (m=nm 0)&&decide (n0=m0)&&decide (n1=m1))&&decide (m0≠m1)&&([m0,m1].all λ nm=>!(nm==("__debug__" : Str)))
end
noncomputable def tO:B :=
 (.set 1 (.call 37 (.cons (.var 0) .nil))
 (.setN [2,3] (.call 41 (.cons (.var 1) (.cons (.int 5) (.cons (.int 2) .nil))))
 (.set 4 (.lst (.cons (.bin .sub (.call 38 (.cons (.var 1) (.cons (.int 19) .nil))) (.int 9)) (.cons (.sub (.lst (.cons (.call 38 (.cons (.var 1) (.cons (.int 40) .nil))) (.cons (.bytes [97,98,37]) .nil))) (.call 38 (.cons (.var 1) (.cons (.int 2) .nil)))) (.cons (.bin .sub (.call 38 (.cons (.var 1) (.cons (.int 300) .nil))) (.int 20)) .nil))))
 (.set 4 (.slcTo (.var 4) (.call 38 (.cons (.var 1) (.cons (.int 4) .nil))))
 (.setN [5,6] (.tup (.cons .empI (.cons .empI .nil)))
 .done)))))
noncomputable def Ek:B :=
 (.set 8 (.dct [[115,116,97,99,107],[112,97,114,97,109,115],[111,117,116],[65],[66]] (.cons (.lst .nil) (.cons (.bi .list (.cons (.var 4) .nil)) (.cons (.str []) (.cons (.bm .getS (.var 6) (.cons (.str [65]) (.cons (.int 0) .nil))) (.cons (.bm .getS (.var 6) (.cons (.str [66]) (.cons (.int 0) .nil))) .nil))))))
 (.ex (.call 47 (.cons (.var 8) (.cons (.var 3) .nil)))
 (.set 6 (.dct [[65],[66]] (.cons (.sub (.var 8) (.str [65])) (.cons (.sub (.var 8) (.str [66])) .nil)))
 (.cond (.cmp .ne (.call 33 (.cons (.call 49 (.cons (.var 2) .nil)) (.cons (.bi .list (.cons (.var 4) .nil)) (.cons (.var 5) .nil)))) (.call 49 (.cons (.sub (.var 8) (.str [111,117,116])) .nil)))
 (.ret (.bool false))
 .done
 .done))))
noncomputable def A8:B :=
 (.cond (.neInts (.lst (.cons (.bm .getI (.var 5) (.cons (.int 65) (.cons (.int 0) .nil))) (.cons (.bm .getI (.var 5) (.cons (.int 66) (.cons (.int 0) .nil))) .nil))) (.lst (.cons (.sub (.var 6) (.str [65])) (.cons (.sub (.var 6) (.str [66])) .nil))))
 (.ret (.bool false))
 .done
 (.setN [9,10] (.sub (.call 36 .nil) (.call 38 (.cons (.var 1) (.cons (.int 13) .nil))))
 .done))
noncomputable def uU:B:=(.for .range (.one 7) (.int 2) Ek A8)
noncomputable def BN:E:=(.call 33 (.cons (.call 49 (.cons (.bin .add (.var 2) (.var 9)) .nil)) (.cons (.bi .list (.cons (.var 4) .nil)) (.cons .empI .nil))))
noncomputable def sQ (c:Cx)(ss:List Stmt):Bool:=v2 ss λ s1 s2=>yr s1 λ tb hs oe fb _=>oe.isEmpty&&fb.isEmpty&&v1 tb λ st=>Cr st λ cx _=>v1 hs λ hd=>match hd with
 | .ExceptHandler ty nmo hb _=>vO ty λ ty=>ci ty λ bn _=>vO nmo λ en=>v1 hb λ r=>rZ r λ x _=>vO x λ x=>iY x λ l ops rs _=>decide (ops=[.Eq])&&il l λ y m _=>ci y λ en' _=>v1 rs λ rr=>wy rr λ a op b _=>decide (op=.Add) &&
  ku a λ f as kw _=>kw.isEmpty&&ci f λ id _=>v1 as λ t=>ci t λ tn _=>ci b λ pn _=>rZ s2 λ x _=>vO x λ x=>cH x λ k _ _=>decide (k=.bool false) &&
  (cE c BN cx&&eE cx&&(decide (en'=en)&&decide (m=nm 0))&&(decide (c.slots[11]?=some en)&&decide (c.slots[2]?=some tn)&&decide (c.slots[10]?=some pn))&&decide (c.kd en=some .local) &&
    (c.gl id&&decide (id=Str.ofString "len"))&&(c.gl bn&&decide (bn=Str.ofString "BadParam"))&&!(nm 0==tn))
noncomputable def zE (K:Frag)(a:Addr):Bool:=wA K a λ fd body=>yp fd 1 12&&((bu fd.scope.names).all λ nm=>decide (fd.scope.names.lookup nm≠some .cell)) &&
 cB ⟨bu fd.scope.names,fd.scope.names,true⟩ tO (body.take 5)&&cB ⟨bu fd.scope.names,fd.scope.names,true⟩ uU ((body.drop 5).take 3)&&sQ ⟨bu fd.scope.names,fd.scope.names,true⟩ ((body.drop 5).drop 3)
noncomputable def nJ (K:Frag) (C:Addr):Bool:=decide (findIn K (.ref C) "__getattribute__"=some (some (.builtin "BaseException.__getattribute__")))&&decide (findIn K (.ref C) "__getattr__"=some none)&&hasDictIn K C&&decide (findIn K (.ref C) (nm 0)=some none)&&decide (mroIn K C (.type "BaseException")=some true)
noncomputable def kn (K:Frag) (fa ca:Nat->Addr):Bool:=Bm K fa ca&&([1,2,3].all λ c=>yl K (ca c))&&(Bd K fa ca&&sI K fa)&&(oW.all λ x=>DM K (fa x.1) x.2.1 x.2.2.1 x.2.2.2.1 x.2.2.2.2)&&(zE K (fa 50)&&nJ K (ca 0))&&(decide (Ac K "law"=some (some (.ref (fa 50))))&&keepIn K (.ref (fa 50)))
theorem yB:(["len", "abs", "min", "int", "str", "chr", "ord", "bytes", "bytearray", "list", "isinstance", "range", "enumerate"].all λ n=>!((Str.ofString n)==("__name__" : Str)))=true:=by decide +kernel
end Internal
end
section
open PySem PySem.W PySem.Calls PyProof.Rows
set_option maxHeartbeats 8000000
namespace Internal
noncomputable abbrev sL:RowW:=Challenge.rw_og0270_01.row.toRowW
noncomputable abbrev DI:Shared->Bool:=λ s=>recOk sL.records s
noncomputable def pY (w:World)(os:OsState):Option SharedT:=jH PySem.W.Fast.tw6613529449190102663 (PySem.W.Fast.tw10156331382660048174 (PySem.W.Fast.tw11892475500146522536 PySem.W.Fast.tw14364793385576792824) pw w) 11 (some (.ref 6)) 3000
  ⟨uW w.params,11,(boot_heap w.params).life,#[],boot_drawn,boot_toks,os⟩ (topStub pw)
theorem wf (w:World)(os:OsState):(pY w os).map (λ s=>(staticsOk (importedModules pw.main.body) (boot_heap w.params) s.abs.heap&&namesBound pw s.abs.heap&&gensDone s.abs&&laidKept (boot_heap w.params) s.abs.heap)&&kn (o0 s.abs.heap) w6 Ag)=some true:=by kernel_rfl
theorem ww (w:World)(os:OsState):(pY w os).map (λ s=>PySem.W.Fast.tw4187177175401517315 qw loose (importedModules pw.main.body) DI true s.abs)=some (openGood qw loose):=by kernel_rfl
theorem p7 {tb:String->Option Builtin} {p:Program} {w:World} {N n:Nat} {ann:Option Value} {s0 s1x:Shared} (h1:(s0.heap.isNs mainGlobals&&s0.gens.size==0)=true) (h2:s0.heap.objs.size=n) (h3:s0.heap.nsMap mainGlobals "__annotations__"=ann) (r:topRun tb p w n ann N s0 (topStub p)=some s1x)
  (h4:(staticsOk (importedModules p.main.body) s0.heap s1x.heap&&namesBound p s1x.heap&&gensDone s1x&&laidKept s0.heap s1x.heap)=true):topFrom tb p w N s0=some s1x:=by
 dsimp only [topFrom]
 rw [h1,h2,h3,r]
 dsimp only [Option.bind]
 rw [h4]
theorem wz {tb:String->Option Builtin}{p:Program}{w:World}{N:Nat}{s0 s1x:Shared}{α β:Type}{f:Shared->α}{g:Shared->β}{x:α}{y:β}(h:fencedOpening tb p w N=some s0)(t:topFrom tb p w N s0=some s1x)(e:f s1x=x)(e':g s1x=y) :
  (openEnds tb p w N).map (λ s=>(f s,g s))=some (x,y):=by
 dsimp only [openEnds]
 rw [h]
 show (topFrom tb p w N s0).map _=_
 rw [t,<- e,<- e'];rfl
theorem AK:LeftO pw qw loose DI (λ s=>kn (o0 s.heap) w6 Ag) (λ _=>true) 6000:=λ w=>by
 obtain ⟨⟨h,gs,d,k,os⟩,e,e'⟩:=Option.map_eq_some_iff.mp (rK w)
 obtain ⟨rfl,rfl,rfl,rfl⟩:h=boot_heap w.params/\gs=#[]/\d=boot_drawn/\k=boot_toks:=by simpa using e'
 obtain ⟨z1,z2⟩:=Prod.mk.inj (rB w.params)
 obtain ⟨z2,z3⟩:=Prod.mk.inj z2
 obtain ⟨s',hs,hl⟩:=Option.map_eq_some_iff.mp (wf w os)
 have l1:=(Bool.and_eq_true_iff.mp hl).1
 have l2:=ww w os
 rewrite [hs] at l2
 replace l2:=Option.some.inj l2
 have l3:=(Bool.and_eq_true_iff.mp hl).2
 unfold pY at hs
 rw [<- PySem.W.Fast.te6613529449190102663,<- PySem.W.Fast.te10156331382660048174,<- PySem.W.Fast.te11892475500146522536,<- PySem.W.Fast.te14364793385576792824] at hs
 rw [<- PySem.W.Fast.te4187177175401517315] at l2
 have r:=topRun_mono 3000 _ _ _ _ (kP hs)
 rw [show SharedT.abs ⟨uW w.params,11,(boot_heap w.params).life,#[],boot_drawn,boot_toks,os⟩=⟨boot_heap w.params,#[],boot_drawn,boot_toks,os⟩ from congrArg (λ h=>(⟨h,#[],boot_drawn,boot_toks,os⟩:Shared)) (tR w.params)] at r
 exact wz e (p7 z1 z2 z3 r l1) l2 l3
theorem vy:∃ d,defOf qw sL.name=some (d,[])/\sL.prog.theDef sL.name=some (d.params,d.body,d.scope)/\kwWritten? d.params.kwonlyargs d.params.kw_defaults=some []:=⟨_,by rfl,by rfl,by rfl⟩
theorem Co (call:∀ d kwd,d.name=Str.ofString "law"->xu qw loose (λ _ _=>True) (λ _ h=>∃ K:Frag,K.In h/\kn K w6 Ag=true) sL d kwd λ f vs=>PySem.call f vs):Challenge.rw_og0270_01.Holds:=by
 obtain ⟨d,h1,h2,h3⟩:=vy
 refine holds_law ((congrFun PySem.W.Fast.te9446332074065402090 _).trans (by kernel_rfl)) λ said=>?_
 exact PySem.W.holds_open (r:=Challenge.rw_og0270_01.row) (q:=qw) (loose:=loose) (Xt:=DI) (XP:=λ _ _=>True) (Yf:=λ s=>kn (o0 s.heap) w6 Ag) (Ya:=λ _=>true) (YP:=λ _ h=>∃ K:Frag,K.In h/\kn K w6 Ag=true) (N:=6000) AK
  (λ w s e=>⟨_,wT _,e⟩) (λ w h h' ⟨K,x,e⟩ k=>⟨K,x.keeps k,e⟩) (λ _ _=>trivial) (λ _ _ _ _ _=>trivial) h1 h2 h3 (λ s e=>recFacts_of e) (by rfl) said (by decide +kernel) ⟨rfl,rfl,rfl,rfl,rfl,by decide +kernel⟩
  (by w_witness2) (call d [] (defOf_name h1))
end Internal
end
section
open PySem PySem.W PySem.Calls PyProof.Rows
namespace Internal
theorem vg:bootBuiltins (Str.ofString "len")=some (.builtin "len")/\bootBuiltins (Str.ofString "abs")=some (.builtin "abs")/\bootBuiltins (Str.ofString "min")=some (.builtin "min")/\bootBuiltins (Str.ofString "int")=some (.type "int") /\
  bootBuiltins (Str.ofString "str")=some (.type "str")/\bootBuiltins (Str.ofString "chr")=some (.builtin "chr")/\bootBuiltins (Str.ofString "ord")=some (.builtin "ord")/\bootBuiltins (Str.ofString "bytes")=some (.type "bytes") /\
  bootBuiltins (Str.ofString "bytearray")=some (.type "bytearray")/\bootBuiltins (Str.ofString "list")=some (.type "list")/\bootBuiltins (Str.ofString "isinstance")=some (.builtin "isinstance")/\bootBuiltins (Str.ofString "range")=some (.type "range") /\
  bootBuiltins (Str.ofString "enumerate")=some (.type "enumerate"):=by refine ⟨?_,?_,?_,?_,?_,?_,?_,?_,?_,?_,?_,?_,?_⟩<;>kernel_rfl
section
variable {S:Sx}
theorem cq {K:Frag}{fa ca:Nat->Addr}(h:kn K fa ca=true):Bm K fa ca=true/\(∀ c∈[1,2,3],yl K (ca c)=true)/\(Bd K fa ca=true/\sI K fa=true)/\(∀ x∈oW,DM K (fa x.1) x.2.1 x.2.2.1 x.2.2.2.1 x.2.2.2.2=true)/\(zE K (fa 50)=true/\nJ K (ca 0)=true) :=
 ⟨al (al (al (al (al h)))),all_eq_true.mp (ar (al (al (al (al h))))),⟨al (ar (al (al (al h)))),ar (ar (al (al (al h))))⟩,all_eq_true.mp (ar (al (al h))),al (ar (al h)),ar (ar (al h))⟩
theorem y9 {c:Nat}(h:yl S.K (S.ca c)=true):xI S c :=
 ⟨GL (al (al (al (al (al (al h)))))),GL (ar (al (al (al (al (al h)))))),GL (ar (al (al (al (al h))))),ar (al (al (al h))),ar (al (al h)),λ k hk=>GL (all_eq_true.mp (ar (al h)) k (mem_range.mpr hk)),ar h⟩
theorem DA (hK:kn S.K S.fa S.ca=true):nq S :=
 ⟨λ c h=>y9 ((cq hK).2.1 c (by
  unfold iq at h
  simp only [Bool.or_eq_true,beq_iff_eq] at h
  rcases h with (rfl|rfl)|rfl<;>decide)),rfl⟩
theorem yx {v:Option (Option Value)}{k:Nat}(h:Ez v k=true):∃ x,v=some (some x)/\VR (j2 k) x:=by
 refine fP (C:=λ v=>∃ x,v=some (some x)/\VR (j2 k) x) h λ o h=>fP (C:=λ o=>∃ x,some o=some (some x)/\VR (j2 k) x) h λ x h=>⟨x,rfl,?_⟩
 revert h
 generalize j2 k=u
 intro h
 induction u with
 | int j=>exact v8 (C:=λ x=>VR (.int j) x) h λ i t h=>bG (C:=λ i=>VR (.int j) (.int i t)) h (.int j t)
 | bytes l=>exact vm (C:=λ x=>VR (.bytes l) x) h λ b t h=>GL h▸.bytes b t
 | _=>contradiction
theorem ui (h:sI S.K S.fa=true):∃ fd n0 n1 p0 p1 ap pos,nW S 0 fd [.Assign [.Attribute (.Name n0 p0) (nm 0) ap] (.Name n1 p1) pos] [n0,n1]/\n0≠n1/\∀ nm∈[n0,n1],(nm==("__debug__" : Str))=false:=by
 refine bc λ zz=>k9 (qr h) λ fd body F h=>zz ?_
 let G (body:List Stmt):Prop:=∃ n0 n1 p0 p1 ap pos,body=[.Assign [.Attribute (.Name n0 p0) (nm 0) ap] (.Name n1 p1) pos]/\fd.params.args.map (·.arg)=[n0,n1]/\n0≠n1/\∀ nm∈[n0,n1],(nm==("__debug__" : Str))=false
 have:G body:=cP (C:=G) h λ s h=>i6 (C:=λ s=>G [s]) h λ ts v p h=>cP (C:=λ ts=>G [.Assign ts v p]) h λ t h=>eN (C:=λ t=>G [.Assign [t] v p]) h λ x m ap h =>
  bk (C:=λ x=>G [.Assign [.Attribute x m ap] v p]) h λ n0 p0 h=>bk (C:=λ v=>G [.Assign [.Attribute (.Name n0 p0) m ap] v p]) h λ n1 p1 h =>
  g7 (C:=λ l=>fd.params.args.map (·.arg)=l->G [.Assign [.Attribute (.Name n0 p0) m ap] (.Name n1 p1) p]) h (λ m0 m1 h e=>by
   obtain rfl:=GL (al (al (al (al h))))
   obtain rfl:=GL (ar (al (al (al h))))
   obtain rfl:=GL (ar (al (al h)))
   exact ⟨n0,n1,p0,p1,ap,p,rfl,e,GL (ar (al h)),λ x hx=>by have:=all_eq_true.mp (ar h) x hx;simpa using this⟩) rfl
 refine bc λ zz=>?_
 refine Fx this λ n0 n1 p0 p1 ap pos ez1 e a b=>?_;subst ez1
 refine zz ?_
 rw [e] at F
 exact ⟨fd,n0,n1,p0,p1,ap,pos,F,a,b⟩
theorem Eu (hK:kn S.K S.fa S.ca=true):B0 S:=by
 have h:=(cq hK).1
 have mgv:∀ {n:Str} {v:Value},nsIn S.K mainGlobals n=some (some v)->S.mg n=some v:=λ e=>mg_of S.X S.T.g e
 have free:∀ n∈(["len", "abs", "min", "int", "str", "chr", "ord", "bytes", "bytearray", "list", "isinstance", "range", "enumerate"]:List String),S.mg (Str.ofString n)=none/\S.mb (Str.ofString n)=bootBuiltins (Str.ofString n):=λ n m =>
  ⟨mg_none_of S.X S.T.g (GL (all_eq_true.mp (ar (al h)) n m)),S.T.builtins _ λ e=>by
   have:=all_eq_true.mp yB n m
   rw [e] at this;exact absurd this (by decide)⟩
 have at1:∀ {n:String} {v:Value},(n∈(["len", "abs", "min", "int", "str", "chr", "ord", "bytes", "bytearray", "list", "isinstance", "range", "enumerate"]:List String))->bootBuiltins (Str.ofString n)=some v->S.mg (Str.ofString n)=none/\S.mb (Str.ofString n)=some v:=λ m e=>⟨(free _ m).1,(free _ m).2.trans e⟩
 obtain ⟨b1,b2,b3,b4,b5,b6,b7,b8,b9,b10,b11,b12,b13⟩:=vg
 have he:=(cq hK).2.2.1.1
 have fnt:∀ {v f},Cy S.K S.fa v f=true->v=some (some (.ref (S.fa f)))/\typeIn S.K (.ref (S.fa f))=some (.type "function"):=λ h=>⟨GL (al h),GL (ar h)⟩
 refine ⟨DA hK,⟨λ f n e=>?_,λ c f n e=>?_,λ c f n e=>?_,λ k n e=>?_,λ b=>?_,λ b e=>?_,at1 (by decide) b12,at1 (by decide) b13⟩,
  ⟨⟨al (al (al (al (al he)))),GL (ar (al (al (al (al he))))),eq_of_beq (ar (al (al (al he))))⟩,ar (al (al he)),(fnt (ar (al he))).1,(fnt (ar (al he))).2,ar he,ui (cq hK).2.2.1.2⟩,mgv (GL (ar h))⟩
 .refine aT (any_eq_true.mp e) λ p m e=>?_
  obtain rfl:=GL (al e)
  obtain rfl:=GL (ar e)
  have:=all_eq_true.mp (al (al (al (al (al h))))) p m
  exact ⟨mgv (GL (al this)),ar this⟩
 .refine aT (any_eq_true.mp e) λ p m e=>?_
  obtain rfl:=GL (al e)
  obtain rfl:=GL (al (ar e))
  obtain rfl:=GL (ar (ar e))
  have:=all_eq_true.mp (ar (al (al (al (al h))))) p m
  exact ⟨mgv (GL (al (al (al this)))),ar (al (al this)),ar (al this),fnt (ar this)⟩
 .refine aT (any_eq_true.mp e) λ p m e=>?_
  obtain rfl:=GL (al e)
  obtain rfl:=GL (al (ar e))
  obtain rfl:=GL (ar (ar e))
  have:=all_eq_true.mp (ar (al (al (al h)))) p m
  exact ⟨(fnt (al (al this))).1,(fnt (al (al this))).2,ar (al this),ar this⟩
 .refine aT (any_eq_true.mp e) λ p m e=>?_
  obtain rfl:=GL (al e)
  obtain rfl:=GL (ar e)
  exact aT (yx (all_eq_true.mp (ar (al (al h))) p m)) λ x e r=>⟨x,mgv e,r⟩
 .cases b<;>exact at1 (by first|decide|exact List.mem_of_elem_eq_true rfl) (by assumption)
 .rcases e with rfl|rfl<;>exact at1 (by decide) (by assumption)
theorem Dt (hK:kn S.K S.fa S.ca=true){f n m:Nat}{b:Bool}{ir:B}(h:(f,n,m,b,ir)∈oW):Fn S f n m b ir:=BU ((cq hK).2.2.2.1 _ h)
end
noncomputable abbrev EV (e:E)(C:Cw)(ls:Ls)(H:AH)(v:V):Prop:=∀ Q:V->AH->Prop,Q v H->xe e C ls H Q
noncomputable abbrev TV (t:T)(C:Cw)(ls:Ls)(H:AH)(b:Bool):Prop:=∀ Q:Bool->AH->Prop,Q b H->xt t C ls H Q
noncomputable abbrev AV (es:Es)(C:Cw)(ls:Ls)(H:AH)(vs:List V):Prop:=∀ Q:List V->AH->Prop,Q vs H->xes es C ls H Q
section
variable {C:Cw}{ls:Ls}{H:AH}{N:Ls->AH->Prop}{Rr Q:V->AH->Prop}{QB:Bool->AH->Prop}{c ta tb:T}{a b r:B}{k j n:Nat}{e i o:E}{es:Es}{u v w:V}{vs:List V}{t:Bool}{m p:Int}{x y z:Nat}{l l':List Nat}{L:List V}
theorem ES (p:let C':=C;xs a C' ls H N Q):xs a C ls H N Q:=p
theorem uS (p:let L:=ls;xs a C L H N Q):xs a C ls H N Q:=p
theorem TV.not (h:TV ta C ls H t):TV (.not ta) C ls H (!t):=λ Q q=>h _ q
theorem F7 {op:CO}(ha:EV e C ls H u)(hi:EV i C ls H w)(h:∀ Q:Bool->Prop,Q t->Internal.cmp op u w H Q):TV (.cmp op e i) C ls H t:=λ Q q=>ha _ (hi _ (h _ q))
theorem Gl (h:TV ta C ls H true)(g:TV tb C ls H t):TV (.and ta tb) C ls H t:=λ Q q=>h _ ⟨λ _=>g _ q,nofun⟩
theorem Gm (h:TV ta C ls H false):TV (.and ta tb) C ls H false:=λ Q q=>h _ ⟨nofun,λ _=>q⟩
theorem Gn (h:TV ta C ls H true):TV (.or ta tb) C ls H true:=λ Q q=>h _ ⟨λ _=>q,nofun⟩
theorem Go (h:TV ta C ls H false)(g:TV tb C ls H t):TV (.or ta tb) C ls H t:=λ Q q=>h _ ⟨nofun,λ _=>g _ q⟩
theorem TV.isN (h:EV e C ls H u)(z:isNone u=t):TV (.isN e) C ls H t:=λ Q q=>h _ (z.symm▸q)
theorem TV.notN (h:EV e C ls H u)(z:(!isNone u)=t):TV (.notN e) C ls H t:=λ Q q=>h _ (z.symm▸q)
theorem TV.val (h:EV e C ls H u)(g:∀ Q:Bool->Prop,Q t->truthy u H Q):TV (.val e) C ls H t:=λ Q q=>h _ (g _ q)
theorem TV.eqNil (h:EV e C ls H (.ref n))(g:listAt H n L)(z:L.isEmpty=t):TV (.eqNil e) C ls H t:=λ Q q=>h _ ⟨_,g,z.symm▸q⟩
theorem TV.neNil (h:EV e C ls H (.ref n))(g:listAt H n L)(z:(!L.isEmpty)=t):TV (.neNil e) C ls H t:=λ Q q=>h _ ⟨_,g,z.symm▸q⟩
theorem TV.chain {o1x o2:CO}{f:E}(ha:EV e C ls H u)(hb:EV i C ls H v)(hc:EV f C ls H w){t1x t2x:Bool}(h:∀ Q:Bool->Prop,Q t1x->Internal.cmp o1x u v H Q)(g:∀ Q:Bool->Prop,Q t2x->Internal.cmp o2 v w H Q)(z:(t1x&&t2x)=t):TV (.chain e o1x i o2 f) C ls H t:=λ Q q=>ha _ (hb _ (h _ ⟨λ e=>hc _ (g _ (by subst e z;exact q)),λ e=>by subst e z;exact q⟩))
theorem ED (h:xe e C ls H λ u H1=>truthy u H1 λ t=>QB t H1):xt (.val e) C ls H QB:=h
theorem El (h:xt ta C ls H λ t H1=>QB (!t) H1):xt (.not ta) C ls H QB:=h
theorem zZ {A B:AH->Prop}(h:TV c C ls H true)(p:A H):xt c C ls H λ t H1=>(t=true->A H1)/\(t=false->B H1):=h _ ⟨λ _=>p,nofun⟩
theorem wZ {A B:AH->Prop}(h:TV c C ls H false)(p:B H):xt c C ls H λ t H1=>(t=true->A H1)/\(t=false->B H1):=h _ ⟨nofun,λ _=>p⟩
theorem EZ (h:TV c C ls H t)(q:QB t H):xt c C ls H QB:=h _ q
theorem FY (h:lget ls j=some v):EV (.var j) C ls H v:=λ Q q=>(congrArg (λ o:Option V=>match o with|some v=>Q v H|none=>False) h).mpr q
theorem EV.none:EV .none C ls H .none:=λ _ q=>q
theorem EV.bool:EV (.bool t) C ls H (.bool t):=λ _ q=>q
theorem FZ:EV (.int m) C ls H (.int m):=λ _ q=>q
theorem F8:EV (.bytes l) C ls H (.bytes l):=λ _ q=>q
theorem F0:EV (.str l) C ls H (.str l):=λ _ q=>q
theorem EV.glb:EV (.glb n) C ls H (j2 n):=λ _ q=>q
theorem F5 (ha:EV e C ls H u)(hi:EV i C ls H w)(h:∀ Q:V->Prop,Q v->iI u w H Q):EV (.sub e i) C ls H v:=λ Q q=>ha _ (hi _ (h _ q))
theorem EV.attr (ha:EV e C ls H u)(h:∀ Q:V->AH->Prop,Q v H->iu u k H Q):EV (.attr e k) C ls H v:=λ Q q=>ha _ (h _ q)
theorem F6 {op:BO}(ha:EV e C ls H u)(hi:EV i C ls H w)(h:∀ Q:V->AH->Prop,Q v H->kE op u w H Q):EV (.bin op e i) C ls H v:=λ Q q=>ha _ (hi _ (h _ q))
theorem EV.add (ha:EV e C ls H (.int m))(hi:EV i C ls H (.int p)):EV (.bin .add e i) C ls H (.int (m+p)):=λ Q q=>ha _ (hi _ q)
theorem EV.min (ha:EV e C ls H (.int m))(hi:EV i C ls H (.int p)):EV (.bin .sub e i) C ls H (.int (m-p)):=λ Q q=>ha _ (hi _ q)
theorem EV.cmp {op:CO}(ha:EV e C ls H u)(hi:EV i C ls H w)(h:∀ Q:Bool->Prop,Q t->Internal.cmp op u w H Q):EV (.cmp op e i) C ls H (.bool t):=λ Q q=>ha _ (hi _ (h _ q))
theorem Gq (h:TV c C ls H true)(g:EV e C ls H v):EV (.ite c e i) C ls H v:=λ Q q=>h _ ⟨λ _=>g _ q,nofun⟩
theorem Gr (h:TV c C ls H false)(g:EV i C ls H v):EV (.ite c e i) C ls H v:=λ Q q=>h _ ⟨nofun,λ _=>g _ q⟩
theorem EV.lenB (ha:EV e C ls H (.bytes l))(h:l.length<=16777216):EV (.bi .len (.cons e .nil)) C ls H (.int l.length):=λ Q q=>ha _ ⟨h,q⟩
theorem Gs (ha:EV e C ls H (.str l))(h:l.length<=16777216):EV (.bi .len (.cons e .nil)) C ls H (.int l.length):=λ Q q=>ha _ ⟨h,q⟩
theorem EV.lenL (ha:EV e C ls H (.ref n))(g:listAt H n L)(h:L.length<=16777216):EV (.bi .lenL (.cons e .nil)) C ls H (.int L.length):=λ Q q=>ha _ ⟨_,g,h,q⟩
theorem Gu (ha:EV e C ls H (.ref n))(g:H n=some (.barr l))(h:l.length<=16777216):EV (.bi .lenB (.cons e .nil)) C ls H (.int l.length):=λ Q q=>ha _ ⟨_,g,h,q⟩
theorem EV.call (h:AV es C ls H vs)(g:∀ Q:V->AH->Prop,Q v H->C.call C.β C.X n vs H Q):EV (.call n es) C ls H v:=λ Q q=>h _ (g _ q)
theorem EV.meth (ho:EV o C ls H u)(hi:fz k u H)(h:AV es C ls H vs)(g:∀ Q:V->AH->Prop,Q v H->C.call C.β C.X n (u::vs) H Q):EV (.meth k n o es) C ls H v:=λ Q q=>ho _ ⟨hi,h _ (g _ q)⟩
theorem EV.bi {b:BI}(h:AV es C ls H vs)(g:∀ Q:V->AH->Prop,Q v H->uZ b vs H Q):EV (.bi b es) C ls H v:=λ Q q=>h _ (g _ q)
theorem EV.bm {b:BM}(ho:EV o C ls H u)(hi:jw b u H)(h:AV es C ls H vs)(g:∀ Q:V->AH->Prop,Q v H->we b u vs H Q):EV (.bm b o es) C ls H v:=λ Q q=>ho _ ⟨hi,h _ (g _ q)⟩
theorem EV.mul (ha:EV e C ls H (.int m))(hi:EV i C ls H (.int p))(hb:-9223372036854775808<p/\p<9223372036854775808):EV (.bin .mul e i) C ls H (.int (m*p)):=λ Q q=>ha _ (hi _ ⟨hb,q⟩)
theorem EV.neg (ha:EV e C ls H (.int m)):EV (.neg e) C ls H (.int (-m)):=λ Q q=>ha _ q
theorem EV.slc (ha:EV e C ls H u)(hi:EV i C ls H (.int m))(ho:EV o C ls H (.int p))(h:∀ Q:V->AH->Prop,Q v H->Internal.slc u (some m) (some p) H Q):EV (.slc e i o) C ls H v:=λ Q q=>ha _ (hi _ (ho _ (h _ q)))
theorem EV.slcTo (ha:EV e C ls H u)(ho:EV o C ls H (.int p))(h:∀ Q:V->AH->Prop,Q v H->Internal.slc u Option.none (some p) H Q):EV (.slcTo e o) C ls H v:=λ Q q=>ha _ (ho _ (h _ q))
theorem B3 (h:EV e C ls H v)(q:Q v H):xe e C ls H Q:=h _ q
theorem AV.nil:AV .nil C ls H []:=λ _ q=>q
theorem AV.cons (h:EV e C ls H v)(g:AV es C ls H vs):AV (.cons e es) C ls H (v::vs):=λ _ q=>h _ (g _ q)
theorem AV.one (h:EV e C ls H v):AV (.cons e .nil) C ls H [v]:=λ _ q=>h _ q
theorem AV.two (h:EV e C ls H v)(g:EV i C ls H w):AV (.cons e (.cons i .nil)) C ls H [v,w]:=λ _ q=>h _ (g _ q)
theorem ax (h:AV es C ls H vs)(q:C.call C.β C.X n vs H Q):xe (.call n es) C ls H Q:=h _ q
theorem gZ (ho:EV o C ls H u)(hi:fz k u H)(h:AV es C ls H vs)(q:C.call C.β C.X n (u::vs) H Q):xe (.meth k n o es) C ls H Q:=ho _ ⟨hi,h _ q⟩
theorem wn (ho:EV o C ls H u)(hi:fz k u H)(h:AV es C ls H vs)(hz:vs.length<=100)(q:∀ c,H c=Option.none->C.call C.β C.X n [u,.ref c] (H.set c (.tup vs)) Q):xe (.meth k n o (.cons (.tup es) .nil)) C ls H Q:=ho _ ⟨hi,h _ ⟨hz,q⟩⟩
theorem xA {b:BM}(ho:EV o C ls H u)(hp:jw b u H)(h:AV es C ls H vs)(hz:vs.length<=100)(q:∀ c,H c=Option.none->we b u [.ref c] (H.set c (.tup vs)) Q):xe (.bm b o (.cons (.tup es) .nil)) C ls H Q:=ho _ ⟨hp,h _ ⟨hz,q⟩⟩
theorem kJ (h:AV es C ls H vs)(hz:vs.length<=100)(q:∀ c,H c=none->Q (.ref c) (H.set c (.tup vs))):xe (.tup es) C ls H Q:=h _ ⟨hz,q⟩
theorem gE (h:AV es C ls H vs)(hz:vs.length<=100)(q:∀ c,H c=none->Q (.ref c) (H.set c (.list vs))):xe (.lst es) C ls H Q:=h _ ⟨hz,q⟩
theorem rA {b:BI}(h:AV es C ls H vs)(q:uZ b vs H Q):xe (.bi b es) C ls H Q:=h _ q
theorem iB {b:BM}(ho:EV o C ls H u)(hp:jw b u H)(h:AV es C ls H vs)(q:we b u vs H Q):xe (.bm b o es) C ls H Q:=ho _ ⟨hp,h _ q⟩
theorem q6 (h:EV e C ls H (.bool true))(p:xe i C ls H Q):xe (.and e i) C ls H Q:=h _ ⟨λ _=>p,nofun⟩
theorem qX (h:EV e C ls H (.bool false))(p:Q (.bool false) H):xe (.and e i) C ls H Q:=h _ ⟨nofun,λ _=>p⟩
theorem gb (h:TV c C ls H true)(p:xe e C ls H Q):xe (.ite c e i) C ls H Q:=h _ ⟨λ _=>p,nofun⟩
theorem ix (h:TV c C ls H false)(p:xe i C ls H Q):xe (.ite c e i) C ls H Q:=h _ ⟨nofun,λ _=>p⟩
theorem ac {a b:Nat}(h:ble a b=true):a<=b:=Nat.le_of_ble_eq_true h
theorem mu {b:BM}(ho:EV o C ls H u)(hp:jw b u H)(h:xes es C ls H λ vs H1=>we b u vs H1 Q):xe (.bm b o es) C ls H Q:=ho _ ⟨hp,h⟩
theorem j0 (h:xes es C ls H λ vs H1=>vs.length<=100/\∀ c,H1 c=Option.none->Q (.ref c) (H1.set c (.list vs))):xe (.lst es) C ls H Q:=h
theorem dF (h:xes es C ls H λ vs H1=>vs.length<=100/\∀ c,H1 c=Option.none->Q (.ref c) (H1.set c (.tup vs))):xe (.tup es) C ls H Q:=h
theorem hN (h:xes es C ls H λ vs H1=>C.call C.β C.X n vs H1 Q):xe (.call n es) C ls H Q:=h
theorem uD {b:BI}(h:xes es C ls H λ vs H1=>uZ b vs H1 Q):xe (.bi b es) C ls H Q:=h
theorem bI {Q:List V->AH->Prop}(h:xe e C ls H λ v H1=>Q [v] H1):xes (.cons e .nil) C ls H Q:=h
theorem jD {Q:List V->AH->Prop}(he:EV e C ls H v)(h:xes es C ls H λ vs H1=>Q (v::vs) H1):xes (.cons e es) C ls H Q:=he _ h
theorem nE {Q:List V->AH->Prop}(h:xe e C ls H λ v H1=>xes es C ls H1 λ vs H2x=>Q (v::vs) H2x):xes (.cons e es) C ls H Q:=h
theorem cU (h:TV c C ls H true)(p:xs a C ls H (λ ls' H'=>xs r C ls' H' N Rr) Rr):xs (.cond c a b r) C ls H N Rr:=h _ ⟨λ _=>p,nofun⟩
theorem Af (h:TV c C ls H false)(p:xs b C ls H (λ ls' H'=>xs r C ls' H' N Rr) Rr):xs (.cond c a b r) C ls H N Rr:=h _ ⟨nofun,λ _=>p⟩
theorem dX (h:TV c C ls H true)(p:xs a C ls H N Rr):xs (.cond c a b .done) C ls H N Rr:=h _ ⟨λ _=>p,nofun⟩
theorem dN (h:TV c C ls H false)(p:xs b C ls H N Rr):xs (.cond c a b .done) C ls H N Rr:=h _ ⟨nofun,λ _=>p⟩
theorem au (h:TV c C ls H false)(p:xs r C ls H N Rr):xs (.cond c a .done r) C ls H N Rr:=h _ ⟨nofun,λ _=>p⟩
theorem aM (h:EV e C ls H v)(p:xs r C (lput ls k v) H N Rr):xs (.set k e r) C ls H N Rr:=h _ p
theorem bj (h:xe e C ls H λ v H1=>xs r C (lput ls k v) H1 N Rr):xs (.set k e r) C ls H N Rr:=h
theorem eX (he:EV e C ls H v)(ho:EV o C ls H u)(p:cN u k v H λ H1=>xs r C ls H1 N Rr):xs (.setA o k e r) C ls H N Rr:=he _ (ho _ p)
theorem jd (he:EV e C ls H v)(ho:EV o C ls H u)(hi:EV i C ls H w)(p:dj u w v H λ H1=>xs r C ls H1 N Rr):xs (.setS o i e r) C ls H N Rr:=he _ (ho _ (hi _ p))
theorem aC (h:EV e C ls H v)(p:Rr v H):xs (.ret e) C ls H N Rr:=h _ p
theorem a6 (h:xe e C ls H Rr):xs (.ret e) C ls H N Rr:=h
theorem aG (h:xe e C ls H λ _ H1=>xs r C ls H1 N Rr):xs (.ex e r) C ls H N Rr:=h
theorem cL {ks:List Nat}(h:xe e C ls H λ v H1=>match v with | .ref t=>∃ vs,H1 t=some (.tup vs)/\∃ ls',lputs ls ks vs=some ls'/\xs r C ls' H1 N Rr|_=>False):xs (.setN ks e r) C ls H N Rr:=h
theorem u8 (h:xe e C ls H λ v H1=>match v with | .ref t=>∃ x y,H1 t=some (.tup [x,y])/\xe o C (lput ls k x) H1 λ u H2x=>cN u n y H2x λ H3=>xs r C (lput ls k x) H3 N Rr|_=>False):xs (.setVA k o n e r) C ls H N Rr:=h
theorem di (h:xe e C ls H λ v H1=>xe o C ls H1 λ u H2x=>cN u k v H2x λ H3=>xs r C ls H3 N Rr):xs (.setA o k e r) C ls H N Rr:=h
theorem f8 (I:Nat->Ls->AH->Prop){n:Nat}(h0:I n ls H)(h:∀ n ls H,I n ls H->xt c C ls H λ t H1=>(t=true->xs b C ls H1 (λ ls' H'=>∃ m,m<n/\I m ls' H') Rr)/\(t=false->xs r C ls H1 N Rr)):xs (.while c b r) C ls H N Rr:=⟨I,⟨_,h0⟩,h⟩
theorem kf {src:Src}{tg:Tg}{items:List It}(he:EV e C ls H u)(hs:cF src u H items)(p:iL (ay src u items) tg (λ ls' H' K=>xs b C.nox ls' H' K Rr) items ls H λ ls' H'=>xs r C ls' H' N Rr):xs (.for src tg e b r) C ls H N Rr:=he _ ⟨items,hs,p⟩
theorem gQ (hn:m=x)(hl:l.length<=16777216)(h:l[x]?=some y)(Q:V->Prop)(q:Q (.int y)):iI (.bytes l) (.int m) H Q:=by subst hn;exact ⟨y,⟨natCast_nonneg x,hl,h⟩,q⟩
theorem Be (hn:m=x)(hl:l.length<=16777216)(h:l[x]?=some y)(Q:V->Prop)(q:Q (.str [y])):iI (.str l) (.int m) H Q:=by subst hn;exact ⟨y,⟨natCast_nonneg x,hl,h⟩,q⟩
theorem lC (hn:m=x)(g:listAt H n L)(hl:L.length<=16777216)(h:L[x]?=some v)(Q:V->Prop)(q:Q v):iI (.ref n) (.int m) H Q:=by subst hn;exact .inl ⟨L,v,.inr g,hl,h,q⟩
theorem i1 (hn:m=x)(g:H n=some (.tup L))(hl:L.length<=16777216)(h:L[x]?=some v)(Q:V->Prop)(q:Q v):iI (.ref n) (.int m) H Q:=by subst hn;exact .inl ⟨L,v,.inl g,hl,h,q⟩
theorem tc (hm:m=x)(hp:p=y)(h:decide (x<=y)=t)(Q:Bool->Prop)(q:Q t):cmp .le (.int m) (.int p) H Q:=by subst hm hp h;show Q (decide ((x:Int)<=y));simpa using q
theorem nN (hm:m=x)(hp:p=y)(h:decide (y<=x)=t)(Q:Bool->Prop)(q:Q t):cmp .ge (.int m) (.int p) H Q:=by subst hm hp h;show Q (decide ((y:Int)<=x));simpa using q
theorem i8 (hm:m=x)(hp:p=y)(h:decide (x<y)=t)(Q:Bool->Prop)(q:Q t):cmp .lt (.int m) (.int p) H Q:=by subst hm hp h;show Q (decide ((x:Int)<y));simpa using q
theorem fm (hm:m=x)(hp:p=y)(h:decide (y<x)=t)(Q:Bool->Prop)(q:Q t):cmp .gt (.int m) (.int p) H Q:=by subst hm hp h;show Q (decide ((y:Int)<x));simpa using q
theorem fQ (hm:m=x)(hp:p=y)(h:decide (x=y)=t)(Q:Bool->Prop)(q:Q t):cmp .eq (.int m) (.int p) H Q:=by subst hm hp h;show Q (decide ((x:Int)=y));simpa [Int.ofNat_inj] using q
theorem jf (hm:m=x)(hx:x<256)(h:l.contains x=t)(Q:Bool->Prop)(q:Q t):cmp .isin (.int m) (.bytes l) H Q:=by subst hm h;exact ⟨⟨natCast_nonneg x,ofNat_lt.mpr hx⟩,q⟩
theorem rh (hm:m=x)(hx:x<256)(h:(!l.contains x)=t)(Q:Bool->Prop)(q:Q t):cmp (.notin ()) (.int m) (.bytes l) H Q:=by subst hm h;exact ⟨⟨natCast_nonneg x,ofNat_lt.mpr hx⟩,q⟩
theorem vq (h:decide (m=p)=t)(Q:Bool->Prop)(q:Q t):cmp .eq (.int m) (.int p) H Q:=by subst h;exact q
theorem sj (h:decide (l=l')=t)(Q:Bool->Prop)(q:Q t):cmp .eq (.str l) (.str l') H Q:=by subst h;exact q
theorem Ej (h:decide (l=l')=t)(Q:Bool->Prop)(q:Q t):cmp .eq (.bytes l) (.bytes l') H Q:=by subst h;exact q
theorem EY (h:(!decide (l=l'))=t)(Q:Bool->Prop)(q:Q t):cmp .ne (.bytes l) (.bytes l') H Q:=by subst h;exact q
theorem u0 (h:decide (m<p)=t)(Q:Bool->Prop)(q:Q t):cmp .lt (.int m) (.int p) H Q:=by subst h;exact q
theorem wg {x y:Nat}(hm:m=x)(hp:p=y)(hl:l.length<=16777216)(Q:V->AH->Prop)(q:Q (.bytes ((l.drop x).take (y-x))) H):slc (.bytes l) (some m) (some p) H Q:=by
 subst hm hp
 exact ⟨⟨natCast_nonneg x,natCast_nonneg y,hl⟩,by refine sr (toNat_natCast ..) (sr (toNat_natCast ..) ?_);exact q⟩
theorem qY (hi:EV e C ls H (.bytes l))(hj:EV i C ls H (.int m))(hk:EV o C ls H (.int p))(hm:m=x)(hp:p=(x+1:Nat))(hl:l.length<=16777216)(h:decide ((l.drop x).take 1=[y])=t):TV (.cmp .eq (.slc e i o) (.bytes [y])) C ls H t :=
 F7 (EV.slc hi hj hk (wg hm hp hl)) F8 (Ej (by refine sr (Nat.add_sub_cancel_left ..) ?_;exact h))
theorem qj (hi:EV e C ls H (.bytes l))(hj:EV i C ls H (.int m))(hk:EV o C ls H (.int p))(hm:m=x)(hp:p=(x+1:Nat))(hl:l.length<=16777216)(h:(!decide ((l.drop x).take 1=[y]))=t):TV (.cmp .ne (.slc e i o) (.bytes [y])) C ls H t :=
 F7 (EV.slc hi hj hk (wg hm hp hl)) F8 (EY (by refine sr (Nat.add_sub_cancel_left ..) ?_;exact h))
theorem wj {Q:AH->Prop}(g:H n=some (.list L))(hz:L.length<=16777216)(hm:m=x)(hx:x<L.length)(q:Q (H.set n (.list (L.set x v)))):dj (.ref n) (.int m) v H Q:=by
 subst hm;exact .inl ⟨L,g,hz,natCast_nonneg x,ofNat_lt.mpr hx,q⟩
theorem Di (p:Rr .none H):xs .retN C ls H N Rr:=p
theorem f7 (h:xe e C ls H λ v H1=>xe o C ls H1 λ u H2x=>xe i C ls H2x λ j H3=>dj u j v H3 λ H4=>xs r C ls H4 N Rr):xs (.setS o i e r) C ls H N Rr:=h
theorem mT {α:Type}{G:α->Prop}{b:Bool}{x y:α}(h:b=true)(q:G (cond b x y)):G x:=by subst h;exact q
theorem mF {α:Type}{G:α->Prop}{b:Bool}{x y:α}(h:b=false)(q:G (cond b x y)):G y:=by subst h;exact q
theorem a9 (hv:lget ls j=some (.int x))(hb:decide (x=y)=t):TV (.cmp .eq (.var j) (.sub (.bytes [y]) (.int 0))) C ls H t:=F7 (FY hv) (F5 F8 FZ (gQ (x:=0) rfl (by decide:1<=16777216) rfl)) (fQ rfl rfl hb)
theorem lS (hv:lget ls j=some (.int x))(hc:x<256)(hb:l.contains x=t):TV (.cmp .isin (.var j) (.bytes l)) C ls H t:=F7 (FY hv) F8 (jf rfl hc hb)
theorem mX (hg:j2 n=.bytes l)(hv:lget ls j=some (.int x))(hc:x<256)(hb:l.contains x=t):TV (.cmp .isin (.var j) (.glb n)) C ls H t:=F7 (FY hv) (hg▸EV.glb) (jf rfl hc hb)
theorem w0 (hv:lget ls j=some (.int x))(hb:decide (x=37)=t):TV (.cmp .eq (.var j) (.glb 0)) C ls H t:=F7 (FY hv) EV.glb (fQ rfl rfl hb)
end
structure Pk (S:Sx):Prop where
 G:B0 S
 F:∀ {f n m b ir},(f,n,m,b,ir)∈oW->Fn S f n m b ir
theorem Pk.enter {S:Sx}(P:Pk S)(i:Nat){f n m k:Nat}{cβ β:Bool}{ir:B}{X:Int->Prop}{vs:List V}{H:AH}{Q:V->AH->Prop}(hi:oW[i]?=some (f,n,m,cβ,ir))(hr:bB ir=true\/0<k)(hlen:vs.length=n)(hβ:cβ=true->β=true)
  (p:let C:Cw:=⟨af S k,β,X⟩;let L:=vs.map some++replicate (m-n) none;xs ir C L H (λ _ H'=>Q .none H') Q):af S (k+1) β X f vs H Q :=
 (P.F (mem_of_getElem? hi)).call P.G hr hlen hβ p
def cR (l:List Nat):Prop:=∀ c∈l,c<256
noncomputable def jZ (l:List Nat)(i:Int):Bool:=match l[i.toNat]? with
 | some c=>decide (48<=c)&&decide (c<=57)
 | none=>false
theorem jC {c:Nat}:([48,49,50,51,52,53,54,55,56,57]:List Nat).contains c=(decide (48<=c)&&decide (c<=57)) :=
 if h:c<58 then (by decide +kernel:∀ c<58,([48,49,50,51,52,53,54,55,56,57]:List Nat).contains c=(decide (48<=c)&&decide (c<=57))) c h
 else by
  exact sr (GN (λ e:c<=57=>h (Nat.lt_succ_of_le e)) ..) (sr (Bool.and_false ..) (Bool.eq_false_iff.mpr λ e=>h ((by decide +kernel:∀ x∈([48,49,50,51,52,53,54,55,56,57]:List Nat),x<58) c (List.contains_iff_mem.mp e))))
variable {S:Sx}{β:Bool}{X:Int->Prop}{H:AH}{Q:V->AH->Prop}
theorem c1 (P:Pk S){k:Nat}{l:List Nat}{i:Int}(hl:l.length<=16777216)(hi:0<=i)(ho:cR l)(q:Q (.bool (jZ l i)) H):af S (k+1) β X 1 [.bytes l,.int i] H Q:=by
 refine P.enter 0 rfl (.inl rfl) rfl nofun ?_
 have e:i=i.toNat:=(toNat_of_nonneg hi).symm
 have lt:∀ {b},decide (i.toNat<l.length)=b->EV (.cmp .lt (.var 1) (.bi .len (.cons (.var 0) .nil))) ⟨af S k,β,X⟩ [some (.bytes l),some (.int i)] H (.bool b):=EV.cmp (FY rfl) (EV.lenB (FY rfl) hl) ∘ i8 e rfl
 induction h:l[i.toNat]? with
 | none =>
  rw [jZ,h] at q
  exact a6 (qX (lt (GN (not_lt.mpr (List.getElem?_eq_none_iff.mp h)))) q)
 | some c =>
  rw [jZ,h] at q
  exact a6 (q6 (lt (GM (List.getElem?_eq_some_iff.mp h).1)) (EV.cmp (F5 (FY rfl) (FY rfl) (gQ e hl h)) EV.glb (jf rfl (ho _ (mem_of_getElem? h)) jC) _ q))
noncomputable def oG (c:Nat):Bool:=decide (48<=c)&&decide (c<=57)
noncomputable def aJ:List Nat->Int->Int×Nat
 | c::r,acc=>match oG c with
  | true=>((aJ r (acc*10+c-48)).1,(aJ r (acc*10+c-48)).2+1)
  | false=>(acc,0)
 | [],acc=>(acc,0)
theorem jQ {o:List Nat}{i:Nat}:jZ o i=match o.drop i with|c::_=>oG c | []=>false:=by
 dsimp only [jZ,oG]
 refine sr (toNat_natCast ..) ?_
 induction h:o.drop i with
 | nil =>
  have:o.length<=i:=drop_eq_nil_iff.mp h
  exact sr (List.getElem?_eq_none this) rfl
 | cons c r =>
  have:o[i]?=some c:=by
   have:=congrArg (·[0]?) h
   simpa [List.getElem?_drop] using this
  exact sr this rfl
theorem bq {o:List Nat}{i:Nat}{c:Nat}{r:List Nat}(h:o.drop i=c::r):o.drop (i+1)=r/\o[i]?=some c/\i<o.length:=by
 have h1:o[i]?=some c:=by
  have:=congrArg (·[0]?) h
  simpa [List.getElem?_drop] using this
 have h2:i<o.length:=(List.getElem?_eq_some_iff.mp h1).1
 refine ⟨?_,h1,h2⟩
 rw [List.drop_eq_getElem_cons h2] at h
 cases h;rfl
theorem qC {c:Nat}{r:List Nat}{acc:Int}(h:oG c=true):aJ (c::r) acc=((aJ r (acc*10+c-48)).1,(aJ r (acc*10+c-48)).2+1):=by rewrite [aJ];exact sr h rfl
theorem rj {c:Nat}{r:List Nat}{acc:Int}(h:oG c=false):aJ (c::r) acc=(acc,0):=by rewrite [aJ];exact sr h rfl
theorem c2 (P:Pk S){k:Nat}{o:List Nat}{i:Nat}(hl:o.length<=16777216)(ho:cR o)(hi:i<=o.length)
  (q:∀ c H',H c=none->H'=H.set c (.tup [.int (aJ (o.drop i) 0).1,.int (i+(aJ (o.drop i) 0).2:Nat)])->Q (.ref c) H'):af S (k+2) β X 2 [.bytes o,.int i] H Q:=by
 refine P.enter 1 rfl (.inl rfl) rfl nofun ?_
 refine aM FZ (f8 (λ n ls H'=>H'=H/\∃ (j:Nat) (acc:Int),n=o.length-j/\j<=o.length/\ls=[some (.bytes o),some (.int j),some (.int acc)]/\(aJ (o.drop j) acc).1=(aJ (o.drop i) 0).1/\j+(aJ (o.drop j) acc).2=i+(aJ (o.drop i) 0).2)
  ⟨rfl,i,0,rfl,hi,rfl,rfl,rfl⟩ ?_)
 rintro n ls H' ⟨rfl,j,acc,rfl,hj,rfl,h1,h2⟩
 have go:TV (.val (.call 1 (.cons (.var 0) (.cons (.var 1) .nil)))) ⟨af S (k+1),β,X⟩ [some (.bytes o),some (.int j),some (.int acc)] H' (jZ o j):=TV.val (EV.call (.two (FY rfl) (FY rfl)) λ _ q=>c1 P hl (natCast_nonneg j) ho q) λ _ q=>q
 have fin:(aJ (o.drop j) acc)=(acc,0)->xs (.ret (.tup (.cons (.var 2) (.cons (.var 1) .nil)))) ⟨af S (k+1),β,X⟩ [some (.bytes o),some (.int j),some (.int acc)] H' (λ _ H'=>Q .none H') Q:=λ z =>
  a6 (kJ (.two (FY rfl) (FY rfl)) (ac rfl) λ c hc=>q c _ hc (by rw [z] at h1 h2;refine sl h1 (sl h2 ?_);rfl))
 rw [jQ] at go
 revert go fin h1 h2
 induction hd:o.drop j with
 | nil=>exact λ h1 h2 go fin=>wZ go (fin rfl)
 | cons c r =>
  intro h1 h2 go fin
  refine mL (bq hd) λ e1 e2 e3=>?_
  have go:TV _ _ _ H' (oG c):=go
  induction hc:oG c with
  | true =>
   rw [hc] at go
   rw [qC hc] at h1 h2
   exact zZ go (aM (EV.min (EV.add (EV.mul (FY rfl) FZ (by decide)) (F5 (FY rfl) (FY rfl) (gQ rfl hl e2))) FZ) (aM (EV.add (FY rfl) FZ) ⟨o.length-(j+1),Nat.sub_lt_sub_left e3 (lt_succ_self j),rfl,j+1,acc*10+c-48,rfl,e3,rfl,by refine sr e1 ?_;exact h1,by refine sr (e1 ..) (sr (add_assoc ..) (sr (add_comm 1 ..) ?_));exact h2⟩))
  | false =>
   rw [hc] at go
   exact wZ go (fin (rj hc))
structure Mv (H H':AH) (D:Addr->Prop):Prop where
 keep:∀ a ao,H a=some ao->¬ D a->H' a=some ao
 dom:∀ a,H' a=none->H a=none
theorem Mv.refl {H:AH}{D}:Mv H H D:=⟨λ _ _ e _=>e,λ _ e=>e⟩
theorem Mv.trans {H H1 H2x:AH}{D D1 D2:Addr->Prop}(x:Mv H H1 D1)(y:Mv H1 H2x D2)(h1:∀ a,D1 a->D a)(h2:∀ a,D2 a->D a\/H a=none):Mv H H2x D:=⟨λ a ao e n =>
 y.keep a ao (x.keep a ao e λ q=>n (h1 a q)) λ q=>(h2 a q).elim n λ q=>(by rw [q] at e;contradiction),λ a e=>x.dom a (y.dom a e)⟩
theorem Mv.mono {H H':AH}{D D':Addr->Prop}(x:Mv H H' D)(h:∀ a,D a->D' a\/H a=none):Mv H H' D':=⟨λ a ao e n=>x.keep a ao e λ q=>(h a q).elim n λ q=>(by rw [q] at e;contradiction),x.dom⟩
set_option tactic.hygienic true in
theorem aA {H:AH}{a b:Addr}{o:AO}(h:(H.set b o) a=none):H a=none/\a≠b:=by
 unfold AH.set at h
 split at h
 .contradiction
 .rename_i n;exact ⟨h,n⟩
theorem Mv.newR {H H':AH}{a:Addr}{o:AO}{D}(x:Mv H H' D)(h:H' a=none):Mv H (H'.set a o) D:=⟨λ b ao e n=>by
 have g:=x.keep _ _ e n
 have:b≠a:=by rintro rfl;rw [h] at g;contradiction
 refine sr (F4 _ _ this) ?_;exact g,λ b e=>x.dom b (aA e).1⟩
theorem Mv.putR {H H':AH}{a:Addr}{o:AO}{D:Addr->Prop}(x:Mv H H' D)(h:D a):Mv H (H'.set a o) D:=⟨λ b ao e n=>by
 have:b≠a:=by rintro rfl;exact n h
 refine sr (F4 _ _ this) ?_;exact x.keep _ _ e n,λ b e=>x.dom b (aA e).1⟩
theorem Ga {H:AH}{a:Addr}{o:AO}{D}(h:H a=none):Mv H (H.set a o) D:=Mv.refl.newR h
theorem Mv.put {H:AH}{a:Addr}{o:AO}{D:Addr->Prop}(h:D a):Mv H (H.set a o) D:=Mv.refl.putR h
theorem aw {H:AH}{a b:Addr}{x y:AO}(e:H a=some x)(f:H b=some y)(h:beq x.ctorIdx y.ctorIdx=false):a≠b:=λ q=>by subst q;rw [Option.some.inj (e.symm.trans f),Nat.beq_refl] at h;exact Bool.noConfusion h
theorem aB {H:AH}{a b:Addr}{x:AO}(e:H a=some x)(f:H b=none):a≠b:=by rintro rfl;rw [e] at f;contradiction
theorem gU {H:AH}{a d:Addr}{c k:Nat}{es:List (Nat×V)}{v:V}{Q:V->AH->Prop}(h1:H a=some (.inst c d))(h2:H d=some (.attrs es))(hc:iq c=true)(h3:bV es k=some v)(q:Q v H):iu (.ref a) k H Q:=⟨c,d,es,v,h1,h2,hc,h3,q⟩
theorem bL {H:AH}{a d:Addr}{c k:Nat}{es:List (Nat×V)}{v:V}{Q:AH->Prop}(h1:H a=some (.inst c d))(h2:H d=some (.attrs es))(hc:iq c=true)(h3:es.length<=100)(q:Q (H.set d (.attrs (cG es k v)))):cN (.ref a) k v H Q:=⟨c,d,es,h1,h2,⟨hc,h3⟩,q⟩
inductive Op where
 | text (l:List Nat)|char|length|more|param (k:Int)|set (c:Int)|get (c:Int)|push (i:Int)|two (c:Int)|one (c:Int)|unless (t:Int)|jump (t:Int)
 | write (letter:Int) (flags:List Nat) (width:Int) (prec:Option Int)
noncomputable def hM:Option Int->V
 | none=>.none
 | some i=>.int i
noncomputable def Op.vals:Op->List V
 | .text l=>[.str [116,101,120,116],.bytes l]
 | .char=>[.str [99,104,97,114]]
 | .length=>[.str [108,101,110,103,116,104]]
 | .more=>[.str [109,111,114,101]]
 | .param k=>[.str [112,97,114,97,109],.int k]
 | .set c=>[.str [115,101,116],.int c]
 | .get c=>[.str [103,101,116],.int c]
 | .push i=>[.str [112,117,115,104],.int i]
 | .two c=>[.str [116,119,111],.int c]
 | .one c=>[.str [111,110,101],.int c]
 | .unless t=>[.str [117,110,108,101,115,115],.int t]
 | .jump t=>[.str [106,117,109,112],.int t]
 | .write l f w p=>[.str [119,114,105,116,101],.int l,.bytes f,.int w,hM p]
def lH (H:AH)(v:V)(op:Op):Prop:=∃ t,v=.ref t/\H t=some (.tup op.vals)
inductive cr (H:AH):List V->List Op->Prop where
 | nil:cr H [] []
 | cons {v op vs ops}:lH H v op->cr H vs ops->cr H (v::vs) (op::ops)
theorem lH.keep {H H':AH}{v op}(h:lH H v op)(m:∀ t vs,H t=some (.tup vs)->H' t=some (.tup vs)):lH H' v op:=by obtain ⟨t,e,g⟩:=h;exact ⟨t,e,m _ _ g⟩
theorem cr.keep {H H':AH}{vs ops}(h:cr H vs ops)(m:∀ t vs,H t=some (.tup vs)->H' t=some (.tup vs)):cr H' vs ops:=by
 induction h with
 | nil=>exact .nil
 | cons a _ ih=>exact .cons (a.keep m) ih
theorem cr.length {H:AH}{vs ops}(h:cr H vs ops):vs.length=ops.length:=by
 induction h with
 | nil=>rfl
 | cons _ _ ih=>simp [ih]
theorem cr.snoc {H:AH}{vs ops v op}(h:cr H vs ops)(g:lH H v op):cr H (vs++[v]) (ops++[op]):=by
 induction h with
 | nil=>exact .cons g .nil
 | cons a _ ih=>exact .cons a ih
theorem cr.set {H:AH}{vs ops v op}(h:cr H vs ops)(i:Nat)(g:lH H v op):cr H (vs.set i v) (ops.set i op):=by
 induction h generalizing i with
 | nil=>exact .nil
 | cons a b ih=>induction i with|zero=>exact .cons g b|succ i=>exact .cons a (ih i)
theorem cr.get {H:AH}{vs ops}(h:cr H vs ops){i:Nat}{op:Op}(e:ops[i]?=some op):∃ v,vs[i]?=some v/\lH H v op:=by
 induction h generalizing i with
 | nil=>simp at e
 | cons a b ih=>induction i with|zero=>simp at e;subst e;exact ⟨_,by simp,a⟩|succ i=>simp at e;simpa using ih e
structure Rd (H:AH) (r d rl ol tb:Addr) (o:List Nat) (at_:Int) (ops:List Op) (pend:List Nat) (ov:List V):Prop where
 inst:H r=some (.inst 1 d)
 attrs:H d=some (.attrs [(1,.bytes o),(2,.int at_),(3,.ref rl),(4,.ref tb),(5,.ref ol)])
 rows:∃ rows,H rl=some (.list rows)/\cr H rows ops
 text:H tb=some (.barr pend)
 opn:H ol=some (.list ov)
 ne:rl≠ol
noncomputable abbrev se (d rl ol tb:Addr):Addr->Prop:=λ a=>a=d\/a=rl\/a=ol\/a=tb
noncomputable def fl (p:List Nat):List Op:=match p with | []=>[]|_=>[.text p]
section
variable {S:Sx}{X:Int->Prop}{H:AH}{Q:V->AH->Prop}{r d rl ol tb:Addr}{o:List Nat}{at_:Int}{ops:List Op}{pend:List Nat}{ov:List V}
theorem Rd.ned (R:Rd H r d rl ol tb o at_ ops pend ov):r≠d/\r≠rl/\r≠ol/\r≠tb/\d≠rl/\d≠ol/\d≠tb/\rl≠tb/\ol≠tb:=by
 exact aT R.rows λ rows h3 uz1=>⟨aw R.inst R.attrs rfl,aw R.inst h3 rfl,aw R.inst R.opn rfl,aw R.inst R.text rfl,aw R.attrs h3 rfl,aw R.attrs R.opn rfl,aw R.attrs R.text rfl,aw h3 R.text rfl,aw R.opn R.text rfl⟩
theorem Rd.other (R:Rd H r d rl ol tb o at_ ops pend ov){H':AH}(m:Mv H H' λ a=>¬ (a=r\/a=d\/a=rl\/a=ol\/a=tb)/\∀ vs,H a≠some (.tup vs)):Rd H' r d rl ol tb o at_ ops pend ov:=by
 refine aT R.rows λ rows h3 h4=>?_
 exact ⟨m.keep _ _ R.inst λ q=>q.1 (.inl rfl),m.keep _ _ R.attrs λ q=>q.1 (.inr (.inl rfl)),⟨rows,m.keep _ _ h3 λ q=>q.1 (.inr (.inr (.inl rfl))),h4.keep λ t vs e=>m.keep _ _ e λ q=>q.2 vs e⟩,
  m.keep _ _ R.text λ q=>q.1 (.inr (.inr (.inr (.inr rfl)))),m.keep _ _ R.opn λ q=>q.1 (.inr (.inr (.inr (.inl rfl)))),R.ne⟩
theorem Rd.new (R:Rd H r d rl ol tb o at_ ops pend ov){c:Addr}{ao:AO}(h:H c=none):Rd (H.set c ao) r d rl ol tb o at_ ops pend ov:=R.other (Ga h)
theorem Rd.row (R:Rd H r d rl ol tb o at_ ops pend ov){v:V}{op:Op}{rows:List V}(e:H rl=some (.list rows))(g:lH H v op):Rd (H.set rl (.list (rows++[v]))) r d rl ol tb o at_ (ops++[op]) pend ov:=by
 refine aT R.rows λ rows' h3 h4=>?_
 rw [e] at h3;cases h3
 refine Aa R.ned λ n1 n2 n3 n4 n5 n6 n7 n8 n9=>?_
 have tk:∀ t vs,H t=some (.tup vs)->(H.set rl (.list (rows++[v]))) t=some (.tup vs):=λ t vs q=>by exact sr (F4 _ _ (aw q e rfl)) q
 exact ⟨by refine sr (F4 _ _ n2) ?_;exact R.inst,by refine sr (F4 _ _ n5) ?_;exact R.attrs,⟨_,F3 _ _ _,(h4.keep tk).snoc (g.keep tk)⟩,by refine sr (F4 _ _ n8.symm) ?_;exact R.text,by refine sr (F4 _ _ R.ne.symm) ?_;exact R.opn,R.ne⟩
theorem Rd.move (R:Rd H r d rl ol tb o at_ ops pend ov)(b:Int):Rd (H.set d (.attrs [(1,.bytes o),(2,.int b),(3,.ref rl),(4,.ref tb),(5,.ref ol)])) r d rl ol tb o b ops pend ov:=by
 refine bc λ zz=>aT R.rows λ rows h3 h4=>Aa R.ned λ n1 n2 n3 n4 n5 n6 n7 n8 n9=>zz ?_
 exact ⟨by refine sr (F4 _ _ n1) ?_;exact R.inst,F3 _ _ _,⟨rows,by refine sr (F4 _ _ n5.symm) ?_;exact h3,h4.keep λ t vs q=>by refine sr (F4 _ _ (aw q R.attrs rfl)) ?_;exact q⟩,by refine sr (F4 _ _ n7.symm) ?_;exact R.text,by refine sr (F4 _ _ n6.symm) ?_;exact R.opn,R.ne⟩
theorem Rd.text' (R:Rd H r d rl ol tb o at_ ops pend ov){t':Addr}{p':List Nat}(h:H t'=some (.barr p')):Rd (H.set d (.attrs [(1,.bytes o),(2,.int at_),(3,.ref rl),(4,.ref t'),(5,.ref ol)])) r d rl ol t' o at_ ops p' ov:=by
 refine bc λ zz=>aT R.rows λ rows h3 h4=>Aa R.ned λ n1 n2 n3 n4 n5 n6 n7 n8 n9=>zz ?_
 exact ⟨by refine sr (F4 _ _ n1) ?_;exact R.inst,F3 _ _ _,⟨rows,by refine sr (F4 _ _ n5.symm) ?_;exact h3,h4.keep λ t vs q=>by refine sr (F4 _ _ (aw q R.attrs rfl)) ?_;exact q⟩,by refine sr (F4 _ _ (aw h R.attrs rfl)) ?_;exact h,by refine sr (F4 _ _ n6.symm) ?_;exact R.opn,R.ne⟩
theorem Rd.grow (R:Rd H r d rl ol tb o at_ ops pend ov)(p':List Nat):Rd (H.set tb (.barr p')) r d rl ol tb o at_ ops p' ov:=by
 refine bc λ zz=>aT R.rows λ rows h3 h4=>Aa R.ned λ n1 n2 n3 n4 n5 n6 n7 n8 n9=>zz ?_
 exact ⟨by refine sr (F4 _ _ n4) ?_;exact R.inst,by refine sr (F4 _ _ n7) ?_;exact R.attrs,⟨rows,by refine sr (F4 _ _ n8) ?_;exact h3,h4.keep λ t vs q=>by refine sr (F4 _ _ (aw q R.text rfl)) ?_;exact q⟩,F3 _ _ _,by refine sr (F4 _ _ n9) ?_;exact R.opn,R.ne⟩
inductive bE (H:AH) (r d rl ol tb:Addr) (o:List Nat) (at_:Int) (ops:List Op) (pend:List Nat) (ov:List V) (H':AH):Prop
 | mk (tb':Addr) (a:Rd H' r d rl ol tb' o at_ ops pend ov) (b:Mv H H' (se d rl ol tb)) (c:tb'=tb\/H tb'=none)
theorem bE.mv {H H':AH}{r d rl ol tb:Addr}{o:List Nat}{at_:Int}{ops:List Op}{pend:List Nat}{ov:List V}:bE H r d rl ol tb o at_ ops pend ov H'->Mv H H' (se d rl ol tb)
 | ⟨_,_,b,_⟩=>b
theorem AP {p:List Nat}(h:p≠[]):fl p=[.text p]:=by cases p<;>first|exact absurd rfl h|rfl
theorem Rd.ev {C:Cw}{ls:Ls}{j k:Nat}{v:V}(R:Rd H r d rl ol tb o at_ ops pend ov)(hv:lget ls j=some (.ref r))(h:bV [(1,V.bytes o),(2,.int at_),(3,.ref rl),(4,.ref tb),(5,.ref ol)] k=some v):EV (.attr (.var j) k) C ls H v:=EV.attr (FY hv) λ _ q=>gU R.inst R.attrs rfl h q
theorem Rd.meth {C:Cw}{ls:Ls}{j:Nat}{Q:V->AH->Prop}(R:Rd H r d rl ol tb o at_ ops pend ov){f:Nat}{es:Es}{vs:List V}(hv:lget ls j=some (.ref r))(h:AV es C ls H vs)(q:C.call C.β C.X f (.ref r::vs) H Q):xe (.meth 1 f (.var j) es) C ls H Q:=gZ (FY hv) ⟨_,_,R.inst,R.attrs⟩ h q
theorem c4 (P:Pk S){k:Nat}{β:Bool}{v:V}{i:Int}(h:X i):af S (k+2) β X 4 [v,.int i] H Q:=P.enter 3 rfl (.inr (succ_pos k)) rfl nofun h
theorem c5 (P:Pk S){k:Nat}(R:Rd H r d rl ol tb o at_ ops pend ov)(hp:pend.length<=16777216)(hr:ops.length<=16777215)
  (q:∀ H',bE H r d rl ol tb o at_ (ops++fl pend) [] ov H'->Q .none H'):af S (k+1) true X 5 [.ref r] H Q:=by
 refine P.enter 4 rfl (.inl rfl) rfl (λ _=>rfl) ?_
 have lt:∀ {b},decide (0<pend.length)=b->TV (.cmp .gt (.bi .lenB (.cons (.attr (.var 0) 4) .nil)) (.int 0)) ⟨af S k,true,X⟩ [some (.ref r)] H b:=F7 (Gu (R.ev rfl rfl) R.text hp) FZ ∘ fm rfl rfl
 by_cases h:pend=[]
 .subst h
  exact au (lt rfl) (q _ ⟨tb,by rewrite [fl];refine sr (append_nil ..) ?_;exact R,Mv.refl,.inl rfl⟩)
 refine aT R.rows λ rows h3 h4=>cU (lt (GM (List.length_pos_iff.mpr h))) (aG (xA (R.ev rfl rfl) ⟨rows,h3⟩ (.two F0 (EV.bi (.one (R.ev rfl rfl)) λ _ q=>⟨_,R.text,hp,q⟩)) (ac rfl) λ c hc=>?_))
 have R1x:=R.new (ao:=.tup [.str [116,101,120,116],.bytes pend]) hc
 have e3:(H.set c (.tup [.str [116,101,120,116],.bytes pend])) rl=some (.list rows):=by exact sr (F4 _ _ (aB h3 hc)) h3
 refine ⟨rows,e3,GK (le_of_eq h4.length) (le_succ_of_le hr),di (rA .nil λ a ha=>?_)⟩
 have R3x:=(R1x.row (op:=.text pend) e3 ⟨c,rfl,F3 _ _ _⟩).new (ao:=.barr []) ha
 exact B3 (FY rfl) (bL R3x.inst R3x.attrs rfl (ac rfl) (q _ ⟨a,(sr (AP h) (R3x.text' (t':=a) (p':=[]) (F3 _ _ _))),(((Ga hc).putR (.inr (.inl rfl))).newR ha).putR (.inl rfl),.inr (aA (aA ha).1).1⟩))
theorem bE.trans {H H1 H2x:AH}{r d rl ol tb:Addr}{o at1x ops1 pend1 ov1 at2 ops2 pend2 ov2}(x:bE H r d rl ol tb o at1x ops1 pend1 ov1 H1)(y:∀ tb',Rd H1 r d rl ol tb' o at1x ops1 pend1 ov1->bE H1 r d rl ol tb' o at2 ops2 pend2 ov2 H2x):bE H r d rl ol tb o at2 ops2 pend2 ov2 H2x:=by
 obtain ⟨tb1,R1x,m1x,f1x⟩:=x
 obtain ⟨tb2,R2x,m2x,f2x⟩:=y tb1 R1x
 refine ⟨tb2,R2x,m1x.trans m2x (λ _ h=>h) λ a h=>?_,?_⟩
 .rcases h with h|h|h|h
  .exact .inl (.inl h)
  .exact .inl (.inr (.inl h))
  .exact .inl (.inr (.inr (.inl h)))
  .rcases f1x with e|e
   .exact .inl (.inr (.inr (.inr (h.trans e))))
   .exact .inr (h▸e)
 .rcases f2x with e|e
  .rcases f1x with e' | e'
   .exact .inl (e.trans e')
   .exact .inr (e▸e')
  .by_cases e0:tb2=tb
   .exact .inl e0
   right
   induction h:H tb2 with
   | none=>rfl
   | some ao =>
    by_cases q:se d rl ol tb tb2
    .exfalso
     refine aT R1x.rows λ rows h3 uz1=>?_
     rcases q with q|q|q|q
     .rw [q,R1x.attrs] at e;contradiction
     .rw [q,h3] at e;contradiction
     .rw [q,R1x.opn] at e;contradiction
     .exact e0 q
    .have:=m1x.keep _ _ h q
     rw [e] at this;contradiction
theorem ub (p:List Nat):(fl p).length<=1:=by cases p<;>exact ac rfl
theorem c6 (P:Pk S){k:Nat}(R:Rd H r d rl ol tb o at_ ops pend ov)(hp:pend.length<=16777216)(hr:ops.length<=16777214){v:V}{op:Op}(hv:lH H v op)
  (q:∀ H',bE H r d rl ol tb o at_ (ops++fl pend++[op]) [] ov H'->Q .none H'):af S (k+2) true X 6 [.ref r,v] H Q:=by
 refine P.enter 5 rfl (.inl rfl) rfl nofun (aG (R.meth rfl .nil (c5 P R hp (le_succ_of_le hr) λ H' x=>?_)))
 obtain ⟨tb',R',m,f⟩:=x
 refine aT R'.rows λ rows h3 h4=>?_
 refine aT hv λ t ez1 ht=>?_;subst ez1
 have ht':H' t=some (.tup op.vals):=m.keep _ _ ht λ q=>by
  refine aT R.rows λ rows0 g3 g4=>?_
  rcases q with q|q|q|q
  .rw [q,R.attrs] at ht;cases ht
  .rw [q,g3] at ht;cases ht
  .rw [q,R.opn] at ht;cases ht
  .rw [q,R.text] at ht;cases ht
 exact aG (iB (R'.ev rfl rfl) ⟨rows,h3⟩ (.one (FY rfl)) ⟨rows,h3,GK (le_of_eq (h4.length.trans GO)) (add_le_add hr (GK (ub pend) (le_succ 1))),
  q _ ⟨tb',R'.row h3 ⟨t,rfl,ht'⟩,m.putR (.inr (.inl rfl)),f⟩⟩)
end
theorem Fo {b:Bool}{A B:Prop}(h:b=true)(a:A):(b=true->A)/\(b=false->B):=⟨λ _=>a,λ q=>absurd (h.symm.trans q) nofun⟩
theorem DV {b:Bool}{A B:Prop}(h:b=false)(a:B):(b=true->A)/\(b=false->B):=⟨λ q=>absurd (h.symm.trans q) nofun,λ _=>a⟩
theorem FO {p:Prop}[Decidable p](h:p):decide p=true:=GM h
theorem FN {p:Prop}[Decidable p](h:¬ p):decide p=false:=GN h
theorem Ao {o:List Nat}{i j:Nat}{r:List Nat}(h:o.drop i=r):o[i+j]?=r[j]?:=by exact sl h (sr List.getElem?_drop rfl)
theorem Ce {o:List Nat}{i:Nat}{c:Nat}{r:List Nat}(h:o.drop i=c::r):i<o.length:=(bq h).2.2
noncomputable def qy (letter:Nat):List Nat->Option Op
 | []=>none
 | c::_=>cond (decide (letter=112)) (cond (decide (49<=c)&&decide (c<=57)) (some (.param (c-48))) none)
   (cond ((decide (97<=c)&&decide (c<=122))||(decide (65<=c)&&decide (c<=90))) (some (cond (decide (letter=80)) (.set c) (.get c))) none)
section
variable {S:Sx}{X:Int->Prop}{H:AH}{Q:V->AH->Prop}{r d rl ol tb:Addr}{o:List Nat}{at_:Nat}{ops:List Op}{pend:List Nat}{ov:List V}
theorem bE.first {H H1 H2x:AH}{at1x:Int}{ops1 pend1 ov1 at2 ops2 pend2 ov2}(x:bE H r d rl ol tb o at1x ops1 pend1 ov1 H1)(y:∀ tb',Rd H1 r d rl ol tb' o at1x ops1 pend1 ov1->bE H1 r d rl ol tb' o at2 ops2 pend2 ov2 H2x):bE H r d rl ol tb o at2 ops2 pend2 ov2 H2x:=x.trans y
theorem Rd.moved {ops:List Op}(R:Rd H r d rl ol tb o at_ ops pend ov)(b:Int):bE H r d rl ol tb o b ops pend ov (H.set d (.attrs [(1,.bytes o),(2,.int b),(3,.ref rl),(4,.ref tb),(5,.ref ol)])):=⟨tb,R.move b,Mv.put (.inl rfl),.inl rfl⟩
theorem Rd.newTo {at_:Int}{ops:List Op}(R:Rd H r d rl ol tb o at_ ops pend ov){c:Addr}{ao:AO}(h:H c=none):bE H r d rl ol tb o at_ ops pend ov (H.set c ao):=⟨tb,R.new h,Ga h,.inl rfl⟩
theorem Rd.self {at_:Int}{ops:List Op}(R:Rd H r d rl ol tb o at_ ops pend ov):bE H r d rl ol tb o at_ ops pend ov H:=⟨tb,R,Mv.refl,.inl rfl⟩
theorem Rd.setAt {at_:Int}{ops:List Op}(R:Rd H r d rl ol tb o at_ ops pend ov){b:Int}{Q:AH->Prop}(q:∀ H',bE H r d rl ol tb o b ops pend ov H'->Q H'):cN (.ref r) 2 (.int b) H Q :=
 bL R.inst R.attrs rfl (by simp) (q _ ⟨tb,R.move b,Mv.put (.inl rfl),.inl rfl⟩)
theorem Rd.tb_eq {at1x at2:Int}{o1x o2:List Nat}{rl1x rl2x ol1 ol2 tb1 tb2:Addr}{ops1 ops2 p1x p2x ov1 ov2}(R:Rd H r d rl1x ol1 tb1 o1x at1x ops1 p1x ov1)(R':Rd H r d rl2x ol2 tb2 o2 at2 ops2 p2x ov2):tb1=tb2:=by
 have:=congrArg (λ o=>match o with|some (AO.attrs [_,_,_,(_,.ref t),_])=>t|_=>0) (R.attrs.symm.trans R'.attrs)
 exact this
theorem bE.then {H H1 H2x:AH}{at1x at2:Int}{ops1 pend1 ov1 ops2 pend2 ov2 tb1}(x:bE H r d rl ol tb o at1x ops1 pend1 ov1 H1)(R:Rd H1 r d rl ol tb1 o at1x ops1 pend1 ov1)(y:bE H1 r d rl ol tb1 o at2 ops2 pend2 ov2 H2x):bE H r d rl ol tb o at2 ops2 pend2 ov2 H2x :=
 x.trans λ tb' R'=>R'.tb_eq R▸y
theorem fV (P:Pk S){k j:Nat}{ls:Ls}{H1:AH}{at1x:Int}{es:Es}{Q:V->AH->Prop}(x:bE H r d rl ol tb o at1x ops pend ov H1)(hp:pend.length<=16777216)(hr:ops.length<=16777214)(op:Op)(hv:lget ls j=some (.ref r))(h:AV es ⟨af S (k+2),true,X⟩ ls H1 op.vals)
  (q:∀ H',bE H r d rl ol tb o at1x (ops++fl pend++[op]) [] ov H'->Q .none H'):xe (.meth 1 6 (.var j) (.cons (.tup es) .nil)) ⟨af S (k+2),true,X⟩ ls H1 Q:=by
 obtain ⟨tb1,R1x,m1x,f1x⟩:=id x
 refine wn (FY hv) ⟨_,_,R1x.inst,R1x.attrs⟩ h (by cases op<;>exact ac rfl) λ c hc=>?_
 have x2x:bE H r d rl ol tb o at1x ops pend ov (H1.set c (.tup op.vals)):=x.trans λ tb' R'=>R'.newTo hc
 obtain ⟨tb2,R2x,m2x,f2x⟩:=id x2x
 exact c6 P R2x hp hr (op:=op) ⟨c,rfl,F3 _ _ _⟩ λ H' y=>q H' (x2x.then R2x y)
theorem Rd.no (P:Pk S){k j:Nat}{ls:Ls}{e:E}{at1x i:Int}{Q:V->AH->Prop}(R:Rd H r d rl ol tb o at1x ops pend ov)(hv:lget ls j=some (.ref r))(he:EV e ⟨af S (k+2),true,X⟩ ls H (.int i))(h:X i):xe (.meth 1 4 (.var j) (.cons e .nil)) ⟨af S (k+2),true,X⟩ ls H Q:=R.meth hv (.one he) (c4 P h)
theorem Eg {T:T}{C:Cw}{ls:Ls}{H:AH}{b:Bool}{K:Bool->AH->Prop}(h:∀ Q,Q b H->xt T C ls H Q)(k:K b H):xt T C ls H K:=h K k
theorem EL {e:E}{C:Cw}{ls:Ls}{H:AH}{v:V}{K:V->AH->Prop}(h:∀ Q,Q v H->xe e C ls H Q)(k:K v H):xe e C ls H K:=h K k
theorem CV {i j:Nat}:decide ((i:Int)<=j)=decide (i<=j):=by simp
theorem Ck {i j:Nat}:decide ((i:Int)=j)=decide (i=j):=by simp [Int.ofNat_inj]
theorem Rd.endV {C:Cw}{ls:Ls}{ops:List Op}{j:Nat}{b:Bool}(R:Rd H r d rl ol tb o at_ ops pend ov)(hl:o.length<=16777216)(hv:lget ls j=some (.ref r))(h:decide (o.length<=at_)=b):TV (.cmp .ge (.attr (.var j) 2) (.bi .len (.cons (.attr (.var j) 1) .nil))) C ls H b :=
 F7 (R.ev hv rfl) (EV.lenB (R.ev hv rfl) hl) (nN rfl rfl h)
theorem Rd.hereV {C:Cw}{ls:Ls}{ops:List Op}{j c:Nat}(R:Rd H r d rl ol tb o at_ ops pend ov)(hl:o.length<=16777216)(hv:lget ls j=some (.ref r))(h:o[at_]?=some c):EV (.sub (.attr (.var j) 1) (.attr (.var j) 2)) C ls H (.int c) :=
 F5 (R.ev hv rfl) (R.ev hv rfl) (gQ rfl hl h)
theorem gW {C:Cw}{ls:Ls}{H:AH}{a b c j:Nat}{t:Bool}(hv:lget ls j=some (.int c))(h:(decide (a<=c)&&decide (c<=b))=t):TV (.chain (.sub (.bytes [a]) (.int 0)) .le (.var j) .le (.sub (.bytes [b]) (.int 0))) C ls H t :=
 TV.chain (F5 F8 FZ (gQ (x:=0) rfl (ac rfl) rfl)) (FY hv) (F5 F8 FZ (gQ (x:=0) rfl (ac rfl) rfl)) (tc rfl rfl rfl) (tc rfl rfl rfl) h
theorem c9 (P:Pk S){k:Nat}(R:Rd H r d rl ol tb o at_ ops pend ov)(hl:o.length<=16777216)(hp:pend.length<=16777216)(hr:ops.length<=16777214)(letter:Nat)(begin:Int)
  (G:Option Op->Prop) (q:G (qy letter (o.drop at_))) (q0:G none->X begin) (q1:∀ op,G (some op)->∀ H',bE H r d rl ol tb o (at_+1:Nat) (ops++fl pend++[op]) [] ov H'->Q .none H'):af S (k+3) true X 9 [.ref r,.int begin,.int letter] H Q:=by
 refine P.enter 8 rfl (.inl rfl) rfl nofun ?_
 walk_at "eI"
 induction hd:o.drop at_ with
 | nil =>
  rw [hd] at q
  exact cU (R.endV hl rfl (GM (drop_eq_nil_iff.mp hd))) (aG (R.no P rfl (FY rfl) (q0 q)))
 | cons c rr =>
  rw [hd] at q
  refine mL (bq hd) λ e1 e2 e3=>au (R.endV hl rfl (GN (not_le.mpr e3))) (aM (R.hereV hl rfl e2) (eX (EV.add (R.ev rfl rfl) FZ) (FY rfl) (R.setAt (b:=(at_+1:Nat)) λ H1 x1x=>?_)))
  obtain ⟨tb1,R1x,_,_⟩:=id x1x
  induction h1:decide (letter=112) with
  | true =>
   replace q:=mT h1 q
   refine cU (a9 rfl h1) ?_
   induction h2:decide (49<=c)&&decide (c<=57) with
   | true=>exact au (TV.not (gW rfl h2)) (aG (fV P x1x hp hr (.param (c-48)) rfl (.two F0 (EV.min (FY rfl) FZ)) (q1 _ (mT h2 q))))
   | false=>exact cU (TV.not (gW rfl h2)) (aG (R1x.no P rfl (FY rfl) (q0 (mF h2 q))))
  | false =>
   replace q:=mF h1 q
   refine Af (a9 rfl h1) ?_
   have go:∀ G':Option Op->Prop,G' (some (cond (decide (letter=80)) (.set c) (.get c)))->(∀ op,G' (some op)->G (some op))->xe (.meth 1 6 (.var 0) (.cons (.tup (.cons (.ite (.cmp .eq (.var 2) (.sub (.bytes [80]) (.int 0))) (.str [115,101,116]) (.str [103,101,116])) (.cons (.var 3) .nil))) .nil)) ⟨af S (k+2),true,X⟩ [some (.ref r),some (.int begin),some (.int letter),some (.int c)] H1 λ _ H'=>Q .none H':=λ G' q g=>by
    induction h3:decide (letter=80) with
    | true=>exact fV P x1x hp hr (.set c) rfl (.two (Gq (a9 rfl h3) F0) (FY rfl)) (q1 _ (g _ (mT (G:=λ x=>G' (some x)) h3 q)))
    | false=>exact fV P x1x hp hr (.get c) rfl (.two (Gr (a9 rfl h3) F0) (FY rfl)) (q1 _ (g _ (mF (G:=λ x=>G' (some x)) h3 q)))
   induction h2:decide (97<=c)&&decide (c<=122) with
   | true=>exact au (Gm (TV.not (gW rfl h2))) (aG (go G (mT (by refine sr h2 ?_;rfl) q) λ _ g=>g))
   | false =>
    induction h3:decide (65<=c)&&decide (c<=90) with
    | true=>exact au (Gl (TV.not (gW rfl h2)) (TV.not (gW rfl h3))) (aG (go G (mT (by refine sr h2 (sr h3 ?_);rfl) q) λ _ g=>g))
    | false=>exact cU (Gl (TV.not (gW rfl h2)) (TV.not (gW rfl h3))) (aG (R1x.no P rfl (FY rfl) (q0 (mF (by refine sr h2 (sr h3 ?_);rfl) q))))
end
section
variable {S:Sx}{X:Int->Prop}{H:AH}{Q:V->AH->Prop}{r d rl ol tb:Addr}{o:List Nat}{at_:Nat}{ops:List Op}{pend:List Nat}{ov:List V}
noncomputable def nx (l:List Nat)(y:Nat):Bool:=decide (l.take 1=[y])
theorem BY {l:List Nat}{y:Nat}(h:nx l y=true):∃ r,l=y::r:=by
 have h:=GL h
 induction l with
 | nil=>contradiction
 | cons c r=>injection h with h _;exact ⟨r,h▸rfl⟩
theorem vJ {y:Nat}{l:List Nat}:nx (y::l) y=true:=GM rfl
theorem AY {c y:Nat}{l:List Nat}(h:c≠y):nx (c::l) y=false:=GN λ e=>by injection e with e _;exact h e
noncomputable def Ey:List Nat->Option Nat
 | []=>none
 | c::r=>cond (nx r 39) (some c) none
theorem DS (P:Pk S){k:Nat}(R:Rd H r d rl ol tb o at_ ops pend ov)(hl:o.length<=16777216)(hp:pend.length<=16777216)(hr:ops.length<=16777214)(begin:Int)
  (G:Option Nat->Prop) (q:G (Ey (o.drop at_))) (q0:G none->X begin) (q1:∀ c,G (some c)->∀ H',bE H r d rl ol tb o (at_+2:Nat) (ops++fl pend++[.push c]) [] ov H'->Q .none H'):af S (k+3) true X 10 [.ref r,.int begin,.int 39] H Q:=by
 refine P.enter 9 rfl (.inl rfl) rfl nofun ?_
 walk_at "eI"
 have nx':∀ {b},nx (o.drop (at_+1)) 39=b->TV (.cmp .ne (.slc (.attr (.var 0) 1) (.bin .add (.attr (.var 0) 2) (.int 1)) (.bin .add (.attr (.var 0) 2) (.int 2))) (.bytes [39])) ⟨af S (k+2),true,X⟩ [some (.ref r),some (.int begin),some (.int 39),none,none] H (!b):=λ h =>
  qj (R.ev rfl rfl) (EV.add (R.ev rfl rfl) FZ) (EV.add (R.ev rfl rfl) FZ) (x:=at_+1) rfl rfl hl (congrArg not h)
 refine cU (a9 (x:=39) rfl rfl) ?_
 induction hd:o.drop at_ with
 | nil =>
  rw [hd] at q
  exact cU (nx' (b:=false) (by refine sr (drop_eq_nil_iff.mpr (le_succ_of_le (drop_eq_nil_iff.mp hd))) ?_;rfl)) (aG (R.no P rfl (FY rfl) (q0 q)))
 | cons c rr =>
  refine mL (bq hd) λ e1 e2 e3=>?_
  rw [hd] at q
  rw [e1] at nx'
  induction h:nx rr 39 with
  | true =>
   refine au (nx' h) (aG (fV P R.self hp hr (.push c) rfl (.two F0 (R.hereV hl rfl e2)) λ H1 x1x=>?_))
   obtain ⟨tb1,R1x,_,_⟩:=id x1x
   exact eX (EV.add (R1x.ev rfl rfl) FZ) (FY rfl) (R1x.setAt (b:=(at_+2:Nat)) λ H2x x2x=>q1 c (mT h q) H2x (x1x.then R1x x2x))
  | false=>exact cU (nx' h) (aG (R.no P rfl (FY rfl) (q0 (mF h q))))
theorem Rd.number (P:Pk S){k:Nat}{β:Bool}{ls:Ls}{ops:List Op}(R:Rd H r d rl ol tb o at_ ops pend ov)(hl:o.length<=16777216)(ho:cR o)(hi:at_<=o.length){j:Nat}(hv:lget ls j=some (.ref r))
  {Q:V->AH->Prop} (q:∀ c H',H c=none->H'=H.set c (.tup [.int (aJ (o.drop at_) 0).1,.int (at_+(aJ (o.drop at_) 0).2:Nat)])->Q (.ref c) H') :
  xe (.call 2 (.cons (.attr (.var j) 1) (.cons (.attr (.var j) 2) .nil))) ⟨af S (k+2),β,X⟩ ls H Q:=ax (.two (R.ev hv rfl) (R.ev hv rfl)) (c2 P hl ho hi q)
noncomputable def Cs:List Nat->Option (Int×Nat)
 | []=>none
 | c::r=>cond (oG c) (cond (nx ((c::r).drop (aJ (c::r) 0).2) 125) (some (aJ (c::r) 0)) none) none
theorem CG (P:Pk S){k:Nat}(R:Rd H r d rl ol tb o at_ ops pend ov)(hl:o.length<=16777216)(ho:cR o)(hp:pend.length<=16777216)(hr:ops.length<=16777214)(begin:Int)(hm:nx (o.drop at_) 45=false)
  (hb:-9223372036854775808<(aJ (o.drop at_) 0).1/\(aJ (o.drop at_) 0).1<9223372036854775808)
  (G:Option (Int×Nat)->Prop) (q:G (Cs (o.drop at_))) (q0:G none->X begin) (q1:∀ v n,G (some (v,n))->∀ H',bE H r d rl ol tb o (at_+n+1:Nat) (ops++fl pend++[.push v]) [] ov H'->Q .none H'):af S (k+3) true X 10 [.ref r,.int begin,.int 123] H Q:=by
 refine P.enter 9 rfl (.inl rfl) rfl nofun ?_
 walk_at "eI"
 refine au (a9 (x:=123) rfl rfl) (aM FZ (au (qY (R.ev rfl rfl) (R.ev rfl rfl) (EV.add (R.ev rfl rfl) FZ) rfl rfl hl hm) ?_))
 have dg:∀ {b},jZ o at_=b->TV (.not (.val (.call 1 (.cons (.attr (.var 0) 1) (.cons (.attr (.var 0) 2) .nil))))) ⟨af S (k+2),true,X⟩ [some (.ref r),some (.int begin),some (.int 123),some (.int 1),none] H (!b):=λ h =>
  TV.not (TV.val (EV.call (.two (R.ev rfl rfl) (R.ev rfl rfl)) λ _ q=>c1 P hl (natCast_nonneg at_) ho (h▸q)) λ _ q=>q)
 rw [jQ] at dg
 induction hd:o.drop at_ with
 | nil =>
  rw [hd] at q dg
  exact cU (dg rfl) (aG (R.no P rfl (FY rfl) (q0 q)))
 | cons c rr =>
  refine mL (bq hd) λ e1 e2 e3=>?_
  have num:∀ Q:V->AH->Prop,(∀ c H',H c=none->H'=H.set c (.tup [.int (aJ (o.drop at_) 0).1,.int (at_+(aJ (o.drop at_) 0).2:Nat)])->Q (.ref c) H')->xe (.call 2 (.cons (.attr (.var 0) 1) (.cons (.attr (.var 0) 2) .nil))) ⟨af S (k+2),true,X⟩ [some (.ref r),some (.int begin),some (.int 123),some (.int 1),none] H Q:=λ Q q =>
   R.number P hl ho (Nat.le_of_lt e3) rfl q
  rw [hd] at q dg hb num
  have ed:o.drop (at_+(aJ (c::rr) 0).2)=(c::rr).drop (aJ (c::rr) 0).2:=by exact sl drop_drop (sr hd rfl)
  have q:G (cond (oG c) (cond (nx ((c::rr).drop (aJ (c::rr) 0).2) 125) (some (aJ (c::rr) 0)) none) none):=q
  generalize aJ (c::rr) 0=vn at q hb num ed
  induction hc:oG c with
  | false=>exact cU (dg hc) (aG (R.no P rfl (FY rfl) (q0 (mF hc q))))
  | true =>
   replace q:=mT hc q
   refine au (dg hc) (u8 (num _ λ t H1 ht e=>⟨.int vn.1,.int (at_+vn.2:Nat),e▸F3 _ _ _,B3 (FY rfl) ?_⟩))
   have x1x:bE H r d rl ol tb o at_ ops pend ov H1:=e▸R.newTo ht
   obtain ⟨tb1,R1x,_,_⟩:=id x1x
   refine R1x.setAt λ H2x x2x=>?_
   replace x2x:=x1x.then R1x x2x
   obtain ⟨tb2,R2x,_,_⟩:=id x2x
   rw [<- ed] at q
   induction h:nx (o.drop (at_+vn.2)) 125 with
   | false=>exact cU (qj (R2x.ev rfl rfl) (R2x.ev rfl rfl) (EV.add (R2x.ev rfl rfl) FZ) rfl rfl hl (congrArg not h)) (aG (R2x.no P rfl (FY rfl) (q0 (mF h q))))
   | true =>
    refine au (qj (R2x.ev rfl rfl) (R2x.ev rfl rfl) (EV.add (R2x.ev rfl rfl) FZ) rfl rfl hl (congrArg not h)) (eX (EV.add (R2x.ev rfl rfl) FZ) (FY rfl) (R2x.setAt λ H3 x3x=>?_))
    have ev:EV (.bin .mul (.var 3) (.var 4)) ⟨af S (k+2),true,X⟩ (lput [some (.ref r),some (.int begin),some (.int 123),some (.int 1),none] 4 (.int vn.1)) H3 (.int vn.1):=λ Q q=>EV.mul (FY rfl) (FY rfl) hb Q (by refine sr (Int.one_mul ..) ?_;exact q)
    exact aG (fV P (x2x.then R2x x3x) hp hr (.push vn.1) rfl (.two F0 ev) (q1 _ _ (mT h q)))
end
noncomputable def iJ (sg:Bool)(c:Nat):Bool:=([35,32,48]:List Nat).contains c||(sg&&([45,43]:List Nat).contains c)
noncomputable def BF (c:Nat):Bool:=([100,111,120,88,115]:List Nat).contains c
noncomputable def ue (f:List Nat)(w:Int)(p:Option Int)(n:Nat):List Nat->Option (Op×Nat)
 | c::_=>cond (BF c) (some (.write c f w p,n+1)) none
 | []=>none
noncomputable def w8 (f:List Nat)(w:Int)(n:Nat)(l:List Nat):Option (Op×Nat):=cond (nx l 46) (ue f w (some (aJ (l.drop 1) 0).1) (n+1+(aJ (l.drop 1) 0).2) ((l.drop 1).drop (aJ (l.drop 1) 0).2)) (ue f w none n l)
noncomputable def qE (sg:Bool)(n:Nat)(l:List Nat):Option (Op×Nat) :=
 w8 (l.takeWhile (iJ sg)) (aJ (l.drop (l.takeWhile (iJ sg)).length) 0).1 (n+(l.takeWhile (iJ sg)).length+(aJ (l.drop (l.takeWhile (iJ sg)).length) 0).2)
  ((l.drop (l.takeWhile (iJ sg)).length).drop (aJ (l.drop (l.takeWhile (iJ sg)).length) 0).2)
noncomputable def A0 (l:List Nat):Option (Op×Nat):=cond (nx l 58) (qE true 1 (l.drop 1)) (qE false 0 l)
section
variable {S:Sx}{X:Int->Prop}{H:AH}{Q:V->AH->Prop}{r d rl ol tb:Addr}{o:List Nat}{at_:Nat}{ops:List Op}{pend:List Nat}{ov:List V}
theorem tM:∀ (l:List Nat) (acc:Int),(aJ l acc).2<=l.length
 | [],_=>le_refl _
 | c::r,acc=>by
  induction h:oG c with
  | true=>exact sr (qC h) (succ_le_succ (tM r _))
  | false=>exact sr (rj h) (zero_le _)
structure Cg (S:Sx) (X:Int->Prop) (H:AH) (Q:V->AH->Prop) (r d rl ol tb:Addr) (o:List Nat) (ops:List Op) (pend:List Nat) (ov:List V) (m:Nat) (begin:Int) (G:Option (Op×Nat)->Prop):Prop where
 no:G none->X begin
 ok:∀ op n,G (some (op,n))->∀ H',bE H r d rl ol tb o (m+n:Nat) (ops++fl pend++[op]) [] ov H'->Q .none H'
 l:o.length<=16777216
 oc:cR o
 p:pend.length<=16777216
 r:ops.length<=16777214
variable {G:Option (Op×Nat)->Prop}{m:Nat}{begin:Int}
theorem BH (P:Pk S){k:Nat}{H1:AH}{at1x:Int}(x:bE H r d rl ol tb o at1x ops pend ov H1)(W:Cg S X H Q r d rl ol tb o ops pend ov m begin G)(a:Nat)(f:List Nat)(sg:Bool)(w:Int)(p:Option Int)(n:Nat)(hn:m+n=a)(q:G (ue f w p n (o.drop a))) :
  xs xg ⟨af S (k+2),true,X⟩ [some (.ref r),some (.int begin),some (.bytes o),some (.int a),some (.bytes f),some (.bool sg),some (.int w),some (hM p)] H1 (λ _ H'=>Q .none H') Q:=by
 subst hn
 obtain ⟨tb1,R1x,_,_⟩:=id x
 have ge:∀ {b},decide (o.length<=m+n)=b->TV (.cmp .ge (.var 3) (.bi .len (.cons (.var 2) .nil))) ⟨af S (k+2),true,X⟩ [some (.ref r),some (.int begin),some (.bytes o),some (.int (m+n:Nat)),some (.bytes f),some (.bool sg),some (.int w),some (hM p)] H1 b:=F7 (FY rfl) (EV.lenB (FY rfl) W.l) ∘ nN rfl rfl
 induction hd:o.drop (m+n) with
 | nil =>
  rw [hd] at q
  exact cU (Gn (ge (GM (drop_eq_nil_iff.mp hd)))) (aG (R1x.no P rfl (FY rfl) (W.no q)))
 | cons c rr =>
  rw [hd] at q
  refine mL (bq hd) λ e1 e2 e3=>?_
  have ge:=ge (GN (not_le.mpr e3))
  have hc:=W.oc _ (mem_of_getElem? e2)
  have sb:∀ {H:AH},EV (.sub (.var 2) (.var 3)) ⟨af S (k+2),true,X⟩ [some (.ref r),some (.int begin),some (.bytes o),some (.int (m+n:Nat)),some (.bytes f),some (.bool sg),some (.int w),some (hM p)] H (.int c):=F5 (FY rfl) (FY rfl) (gQ rfl W.l e2)
  induction hw:BF c with
  | false=>exact cU (Go ge (F7 sb EV.glb (rh rfl hc (congrArg not hw)))) (aG (R1x.no P rfl (FY rfl) (W.no (mF hw q))))
  | true =>
   exact au (Go ge (F7 sb EV.glb (rh rfl hc (congrArg not hw)))) (eX (EV.add (FY rfl) FZ) (FY rfl) (R1x.setAt (b:=(m+(n+1):Nat)) λ H2x x2x=>(aG (fV P (x.then R1x x2x) W.p W.r (.write c f w p) rfl (.cons F0 (.cons sb (.cons (FY rfl) (.two (FY rfl) (FY rfl))))) (W.ok _ _ (mT hw q))))))
theorem DN (P:Pk S){k:Nat}{H1:AH}{at1x:Int}(x:bE H r d rl ol tb o at1x ops pend ov H1)(W:Cg S X H Q r d rl ol tb o ops pend ov m begin G)(a:Nat)(f:List Nat)(sg:Bool)(w:Int)(n:Nat)(hn:m+n=a)(q:G (w8 f w n (o.drop a))) :
  xs un ⟨af S (k+2),true,X⟩ [some (.ref r),some (.int begin),some (.bytes o),some (.int a),some (.bytes f),some (.bool sg),some (.int w),none] H1 (λ _ H'=>Q .none H') Q:=by
 refine aM EV.none ?_
 have nx':∀ {b},nx (o.drop a) 46=b->TV (.cmp .eq (.slc (.var 2) (.var 3) (.bin .add (.var 3) (.int 1))) (.bytes [46])) ⟨af S (k+2),true,X⟩ [some (.ref r),some (.int begin),some (.bytes o),some (.int a),some (.bytes f),some (.bool sg),some (.int w),some .none] H1 b:=qY (FY rfl) (FY rfl) (EV.add (FY rfl) FZ) rfl rfl W.l
 induction h:nx (o.drop a) 46 with
 | true =>
  have h1:a+1<=o.length:=by obtain ⟨_,e⟩:=BY h;exact (bq e).2.2
  refine cU (nx' h) (cL (ax (.two (FY rfl) (EV.add (FY rfl) FZ)) (c2 P (i:=a+1) W.l W.oc h1 λ t H2x ht e=>⟨_,e▸F3 _ _ _,_,rfl,?_⟩)))
  have x2x:bE H r d rl ol tb o at1x ops pend ov H2x:=x.trans λ tb' R'=>e▸R'.newTo ht
  have q:=mT h q
  rw [drop_drop,drop_drop] at q
  exact BH P x2x W _ f sg w (some (aJ (o.drop (a+1)) 0).1) _ (by refine sl hn ?_;simp only [add_assoc]) q
 | false=>exact au (nx' h) (BH P x W a f sg w none n hn (mF h q))
theorem B8 (P:Pk S){k:Nat}(R:Rd H r d rl ol tb o at_ ops pend ov)(W:Cg S X H Q r d rl ol tb o ops pend ov m begin G)(a0:Nat)(ha:a0<=o.length)(sg:Bool)(n:Nat)(hn:m+n=a0)(q:G (qE sg n (o.drop a0))) :
  xs wW ⟨af S (k+2),true,X⟩ [some (.ref r),some (.int begin),some (.bytes o),some (.int a0),some (.bytes []),some (.bool sg),none,none] H (λ _ H'=>Q .none H') Q:=by
 have hl:=W.l
 refine f8 (λ z ls H'=>H'=H/\∃ (a:Nat) (f:List Nat),z=o.length-a/\a<=o.length/\f.length<=a/\ls=[some (.ref r),some (.int begin),some (.bytes o),some (.int a),some (.bytes f),some (.bool sg),none,none] /\
   f++(o.drop a).takeWhile (iJ sg)=(o.drop a0).takeWhile (iJ sg)/\a+((o.drop a).takeWhile (iJ sg)).length=a0+((o.drop a0).takeWhile (iJ sg)).length) ⟨rfl,a0,[],rfl,ha,zero_le _,rfl,rfl,rfl⟩ ?_
 rintro z ls H' ⟨rfl,a,f,rfl,haa,hfa,rfl,h1,h2⟩
 have lt:∀ {b},decide (a<o.length)=b->TV (.cmp .lt (.var 3) (.bi .len (.cons (.var 2) .nil))) ⟨af S (k+2),true,X⟩ [some (.ref r),some (.int begin),some (.bytes o),some (.int a),some (.bytes f),some (.bool sg),none,none] H' b:=F7 (FY rfl) (EV.lenB (FY rfl) hl) ∘ i8 rfl rfl
 have fin:(o.drop a).takeWhile (iJ sg)=[]->xs (.setN [6,3] (.call 2 (.cons (.var 2) (.cons (.var 3) .nil))) un) ⟨af S (k+2),true,X⟩ [some (.ref r),some (.int begin),some (.bytes o),some (.int a),some (.bytes f),some (.bool sg),none,none] H' (λ _ H'=>Q .none H') Q:=λ z=>by
  rw [z,append_nil] at h1
  rw [z] at h2
  replace h2:a=_:=h2
  subst h1
  refine cL (ax (.two (FY rfl) (FY rfl)) (c2 P hl W.oc haa λ t H1 ht e=>⟨_,e▸F3 _ _ _,_,rfl,?_⟩))
  unfold qE at q
  rw [drop_drop,drop_drop,<- h2] at q
  exact DN P (e▸R.newTo ht) W (a+(aJ (o.drop a) 0).2) _ sg _ _ (by exact sl (add_assoc ..) (sl (add_assoc ..) (sr (hn ..) (sl (h2 ..) rfl)))) q
 induction hd:o.drop a with
 | nil=>exact wZ (Gm (lt (GN (not_lt.mpr (drop_eq_nil_iff.mp hd))))) (fin (by refine sr hd ?_;rfl))
 | cons c rr =>
  refine mL (bq hd) λ e1 e2 e3=>?_
  have hc:=W.oc _ (mem_of_getElem? e2)
  have sb:EV (.sub (.var 2) (.var 3)) ⟨af S (k+2),true,X⟩ [some (.ref r),some (.int begin),some (.bytes o),some (.int a),some (.bytes f),some (.bool sg),none,none] H' (.int c):=F5 (FY rfl) (FY rfl) (gQ rfl hl e2)
  have tst:TV (.or (.cmp .isin (.sub (.var 2) (.var 3)) (.bytes [35,32,48])) (.and (.val (.var 5)) (.cmp .isin (.sub (.var 2) (.var 3)) (.bytes [45,43])))) ⟨af S (k+2),true,X⟩ [some (.ref r),some (.int begin),some (.bytes o),some (.int a),some (.bytes f),some (.bool sg),none,none] H' (iJ sg c):=by
   unfold iJ
   induction h:([35,32,48]:List Nat).contains c with
   | true=>exact Gn (F7 sb F8 (jf rfl hc h))
   | false =>
    refine Go (F7 sb F8 (jf rfl hc h)) ?_
    induction sg with
    | true=>exact Gl (TV.val (FY rfl) λ _ q=>q) (F7 sb F8 (jf rfl hc rfl))
    | false=>exact Gm (TV.val (FY rfl) λ _ q=>q)
  have lt:=lt (GM e3)
  rw [hd] at h1 h2 fin
  induction hf:iJ sg c with
  | true =>
   rw [hf] at tst
   rw [List.takeWhile_cons_of_pos hf] at h1 h2
   refine zZ (Gl lt tst) (aM (F6 (FY rfl) (EV.slc (FY rfl) (FY rfl) (EV.add (FY rfl) FZ) (wg (y:=a+1) rfl rfl hl)) λ Q q=>⟨?_,q⟩) (aM (EV.add (FY rfl) FZ) ⟨o.length-(a+1),Nat.sub_lt_sub_left e3 (lt_succ_self a),rfl,a+1,f++[c],rfl,e3,?_,?_,?_,?_⟩))
   .exact sr (hd ..) (sr (Nat.add_sub_cancel_left ..) (GK (add_le_add_right hfa 1) (GK e3 hl)))
   .exact sr GO (add_le_add_right hfa 1)
   .refine sr (hd ..) (sr (Nat.add_sub_cancel_left ..) ?_);rfl
   .refine sr (e1 ..) (sl (h1 ..) (sr (append_assoc ..) ?_));rfl
   .exact sr (e1 ..) (sl (h2 ..) (sr (length_cons ..) (sr (add_assoc ..) (sr (add_comm 1 ..) rfl))))
  | false =>
   rw [hf] at tst
   exact wZ (Gl lt tst) (fin (List.takeWhile_cons_of_neg (by refine sr hf ?_;decide)))
theorem Fv (P:Pk S){k:Nat}(R:Rd H r d rl ol tb o at_ ops pend ov)(hl:o.length<=16777216)(ho:cR o)(hp:pend.length<=16777216)(hr:ops.length<=16777214)(begin:Nat)(hb:begin<o.length)
  (G:Option (Op×Nat)->Prop) (q:G (A0 (o.drop (begin+1)))) (q0:G none->X begin) (q1:∀ op n,G (some (op,n))->∀ H',bE H r d rl ol tb o (begin+1+n:Nat) (ops++fl pend++[op]) [] ov H'->Q .none H'):af S (k+3) true X 12 [.ref r,.int begin] H Q:=by
 refine P.enter 11 rfl (.inl rfl) rfl nofun ?_
 walk_at "eI"
 have W:Cg S X H Q r d rl ol tb o ops pend ov (begin+1) begin G:=⟨q0,q1,hl,ho,hp,hr⟩
 refine aM (R.ev rfl rfl) (aM (EV.add (FY rfl) FZ) (aM F8 (aM (EV.cmp (EV.slc (FY rfl) (FY rfl) (EV.add (FY rfl) FZ) (wg (x:=begin+1) (y:=begin+1+1) rfl rfl hl)) F8 (Ej (t:=nx (o.drop (begin+1)) 58) (by refine sr (Nat.add_sub_cancel_left ..) ?_;rfl))) ?_)))
 induction h:nx (o.drop (begin+1)) 58 with
 | true =>
  have h1:begin+2<=o.length:=by obtain ⟨_,e⟩:=BY h;exact (bq e).2.2
  have q:=mT h q
  rw [drop_drop] at q
  exact cU (TV.val (FY rfl) λ Q q=>q) (aM (EV.add (FY rfl) FZ) (B8 P R W (begin+2) h1 true 1 rfl q))
 | false=>exact au (TV.val (FY rfl) λ Q q=>q) (B8 P R W (begin+1) hb false 0 rfl (mF h q))
end
noncomputable def Bq:B :=
 (.cond (.cmp .eq (.var 2) (.sub (.bytes [116]) (.int 0)))
 (.cond (.notN (.sub (.var 3) (.int 0)))
 (.ex (.meth 1 4 (.var 0) (.cons (.var 1) .nil))
 .done)
 .done
 (.setS (.var 3) (.int 0) (.bi .lenL (.cons (.attr (.var 0) 3) .nil))
 (.ex (.bm .append (.attr (.var 0) 3) (.cons (.tup (.cons (.str [117,110,108,101,115,115]) (.cons (.int 0) .nil))) .nil))
 .done)))
 (.cond (.cmp .eq (.var 2) (.sub (.bytes [101]) (.int 0)))
 (.cond (.isN (.sub (.var 3) (.int 0)))
 (.ex (.meth 1 4 (.var 0) (.cons (.var 1) .nil))
 .done)
 .done
 (.ex (.bm .append (.sub (.var 3) (.int 1)) (.cons (.bi .lenL (.cons (.attr (.var 0) 3) .nil)) .nil))
 (.ex (.bm .append (.attr (.var 0) 3) (.cons (.tup (.cons (.str [106,117,109,112]) (.cons (.int 0) .nil))) .nil))
 (.setS (.attr (.var 0) 3) (.sub (.var 3) (.int 0)) (.tup (.cons (.str [117,110,108,101,115,115]) (.cons (.bi .lenL (.cons (.attr (.var 0) 3) .nil)) .nil)))
 (.setS (.var 3) (.int 0) .none
 .done)))))
 (.cond (.notN (.sub (.var 3) (.int 0)))
 (.setS (.attr (.var 0) 3) (.sub (.var 3) (.int 0)) (.tup (.cons (.str [117,110,108,101,115,115]) (.cons (.bi .lenL (.cons (.attr (.var 0) 3) .nil)) .nil)))
 .done)
 .done
 (.for .list (.one 4) (.sub (.var 3) (.int 1))
 (.setS (.attr (.var 0) 3) (.var 4) (.tup (.cons (.str [106,117,109,112]) (.cons (.bi .lenL (.cons (.attr (.var 0) 3) .nil)) .nil)))
 .done)
 (.ex (.bm .pop (.attr (.var 0) 5) .nil)
 .done)))
 .done)
 .done)
structure Fr (H:AH) (rl ol f j:Addr) (c:V) (J:List V):Prop where
 hf:H f=some (.list [c,.ref j])
 hj:H j=some (.list J)
 ne:f≠rl/\f≠ol/\j≠rl/\j≠ol/\f≠j
def eK (H:AH)(r d rl ol tb:Addr)(o:List Nat)(at_:Int)(ops:List Op)(pend:List Nat)(ov:List V)(f j:Addr)(c:V)(J:List V)(H':AH):Prop :=
 ∃ tb',Rd H' r d rl ol tb' o at_ ops pend ov/\Fr H' rl ol f j c J/\Mv H H' (λ a=>se d rl ol tb a\/a=f\/a=j)/\(tb'=tb\/H tb'=none)
theorem aq {H:AH}{a b:Addr}{x ao:AO}(e:H a=some x)(h:H b=none):(H.set b ao) a=some x:=by exact sr (F4 _ _ (aB e h)) e
theorem sJ (ov:List V)(x:V):Df (ov++[x]) (-1)=some x:=by
 show (match ble (0+1) (ov++[x]).length with|true=>(ov++[x])[(ov++[x]).length-(0+1)]? | false=>none)=_
 exact sr GO (sr (show ble (0+1) (ov.length+[x].length)=true from rfl) (List.getElem?_concat_length))
section
variable {S:Sx}{X:Int->Prop}{H:AH}{Q:V->AH->Prop}{r d rl ol tb:Addr}{o:List Nat}{at_:Int}{ops:List Op}{pend:List Nat}{ov:List V}{f j:Addr}{c:V}{J:List V}
theorem Fr.keep {H':AH}(F:Fr H rl ol f j c J){D:Addr->Prop}(m:Mv H H' D)(hf:¬ D f)(hj:¬ D j):Fr H' rl ol f j c J:=⟨m.keep _ _ F.hf hf,m.keep _ _ F.hj hj,F.ne⟩
theorem Fr.to {H':AH}(F:Fr H rl ol f j c J)(R:Rd H r d rl ol tb o at_ ops pend ov)(m:Mv H H' (se d rl ol tb)):Fr H' rl ol f j c J:=by
 refine xn F.ne λ n1 n2 n3 n4 n5=>F.keep m (λ q=>?_) λ q=>?_
 .rcases q with q|q|q|q
  .have:=F.hf;rw [q,R.attrs] at this;cases this
  .exact n1 q
  .exact n2 q
  .have:=F.hf;rw [q,R.text] at this;cases this
 .rcases q with q|q|q|q
  .have:=F.hj;rw [q,R.attrs] at this;cases this
  .exact n3 q
  .exact n4 q
  .have:=F.hj;rw [q,R.text] at this;cases this
theorem Rd.list (R:Rd H r d rl ol tb o at_ ops pend ov){a:Addr}{vs vs':List V}(e:H a=some (.list vs))(h1:a≠rl)(h2:a≠ol):Rd (H.set a (.list vs')) r d rl ol tb o at_ ops pend ov:=by
 refine R.other (Mv.put (D:=λ b=>¬ (b=r\/b=d\/b=rl\/b=ol\/b=tb)/\∀ vs,H b≠some (.tup vs)) ⟨λ q=>?_,λ ws q=>?_⟩)
 .rcases q with q|q|q|q|q
  .rw [q,R.inst] at e;cases e
  .rw [q,R.attrs] at e;cases e
  .exact h1 q
  .exact h2 q
  .rw [q,R.text] at e;cases e
 .rw [e] at q;cases q
theorem Rd.patch (R:Rd H r d rl ol tb o at_ ops pend ov){v:V}{op:Op}{rows:List V}(i:Nat)(e:H rl=some (.list rows))(g:lH H v op):Rd (H.set rl (.list (rows.set i v))) r d rl ol tb o at_ (ops.set i op) pend ov:=by
 refine aT R.rows λ rows' h3 h4=>?_
 rw [e] at h3;cases h3
 refine Aa R.ned λ n1 n2 n3 n4 n5 n6 n7 n8 n9=>?_
 have tk:∀ t vs,H t=some (.tup vs)->(H.set rl (.list (rows.set i v))) t=some (.tup vs):=λ t vs q=>by exact sr (F4 _ _ (aw q e rfl)) q
 exact ⟨by refine sr (F4 _ _ n2) ?_;exact R.inst,by refine sr (F4 _ _ n5) ?_;exact R.attrs,⟨_,F3 _ _ _,(h4.keep tk).set i (g.keep tk)⟩,by refine sr (F4 _ _ n8.symm) ?_;exact R.text,by refine sr (F4 _ _ R.ne.symm) ?_;exact R.opn,R.ne⟩
theorem Rd.open (R:Rd H r d rl ol tb o at_ ops pend ov)(ov':List V):Rd (H.set ol (.list ov')) r d rl ol tb o at_ ops pend ov':=by
 refine bc λ zz=>aT R.rows λ rows h3 h4=>Aa R.ned λ n1 n2 n3 n4 n5 n6 n7 n8 n9=>zz ?_
 exact ⟨by refine sr (F4 _ _ n3) ?_;exact R.inst,by refine sr (F4 _ _ n6) ?_;exact R.attrs,⟨rows,by refine sr (F4 _ _ R.ne) ?_;exact h3,h4.keep λ t vs q=>by refine sr (F4 _ _ (aw q R.opn rfl)) ?_;exact q⟩,by refine sr (F4 _ _ n9.symm) ?_;exact R.text,F3 _ _ _,R.ne⟩
theorem DO (P:Pk S){k:Nat}{begin:Int}(R:Rd H r d rl ol tb o at_ ops pend ov)(hp:pend.length<=16777216)(hr:ops.length<=16777214)(ho:ov.length<=16777216)
  (q:∀ f j H',H f=none->H j=none->eK H r d rl ol tb o at_ (ops++fl pend) [] (ov++[.ref f]) f j .none [] H'->Q .none H'):af S (k+2) true X 11 [.ref r,.int begin,.int 63] H Q:=by
 refine P.enter 10 rfl (.inl rfl) rfl nofun ?_
 walk_at "eI"
 refine aG (R.meth rfl .nil (c5 P R hp (le_succ_of_le hr) λ H1 x1x=>cU (a9 (x:=63) rfl rfl) ?_))
 obtain ⟨tb1,R1x,m1x,f1x⟩:=id x1x
 refine aG (mu (R1x.ev rfl rfl) ⟨_,R1x.opn⟩ (bI (j0 (jD EV.none (bI (gE .nil (ac rfl) λ j hj=>⟨ac rfl,λ f hf=>⟨_,aq (aq R1x.opn hj) hf,ho,?_⟩⟩))))))
 obtain ⟨hf1,hfj⟩:=aA hf
 have R3x:=((R1x.new (ao:=.list []) hj).new (ao:=.list [.none,.ref j]) hf).open (ov++[.ref f])
 have hjo:j≠ol:=Ne.symm (aB R1x.opn hj)
 have hfo:f≠ol:=Ne.symm (aB R1x.opn hf1)
 refine aT R1x.rows λ rows h3 uz1=>q f j _ (m1x.dom _ hf1) (m1x.dom _ hj) ⟨tb1,R3x,⟨?_,?_,?_⟩,(((m1x.mono λ a h=>.inl (.inl h)).newR hj).newR hf).putR (.inl (.inr (.inr (.inl rfl)))),f1x⟩
 .exact sr (F4 _ _ hfo) (F3 _ _ _)
 .exact sr (F4 _ _ hjo) (sr (F4 _ _ hfj.symm) (F3 _ _ _))
 .exact ⟨(aB h3 hf1).symm,hfo,(aB h3 hj).symm,hjo,hfj⟩
theorem Dp (P:Pk S){k:Nat}{begin:Int}{c:Nat}(hc:c≠63)(R:Rd H r d rl ol tb o at_ ops pend [])(hp:pend.length<=16777216)(hr:ops.length<=16777214)(q:X begin):af S (k+3) true X 11 [.ref r,.int begin,.int c] H Q:=by
 refine P.enter 10 rfl (.inl rfl) rfl nofun ?_
 walk_at "eI"
 refine aG (R.meth rfl .nil (c5 P R hp (le_succ_of_le hr) λ H1 x1x=>au (a9 rfl (GN hc)) ?_))
 obtain ⟨tb1,R1x,m1x,f1x⟩:=id x1x
 exact cU (TV.eqNil (R1x.ev rfl rfl) (.inl R1x.opn) rfl) (aG (R1x.no P rfl (FY rfl) q))
theorem fq (P:Pk S){k:Nat}{begin:Int}{c:Nat}(hc:decide (c=63)=false)(R:Rd H r d rl ol tb o at_ ops pend (ov++[.ref f]))(hp:pend.length<=16777216)(hr:ops.length<=16777214)(ho:ov.length<=16777214)
  (K:∀ H1 tb1,bE H r d rl ol tb o at_ (ops++fl pend) [] (ov++[.ref f]) H1->Rd H1 r d rl ol tb1 o at_ (ops++fl pend) [] (ov++[.ref f]) ->
   xs Bq ⟨af S (k+1),true,X⟩ [some (.ref r),some (.int begin),some (.int c),some (.ref f),none] H1 (λ _ H'=>Q .none H') Q):af S (k+2) true X 11 [.ref r,.int begin,.int c] H Q:=by
 refine P.enter 10 rfl (.inl rfl) rfl nofun ?_
 walk_at "eI"
 refine aG (R.meth rfl .nil (c5 P R hp (le_succ_of_le hr) λ H1 x1x=>au (a9 rfl hc) ?_))
 obtain ⟨tb1,R1x,m1x,f1x⟩:=id x1x
 refine au (TV.eqNil (R1x.ev rfl rfl) (.inl R1x.opn) (by cases ov<;>rfl)) (aM (v:=.ref f) (F5 (R1x.ev rfl rfl) (EV.neg FZ) λ Q q=>.inl ⟨_,_,.inr (.inl R1x.opn),?_,sJ ov (.ref f),q⟩) (K H1 tb1 x1x R1x))
 exact sr GO (GK (add_le_add_right ho 1) (ac rfl))
theorem Fr.c0 {C:Cw}{ls:Ls}{i:Nat}(F:Fr H rl ol f j c J)(hv:lget ls i=some (.ref f)):EV (.sub (.var i) (.int 0)) C ls H c:=F5 (FY hv) FZ (lC (x:=0) rfl (.inl F.hf) (ac rfl) rfl)
theorem Fr.c1 {C:Cw}{ls:Ls}{i:Nat}(F:Fr H rl ol f j c J)(hv:lget ls i=some (.ref f)):EV (.sub (.var i) (.int 1)) C ls H (.ref j):=F5 (FY hv) FZ (lC (x:=1) rfl (.inl F.hf) (ac rfl) rfl)
theorem Rd.rowsV {C:Cw}{ls:Ls}(R:Rd H r d rl ol tb o at_ ops pend ov)(hr:ops.length<=16777216){i:Nat}(hv:lget ls i=some (.ref r)):EV (.bi .lenL (.cons (.attr (.var i) 3) .nil)) C ls H (.int ops.length):=by
 refine aT R.rows λ rows h3 h4=>?_
 rw [<- h4.length] at hr ⊢
 exact EV.lenL (R.ev hv rfl) (.inl h3) hr
theorem eK.of {H1:AH}{ops' ov'}(x:bE H r d rl ol tb o at_ ops' [] ov' H1)(F:Fr H1 rl ol f j c J):eK H r d rl ol tb o at_ ops' [] ov' f j c J H1 :=
 by obtain ⟨tb',R',m,fr⟩:=x;exact ⟨tb',R',F,m.mono λ _ h=>.inl (.inl h),fr⟩
theorem eK.setc {H1:AH}{at_ ops' pend' ov'}(x:eK H r d rl ol tb o at_ ops' pend' ov' f j c J H1)(c':V):eK H r d rl ol tb o at_ ops' pend' ov' f j c' J (H1.set f (.list [c',.ref j])):=by
 refine bc λ zz=>lT x λ tb' R' F m fr=>xn F.ne λ n1 n2 n3 n4 n5=>zz ?_
 exact ⟨tb',R'.list F.hf n1 n2,⟨F3 _ _ _,by refine sr (F4 _ _ n5.symm) ?_;exact F.hj,F.ne⟩,m.putR (.inr (.inl rfl)),fr⟩
theorem eK.setj {H1:AH}{at_ ops' pend' ov'}(x:eK H r d rl ol tb o at_ ops' pend' ov' f j c J H1)(J':List V):eK H r d rl ol tb o at_ ops' pend' ov' f j c J' (H1.set j (.list J')):=by
 refine bc λ zz=>lT x λ tb' R' F m fr=>xn F.ne λ n1 n2 n3 n4 n5=>zz ?_
 exact ⟨tb',R'.list F.hj n3 n4,⟨by refine sr (F4 _ _ n5) ?_;exact F.hf,F3 _ _ _,F.ne⟩,m.putR (.inr (.inr rfl)),fr⟩
theorem eK.row {H1:AH}{at_ ops' pend' ov'}(x:eK H r d rl ol tb o at_ ops' pend' ov' f j c J H1)(op:Op){t:Addr}{rows:List V}(ht:H1 t=none)(e:(H1.set t (.tup op.vals)) rl=some (.list rows)) :
  eK H r d rl ol tb o at_ (ops'++[op]) pend' ov' f j c J ((H1.set t (.tup op.vals)).set rl (.list (rows++[.ref t]))):=by
 refine bc λ zz=>lT x λ tb' R' F m fr=>xn F.ne λ n1 n2 n3 n4 n5=>zz ⟨tb',(R'.new ht).row e ⟨t,rfl,F3 _ _ _⟩,F.keep ((Ga ht).putR (D:=λ a=>a=rl) rfl) n1 n3,(m.newR ht).putR (.inl (.inr (.inl rfl))),fr⟩
theorem eK.patch {H1:AH}{at_ ops' pend' ov'}(x:eK H r d rl ol tb o at_ ops' pend' ov' f j c J H1)(op:Op){t:Addr}{rows:List V}(i:Nat)(ht:H1 t=none)(e:(H1.set t (.tup op.vals)) rl=some (.list rows)) :
  eK H r d rl ol tb o at_ (ops'.set i op) pend' ov' f j c J ((H1.set t (.tup op.vals)).set rl (.list (rows.set i (.ref t)))):=by
 refine bc λ zz=>lT x λ tb' R' F m fr=>xn F.ne λ n1 n2 n3 n4 n5=>zz ⟨tb',(R'.new ht).patch i e ⟨t,rfl,F3 _ _ _⟩,F.keep ((Ga ht).putR (D:=λ a=>a=rl) rfl) n1 n3,(m.newR ht).putR (.inl (.inr (.inl rfl))),fr⟩
theorem eK.new {H1:AH}{at_ ops' pend' ov'}(x:eK H r d rl ol tb o at_ ops' pend' ov' f j c J H1){t:Addr}{ao:AO}(ht:H1 t=none):eK H r d rl ol tb o at_ ops' pend' ov' f j c J (H1.set t ao):=by
 exact lT x λ tb' R' F m fr=>⟨tb',R'.new ht,F.keep (Ga (D:=λ _=>False) ht) id id,m.newR ht,fr⟩
theorem eK.app {C:Cw}{ls:Ls}{i:Nat}{es:Es}{H1:AH}{at_ ops' pend' ov'}{Q:V->AH->Prop}(x:eK H r d rl ol tb o at_ ops' pend' ov' f j c J H1)(hv:lget ls i=some (.ref r))(op:Op)(h:AV es C ls H1 op.vals)(hl:ops'.length<=16777216)
  (q:∀ H',eK H r d rl ol tb o at_ (ops'++[op]) pend' ov' f j c J H'->Q .none H'):xe (.bm .append (.attr (.var i) 3) (.cons (.tup es) .nil)) C ls H1 Q:=by
 refine lT (id x) λ tb' R' F m fr=>aT R'.rows λ rows h3 h4=>?_
 exact xA (R'.ev hv rfl) ⟨_,h3⟩ h (by cases op<;>exact ac rfl) λ t ht=>⟨rows,aq h3 ht,h4.length▸hl,q _ (x.row op ht (aq h3 ht))⟩
theorem eK.pat {C:Cw}{ls:Ls}{i n:Nat}{es:Es}{e:E}{b:B}{N:Ls->AH->Prop}{Rr:V->AH->Prop}{H1:AH}{at_ ops' pend' ov'}(x:eK H r d rl ol tb o at_ ops' pend' ov' f j c J H1)(hv:lget ls i=some (.ref r))(op:Op)(h:AV es C ls H1 op.vals)(hl:ops'.length<=16777216)
  (hi:∀ H',eK H r d rl ol tb o at_ ops' pend' ov' f j c J H'->EV e C ls H' (.int n)) (hn:n<ops'.length) (q:∀ H',eK H r d rl ol tb o at_ (ops'.set n op) pend' ov' f j c J H'->xs b C ls H' N Rr):xs (.setS (.attr (.var i) 3) e (.tup es) b) C ls H1 N Rr:=by
 refine lT (id x) λ tb' R' F m fr=>aT R'.rows λ rows h3 h4=>?_
 rw [<- h4.length] at hl hn
 exact f7 (kJ h (by cases op<;>exact ac rfl) λ t ht=>(R'.new ht).ev hv rfl _ (hi _ (x.new ht) _ (wj (aq h3 ht) hl rfl hn (q _ (x.patch op n ht (aq h3 ht))))))
theorem nB (ops:List Op)(p:List Nat):(ops++fl p).length<=ops.length+1:=by exact sr GO (add_le_add_left (ub p) _)
theorem C5 (P:Pk S){k:Nat}{begin:Int}(R:Rd H r d rl ol tb o at_ ops pend (ov++[.ref f]))(F:Fr H rl ol f j .none J)(hp:pend.length<=16777216)(hr:ops.length<=16777214)(ho:ov.length<=16777214)
  (q:∀ H',eK H r d rl ol tb o at_ (ops++fl pend++[Op.unless 0]) [] (ov++[.ref f]) f j (.int (ops++fl pend).length) J H'->Q .none H'):af S (k+2) true X 11 [.ref r,.int begin,.int 116] H Q:=by
 refine fq P (c:=116) rfl R hp hr ho λ H1 tb1 x1x R1x=>?_
 have F1x:=F.to R x1x.mv
 have hl:(ops++fl pend).length<=16777216:=GK (nB ops pend) (le_succ_of_le (succ_le_succ hr))
 exact cU (a9 (x:=116) rfl rfl) (au (TV.notN (F1x.c0 rfl) rfl) (jd (R1x.rowsV hl rfl) (FY rfl) FZ (wj F1x.hf (ac rfl) (x:=0) rfl (ac rfl) (aG (((eK.of x1x F1x).setc (.int (ops++fl pend).length)).app rfl (.unless 0) (.two F0 FZ) hl λ H' y=>q H' y)))))
theorem CD (P:Pk S){k:Nat}{begin:Int}{i:Nat}{ns:List Nat}(R:Rd H r d rl ol tb o at_ ops pend (ov++[.ref f]))(F:Fr H rl ol f j (.int i) J)(hi:i<ops.length)(hp:pend.length<=16777216)(hr:ops.length<=16777210)(ho:ov.length<=16777214)(hJ:J.length<=16777214)
  (q:∀ H',eK H r d rl ol tb o at_ ((ops++fl pend++[Op.jump 0]).set i (.unless ((ops++fl pend).length+1:Nat))) [] (ov++[.ref f]) f j .none (J++[.int (ops++fl pend).length]) H'->Q .none H'):af S (k+2) true X 11 [.ref r,.int begin,.int 101] H Q:=by
 refine fq P (c:=101) rfl R hp (GK hr (ac rfl)) ho λ H1 tb1 x1x R1x=>?_
 have F1x:=F.to R x1x.mv
 have hl:(ops++fl pend).length<=16777211:=GK (nB ops pend) (succ_le_succ hr)
 have hl1:=GK hl (show 16777211<=16777216 from ac rfl)
 have e2:(ops++fl pend++[Op.jump 0]).length=(ops++fl pend).length+1:=GO
 have hl2:(ops++fl pend++[Op.jump 0]).length<=16777216:=e2▸GK (succ_le_succ hl) (ac rfl)
 refine Af (a9 (x:=101) rfl rfl) (cU (a9 (x:=101) rfl rfl) (au (TV.isN (F1x.c0 rfl) rfl) (aG (iB (F1x.c1 rfl) ⟨_,F1x.hj⟩ (.one (R1x.rowsV hl1 rfl)) ⟨_,F1x.hj,GK hJ (ac rfl),(aG (((eK.of x1x F1x).setj (J++[.int (ops++fl pend).length])).app rfl (.jump 0) (.two F0 FZ) hl1 λ H2x x2x=>?_))⟩))))
 have rv:∀ {C:Cw} {H'},eK H r d rl ol tb o at_ (ops++fl pend++[Op.jump 0]) [] (ov++[.ref f]) f j (.int i) (J++[.int (ops++fl pend).length]) H'->EV (.bi .lenL (.cons (.attr (.var 0) 3) .nil)) C [some (.ref r),some (.int begin),some (.int 101),some (.ref f),none] H' (.int ((ops++fl pend).length+1:Nat)):=λ x=>by
  exact lT x λ tb' R' F' m fr=>sl e2 (R'.rowsV hl2 rfl)
 refine x2x.pat rfl (.unless ((ops++fl pend).length+1:Nat)) (.two F0 (rv x2x)) hl2 (λ H' x=>x.choose_spec.2.1.c0 rfl) (lt_of_lt_of_le hi (by refine sr (append_assoc ..) (sr (GO ..) ?_);exact le_add_right _ _)) λ H3 x3x=>?_
 exact jd EV.none (FY rfl) FZ (wj x3x.choose_spec.2.1.hf (ac rfl) (x:=0) rfl (ac rfl) (q _ (x3x.setc .none)))
end
section
variable {S:Sx}{X:Int->Prop}{H:AH}{Q:V->AH->Prop}{r d rl ol tb:Addr}{o:List Nat}{at_:Int}{ops:List Op}{pend:List Nat}{ov:List V}{f j:Addr}{c:V}{J:List V}
theorem AL (P:Pk S){k:Nat}{begin i:Int}(R:Rd H r d rl ol tb o at_ ops pend (ov++[.ref f]))(F:Fr H rl ol f j (.int i) J)(hp:pend.length<=16777216)(hr:ops.length<=16777214)(ho:ov.length<=16777214)(q:X begin):af S (k+3) true X 11 [.ref r,.int begin,.int 116] H Q :=
 fq P (c:=116) rfl R hp hr ho λ H1 tb1 x1x R1x=>cU (a9 (x:=116) rfl rfl) (cU (TV.notN ((F.to R x1x.mv).c0 rfl) rfl) (aG (R1x.no P rfl (FY rfl) q)))
theorem AS (P:Pk S){k:Nat}{begin:Int}(R:Rd H r d rl ol tb o at_ ops pend (ov++[.ref f]))(F:Fr H rl ol f j .none J)(hp:pend.length<=16777216)(hr:ops.length<=16777214)(ho:ov.length<=16777214)(q:X begin):af S (k+3) true X 11 [.ref r,.int begin,.int 101] H Q :=
 fq P (c:=101) rfl R hp hr ho λ H1 tb1 x1x R1x=>Af (a9 (x:=101) rfl rfl) (cU (a9 (x:=101) rfl rfl) (cU (TV.isN ((F.to R x1x.mv).c0 rfl) rfl) (aG (R1x.no P rfl (FY rfl) q))))
noncomputable def aZ (n:Nat):List Nat->List Op->List Op
 | [],ops=>ops
 | i::r,ops=>aZ n r (ops.set i (.jump n))
theorem eZ (n:Nat):∀ (J:List Nat) (ops:List Op),(aZ n J ops).length=ops.length
 | [],_=>rfl
 | i::r,ops=>by rewrite [aZ];exact sr (eZ ..) (sr (length_set ..) rfl)
theorem kM {C:Cw}{begin:Int}{n:Nat}(hn:n<=16777216){c:V}{J0:List V}{Rr:V->AH->Prop}{K:Ls->AH->Prop}:∀ (J:List Nat) (x4:Option V) (ops:List Op) (H1:AH),ops.length=n->(∀ i∈J,i<n)->eK H r d rl ol tb o at_ ops [] ov f j c J0 H1 ->
  (∀ ls' H',lget ls' 0=some (.ref r)->eK H r d rl ol tb o at_ (aZ n J ops) [] ov f j c J0 H'->K ls' H') ->
  iL (ay .list (.ref j) (J0.map It.v)) (.one 4) (λ ls' H' Kt=>xs (.setS (.attr (.var 0) 3) (.var 4) (.tup (.cons (.str [106,117,109,112]) (.cons (.bi .lenL (.cons (.attr (.var 0) 3) .nil)) .nil))) .done) C.nox ls' H' Kt Rr)
   ((J.map λ (i:Nat)=>V.int i).map It.v) [some (.ref r),some (.int begin),some (.int 59),some (.ref f),x4] H1 K
 | [],x4,ops,H1,hl,hJ,x,k=>⟨⟨_,.inl x.choose_spec.2.1.hj,rfl⟩,k _ _ rfl x⟩
 | i::J,x4,ops,H1,hl,hJ,x,k=>⟨⟨_,.inl x.choose_spec.2.1.hj,rfl⟩,x.pat rfl (.jump n) (.two F0 (hl▸x.choose_spec.1.rowsV (hl▸hn) rfl)) (hl▸hn) (λ _ _=>FY rfl) (hl▸hJ i mem_cons_self) λ H2x x2x =>
   kM (C:=C) (Rr:=Rr) hn J (some (.int i)) (ops.set i (.jump n)) H2x (length_set.trans hl) (λ a m=>hJ a (mem_cons_of_mem _ m)) x2x k⟩
theorem oJ (P:Pk S){k:Nat}{begin:Int}{c0:V}{Jn:List Nat}{ops':List Op}{H1:AH}(x:eK H r d rl ol tb o at_ ops' [] (ov++[.ref f]) f j c0 (Jn.map λ (i:Nat)=>V.int i) H1)(hr:ops'.length<=16777216)(ho:ov.length<=16777214)(hJ:∀ i∈Jn,i<ops'.length)(hJl:Jn.length<=16777216)
  (q:∀ H',eK H r d rl ol tb o at_ (aZ ops'.length Jn ops') [] ov f j c0 (Jn.map λ (i:Nat)=>V.int i) H'->Q .none H') :
  xs (.for .list (.one 4) (.sub (.var 3) (.int 1))
 (.setS (.attr (.var 0) 3) (.var 4) (.tup (.cons (.str [106,117,109,112]) (.cons (.bi .lenL (.cons (.attr (.var 0) 3) .nil)) .nil)))
 .done)
 (.ex (.bm .pop (.attr (.var 0) 5) .nil)
 .done)) ⟨af S (k+1),true,X⟩ [some (.ref r),some (.int begin),some (.int 59),some (.ref f),none] H1 (λ _ H'=>Q .none H') Q:=by
 have F':=x.choose_spec.2.1
 refine kf (F'.c1 rfl) ⟨_,.inl F'.hj,by refine sr (length_map ..) ?_;exact hJl,rfl⟩ (kM hr Jn none ops' H1 rfl hJ x λ ls' H2x hl x2x=>?_)
 refine lT (id x2x) λ tb2 R2x F2 m2x fr2=>aG (iB (R2x.ev hl rfl) ⟨_,R2x.opn⟩ .nil ⟨ov,.ref f,R2x.opn,le_succ_of_le ho,q _ ⟨tb2,R2x.open ov,⟨?_,?_,F2.ne⟩,m2x.putR (.inl (.inr (.inr (.inl rfl)))),fr2⟩⟩)
 .exact sr (F4 _ _ F2.ne.2.1) F2.hf
 .exact sr (F4 _ _ F2.ne.2.2.2.1) F2.hj
noncomputable def cV (c:Option Nat):V:=match c with|none=>.none|some i=>.int i
noncomputable def i3 (n:Nat)(c:Option Nat)(ops:List Op):List Op:=match c with
 | some i=>ops.set i (.unless n)
 | none=>ops
theorem qg (n:Nat)(c:Option Nat)(ops:List Op):(i3 n c ops).length=ops.length:=by
 induction c with
 | none=>rfl
 | some i=>exact length_set
theorem Ea (P:Pk S){k:Nat}{begin:Int}{c0:Option Nat}{Jn:List Nat}(R:Rd H r d rl ol tb o at_ ops pend (ov++[.ref f]))(F:Fr H rl ol f j (cV c0) (Jn.map λ (i:Nat)=>V.int i))(hp:pend.length<=16777216)(hr:ops.length<=16777210)(ho:ov.length<=16777214)(hJ:∀ i∈Jn,i<ops.length)(hJl:Jn.length<=16777216)(hc:∀ i∈c0,i<ops.length)
  (q:∀ H',eK H r d rl ol tb o at_ (aZ (ops++fl pend).length Jn (i3 (ops++fl pend).length c0 (ops++fl pend))) [] ov f j (cV c0) (Jn.map λ (i:Nat)=>V.int i) H'->Q .none H'):af S (k+2) true X 11 [.ref r,.int begin,.int 59] H Q:=by
 have hl:(ops++fl pend).length<=16777216:=GK (nB ops pend) (GK (succ_le_succ hr) (ac rfl))
 have hlt:∀ {i},i<ops.length->i<(ops++fl pend).length:=λ h=>lt_of_lt_of_le h (by refine sr GO ?_;exact le_add_right _ _)
 refine fq P (c:=59) rfl R hp (GK hr (ac rfl)) ho λ H1 tb1 x1x R1x=>Af (a9 (x:=59) rfl rfl) (Af (a9 (x:=59) rfl rfl) ?_)
 have F1x:=F.to R x1x.mv
 have x2x:=eK.of x1x F1x
 induction c0 with
 | none=>exact au (TV.notN (F1x.c0 rfl) rfl) (oJ P x2x hl ho (λ i m=>hlt (hJ i m)) hJl q)
 | some i =>
  refine cU (TV.notN (F1x.c0 rfl) rfl) (x2x.pat rfl (.unless (ops++fl pend).length) (.two F0 (R1x.rowsV hl rfl)) hl (λ _ x=>x.choose_spec.2.1.c0 rfl) (hlt (hc i rfl)) λ H2x x3x=>?_)
  have hl':((ops++fl pend).set i (.unless (ops++fl pend).length)).length=(ops++fl pend).length:=length_set
  exact oJ P x3x (hl'.symm▸hl) ho (λ i m=>hl'.symm▸hlt (hJ i m)) hJl (by refine sr hl' ?_;exact q)
end
inductive wP where
 | lit|op (o:Op)|br (c:Nat)
noncomputable def u6:List Nat:=[43,45,42,47,109,38,124,94,61,62,60,65,79]
noncomputable def bY:List Nat->Option (wP×Nat)
 | []=>none
 | c::l=>cond (decide (c=37)) (some (.lit,2)) <| cond (decide (c=99)) (some (.op .char,2)) <| cond (decide (c=108)) (some (.op .length,2)) <| cond (decide (c=105)) (some (.op .more,2)) <|
  cond (([112,80,103]:List Nat).contains c) ((qy c l).map λ op=>(.op op,3)) <| cond (([39,123]:List Nat).contains c) (cond (decide (c=39)) ((Ey l).map λ x=>(.op (.push x),4)) ((Cs l).map λ v=>(.op (.push v.1),2+v.2+1))) <|
  cond (u6.contains c) (some (.op (.two c),2)) <| cond (([33,126]:List Nat).contains c) (some (.op (.one c),2)) <| cond (([63,116,101,59]:List Nat).contains c) (some (.br c,2)) <|
  (A0 (c::l)).map λ on=>(.op on.1,1+on.2)
section
variable {S:Sx}{X:Int->Prop}{H:AH}{Q:V->AH->Prop}{r d rl ol tb:Addr}{o:List Nat}{ops:List Op}{pend:List Nat}{ov:List V}{C:Cw}{ls:Ls}{c j:Nat}{b:Bool}
theorem c8 (P:Pk S){k begin:Nat}{l:List Nat}(R:Rd H r d rl ol tb o begin ops pend ov)(hd:o.drop begin=37::l)(hl:o.length<=16777216)(ho:cR o)(hp:pend.length<=16777215)(hr:ops.length<=16777214)
  (hb:∀ l',l=123::l'->nx l' 45=false/\(-9223372036854775808<(aJ l' 0).1/\(aJ l' 0).1<9223372036854775808))
  (G:Option (wP×Nat)->Prop) (q:G (bY l)) (q0:G none->X begin) (q1:∀ n,G (some (.lit,n))->∀ H',bE H r d rl ol tb o (begin+n:Nat) ops (pend++[37]) ov H'->Q .none H')
  (q2:∀ op n,G (some (.op op,n))->∀ H',bE H r d rl ol tb o (begin+n:Nat) (ops++fl pend++[op]) [] ov H'->Q .none H')
  (q3:∀ c n,G (some (.br c,n))->∀ H1 tb1,bE H r d rl ol tb o (begin+n:Nat) ops pend ov H1->Rd H1 r d rl ol tb1 o (begin+n:Nat) ops pend ov->af S (k+3) true X 11 [.ref r,.int begin,.int c] H1 (λ _ H'=>Q .none H')) :
  af S (k+4) true X 8 [.ref r,.int begin] H Q:=by
 refine mL (bq hd) λ d1 d2 d3=>P.enter 7 rfl (.inl rfl) rfl (λ _=>rfl) ?_
 walk_at "eI"
 have len:∀ {b},decide (o.length<=begin+1)=b->TV (.cmp .ge (.bin .add (.var 1) (.int 1)) (.bi .len (.cons (.attr (.var 0) 1) .nil))) ⟨af S (k+3),true,X⟩ [some (.ref r),some (.int begin),none] H b:=λ e =>
  F7 (EV.add (FY rfl) FZ) (EV.lenB (R.ev rfl rfl) hl) (nN (x:=begin+1) rfl rfl e)
 induction l with
 | nil=>exact cU (len (GM (drop_eq_nil_iff.mp d1))) (aG (R.meth rfl (.one (FY rfl)) (c4 P (q0 q))))
 | cons c l =>
  refine mL (bq d1) λ e1 e2 e3=>?_
  have hc:=ho c (mem_of_getElem? e2)
  refine au (len (GN (not_le.mpr e3))) (aM (F5 (R.ev rfl rfl) (EV.add (FY rfl) FZ) (gQ (x:=begin+1) rfl hl e2)) (eX (EV.add (FY rfl) FZ) (FY rfl) (R.setAt (b:=(begin+2:Nat)) λ H1 x1x=>?_)))
  obtain ⟨tb1,R1x,m1x,f1x⟩:=id x1x
  by_cases h:c=37
  .exact dX (w0 rfl (GM h)) (aG (iB (R1x.ev rfl rfl) ⟨_,R1x.text⟩ (.one EV.glb) ⟨_,R1x.text,by decide,hp,(q1 _ (mT (GM h) q) _ (x1x.then R1x ⟨tb1,R1x.grow _,Mv.put (.inr (.inr (.inr rfl))),.inl rfl⟩))⟩))
  have h:=GN h
  refine dN (w0 rfl h) ?_
  replace q:=mF h q
  by_cases h:c=99
  .exact dX (a9 rfl (GM h)) (aG (fV P x1x (le_succ_of_le hp) hr .char rfl (.one F0) (q2 _ _ (mT (GM h) q))))
  have h:=GN h
  refine dN (a9 rfl h) ?_
  replace q:=mF h q
  by_cases h:c=108
  .exact dX (a9 rfl (GM h)) (aG (fV P x1x (le_succ_of_le hp) hr .length rfl (.one F0) (q2 _ _ (mT (GM h) q))))
  have h:=GN h
  refine dN (a9 rfl h) ?_
  replace q:=mF h q
  by_cases h:c=105
  .exact dX (a9 rfl (GM h)) (aG (fV P x1x (le_succ_of_le hp) hr .more rfl (.one F0) (q2 _ _ (mT (GM h) q))))
  have h:=GN h
  refine dN (a9 rfl h) ?_
  replace q:=mF h q
  have d2:o.drop (begin+2)=l:=e1
  induction h:([112,80,103]:List Nat).contains c with
  | true =>
   replace q:=mT h q
   exact dX (lS rfl hc h) (aG (R1x.meth rfl (.two (FY rfl) (FY rfl)) (c9 P R1x hl (le_succ_of_le hp) hr c begin (λ x=>G (x.map λ op=>(.op op,3))) (d2.symm▸q) q0 λ op g H' y=>q2 op 3 g H' (x1x.then R1x y))))
  | false =>
  refine dN (lS rfl hc h) ?_
  replace q:=mF h q
  induction h:([39,123]:List Nat).contains c with
  | true =>
   replace q:=mT h q
   refine dX (lS rfl hc h) (aG (R1x.meth rfl (.two (FY rfl) (FY rfl)) ?_))
   induction h39:decide (c=39) with
   | true =>
    obtain rfl:=GL h39
    exact DS P R1x hl (le_succ_of_le hp) hr begin (λ x=>G (x.map λ x=>(.op (.push x),4))) (d2.symm▸mT h39 q) q0 λ x g H' y=>q2 _ 4 g H' (x1x.then R1x y)
   | false =>
    have h123:c=123:=by
     rcases mem_cons.mp (List.contains_iff_mem.mp h) with e|e
     .exact absurd e (of_decide_eq_false h39)
     .exact GP e
    subst h123
    obtain ⟨hb1,hb2⟩:=hb l rfl
    rw [<- d2] at hb1 hb2
    exact CG P R1x hl ho (le_succ_of_le hp) hr begin hb1 hb2 (λ x=>G (x.map λ v=>(.op (.push v.1),2+v.2+1))) (d2.symm▸mF h39 q) q0 λ v n g H' y=>q2 _ _ g H' (x1x.then R1x (by
     refine sr (show begin+(2+n+1)=begin+2+n+1 from (add_assoc begin (2+n) 1).symm.trans (congrArg (·+1) (add_assoc begin 2 n).symm)) ?_;exact y))
  | false =>
  refine dN (lS rfl hc h) ?_
  replace q:=mF h q
  induction h:u6.contains c with
  | true=>exact dX (mX (l:=u6) rfl rfl hc h) (aG (fV P x1x (le_succ_of_le hp) hr (.two c) rfl (.two F0 (FY rfl)) (q2 _ _ (mT h q))))
  | false =>
  refine dN (mX (l:=u6) rfl rfl hc h) ?_
  replace q:=mF h q
  induction h:([33,126]:List Nat).contains c with
  | true=>exact dX (mX (l:=[33,126]) rfl rfl hc h) (aG (fV P x1x (le_succ_of_le hp) hr (.one c) rfl (.two F0 (FY rfl)) (q2 _ _ (mT h q))))
  | false =>
  refine dN (mX (l:=[33,126]) rfl rfl hc h) ?_
  replace q:=mF h q
  induction h:([63,116,101,59]:List Nat).contains c with
  | true=>exact dX (lS rfl hc h) (aG (R1x.meth rfl (.two (FY rfl) (FY rfl)) (q3 _ _ (mT h q) _ tb1 x1x R1x)))
  | false =>
  replace q:=mF h q
  exact dN (lS rfl hc h) (aG (R1x.meth rfl (.one (FY rfl)) (Fv P R1x hl ho (le_succ_of_le hp) hr begin d3 (λ x=>G (x.map λ v:Op×Nat=>(.op v.1,1+v.2))) (d1.symm▸q) q0 λ op n g H' y=>q2 op (1+n) g H' (x1x.then R1x (by refine sl (add_assoc ..) ?_;exact y)))))
end
theorem jg {c:Nat}(h:c<256):eW (c:Int)=true:=by dsimp only [eW];refine sr (GM (natCast_nonneg c)) (sr (GM (show (c:Int)<256 from ofNat_lt.mpr h)) ?_);rfl
def mM (l:List Nat):Prop:=∀ l',l=123::l'->nx l' 45=false/\(-9223372036854775808<(aJ l' 0).1/\(aJ l' 0).1<9223372036854775808)
inductive PR where
 | ok (ops:List Op)|bad (told:Int)
noncomputable def PR.on (A:List Op->Prop)(X:Int->Prop):PR->Prop | .ok ops=>A ops | .bad told=>X told
noncomputable abbrev Fs:=List (Option Nat×List Nat)
noncomputable abbrev xT:=Nat->List Op->List Nat->Fs->Prop
def CK (go:xT)(i n:Nat)(ops:List Op)(p:List Nat)(fs:Fs)(R:PR)(c:Nat):Prop :=
 cond (decide (c=63)) (go (i+n) (ops++fl p) [] ((none,[])::fs)) <| match fs with
 | []=>R=.bad i
 | (w,J)::fs=>cond (decide (c=116)) (match w with|none=>go (i+n) (ops++fl p++[.unless 0]) [] ((some (ops++fl p).length,J)::fs)|some _=>R=.bad i) <|
  cond (decide (c=101)) (match w with|none=>R=.bad i|some j=>go (i+n) ((ops++fl p++[Op.jump 0]).set j (.unless ((ops++fl p).length+1:Nat))) [] ((none,J++[(ops++fl p).length])::fs))
   (c=59/\go (i+n) (aZ (ops++fl p).length J (i3 (ops++fl p).length w (ops++fl p))) [] fs)
noncomputable def oA (go:xT)(i:Nat)(ops:List Op)(p:List Nat)(fs:Fs)(R:PR):Option (wP×Nat)->Prop
 | none=>R=.bad i
 | some (a,n)=>1<=n/\match a with
  | .lit=>go (i+n) ops (p++[37]) fs
  | .op op=>go (i+n) (ops++fl p++[op]) [] fs
  | .br c=>CK go i n ops p fs R c
noncomputable def PR.fin (o:List Nat)(ops:List Op)(p:List Nat):Fs->PR
 | []=>.ok (ops++fl p)
 | _=>.bad o.length
noncomputable def cy (o:List Nat)(R:PR):Nat->xT
 | 0,_,_,_,_=>False
 | m+1,i,ops,p,fs=>match o.drop i with
  | []=>R=PR.fin o ops p fs
  | c::l=>cond (decide (c=37)) (mM l/\oA (cy o R m) i ops p fs R (bY l)) (cy o R m (i+1) ops (p++[c]) fs)
def aO (o:List Nat)(i:Nat)(ops:List Op)(p:List Nat)(fs:Fs)(R:PR):Prop:=∃ m,cy o R m i ops p fs
inductive cY (H:AH) (rl ol:Addr):List Addr->List V->Fs->Prop where
 | nil:cY H rl ol [] [] []
 | snoc {as ov fs f j c J}:cY H rl ol as ov fs->Fr H rl ol f j (cV c) (J.map λ (i:Nat)=>V.int i)->f∉as->j∉as->cY H rl ol (f::j::as) (ov++[.ref f]) ((c,J)::fs)
section
variable {H:AH}{rl ol:Addr}
theorem cY.keep {H':AH}{D:Addr->Prop}{as ov fs}(h:cY H rl ol as ov fs)(m:Mv H H' D)(hD:∀ a∈as,¬ D a):cY H' rl ol as ov fs:=by
 induction h with
 | nil=>exact .nil
 | snoc a b c d ih=>exact .snoc (ih λ x m=>hD x (by simp [m])) (b.keep m (hD _ (by simp)) (hD _ (by simp))) c d
theorem cY.mem {as ov fs}(h:cY H rl ol as ov fs):∀ a∈as,(∃ vs,H a=some (.list vs))/\a≠rl/\a≠ol:=by
 induction h with
 | nil=>intro a m;contradiction
 | snoc a b c d ih =>
  intro x m
  rcases mem_cons.mp m with rfl|m
  .exact ⟨⟨_,b.hf⟩,b.ne.1,b.ne.2.1⟩
  rcases mem_cons.mp m with rfl|m
  .exact ⟨⟨_,b.hj⟩,b.ne.2.2.1,b.ne.2.2.2.1⟩
  .exact ih x m
theorem cY.len {as ov fs}(h:cY H rl ol as ov fs):ov.length=fs.length:=by
 induction h with
 | nil=>rfl
 | snoc a b c d ih=>simp [ih]
theorem cY.rd {as ov fs}(h:cY H rl ol as ov fs){r d tb o at_ ops p ov'}(R:Rd H r d rl ol tb o at_ ops p ov'):∀ a∈as,¬ se d rl ol tb a:=λ a m q=>by
 refine mL (h.mem a m) λ uz1 h1 h2=>?_;obtain ⟨vs,e⟩:=uz1
 rcases q with q|q|q|q
 .rw [q,R.attrs] at e;cases e
 .exact h1 q
 .exact h2 q
 .rw [q,R.text] at e;cases e
end
theorem jn {l:List Nat}{a:wP}{n:Nat}(h:bY l=some (a,n)):1<=n:=by
 have cnd:∀ {b:Bool} {x y:Option (wP×Nat)},(∀ a n,x=some (a,n)->1<=n)->(∀ a n,y=some (a,n)->1<=n)->∀ a n,cond b x y=some (a,n)->1<=n:=λ {b} _ _ hx hy=>by cases b<;>assumption
 have one:∀ {b:wP} {m:Nat},1<=m->∀ a n,some (b,m)=some (a,n)->1<=n:=λ hm a n e=>by cases e;exact hm
 have mp:∀ {α:Type} {o:Option α} {f:α->wP×Nat},(∀ x,1<=(f x).2)->∀ a n,o.map f=some (a,n)->1<=n:=λ hf a n e=>by
  refine aT (Option.map_eq_some_iff.mp e) λ x uz1 e=>?_
  have:=hf x;rw [e] at this;exact this
 induction l with
 | nil=>contradiction
 | cons c l =>
  exact cnd (one (ac rfl)) (cnd (one (ac rfl)) (cnd (one (ac rfl)) (cnd (one (ac rfl)) (cnd (mp λ _=>ac rfl) (cnd (cnd (mp λ _=>ac rfl) (mp λ v=>succ_le_succ (zero_le _))) (cnd (one (ac rfl)) (cnd (one (ac rfl)) (cnd (one (ac rfl))
   (mp λ v=>le_add_right 1 _))))))))) a n h
section
variable {o:List Nat}{i:Nat}{ops:List Op}{p:List Nat}{fs:Fs}{R:PR}{l J:List Nat}{n:Nat}{c:Nat}
theorem aO.done (h:o.length<=i):aO o i ops p [] (.ok (ops++fl p)):=⟨1,by dsimp only [cy];refine sr (drop_eq_nil_iff.mpr h) ?_;rfl⟩
theorem aO.left {f}(h:o.length<=i):aO o i ops p (f::fs) (.bad o.length):=⟨1,by dsimp only [cy];refine sr (drop_eq_nil_iff.mpr h) ?_;rfl⟩
theorem aO.plain (h:o.drop i=c::l)(hc:c≠37)(r:aO o (i+1) ops (p++[c]) fs R):aO o i ops p fs R :=
 by obtain ⟨m,r⟩:=r;exact ⟨m+1,by dsimp only [cy];refine sr h ?_;show cond (decide (c=37)) _ _;refine sr (GN hc) ?_;exact r⟩
theorem aO.pct {m:Nat}(h:o.drop i=37::l)(hb:mM l)(r:oA (cy o R m) i ops p fs R (bY l)):aO o i ops p fs R:=⟨m+1,by dsimp only [cy];refine sr h ?_;exact ⟨hb,r⟩⟩
theorem aO.lit (h:o.drop i=37::l)(hb:mM l)(e:bY l=some (.lit,n))(r:aO o (i+n) ops (p++[37]) fs R):aO o i ops p fs R:=by obtain ⟨m,r⟩:=r;exact .pct h hb (by refine sr e ?_;exact ⟨jn e,r⟩)
theorem aO.op {op}(h:o.drop i=37::l)(hb:mM l)(e:bY l=some (.op op,n))(r:aO o (i+n) (ops++fl p++[op]) [] fs R):aO o i ops p fs R:=by obtain ⟨m,r⟩:=r;exact .pct h hb (by refine sr e ?_;exact ⟨jn e,r⟩)
theorem aO.bad (h:o.drop i=37::l)(hb:mM l)(e:bY l=none):aO o i ops p fs (.bad i):=.pct (m:=0) h hb (by refine sr e ?_;rfl)
theorem aO.br {m:Nat}(h:o.drop i=37::l)(hb:mM l)(e:bY l=some (.br c,n))(r:CK (cy o R m) i n ops p fs R c):aO o i ops p fs R:=.pct h hb (by refine sr e ?_;exact ⟨jn e,r⟩)
theorem aO.q (h:o.drop i=37::l)(hb:mM l)(e:bY l=some (.br 63,n))(r:aO o (i+n) (ops++fl p) [] ((none,[])::fs) R):aO o i ops p fs R:=by obtain ⟨m,r⟩:=r;exact .br h hb e r
theorem aO.t (h:o.drop i=37::l)(hb:mM l)(e:bY l=some (.br 116,n))(r:aO o (i+n) (ops++fl p++[.unless 0]) [] ((some (ops++fl p).length,J)::fs) R):aO o i ops p ((none,J)::fs) R:=by obtain ⟨m,r⟩:=r;exact .br h hb e r
theorem aO.e {j}(h:o.drop i=37::l)(hb:mM l)(e:bY l=some (.br 101,n))(r:aO o (i+n) ((ops++fl p++[Op.jump 0]).set j (.unless ((ops++fl p).length+1:Nat))) [] ((none,J++[(ops++fl p).length])::fs) R):aO o i ops p ((some j,J)::fs) R:=by obtain ⟨m,r⟩:=r;exact .br h hb e r
theorem aO.s {w}(h:o.drop i=37::l)(hb:mM l)(e:bY l=some (.br 59,n))(r:aO o (i+n) (aZ (ops++fl p).length J (i3 (ops++fl p).length w (ops++fl p))) [] fs R):aO o i ops p ((w,J)::fs) R:=by obtain ⟨m,r⟩:=r;exact .br h hb e ⟨rfl,r⟩
theorem aO.nb (h:o.drop i=37::l)(hb:mM l)(e:bY l=some (.br c,n))(hc:c≠63):aO o i ops p [] (.bad i):=.br (m:=0) h hb e (by dsimp only [CK];refine sr (GN hc) ?_;rfl)
theorem aO.tb {j}(h:o.drop i=37::l)(hb:mM l)(e:bY l=some (.br 116,n)):aO o i ops p ((some j,J)::fs) (.bad i):=.br (m:=0) h hb e rfl
theorem aO.eb (h:o.drop i=37::l)(hb:mM l)(e:bY l=some (.br 101,n)):aO o i ops p ((none,J)::fs) (.bad i):=.br (m:=0) h hb e rfl
end
theorem ik (ops:List Op)(p:List Nat):(ops++fl p).length<=ops.length+p.length/\(ops++fl p).length<=ops.length+1/\ops.length<=(ops++fl p).length:=by
 refine sr GO ?_
 induction p with
 | nil=>exact ⟨le_refl _,le_succ _,le_refl _⟩
 | cons c r=>exact ⟨add_le_add_left (succ_le_succ (zero_le _)) _,le_refl _,le_succ _⟩
structure Ae (t:Nat) (i:Nat) (ops:List Op) (p:List Nat) (fs:Fs):Prop where
 hat:t<=i
 hops:ops.length+p.length<=2*t
 hfs:fs.length<=t
 hjs:∀ x∈fs,x.2.length<=t/\(∀ k∈x.1,k<ops.length)/\∀ k∈x.2,k<ops.length
section
variable {S:Sx}{X:Int->Prop}{H:AH}{Q:V->AH->Prop}{r d rl ol tb:Addr}{o:List Nat}{ops:List Op}{pend:List Nat}{ov:List V}
theorem zB {H H1 H2x:AH}{tb1:Addr}{D:Addr->Prop}(m:Mv H H1 (se d rl ol tb))(f:tb1=tb\/H tb1=none)(m2x:Mv H1 H2x (λ a=>se d rl ol tb1 a\/D a))(hD:∀ a,D a->H a=none):Mv H H2x (se d rl ol tb):=by
 refine m.trans m2x (λ _ h=>h) λ a h=>?_
 rcases h with (h|h|h|h)|h
 .exact .inl (.inl h)
 .exact .inl (.inr (.inl h))
 .exact .inl (.inr (.inr (.inl h)))
 .exact f.imp (λ e=>.inr (.inr (.inr (h.trans e)))) λ e=>h▸e
 .exact .inr (hD a h)
theorem yV {H H1:AH}{tb1 tb2:Addr}{D:Addr->Prop}(m:Mv H H1 D)(f:tb1=tb\/H tb1=none)(f2x:tb2=tb1\/H1 tb2=none):tb2=tb\/H tb2=none :=
 f2x.elim (λ e=>e▸f) λ e=>.inr (m.dom _ e)
inductive RI (H:AH) (r d rl ol tb:Addr) (o:List Nat) (R:PR) (n:Nat) (ls:Ls) (H':AH):Prop
 | mk (t i:Nat) (ops:List Op) (p:List Nat) (fs:Fs) (tb':Addr) (ov:List V) (as:List Addr) (c1:n=o.length-i) (c2:t<=o.length) (c3:Ae t i ops p fs) (c4:aO o i ops p fs R) (c5:ls=[some (.ref r)])
  (c6:Rd H' r d rl ol tb' o i ops p ov) (c7:cY H' rl ol as ov fs) (c8:Mv H H' (se d rl ol tb)) (c9:tb'=tb\/H tb'=none) (c10:∀ a∈as,H a=none)
structure Pl (H:AH) (r d rl ol tb:Addr) (o:List Nat) (R:PR) (t i j:Nat) (ops:List Op) (p:List Nat) (fs:Fs) (tb1:Addr) (ov:List V) (as:List Addr) (H1:AH):Prop where
 hi:i<o.length
 ht:t<=o.length
 B:Ae t i ops p fs
 R1x:Rd H1 r d rl ol tb1 o j ops p ov
 F:cY H1 rl ol as ov fs
 m:Mv H H1 (se d rl ol tb)
 f:tb1=tb\/H tb1=none
 hn:∀ a∈as,H a=none
variable {t i i' j:Nat}{ops':List Op}{p p':List Nat}{fs fs':Fs}{tb1 tb2:Addr}{as as':List Addr}{H1 H2x:AH}{R:PR}{ov':List V}
theorem Ae.next (B:Ae t i ops p fs)(hii:i<i')(hops:ops'.length+p'.length<=ops.length+p.length+2)(hge:ops.length<=ops'.length)(hf:fs'.length<=fs.length+1)(hj:∀ x∈fs',x∈fs\/(x.2.length<=t+1/\(∀ k∈x.1,k<ops'.length)/\∀ k∈x.2,k<ops'.length)):Ae (t+1) i' ops' p' fs' :=
 ⟨lt_of_le_of_lt B.hat hii,GK hops (add_le_add_right B.hops 2),GK hf (succ_le_succ B.hfs),λ x m=>(hj x m).elim (λ m=>by obtain ⟨a,b,c⟩:=B.hjs x m;exact ⟨le_succ_of_le a,λ k hk=>lt_of_lt_of_le (b k hk) hge,λ k hk=>lt_of_lt_of_le (c k hk) hge⟩) id⟩
theorem Pl.to (L:Pl H r d rl ol tb o R t i j ops p fs tb1 ov as H1)(hii:i<i')(B:Ae (t+1) i' ops' p' fs')(run:aO o i' ops' p' fs' R)(R2x:Rd H2x r d rl ol tb2 o i' ops' p' ov')(F:cY H2x rl ol as' ov' fs')(m2x:Mv H1 H2x (λ a=>se d rl ol tb1 a\/a∈as\/H a=none))(f2x:tb2=tb1\/H1 tb2=none)(hn:∀ a∈as',H a=none) :
  ∃ n',n'<o.length-i/\RI H r d rl ol tb o R n' [some (.ref r)] H2x :=
 ⟨_,Nat.sub_lt_sub_left L.hi hii,t+1,i',ops',p',fs',tb2,ov',as',rfl,lt_of_le_of_lt L.B.hat L.hi,B,run,rfl,R2x,F,zB L.m L.f m2x (λ a h=>h.elim (L.hn a) id),yV L.m L.f f2x,hn⟩
theorem Pl.sz (L:Pl H r d rl ol tb o R t i j ops p fs tb1 ov as H1)(hl:o.length<=4000000):ops.length+p.length<=8000000:=GK L.B.hops (mul_le_mul_left 2 (GK L.ht hl))
theorem Pl.fsz (L:Pl H r d rl ol tb o R t i j ops p fs tb1 ov as H1)(hl:o.length<=4000000):fs.length<=4000000:=GK L.B.hfs (GK L.ht hl)
theorem Pl.move {j':Nat}(L:Pl H r d rl ol tb o R t i j ops p fs tb1 ov as H1)(x:bE H1 r d rl ol tb1 o j' ops p ov H2x)(R2x:Rd H2x r d rl ol tb2 o j' ops p ov):Pl H r d rl ol tb o R t i j' ops p fs tb2 ov as H2x:=by
 obtain ⟨tb3,R3x,m3x,f3x⟩:=x
 obtain rfl:=R3x.tb_eq R2x
 exact ⟨L.hi,L.ht,L.B,R2x,L.F.keep m3x (L.F.rd L.R1x),zB (D:=λ _=>False) L.m L.f (m3x.mono λ a h=>.inl (.inl h)) (λ a h=>h.elim),yV L.m L.f f3x,L.hn⟩
theorem Pl.plain (L:Pl H r d rl ol tb o R t i j ops p fs tb1 ov as H1)(hii:i<i')(hops:ops'.length+p'.length<=ops.length+p.length+2)(hge:ops.length<=ops'.length)(run:aO o i' ops' p' fs R)(x:bE H1 r d rl ol tb1 o i' ops' p' ov H2x):∃ n',n'<o.length-i/\RI H r d rl ol tb o R n' [some (.ref r)] H2x:=by
 obtain ⟨tb2,R2x,m2x,f2x⟩:=x
 exact L.to hii (L.B.next hii hops hge (le_succ _) λ _ m=>.inl m) run R2x (L.F.keep m2x (L.F.rd L.R1x)) (m2x.mono λ _ h=>.inl (.inl h)) f2x L.hn
theorem Pl.q {f k:Addr}(L:Pl H r d rl ol tb o R t i j ops p fs tb1 ov as H1)(hii:i<i')(hops:ops'.length<=ops.length+p.length+2)(hge:ops.length<=ops'.length)(nf:H1 f=none)(nk:H1 k=none)(run:aO o i' ops' [] ((none,[])::fs) R)
  (x:eK H1 r d rl ol tb1 o i' ops' [] (ov++[.ref f]) f k .none [] H2x):∃ n',n'<o.length-i/\RI H r d rl ol tb o R n' [some (.ref r)] H2x:=by
 refine lT x λ tb2 R2x F2 m2x f2x=>?_
 have old:∀ a∈as,H1 a≠none:=λ a ma e=>by obtain ⟨⟨_,g⟩,_⟩:=L.F.mem a ma;rw [e] at g;contradiction
 refine L.to (as':=f::k::as) hii (L.B.next (p':=[]) hii hops hge (le_refl _) λ x m=>?_) run R2x (.snoc (c:=none) (J:=[]) (L.F.keep m2x λ a ma q=>?_) F2 (λ ma=>old f ma nf) λ ma=>old k ma nk) (m2x.mono λ a h=>.inl (h.imp id λ h=>.inr (L.m.dom _ ?_))) f2x λ a ma=>?_
 .rcases mem_cons.mp m with rfl|m
  .exact .inr ⟨zero_le _,nofun,nofun⟩
  .exact .inl m
 .rcases q with q|rfl|rfl
  .exact L.F.rd L.R1x a ma q
  .exact old _ ma nf
  .exact old _ ma nk
 .rcases h with rfl|rfl
  .exact nf
  .exact nk
 .rcases mem_cons.mp ma with rfl|ma
  .exact L.m.dom _ nf
  rcases mem_cons.mp ma with rfl|ma
  .exact L.m.dom _ nk
  .exact L.hn a ma
theorem Pl.fr {f k:Addr}{c c':Option Nat}{J J':List Nat}(L:Pl H r d rl ol tb o R t i j ops p ((c,J)::fs) tb1 (ov++[.ref f]) (f::k::as) H1)(F:cY H1 rl ol as ov fs)(nf:f∉as)(nj:k∉as)(hii:i<i')(hops:ops'.length+p'.length<=ops.length+p.length+2)(hge:ops.length<=ops'.length)
  (hc:∀ k∈c',k<ops'.length) (hJ:∀ k∈J',k<ops'.length) (hJl:J'.length<=J.length+1) (run:aO o i' ops' p' ((c',J')::fs) R) (x:eK H1 r d rl ol tb1 o i' ops' p' (ov++[.ref f]) f k (cV c') (J'.map λ (i:Nat)=>V.int i) H2x):∃ n',n'<o.length-i/\RI H r d rl ol tb o R n' [some (.ref r)] H2x:=by
 refine bc λ zz=>lT x λ tb2 R2x F2 m2x f2x=>zz ?_
 refine L.to hii (L.B.next (fs':=(c',J')::fs) hii hops hge (le_succ _) λ x m=>?_) run R2x (.snoc (c:=c') (J:=J') (F.keep m2x λ a ma q=>?_) F2 nf nj) (m2x.mono λ a h=>.inl (h.imp id λ h=>.inl (by rcases h with rfl|rfl<;>simp))) f2x L.hn
 .rcases mem_cons.mp m with rfl|m
  .exact .inr ⟨GK hJl (succ_le_succ (L.B.hjs _ mem_cons_self).1),hc,hJ⟩
  .exact .inl (mem_cons_of_mem _ m)
 .rcases q with q|rfl|rfl
  .exact F.rd L.R1x a ma q
  .exact nf ma
  .exact nj ma
theorem Pl.s {f k:Addr}{c:Option Nat}{J:List Nat}{c1:V}{J1:List V}(L:Pl H r d rl ol tb o R t i j ops p ((c,J)::fs) tb1 (ov++[.ref f]) (f::k::as) H1)(F:cY H1 rl ol as ov fs)(nf:f∉as)(nj:k∉as)(hii:i<i')(hops:ops'.length<=ops.length+p.length+2)(hge:ops.length<=ops'.length)
  (run:aO o i' ops' [] fs R) (x:eK H1 r d rl ol tb1 o i' ops' [] ov f k c1 J1 H2x):∃ n',n'<o.length-i/\RI H r d rl ol tb o R n' [some (.ref r)] H2x:=by
 refine lT x λ tb2 R2x F2 m2x f2x=>?_
 refine L.to hii (L.B.next (p':=[]) hii hops hge (le_succ_of_le (le_succ _)) λ x m=>.inl (mem_cons_of_mem _ m)) run R2x (F.keep m2x λ a ma q=>?_) (m2x.mono λ a h=>.inl (h.imp id λ h=>.inl (by rcases h with rfl|rfl<;>simp))) f2x λ a m=>L.hn a (mem_cons_of_mem _ (mem_cons_of_mem _ m))
 rcases q with q|rfl|rfl
 .exact F.rd L.R1x a ma q
 .exact nf ma
 .exact nj ma
end
section
variable {S:Sx}{X:Int->Prop}{H:AH}{Q:V->AH->Prop}{r d rl ol tb:Addr}{o:List Nat}
theorem mw (n:Nat)(J:List Nat)(c:Option Nat)(ops:List Op):(aZ n J (i3 n c ops)).length=ops.length:=(eZ _ _ _).trans (qg _ _ _)
theorem eY (ops:List Op)(p:List Nat)(op:Op):(ops++fl p++[op]).length<=ops.length+p.length+2/\ops.length<=(ops++fl p++[op]).length/\(ops++fl p).length<(ops++fl p++[op]).length:=by
 have h:=ik ops p
 exact sr (GO (as:=ops++fl p)) ⟨le_succ_of_le (succ_le_succ h.1),le_succ_of_le h.2.2,le_refl _⟩
theorem wM (P:Pk S){k:Nat}{R:PR}{t i m:Nat}{ops:List Op}{p:List Nat}{fs:Fs}{tb1:Addr}{ov:List V}{as:List Addr}{H1:AH}{l:List Nat}(hd:o.drop i=37::l)(hl:o.length<=4000000)(ho:cR o)(L:Pl H r d rl ol tb o R t i i ops p fs tb1 ov as H1)(hb:mM l)(run:oA (cy o R m) i ops p fs R (bY l))
  (hbad:∀ told,R=.bad told->X told)
  (q:∀ H',(∃ n',n'<o.length-i/\RI H r d rl ol tb o R n' [some (.ref r)] H')->Q .none H'):af S (k+4) true X 8 [.ref r,.int i] H1 Q:=by
 have sz:=L.sz hl
 have hp:p.length<=8000000:=GK (le_add_left _ _) sz
 have hr:ops.length<=8000000:=GK (le_add_right _ _) sz
 have up:∀ {a b c:Nat},ble b c=true->a<=b->a<=c:=λ h g=>GK g (ac h)
 have lt:∀ {n:Nat},1<=n->i<i+n:=λ h=>Nat.lt_add_of_pos_right h
 have nj:∀ {k:Nat} {op:Op},k<ops.length->k<(ops++fl p++[op]).length:=λ h=>lt_of_lt_of_le h (eY ops p _).2.1
 refine c8 P L.R1x hd (up rfl hl) ho (up rfl hp) (up rfl hr) hb (oA (cy o R m) i ops p fs R) run (hbad _) (λ n g H' x=>q H' ?_) (λ op n g H' x=>q H' ?_) λ c n g H2x tb2 x2x R2x=>?_
 .exact L.plain (lt g.1) (by refine sr GO ?_;exact le_succ _) (le_refl _) ⟨m,g.2⟩ x
 .exact L.plain (p':=[]) (lt g.1) (eY ops p op).1 (eY ops p op).2.1 ⟨m,g.2⟩ x
 have hn:=lt g.1
 replace g:=g.2
 have L2x:=L.move x2x R2x
 have fsz:=L.fsz hl
 have hp2:p.length<=16777216:=up rfl hp
 have hr2:ops.length<=16777214:=up rfl hr
 by_cases h:c=63
 .subst h
  exact DO P R2x hp2 hr2 (L2x.F.len▸up rfl fsz) λ f j H3 nf nj x3x=>q H3 (L2x.q hn (GK (ik ops p).1 (le_add_right _ _)) (ik ops p).2.2 nf nj ⟨m,g⟩ x3x)
 replace g:=mF (G:=id) (GN h) g
 cases fs with
 | nil =>
  have e:ov=[]:=List.eq_nil_of_length_eq_zero L2x.F.len
  subst e
  exact Dp P h R2x hp2 hr2 (hbad _ g)
 | cons wJ fs =>
 obtain ⟨w,J⟩:=wJ
 refine mL (L.B.hjs _ mem_cons_self) λ jl jc jb=>?_
 have F:=L2x.F
 cases F with
 | snoc F' Fr' nf nk =>
 have ho':=F'.len▸up (c:=16777214) rfl (Nat.le_of_succ_le fsz)
 by_cases h:c=116
 .subst h
  cases w with
  | some j=>exact AL P R2x Fr' hp2 hr2 ho' (hbad _ g)
  | none =>
   exact C5 P R2x Fr' hp2 hr2 ho' λ H3 x3x=>q H3 (L2x.fr (c':=some _) F' nf nk hn (p':=[]) (eY ops p _).1 (eY ops p _).2.1 (λ k hk=>by obtain rfl:=Option.some.inj hk;exact (eY ops p _).2.2) (λ k hk=>nj (jb k hk)) (le_succ _) ⟨m,g⟩ x3x)
 replace g:=mF (G:=id) (GN h) g
 by_cases h:c=101
 .subst h
  cases w with
  | none=>exact AS P R2x Fr' hp2 hr2 ho' (hbad _ g)
  | some j =>
   have hs:∀ {x y:Op},((ops++fl p++[x]).set j y).length=(ops++fl p++[x]).length:=length_set
   have e:∀ n:Nat,(J++[n]).map (λ (i:Nat)=>V.int i)=J.map (λ (i:Nat)=>V.int i)++[.int n]:=λ n=>map_append
   refine CD P (ns:=[]) R2x Fr' (jc _ rfl) hp2 (up rfl hr) ho' (by refine sr (length_map ..) ?_;exact up rfl (GK jl (GK L.ht hl))) λ H3 x3x=>q H3 ?_
   refine L2x.fr (c':=none) (J':=J++[_]) F' nf nk hn (p':=[]) (hs▸(eY ops p _).1) (hs▸(eY ops p _).2.1) (λ k hk=>nomatch hk) (λ k hk=>hs▸?_) (GO▸le_refl _) ⟨m,g⟩ (e _▸x3x)
   rcases mem_append.mp hk with hk|hk
   .exact nj (jb k hk)
   .obtain rfl:=GP hk
    exact (eY ops p _).2.2
 replace g:=mF (G:=id) (GN h) g
 obtain ⟨rfl,g⟩:=g
 exact Ea P R2x Fr' hp2 (up rfl hr) ho' jb (up rfl (GK jl (GK L.ht hl))) jc λ H3 x3x=>q H3 (L2x.s F' nf nk hn (by refine sr (mw ..) ?_;exact GK (ik ops p).1 (le_add_right _ _)) (by rw [mw];exact (ik ops p).2.2) ⟨m,g⟩ x3x)
end
section
variable {S:Sx}{X:Int->Prop}{H:AH}{Q:V->AH->Prop}{r d rl ol tb:Addr}{o:List Nat}
theorem yi {m p:Int}{x y:Nat}{t:Bool}(hm:m=x)(hp:p=y)(h:(!decide (x=y))=t)(Q:Bool->Prop)(q:Q t):cmp .ne (.int m) (.int p) H Q:=by subst hm hp h;show Q (!decide ((x:Int)=y));simpa [Int.ofNat_inj] using q
theorem cy.cons {i ops p fs R c l m}(h:o.drop i=c::l)(run:cy o R (m+1) i ops p fs):cond (decide (c=37)) (mM l/\oA (cy o R m) i ops p fs R (bY l)) (cy o R m (i+1) ops (p++[c]) fs):=by dsimp only [cy] at run;rw [h] at run;exact run
theorem cy.nil {i ops p fs R m}(h:o.drop i=[])(run:cy o R (m+1) i ops p fs):R=PR.fin o ops p fs:=by dsimp only [cy] at run;rw [h] at run;exact run
theorem c7 (P:Pk S){k:Nat}{R:PR}(R0:Rd H r d rl ol tb o 0 [] [] [])(run:aO o 0 [] [] [] R)(hl:o.length<=4000000)(ho:cR o)
  (q:R.on (λ ops=>∀ H' i,bE H r d rl ol tb o i ops [] [] H'->Q (.ref rl) H') X):af S (k+5) true X 7 [.ref r] H Q:=by
 refine P.enter 6 rfl (.inl rfl) rfl (λ _=>rfl) ?_
 walk_at "eI"
 have hl':o.length<=16777216:=GK hl (ac rfl)
 refine f8 (RI H r d rl ol tb o R) (n:=o.length) ⟨0,0,[],[],[],tb,[],[],rfl,zero_le _,⟨le_refl _,le_refl _,le_refl _,λ _ m=>nomatch m⟩,run,rfl,R0,.nil,Mv.refl,.inl rfl,λ _ m=>nomatch m⟩ ?_
 rintro n ls H1 ⟨t,i,ops,p,fs,tb1,ov,as,rfl,ht,B,⟨w,run⟩,rfl,R1x,F,m,ft,hn⟩
 have lt:∀ {b},decide (i<o.length)=b->TV (.cmp .lt (.attr (.var 0) 2) (.bi .len (.cons (.attr (.var 0) 1) .nil))) ⟨af S (k+4),true,X⟩ [some (.ref r)] H1 b:=λ e=>F7 (R1x.ev rfl rfl) (EV.lenB (R1x.ev rfl rfl) hl') (i8 (x:=i) rfl rfl e)
 cases w with
 | zero=>exact run.elim
 | succ w =>
 cases hd:o.drop i with
 | cons c l =>
  refine mL (bq hd) λ e1 e2 e3=>?_
  have hc:=ho c (mem_of_getElem? e2)
  replace run:=run.cons hd
  have L:Pl H r d rl ol tb o R t i i ops p fs tb1 ov as H1:=⟨e3,ht,B,R1x,F,m,ft,hn⟩
  have eq:∀ {b},(!decide (c=37))=b->TV (.cmp .ne (.sub (.attr (.var 0) 1) (.attr (.var 0) 2)) (.glb 0)) ⟨af S (k+4),true,X⟩ [some (.ref r)] H1 b:=λ e=>F7 (F5 (R1x.ev rfl rfl) (R1x.ev rfl rfl) (gQ (x:=i) rfl hl' e2)) EV.glb (yi (x:=c) rfl rfl e)
  refine zZ (lt (GM e3)) ?_
  by_cases h37:c=37
  .subst h37
   exact dN (eq rfl) (aG (R1x.meth rfl (.one (R1x.ev rfl rfl)) (wM P hd hl ho L run.1 run.2 (λ told e=>by subst e;exact q) λ H' x=>x)))
  .have h37:=GN h37
   replace run:=mF (G:=id) h37 run
   refine dX (eq (congrArg (!·) h37)) (aG (iB (R1x.ev rfl rfl) ⟨_,R1x.text⟩ (.one (F5 (R1x.ev rfl rfl) (R1x.ev rfl rfl) (gQ (x:=i) rfl hl' e2))) ⟨p,R1x.text,jg hc,GK (GK (le_add_left _ _) (L.sz hl)) (ac rfl),?_⟩))
   have R2x:=R1x.grow (p++[c])
   refine eX (EV.add (R2x.ev rfl rfl) FZ) (FY rfl) (R2x.setAt (b:=(i+1:Nat)) λ H2x x2x=>?_)
   exact L.plain (lt_succ_self i) (by refine sr GO ?_;exact le_succ _) (le_refl _) ⟨w,run⟩ (bE.then ⟨tb1,R2x,Mv.put (.inr (.inr (.inr rfl))),.inl rfl⟩ R2x x2x)
 | nil =>
  replace run:=run.nil hd
  have sz:=GK B.hops (mul_le_mul_left 2 (GK ht hl))
  refine wZ (lt (GN (not_lt.mpr (drop_eq_nil_iff.mp hd)))) (aG (R1x.meth rfl .nil (c5 P R1x (GK (GK (le_add_left _ _) sz) (ac rfl)) (GK (GK (le_add_right _ _) sz) (ac rfl)) λ H2x x2x=>?_)))
  obtain ⟨tb2,R2x,m2x,f2x⟩:=id x2x
  subst run
  cases fs with
  | nil =>
   obtain rfl:ov=[]:=List.eq_nil_of_length_eq_zero F.len
   exact au (TV.neNil (R2x.ev rfl rfl) (.inl R2x.opn) rfl) (aC (R2x.ev rfl rfl) (q H2x i ⟨tb2,R2x,zB (D:=λ _=>False) m ft (m2x.mono λ a h=>.inl (.inl h)) (λ a h=>h.elim),yV m ft f2x⟩))
  | cons f fs =>
   cases ov with
   | nil=>exact (Nat.succ_ne_zero _ F.len.symm).elim
   | cons v ov=>exact cU (TV.neNil (R2x.ev rfl rfl) (.inl R2x.opn) rfl) (aG (R2x.meth rfl (.one (EV.lenB (R2x.ev rfl rfl) hl')) (c4 P q)))
theorem c3 (P:Pk S){k:Nat}(hi:H r=some (.inst 1 d))(hd:H d=some (.attrs []))(q:∀ H' rl ol tb,Rd H' r d rl ol tb o 0 [] [] []->Mv H H' (λ a=>a=d)->H rl=none->H ol=none->H tb=none->Q .none H'):af S (k+1) true X 3 [.ref r,.bytes o] H Q:=by
 refine P.enter 2 rfl (.inl rfl) rfl (λ _=>rfl) ?_
 have nrd:r≠d:=aw hi hd rfl
 have step {H:AH} {o:AO} (h:H r=some (.inst 1 d)):(H.set d o) r=some (.inst 1 d):=(F4 _ _ nrd).trans h
 have dn {H:AH} {o p:AO} {a:Addr} (h:(H.set d p) a=none):((H.set d p).set a o) d=some p:=aq (F3 _ _ _) h
 have mk {H:AH} {o p:AO} {a:Addr} (h:(H.set d p) a=none):((H.set a o).set d p) a=some o:=(F4 _ _ (aA h).2).trans (F3 _ _ _)
 have on {H:AH} {o p x:AO} {a b:Addr} (e:H a=some o) (h:H b=none) (n:a≠d):((H.set b p).set d x) a=some o:=(F4 _ _ n).trans (aq e h)
 have od {H:AH} {o x:AO} {a:Addr} (e:H a=some o) (n:a≠d):(H.set d x) a=some o:=(F4 _ _ n).trans e
 refine eX (FY rfl) (FY rfl) (bL hi hd rfl (ac rfl) (eX FZ (FY rfl) (bL (step hi) (F3 _ _ _) rfl (ac rfl) ?_)))
 have i2:=step (o:=.attrs (cG (cG [] 1 (.bytes o)) 2 (.int 0))) (step (o:=.attrs (cG [] 1 (.bytes o))) hi)
 refine di (gE AV.nil (ac rfl) λ rl hrl=>FY rfl _ (bL (aq i2 hrl) (dn hrl) rfl (ac rfl) ?_))
 have nrl:=(aA hrl).2
 refine di (rA AV.nil λ tb htb=>FY rfl _ (bL (aq (step (aq i2 hrl)) htb) (dn htb) rfl (ac rfl) ?_))
 have ntb:=(aA htb).2
 refine di (gE AV.nil (ac rfl) λ ol hol=>FY rfl _ (bL (aq (step (aq (step (aq i2 hrl)) htb)) hol) (dn hol) rfl (ac rfl) ?_))
 have nol:=(aA hol).2
 have grl:=od (x:=.attrs (cG (cG (cG (cG [] 1 (.bytes o)) 2 (.int 0)) 3 (.ref rl)) 4 (.ref tb))) (aq (ao:=.barr []) (od (x:=.attrs (cG (cG (cG [] 1 (.bytes o)) 2 (.int 0)) 3 (.ref rl))) (F3 _ rl (.list [])) nrl) htb) nrl
 have n3:=(aA (aA (aA hol).1).1).1
 have n6:=(aA (aA (aA n3).1).1).1
 have n4:=(aA (aA (aA (aA htb).1).1).1).1
 exact q _ rl ol tb ⟨step (aq (step (aq (step (aq i2 hrl)) htb)) hol),F3 _ _ _,⟨[],on grl hol nrl,.nil⟩,on (od (F3 _ _ _) ntb) hol ntb,od (F3 _ _ _) nol,aB grl hol⟩ (((((((((Mv.put (D:=λ a=>a=d) rfl).putR rfl).newR hrl).putR rfl).newR htb).putR rfl).newR hol).putR rfl)) (aA (aA hrl).1).1 n6 n4
theorem ER (P:Pk S){k:Nat}{R:PR}(run:aO o 0 [] [] [] R)(hl:o.length<=4000000)(ho:cR o)
  (q:R.on (λ ops=>∀ H' rl rows,H' rl=some (.list rows)->cr H' rows ops->Mv H H' (λ _=>False)->H rl=none->Q (.ref rl) H') X):af S (k+6) true X 13 [.bytes o] H Q:=by
 refine P.enter 12 rfl (.inl rfl) rfl nofun (a6 λ d a hd ha hne=>c3 P (F3 _ _ _) ((F4 _ _ hne.symm).trans (F3 _ _ _)) λ H1 rl ol tb R1x m1x n1 n2 n3=>⟨rfl,⟨_,_,R1x.inst,R1x.attrs⟩,?_⟩)
 have m0x:Mv H ((H.set d (.attrs [])).set a (.inst 1 d)) (λ _=>False):=(Ga hd).newR (by refine sr (F4 _ _ hne) ?_;exact ha)
 obtain ⟨n1,_⟩:=aA n1
 obtain ⟨n1,_⟩:=aA n1
 obtain ⟨n2,_⟩:=aA n2
 obtain ⟨n2,_⟩:=aA n2
 obtain ⟨n3,_⟩:=aA n3
 obtain ⟨n3,_⟩:=aA n3
 refine c7 P R1x run hl ho ?_
 cases R with
 | bad told=>exact q
 | ok ops =>
  intro H2x i ⟨tb2,R2x,m2x,f2x⟩
  refine aT R2x.rows λ rows h3 h4=>q H2x rl rows h3 h4 ((m0x.trans m1x (D:=λ _=>False) (λ _ h=>h) (λ _ h=>.inr (h▸hd))).trans m2x (D:=λ _=>False) (λ _ h=>h) λ b h=>?_) n1
  rcases h with rfl|rfl|rfl|rfl
  .exact .inr hd
  .exact .inr n1
  .exact .inr n2
  .exact .inr n3
end
noncomputable def dA (b n:Nat):List Nat:=if h:n<b\/b<2 then [n] else dA b (n / b)++[n % b]
termination_by n
decreasing_by exact div_lt_self (by omega) (by omega)
theorem bJ {b n:Nat}(h:n<b):dA b n=[n]:=by rewrite [dA];exact sr (dif_pos (.inl h)) rfl
theorem d7 {b n:Nat}(h:b<=n)(h2:2<=b):dA b n=dA b (n / b)++[n % b]:=by rewrite [dA];exact sr (dif_neg (by lia)) rfl
noncomputable def sg (g:Bool)(d:Nat):Nat:=if d<10 then 48+d else (if g then 55 else 87)+d
noncomputable def aE (g:Bool)(b n:Nat):List Nat:=(dA b n).map (sg g)
theorem kU {b:Nat}(hb:2<=b):∀ (k n:Nat),n<b ^ (k+1)->(dA b n).length<=k+1
 | 0,n,h=>by refine sr (bJ (by simpa using h)) ?_;simp
 | k+1,n,h=>by
  by_cases hn:n<b
  .refine sr (bJ hn) ?_;simp
  .refine sr (d7 (by lia) hb) ?_
   have:=kU hb k (n / b) (by rewrite [Nat.div_lt_iff_lt_mul (by lia)];refine sl (Nat.pow_succ ..) ?_;exact h)
   simp;lia
theorem iA {b:Nat}(hb:2<=b)(n:Nat):∀ d∈dA b n,d<b:=by
 induction n using strongRecOn with
 | ind n ih =>
  by_cases hn:n<b
  .refine sr (bJ hn) ?_;intro d m;simp at m;lia
  .refine sr (d7 (by lia) hb) ?_
   intro d m
   rcases mem_append.mp m with m|m
   .exact ih _ (div_lt_self (by lia) (by lia)) d m
   .simp at m;exact sr m (mod_lt _ (by lia))
section
variable {S:Sx}{X:Int->Prop}{H:AH}{Q:V->AH->Prop}
noncomputable def lM (g:Bool):List Nat:=if g then [48,49,50,51,52,53,54,55,56,57,65,66,67,68,69,70] else [48,49,50,51,52,53,54,55,56,57,97,98,99,100,101,102]
theorem oY {g:Bool}{d:Nat}(h:d<16):(lM g)[d]?=some (sg g d):=by
 have h1:∀ d<16,(lM true)[d]?=some (sg true d):=by decide
 have h2:∀ d<16,(lM false)[d]?=some (sg false d):=by decide
 cases g
 .exact h2 d h
 .exact h1 d h
theorem qV {g:Bool}{d:Nat}(h:d<16):sg g d<256:=by
 have h1:∀ d<16,sg true d<256:=by decide
 have h2:∀ d<16,sg false d<256:=by decide
 cases g
 .exact h2 d h
 .exact h1 d h
theorem tE (b n:Nat):1<=(dA b n).length:=by
 rw [dA]
 split
 .exact le_refl _
 .exact sr GO (le_add_left _ _)
noncomputable def qe (b:Nat)(g:Bool)(l:Nat)(f:List Nat):List Nat:=cond (decide (0<l)||f.isEmpty) ((dA b l).map (sg g)) []++f.reverse
theorem mG {b l:Nat}{g:Bool}(hb:2<=b):cond (decide (0<l / b)) ((dA b (l / b)).map (sg g)) []++[sg g (l % b)]=(dA b l).map (sg g):=by
 induction Nat.lt_or_ge l b with
 | inl hs=>refine sr (Nat.div_eq_of_lt hs) (sr (Nat.mod_eq_of_lt hs) (sr (bJ hs) ?_));rfl
 | inr hs=>refine sr (GM (Nat.div_pos hs (lt_of_lt_of_le Nat.zero_lt_two hb))) (sr (d7 hs hb) (sr map_append ?_));rfl
theorem rL {b l:Nat}{g:Bool}{f:List Nat}(hb:2<=b)(h:(decide (0<l)||f.isEmpty)=true):qe b g (l / b) (f++[sg g (l % b)])=qe b g l f:=by
 have e:(f++[sg g (l % b)]).isEmpty=false:=by cases f<;>rfl
 unfold qe
 exact sr (h ..) (sr (e ..) (sr (Bool.or_false ..) (sr (List.reverse_append ..) (sl (append_assoc ..) (congrArg (·++f.reverse) (mG hb))))))
theorem TV.or {C:Cw}{ls:Ls}{ta tb:T}{t1x t2x:Bool}(h:TV ta C ls H t1x)(g:TV tb C ls H t2x):TV (.or ta tb) C ls H (t1x||t2x):=by
 cases t1x
 .exact Go h g
 .exact Gn h
theorem vQ {a b:Nat}{H:AH}(hb:b≠0)(Q:V->AH->Prop)(q:Q (.int (a % b:Nat)) H):kE .mod (.int a) (.int b) H Q:=⟨λ e=>hb (Int.ofNat.inj e),(fmod_eq_emod_of_nonneg (a:Int) (natCast_nonneg b)).symm▸q⟩
theorem BL {a b:Nat}{H:AH}(hb:b≠0)(hb2:b<1073741824)(Q:V->AH->Prop)(q:Q (.int (a / b:Nat)) H):kE .fdiv (.int a) (.int b) H Q:=⟨⟨λ e=>hb (Int.ofNat.inj e),hb2⟩,(Int.fdiv_eq_ediv_of_nonneg (a:Int) (natCast_nonneg b)).symm▸q⟩
theorem Et (P:Pk S){k:Nat}{n b:Nat}{g:Bool}(hb:2<=b)(hb2:b<=16)(hl:(dA b n).length<=1000)(q:∀ H',Mv H H' (λ _=>False)->Q (.bytes (aE g b n)) H'):af S (k+1) true X 14 [.int n,.int b,.bool g] H Q:=by
 refine P.enter 13 rfl (.inl rfl) rfl (λ _=>rfl) ?_
 walk_at "eI"
 have b0:b≠0:=λ e=>by subst e;contradiction
 refine aM (v:=.bytes (lM g)) (by
  cases g
  .exact Gr (TV.val (FY rfl) λ _ q=>q) F8
  .exact Gq (TV.val (FY rfl) λ _ q=>q) F8) (bj (rA .nil λ a ha=>aM (FY rfl) ?_))
 refine f8 (λ z ls H'=>∃ (l:Nat) (f:List Nat),z=l+cond f.isEmpty 1 0/\ls=[some (.int n),some (.int b),some (.bool g),some (.bytes (lM g)),some (.ref a),some (.int l)]/\qe b g l f=aE g b n/\H' a=some (.barr f)/\Mv H H' (λ _=>False)) (n:=n+1) ⟨n,[],rfl,rfl,by unfold qe;refine sr (List.isEmpty_nil ..) (sr (Bool.or_true ..) ?_);exact append_nil _,F3 _ _ _,Ga ha⟩ ?_
 rintro z ls H1 ⟨l,f,rfl,rfl,hD,h1,m⟩
 have hf:f.length<=1000:=by
  refine GK ?_ hl
  have e:=congrArg List.length hD
  unfold qe aE at e
  rw [GO,length_reverse,length_map] at e
  exact e▸le_add_left _ _
 have test:∀ {t},(decide (0<l)||f.isEmpty)=t->TV (.or (.cmp .gt (.var 5) (.int 0)) (.cmp .eq (.bi .lenB (.cons (.var 4) .nil)) (.int 0))) ⟨af S k,true,X⟩ [some (.int n),some (.int b),some (.bool g),some (.bytes (lM g)),some (.ref a),some (.int l)] H1 t:=λ e=>by
  subst e
  exact TV.or (F7 (FY rfl) FZ (fm (x:=l) (y:=0) rfl rfl rfl)) (F7 (Gu (FY rfl) h1 (GK hf (ac rfl))) FZ (fQ (x:=f.length) (y:=0) rfl rfl (by cases f<;>rfl)))
 induction ht:(decide (0<l)||f.isEmpty) with
 | true =>
  have hlt:l % b<16:=lt_of_lt_of_le (mod_lt _ (Nat.pos_of_ne_zero b0)) hb2
  refine zZ (test ht) (aG (iB (FY rfl) ⟨_,h1⟩ (.one (F5 (FY rfl) (F6 (FY rfl) (FY rfl) (vQ b0)) (gQ rfl (by cases g<;>exact ac rfl) (oY hlt)))) ⟨f,h1,jg (qV hlt),GK hf (ac rfl),aM (F6 (FY rfl) (FY rfl) (BL b0 (lt_of_le_of_lt hb2 (ac rfl)))) ?_⟩))
  have e:(f++[sg g (l % b)]).isEmpty=false:=by cases f<;>rfl
  refine ⟨l / b+0,?_,l / b,f++[sg g (l % b)],by refine sr e ?_;rfl,rfl,(rL hb ht).trans hD,F3 _ _ _,(m.trans (Mv.put (D:=λ x=>x=a) rfl) (λ _ h=>h) λ c h=>.inr (h▸ha))⟩
  induction l with
  | zero =>
   rw [GN (Nat.lt_irrefl 0),Bool.false_or] at ht
   exact sr (ht ..) (sr (Nat.zero_div ..) Nat.zero_lt_one)
  | succ l=>exact lt_of_lt_of_le (div_lt_self (succ_pos l) hb) (le_add_right _ _)
 | false =>
  unfold qe at hD
  rw [ht] at hD
  refine wZ (test ht) (a6 (uD (bI ?_)))
  exact ⟨f,h1,GK hf (ac rfl),λ c hc=>⟨f.reverse,F3 _ _ _,by refine sr length_reverse ?_;exact GK hf (ac rfl),(show aE g b n=f.reverse from hD.symm)▸q _ (m.newR hc)⟩⟩
end
noncomputable def bH (head body flags:List Nat)(width:Int)(hp:Bool):List Nat :=
 match decide (width-head.length-body.length<=0) with
 | true=>head++body
 | false=>match flags.contains 45 with
  | true=>head++body++dw (width-head.length-body.length) [32]
  | false=>match flags.contains 48&&!hp with
   | true=>head++dw (width-head.length-body.length) [48]++body
   | false=>dw (width-head.length-body.length) [32]++head++body
theorem gh (n:Int)(c:Nat):(dw n [c]).length=n.toNat:=by
 unfold dw;simp
noncomputable def eP (v:Int):Int:=match decide (v<0) with|true=>v.fmod 4294967296|false=>v
set_option tactic.hygienic true in
theorem qB (v:Int):0<=eP v:=by
 unfold eP
 split
 .exact sr (fmod_eq_emod_of_nonneg _ (by lia)) (Int.emod_nonneg _ (by lia))
 .rename_i h;simp at h;exact h
noncomputable def dP (letter:Nat)(flags:List Nat)(v:Int):List Nat:=match decide (letter=100) with
 | true=>match decide (v<0) with
  | true=>[45]
  | false=>match flags.contains 43 with
   | true=>[43]
   | false=>match flags.contains 32 with
    | true=>[32]
    | false=>[]
 | false=>[]
noncomputable def gH (letter:Nat)(v:Int):List Nat:=match decide (letter=100) with
 | true=>aE false 10 v.natAbs
 | false=>aE (decide (letter=88)) (if letter=111 then 8 else 16) (eP v).toNat
noncomputable def gw (prec:Option Int)(v:Int)(body:List Nat):List Nat:=match prec with
 | none=>body
 | some p=>match decide (p=0)&&decide (v=0) with
  | true=>dw (p-(0:Nat)) [48]++[]
  | false=>dw (p-body.length) [48]++body
noncomputable def bz (letter:Nat)(flags:List Nat)(width:Int)(prec:Option Int)(v:Int):List Nat :=
 bH (dP letter flags v) (gw prec v (gH letter v)) flags width prec.isSome
section
variable {S:Sx}{X:Int->Prop}{β:Bool}{H:AH}{Q:V->AH->Prop}{C:Cw}{ls:Ls}
theorem cW {j c:Nat}{l:List Nat}{t:Bool}(hv:lget ls j=some (.bytes l))(h:l.contains c=t):TV (.cmp .isin (.bytes [c]) (.var j)) C ls H t:=F7 F8 (FY hv) λ Q q=>⟨c,rfl,h.symm▸q⟩
theorem Cz {m p:Int}{t:Bool}(h:decide (m<=p)=t)(Q:Bool->Prop)(q:Q t):cmp .le (.int m) (.int p) H Q:=by subst h;exact q
theorem Gv {e:E}{z:Int}{c:Nat}(he:EV e C ls H (.int z))(hz:-1048576<=z/\z<=1048576):EV (.bin .mul (.bytes [c]) e) C ls H (.bytes (dw z [c])):=F6 F8 he λ Q q=>⟨⟨List.cons_ne_nil _ _,ac rfl,hz⟩,q⟩
theorem Gw {e i:E}{x y:List Nat}(he:EV e C ls H (.bytes x))(hi:EV i C ls H (.bytes y))(h:x.length+y.length<=16777216):EV (.bin .add e i) C ls H (.bytes (x++y)):=F6 he hi λ Q q=>⟨h,q⟩
theorem TV.and {ta tb:T}{t1x t2x:Bool}(h:TV ta C ls H t1x)(g:TV tb C ls H t2x):TV (.and ta tb) C ls H (t1x&&t2x):=by
 cases t1x
 .exact Gm h
 .exact Gl h g
theorem EH (P:Pk S){k:Nat}{head body flags:List Nat}{width:Int}{hp:Bool}(h1:head.length<=1000)(h2:body.length<=100000)(h3:flags.length<=1000)(h4:-100000<=width/\width<=100000)(q:Q (.bytes (bH head body flags width hp)) H):af S (k+1) β X 15 [.bytes head,.bytes body,.bytes flags,.int width,.bool hp] H Q:=by
 refine P.enter 14 rfl (.inl rfl) rfl nofun ?_
 walk_at "eI"
 have lz:∀ {a b c:Nat},ble b c=true->a<=b->a<=c:=λ h g=>GK g (ac h)
 refine aM (EV.min (EV.min (FY rfl) (EV.lenB (FY rfl) (lz rfl h1))) (EV.lenB (FY rfl) (lz rfl h2))) ?_
 unfold bH at q
 have hz:-1048576<=width-head.length-body.length/\width-head.length-body.length<=1048576:=by lia
 have hr:∀ c:Nat,(dw (width-head.length-body.length) [c]).length<=100000:=λ c=>by refine sr (gh ..) ?_;lia
 have hl:head.length+body.length<=101000:=add_le_add h1 h2
 generalize width-head.length-body.length=z at q hz hr
 induction hm:decide (z<=0) with
 | true=>rw [hm] at q;exact cU (F7 (FY rfl) FZ (Cz hm)) (aC (Gw (FY rfl) (FY rfl) (lz rfl hl)) q)
 | false =>
 rw [hm] at q
 refine au (F7 (FY rfl) FZ (Cz hm)) ?_
 induction h45:flags.contains 45 with
 | true=>rw [h45] at q;exact cU (cW rfl h45) (aC (Gw (Gw (FY rfl) (FY rfl) (lz rfl hl)) (Gv (FY rfl) hz) (by refine sr GO ?_;exact lz rfl (add_le_add hl (hr 32)))) q)
 | false =>
 rw [h45] at q
 refine au (cW rfl h45) ?_
 have two:TV (.and (.cmp .isin (.bytes [48]) (.var 2)) (.not (.val (.var 4)))) ⟨af S k,β,X⟩ [some (.bytes head),some (.bytes body),some (.bytes flags),some (.int width),some (.bool hp),some (.int z)] H (flags.contains 48&&!hp):=TV.and (cW rfl rfl) (TV.not (TV.val (FY rfl) λ _ q=>q))
 induction h48:(flags.contains 48&&!hp) with
 | true=>rw [h48] at q two;exact cU two (aC (Gw (Gw (FY rfl) (Gv (FY rfl) hz) (lz rfl (add_le_add h1 (hr 48)))) (FY rfl) (by refine sr GO ?_;exact lz rfl (add_le_add (add_le_add h1 (hr 48)) h2))) q)
 | false=>rw [h48] at q two;exact au two (aC (Gw (Gw (Gv (FY rfl) hz) (FY rfl) (lz rfl (add_le_add (hr 32) h1))) (FY rfl) (by refine sr GO ?_;exact lz rfl (add_le_add (add_le_add (hr 32) h1) h2))) q)
theorem DJ (P:Pk S){k:Nat}{flags l:List Nat}{width:Int}(h2:l.length<=100000)(h4:-100000<=width/\width<=100000)(q:Q (.bytes (bH [] l (if flags.contains 45 then [45] else []) width true)) H):af S (k+2) β X 16 [.int (115:Nat),.bytes flags,.int width,.none,.bytes l] H Q:=by
 refine P.enter 15 rfl (.inl rfl) rfl nofun ?_
 walk_at "eI"
 have e:EV (.ite (.cmp .isin (.bytes [45]) (.var 1)) (.bytes [45]) (.bytes [])) ⟨af S (k+1),β,X⟩ [some (.int (115:Nat)),some (.bytes flags),some (.int width),some .none,some (.bytes l),some (.bytes l),none,none] H (.bytes (if flags.contains 45 then [45] else [])):=by
  induction h:flags.contains 45 with
  | true=>exact Gq (cW rfl h) F8
  | false=>exact Gr (cW rfl h) F8
 exact cU (a9 (x:=115) rfl rfl) (aM (Gq (TV.isN (FY rfl) rfl) (FY rfl)) (a6 (ax (.cons F8 (.cons (FY rfl) (.cons e (.cons (FY rfl) (.one EV.bool))))) (EH P (ac rfl) h2 (by cases flags.contains 45<;>exact ac rfl) h4 q))))
end
theorem mQ {v:Int}(hv:v.natAbs<2 ^ 40):(eP v).toNat<2 ^ 40:=by
 unfold eP
 split
 .refine sr (fmod_eq_emod_of_nonneg _ (by decide)) ?_
  have:=Int.emod_lt_of_pos v (show (0:Int)<4294967296 by decide)
  lia
 .lia
theorem cM {b n:Nat}{g:Bool}(hb:8<=b)(h:n<2 ^ 40):(aE g b n).length<=40:=by
 unfold aE
 exact sr (length_map ..) (kU (GK (ac rfl) hb) 39 _ (lt_of_lt_of_le h (GK (by decide:2 ^ 40<=8 ^ 40) (Nat.pow_le_pow_left hb 40))))
section
variable {S:Sx}{X:Int->Prop}{H:AH}{Q:V->AH->Prop}
theorem gM {b n:Nat}(hb:8<=b)(h:n<2 ^ 40):(dA b n).length<=1000:=by
 have e:=cM (g:=true) hb h
 unfold aE at e
 rw [length_map] at e
 exact GK e (ac rfl)
theorem sq (P:Pk S){k:Nat}{letter:Nat}{flags head body:List Nat}{width v:Int}{prec:Option Int}{x7:Option V}(h1:head.length<=1000)(h2:body.length<=1000)(h3:flags.length<=1000)(h4:-100000<=width/\width<=100000)(hp:∀ p∈prec,-1000<=p/\p<=1000){N:Ls->AH->Prop}
  (q:Q (.bytes (bH head (gw prec v body) flags width prec.isSome)) H) :
  xs w4 ⟨af S (k+1),true,X⟩ [some (.int letter),some (.bytes flags),some (.int width),some (hM prec),some (.int v),some (.bytes body),some (.bytes head),x7] H N Q:=by
 have ret:∀ {b:Bool} {body':List Nat},(!isNone (hM prec))=b->body'.length<=100000->Q (.bytes (bH head body' flags width b)) H->xs (.ret (.call 15 (.cons (.var 6) (.cons (.var 5) (.cons (.var 1) (.cons (.var 2) (.cons (.notN (.var 3)) .nil))))))) ⟨af S (k+1),true,X⟩ [some (.int letter),some (.bytes flags),some (.int width),some (hM prec),some (.int v),some (.bytes body'),some (.bytes head),x7] H N Q:=λ e hl q=>by
  subst e
  exact a6 (ax (.cons (FY rfl) (.cons (FY rfl) (.cons (FY rfl) (.cons (FY rfl) (.one λ _ q=>q))))) (EH P h1 hl h3 h4 q))
 induction prec with
 | none=>exact au (TV.notN (FY rfl) rfl) (ret rfl (GK h2 (ac rfl)) q)
 | some p =>
  obtain ⟨p1,p2⟩:=hp p rfl
  refine cU (TV.notN (FY rfl) rfl) ?_
  unfold gw at q
  dsimp only at q
  have tst:TV (.and (.cmp .eq (.var 3) (.int 0)) (.cmp .eq (.var 4) (.int 0))) ⟨af S (k+1),true,X⟩ [some (.int letter),some (.bytes flags),some (.int width),some (hM (some p)),some (.int v),some (.bytes body),some (.bytes head),x7] H (decide (p=0)&&decide (v=0)):=TV.and (F7 (FY rfl) FZ (vq rfl)) (F7 (FY rfl) FZ (vq rfl))
  have fill:∀ {l:List Nat},l.length<=1000->Q (.bytes (bH head (dw (p-l.length) [48]++l) flags width true)) H->xs (.set 5 (.bin .add (.bin .mul (.bytes [48]) (.bin .sub (.var 3) (.bi .len (.cons (.var 5) .nil)))) (.var 5)) .done) ⟨af S (k+1),true,X⟩ [some (.int letter),some (.bytes flags),some (.int width),some (hM (some p)),some (.int v),some (.bytes l),some (.bytes head),x7] H (λ ls' H'=>xs (.ret (.call 15 (.cons (.var 6) (.cons (.var 5) (.cons (.var 1) (.cons (.var 2) (.cons (.notN (.var 3)) .nil))))))) ⟨af S (k+1),true,X⟩ ls' H' N Q) Q:=λ {l} h2 q=>by
   have hz:-1048576<=p-l.length/\p-l.length<=1048576:=by lia
   have hr:(dw (p-l.length) [48]).length<=1000:=by refine sr (gh ..) ?_;lia
   have hl:(dw (p-l.length) [48]).length+l.length<=2000:=add_le_add hr h2
   exact aM (Gw (Gv (EV.min (FY rfl) (EV.lenB (FY rfl) (GK h2 (ac rfl)))) hz) (FY rfl) (GK hl (ac rfl))) (ret rfl (by refine sr GO ?_;exact GK hl (ac rfl)) q)
  induction hb:(decide (p=0)&&decide (v=0)) with
  | true=>rw [hb] at q tst;exact cU tst (aM F8 (fill (ac rfl) q))
  | false=>rw [hb] at q tst;exact au tst (fill h2 q)
theorem Dx (P:Pk S){k:Nat}{letter:Nat}{flags:List Nat}{width v:Int}{prec:Option Int}(hl:letter=100\/letter=111\/letter=120\/letter=88)(hf:flags.contains 35=false)(h3:flags.length<=1000)(h4:-100000<=width/\width<=100000)(hp:∀ p∈prec,-1000<=p/\p<=1000)
  (hv:v.natAbs<2 ^ 40) (q:∀ H',Mv H H' (λ _=>False)->Q (.bytes (bz letter flags width prec v)) H'):af S (k+2) true X 16 [.int letter,.bytes flags,.int width,hM prec,.int v] H Q:=by
 refine P.enter 15 rfl (.inl rfl) rfl nofun ?_
 walk_at "eI"
 have h115:letter≠115:=by rintro rfl;rcases hl with h|h|h|h<;>contradiction
 refine au (a9 (x:=letter) rfl (GN h115)) (aM F8 ?_)
 unfold bz dP gH at q
 induction h100:decide (letter=100) with
 | true =>
  rw [h100] at q
  refine cU (a9 (x:=letter) rfl h100) (bj (ax (.cons (EV.bi (b:=.abs) (v:=.int v.natAbs) (.one (FY rfl)) λ _ q=>q) (.cons FZ (.one EV.bool))) (Et P (n:=v.natAbs) (b:=10) (g:=false) (ac rfl) (ac rfl) (gM (ac rfl) hv) λ H1 m=>?_)))
  have fl:=GK (cM (g:=false) (b:=10) (ac rfl) hv) (show 40<=1000 from ac rfl)
  replace q:=q H1 m
  induction hv0:decide (v<0) with
  | true=>rw [hv0] at q;exact dX (F7 (FY rfl) FZ (u0 hv0)) (aM F8 (sq P (ac rfl) fl h3 h4 hp q))
  | false =>
  rw [hv0] at q
  refine dN (F7 (FY rfl) FZ (u0 hv0)) ?_
  induction h43:flags.contains 43 with
  | true=>rw [h43] at q;exact dX (cW rfl h43) (aM F8 (sq P (ac rfl) fl h3 h4 hp q))
  | false =>
  rw [h43] at q
  refine dN (cW rfl h43) ?_
  induction h32:flags.contains 32 with
  | true=>rw [h32] at q;exact dX (cW rfl h32) (aM F8 (sq P (ac rfl) fl h3 h4 hp q))
  | false=>rw [h32] at q;exact dN (cW rfl h32) (sq P (ac rfl) fl h3 h4 hp q)
 | false =>
  rw [h100] at q
  refine Af (a9 (x:=letter) rfl h100) ?_
  have num:EV (.ite (.cmp .lt (.var 4) (.int 0)) (.bin .mod (.var 4) (.glb 1)) (.var 4)) ⟨af S (k+1),true,X⟩ [some (.int letter),some (.bytes flags),some (.int width),some (hM prec),some (.int v),none,some (.bytes []),none] H (.int (eP v).toNat):=by
   refine sr (toNat_of_nonneg (qB v)) ?_
   unfold eP
   induction hv0:decide (v<0) with
   | true=>exact Gq (F7 (FY rfl) FZ (u0 hv0)) (F6 (FY rfl) EV.glb λ Q q=>⟨by decide,q⟩)
   | false=>exact Gr (F7 (FY rfl) FZ (u0 hv0)) (FY rfl)
  refine aM num ?_
  have hn:=mQ hv
  generalize (eP v).toNat=n at q hn
  have is:∀ {c:Nat} {b:Bool} {x5:Option V} {H1:AH},decide (letter=c)=b->TV (.cmp .eq (.var 0) (.sub (.bytes [c]) (.int 0))) ⟨af S (k+1),true,X⟩ [some (.int letter),some (.bytes flags),some (.int width),some (hM prec),some (.int v),x5,some (.bytes []),some (.int n)] H1 b:=λ e=>a9 (x:=letter) rfl e
  have base:EV (.ite (.cmp .eq (.var 0) (.sub (.bytes [111]) (.int 0))) (.int 8) (.int 16)) ⟨af S (k+1),true,X⟩ [some (.int letter),some (.bytes flags),some (.int width),some (hM prec),some (.int v),none,some (.bytes []),some (.int n)] H (.int ((if letter=111 then 8 else 16:Nat):Int)):=by
   by_cases h8:letter=111
   .exact sr (if_pos h8) (Gq (is (GM h8)) FZ)
   .exact sr (if_neg h8) (Gr (is (GN h8)) FZ)
  have great:EV (.cmp .eq (.var 0) (.sub (.bytes [88]) (.int 0))) ⟨af S (k+1),true,X⟩ [some (.int letter),some (.bytes flags),some (.int width),some (hM prec),some (.int v),none,some (.bytes []),some (.int n)] H (.bool (decide (letter=88))):=EV.cmp (FY rfl) (F5 F8 FZ (gQ (x:=0) rfl (ac rfl) rfl)) (fQ (x:=letter) (y:=88) rfl rfl rfl)
  have hb:8<=(if letter=111 then 8 else 16)/\(if letter=111 then 8 else 16)<=16:=by by_cases h8:letter=111<;>(first|refine sr (if_pos h8) ?_|refine sr (if_neg h8) ?_)<;>exact ⟨ac rfl,ac rfl⟩
  generalize (if letter=111 then 8 else 16)=b at q base hb
  exact bj (ax (.cons (FY rfl) (.cons base (.one great))) (Et P (GK (ac rfl) hb.1) hb.2 (gM hb.1 hn) λ H1 m=>dN (Gm (cW rfl hf)) (sq P (ac rfl) (GK (cM hb.1 hn) (ac rfl)) h3 h4 hp (q H1 m))))
end
noncomputable def num:V->Int
 | .int i=>i
 | _=>0
noncomputable def oct:V->List Nat
 | .bytes l=>l
 | _=>[]
inductive eL:V->Prop where
 | int (i:Int):eL (.int i)
 | bytes (l:List Nat):eL (.bytes l)
structure Sk (H:AH) (sk ds sl:Addr) (stk:List V):Prop where
 inst:H sk=some (.inst 2 ds)
 attrs:H ds=some (.attrs [(6,.ref sl)])
 list:H sl=some (.list stk.reverse)
section
variable {S:Sx}{X:Int->Prop}{β:Bool}{H:AH}{Q:V->AH->Prop}{sk ds sl:Addr}{stk:List V}
theorem ml {H:AH}{a b:Addr}{x ao:AO}(e:H a=some x)(h:H b=none):(H.set b ao) a=some x:=aq e h
theorem Sk.ev {C:Cw}{ls:Ls}{j:Nat}(K:Sk H sk ds sl stk)(hv:lget ls j=some (.ref sk)):EV (.attr (.var j) 6) C ls H (.ref sl):=EV.attr (FY hv) λ _ q=>gU K.inst K.attrs rfl rfl q
theorem E1 (P:Pk S){k:Nat}(hi:H sk=some (.inst 2 ds))(hd:H ds=some (.attrs []))(q:∀ sl,H sl=none->Q .none ((H.set sl (.list [])).set ds (.attrs [(6,.ref sl)]))):af S (k+1) β X 17 [.ref sk] H Q:=by
 refine P.enter 16 rfl (.inl rfl) rfl nofun ?_
 walk_at "eI"
 exact di (gE .nil (ac rfl) λ sl hs=>FY rfl _ (bL (c:=2) (d:=ds) (es:=[]) (ml hi hs) (ml hd hs) rfl (ac rfl) (q sl hs)))
theorem xo (P:Pk S){k:Nat}{v:V}(K:Sk H sk ds sl stk)(hl:stk.length<=16777216)(q:Q .none (H.set sl (.list (v::stk).reverse))):af S (k+1) β X 18 [.ref sk,v] H Q:=by
 refine P.enter 17 rfl (.inl rfl) rfl nofun ?_
 walk_at "eI"
 exact aG (iB (K.ev rfl) ⟨_,K.list⟩ (.one (FY rfl)) ⟨_,K.list,by refine sr length_reverse ?_;exact hl,reverse_cons▸q⟩)
noncomputable def bO:List V->V
 | []=>.int 0
 | v::_=>v
theorem CN (P:Pk S){k:Nat}(K:Sk H sk ds sl stk)(hl:stk.length<=16777215)(q:∀ H',(stk=[]/\H'=H\/stk≠[]/\H'=H.set sl (.list stk.tail.reverse))->Q (bO stk) H'):af S (k+1) β X 19 [.ref sk] H Q:=by
 refine P.enter 18 rfl (.inl rfl) rfl nofun ?_
 walk_at "eI"
 induction stk with
 | nil=>exact a6 (gb (TV.eqNil (K.ev rfl) (.inl K.list) rfl) (q H (.inl ⟨rfl,rfl⟩)))
 | cons v r =>
  have e:=K.list
  rw [reverse_cons] at e
  exact a6 (ix (TV.eqNil (K.ev rfl) (.inl e) (by cases r.reverse<;>rfl)) (iB (K.ev rfl) ⟨_,e⟩ .nil ⟨r.reverse,v,e,by refine sr length_reverse ?_;exact Nat.le_of_succ_le hl,q _ (.inr ⟨nofun,rfl⟩)⟩))
theorem Sk.popped {H':AH}(K:Sk H sk ds sl stk)(h:stk=[]/\H'=H\/stk≠[]/\H'=H.set sl (.list stk.tail.reverse)):Sk H' sk ds sl stk.tail/\Mv H H' (λ a=>a=sl):=by
 rcases h with ⟨rfl,rfl⟩|⟨_,rfl⟩
 .exact ⟨K,Mv.refl⟩
 .exact ⟨⟨by refine sr (F4 _ _ (aw K.inst K.list rfl)) ?_;exact K.inst,by refine sr (F4 _ _ (aw K.attrs K.list rfl)) ?_;exact K.attrs,F3 _ _ _⟩,Mv.put rfl⟩
theorem qF (hv:∀ v∈stk,eL v):eL (bO stk):=by
 induction stk with
 | nil=>exact .int 0
 | cons v r=>exact hv v mem_cons_self
theorem Ar (P:Pk S){k:Nat}(K:Sk H sk ds sl stk)(hl:stk.length<=16777215)(hv:∀ v∈stk,eL v)(q:∀ H',(stk=[]/\H'=H\/stk≠[]/\H'=H.set sl (.list stk.tail.reverse))->Q (.int (num (bO stk))) H'):af S (k+2) β X 20 [.ref sk] H Q:=by
 refine P.enter 19 rfl (.inl rfl) rfl nofun ?_
 walk_at "eI"
 refine bj (gZ (FY rfl) ⟨_,_,K.inst,K.attrs⟩ .nil (CN P K hl λ H' h=>?_))
 have q:=q H' h
 have hp:=qF hv
 generalize bO stk=v at q hp
 induction hp with
 | int i=>exact aC (Gq (λ _ q=>q) (FY rfl)) q
 | bytes l=>exact aC (Gr (λ _ q=>q) FZ) q
theorem Er (P:Pk S){k:Nat}(K:Sk H sk ds sl stk)(hl:stk.length<=16777215)(hv:∀ v∈stk,eL v)(q:∀ H',(stk=[]/\H'=H\/stk≠[]/\H'=H.set sl (.list stk.tail.reverse))->Q (.bytes (oct (bO stk))) H'):af S (k+2) β X 21 [.ref sk] H Q:=by
 refine P.enter 20 rfl (.inl rfl) rfl nofun ?_
 walk_at "eI"
 refine bj (gZ (FY rfl) ⟨_,_,K.inst,K.attrs⟩ .nil (CN P K hl λ H' h=>?_))
 have q:=q H' h
 have hp:=qF hv
 generalize bO stk=v at q hp
 induction hp with
 | int i=>exact aC (Gr (λ _ q=>q) F8) q
 | bytes l=>exact aC (Gq (λ _ q=>q) (FY rfl)) q
noncomputable def qI (a b:Int):Int:=match decide (b=0) with
 | true=>0
 | false=>match decide (a<0)==decide (b<0) with
  | true=>(a.natAbs / b.natAbs:Nat)
  | false=>-(a.natAbs / b.natAbs:Nat)
noncomputable def two (c:Nat)(a b:Int):Int :=
 if c=43 then a+b else if c=45 then a-b else if c=42 then a*b else if c=47 then qI a b else if c=109 then (if b=0 then 0 else a-b*qI a b) else
 if c=38 then Builtin.bitAnd a b else if c=124 then Builtin.bitOr a b else if c=94 then Builtin.bitXor a b else
 if c=61 then (if a=b then 1 else 0) else if c=62 then (if b<a then 1 else 0) else if c=60 then (if a<b then 1 else 0) else
 if c=65 then (if a≠0/\b≠0 then 1 else 0) else (if a≠0\/b≠0 then 1 else 0)
def Sm (a:Int):Prop:=a.natAbs<1073741824
theorem oN (a b:Int):((a.natAbs:Int)).fdiv (b.natAbs:Int)=(a.natAbs / b.natAbs:Nat):=Int.fdiv_eq_ediv_of_nonneg _ (natCast_nonneg _)
theorem sP (a b:Int):(qI a b).natAbs<=a.natAbs:=by
 have:=Nat.div_le_self a.natAbs b.natAbs
 unfold qI
 generalize a.natAbs / b.natAbs=z at *
 split
 .exact zero_le _
 .split
  .exact this
  .exact sr (Int.natAbs_neg ..) this
theorem Gx {C:Cw}{ls:Ls}{e i:E}{s t:Bool}(h:EV e C ls H (.bool s))(g:EV i C ls H (.bool t)):TV (.cmp .eq e i) C ls H (s==t):=F7 h g λ _ q=>q
theorem En (P:Pk S){k:Nat}{a b:Int}(hb:Sm b)(q:Q (.int (qI a b)) H):af S (k+1) β X 22 [.int a,.int b] H Q:=by
 refine P.enter 21 rfl (.inl rfl) rfl nofun ?_
 walk_at "eI"
 unfold qI at q
 induction h:decide (b=0) with
 | true=>rw [h] at q;exact cU (F7 (FY rfl) FZ (vq h)) (aC FZ q)
 | false =>
 rw [h] at q
 refine au (F7 (FY rfl) FZ (vq h)) (aM (v:=.int (a.natAbs / b.natAbs:Nat)) (F6 (u:=.int a.natAbs) (w:=.int b.natAbs) (EV.bi (b:=.abs) (.one (FY rfl)) λ _ q=>q) (EV.bi (b:=.abs) (.one (FY rfl)) λ _ q=>q) λ Q q=>⟨⟨λ e=>of_decide_eq_false h (Int.natAbs_eq_zero.mp (Int.ofNat.inj e)),hb⟩,oN a b▸q⟩) ?_)
 have tst:TV (.cmp .eq (.cmp .lt (.var 0) (.int 0)) (.cmp .lt (.var 1) (.int 0))) ⟨af S k,β,X⟩ [some (.int a),some (.int b),some (.int (a.natAbs / b.natAbs:Nat))] H (decide (a<0)==decide (b<0)):=Gx (EV.cmp (FY rfl) FZ (u0 rfl)) (EV.cmp (FY rfl) FZ (u0 rfl))
 induction hc:(decide (a<0)==decide (b<0)) with
 | true=>rw [hc] at q tst;exact aC (Gq tst (FY rfl)) q
 | false=>rw [hc] at q tst;exact aC (Gr tst (EV.neg (FY rfl))) q
theorem Gy {C:Cw}{ls:Ls}{c:T}{t:Bool}{p:Prop}[Decidable p](h:TV c C ls H t)(e:decide p=t):EV (.ite c (.int 1) (.int 0)) C ls H (.int (if p then 1 else 0)):=by
 subst e
 by_cases e:p
 .exact sr (if_pos e) (Gq (GM e▸h) FZ)
 .exact sr (if_neg e) (Gr (GN e▸h) FZ)
theorem TV.ne0 {C:Cw}{ls:Ls}{j:Nat}{a:Int}(h:lget ls j=some (.int a)):TV (.cmp .ne (.var j) (.int 0)) C ls H (!decide (a=0)):=F7 (FY h) FZ λ _ q=>q
theorem E9 (P:Pk S){k:Nat}{c:Nat}{a b:Int}(hc:c≠43/\c≠45/\c≠42/\c≠47/\c≠109)(q:Q (.int (two c a b)) H):af S (k+1) β X 24 [.int c,.int a,.int b] H Q:=by
 refine xn hc λ g1 g2 g3 g4 g5=>P.enter 23 rfl (.inl rfl) rfl nofun ?_
 walk_at "eI"
 unfold two at q
 rw [if_neg g1,if_neg g2,if_neg g3,if_neg g4,if_neg g5] at q
 have is:∀ {y:Nat} {t:Bool},decide (c=y)=t->TV (.cmp .eq (.var 0) (.sub (.bytes [y]) (.int 0))) ⟨af S k,β,X⟩ [some (.int c),some (.int a),some (.int b)] H t:=λ e=>a9 rfl e
 by_cases h:c=38
 .rw [if_pos h] at q;exact cU (is (GM h)) (aC (F6 (FY rfl) (FY rfl) λ _ q=>q) q)
 rw [if_neg h] at q
 refine au (is (GN h)) ?_
 by_cases h:c=124
 .rw [if_pos h] at q;exact cU (is (GM h)) (aC (F6 (FY rfl) (FY rfl) λ _ q=>q) q)
 rw [if_neg h] at q
 refine au (is (GN h)) ?_
 by_cases h:c=94
 .rw [if_pos h] at q;exact cU (is (GM h)) (aC (F6 (FY rfl) (FY rfl) λ _ q=>q) q)
 rw [if_neg h] at q
 refine au (is (GN h)) ?_
 by_cases h:c=61
 .rw [if_pos h] at q;exact cU (is (GM h)) (aC (Gy (F7 (FY rfl) (FY rfl) λ _ q=>q) rfl) q)
 rw [if_neg h] at q
 refine au (is (GN h)) ?_
 by_cases h:c=62
 .rw [if_pos h] at q;exact cU (is (GM h)) (aC (Gy (F7 (FY rfl) (FY rfl) λ _ q=>q) rfl) q)
 rw [if_neg h] at q
 refine au (is (GN h)) ?_
 by_cases h:c=60
 .rw [if_pos h] at q;exact cU (is (GM h)) (aC (Gy (F7 (FY rfl) (FY rfl) λ _ q=>q) rfl) q)
 rw [if_neg h] at q
 refine au (is (GN h)) ?_
 by_cases h:c=65
 .rw [if_pos h] at q;exact cU (is (GM h)) (aC (Gy (TV.and (TV.ne0 rfl) (TV.ne0 rfl)) (by exact sr (Bool.decide_and ..) (sr (decide_not ..) (sr (decide_not ..) rfl)))) q)
 rw [if_neg h] at q
 exact au (is (GN h)) (aC (Gy (TV.or (TV.ne0 rfl) (TV.ne0 rfl)) (by exact sr (Bool.decide_or ..) (sr (decide_not ..) (sr (decide_not ..) rfl)))) q)
theorem qa {z:Int}(h:z.natAbs<1073741824):-9223372036854775808<z/\z<9223372036854775808:=by omega
theorem Fp (P:Pk S){k:Nat}{c:Nat}{a b:Int}(ha:Sm a)(hb:Sm b)(q:Q (.int (two c a b)) H):af S (k+2) β X 23 [.int c,.int a,.int b] H Q:=by
 refine P.enter 22 rfl (.inl rfl) rfl nofun ?_
 walk_at "eI"
 have q0:=q
 unfold two at q
 have is:∀ {y:Nat} {t:Bool},decide (c=y)=t->TV (.cmp .eq (.var 0) (.sub (.bytes [y]) (.int 0))) ⟨af S (k+1),β,X⟩ [some (.int c),some (.int a),some (.int b)] H t:=λ e=>a9 rfl e
 have sm:∀ {z:Int},z.natAbs<1073741824->-9223372036854775808<z/\z<9223372036854775808:=qa
 by_cases h1:c=43
 .rw [if_pos h1] at q;exact cU (is (GM h1)) (aC (EV.add (FY rfl) (FY rfl)) q)
 rw [if_neg h1] at q
 refine au (is (GN h1)) ?_
 by_cases h2:c=45
 .rw [if_pos h2] at q;exact cU (is (GM h2)) (aC (EV.min (FY rfl) (FY rfl)) q)
 rw [if_neg h2] at q
 refine au (is (GN h2)) ?_
 by_cases h3:c=42
 .rw [if_pos h3] at q;exact cU (is (GM h3)) (aC (EV.mul (FY rfl) (FY rfl) (sm hb)) q)
 rw [if_neg h3] at q
 refine au (is (GN h3)) ?_
 by_cases h4:c=47
 .rw [if_pos h4] at q;exact cU (is (GM h4)) (a6 (ax (.two (FY rfl) (FY rfl)) (En P hb q)))
 rw [if_neg h4] at q
 refine au (is (GN h4)) ?_
 by_cases h5:c=109
 .rw [if_pos h5] at q
  refine cU (is (GM h5)) (a6 ?_)
  by_cases e:b=0
  .rw [if_pos e] at q;exact gb (F7 (FY rfl) FZ (vq (GM e))) q
  .rw [if_neg e] at q
   have cl:EV (.call 22 (.cons (.var 1) (.cons (.var 2) .nil))) ⟨af S (k+1),β,X⟩ [some (.int c),some (.int a),some (.int b)] H (.int (qI a b)):=EV.call (.two (FY rfl) (FY rfl)) λ _ q=>En P hb q
   exact ix (F7 (FY rfl) FZ (vq (GN e))) (EV.min (FY rfl) (EV.mul (FY rfl) cl (sm (lt_of_le_of_lt (sP a b) ha))) _ q)
 exact au (is (GN h5)) (a6 (ax (.cons (FY rfl) (.two (FY rfl) (FY rfl))) (E9 P ⟨h1,h2,h3,h4,h5⟩ q0)))
end
structure Ad where
 (pr dp pl own st sk ds sl fb:Addr)
structure Rn (H:AH) (A:Ad) (ps:List V) (ow sv:List (Int×V)) (stk:List V) (found:List Nat):Prop where
 inst:H A.pr=some (.inst 3 A.dp)
 attrs:H A.dp=some (.attrs [(7,.ref A.pl),(8,.ref A.own),(9,.ref A.st),(10,.ref A.sk),(11,.ref A.fb)])
 ps:H A.pl=some (.list ps)
 ow:H A.own=some (.idict ow)
 sv:H A.st=some (.idict sv)
 stk:Sk H A.sk A.ds A.sl stk
 fb:H A.fb=some (.barr found)
 ne:A.pl≠A.sl/\A.own≠A.st/\A.dp≠A.ds
noncomputable abbrev DQ (A:Ad):Addr->Prop:=λ a=>a=A.pl\/a=A.own\/a=A.st\/a=A.sl\/a=A.fb
def gq (H:AH)(A:Ad)(ps:List V)(ow sv:List (Int×V))(stk:List V)(found:List Nat)(H':AH):Prop:=Rn H' A ps ow sv stk found/\Mv H H' (DQ A)
theorem am {H:AH}{a b:Addr}{x y o:AO}(e:H b=some x)(h:H a=some y)(n:beq x.ctorIdx y.ctorIdx=false):(H.set a o) b=some x:=by exact sr (F4 _ _ (aw e h n)) e
theorem du {H:AH}{a b:Addr}{x o:AO}(e:H b=some x)(n:b≠a):(H.set a o) b=some x:=by exact sr (F4 _ _ n) e
section
variable {S:Sx}{X:Int->Prop}{H:AH}{Q:V->AH->Prop}{A:Ad}{ps:List V}{ow sv:List (Int×V)}{stk:List V}{found:List Nat}
theorem Rn.self (R:Rn H A ps ow sv stk found):gq H A ps ow sv stk found H:=⟨R,Mv.refl⟩
theorem gq.trans {H1 H2x:AH}{ps1 ow1 sv1x stk1 f1x ps2 ow2 sv2x stk2 f2x}(x:gq H A ps1 ow1 sv1x stk1 f1x H1)(y:gq H1 A ps2 ow2 sv2x stk2 f2x H2x):gq H A ps2 ow2 sv2x stk2 f2x H2x:=⟨y.1,x.2.trans y.2 (λ _ h=>h) λ _ h=>.inl h⟩
theorem Rn.other (R:Rn H A ps ow sv stk found){H':AH}(m:Mv H H' (λ _=>False)):gq H A ps ow sv stk found H' :=
 ⟨⟨m.keep _ _ R.inst id,m.keep _ _ R.attrs id,m.keep _ _ R.ps id,m.keep _ _ R.ow id,m.keep _ _ R.sv id,⟨m.keep _ _ R.stk.inst id,m.keep _ _ R.stk.attrs id,m.keep _ _ R.stk.list id⟩,m.keep _ _ R.fb id,R.ne⟩,m.mono λ _ h=>h.elim⟩
theorem Rn.new (R:Rn H A ps ow sv stk found){a:Addr}{ao:AO}(h:H a=none):gq H A ps ow sv stk found (H.set a ao):=R.other (Ga h)
theorem Rn.setStk (R:Rn H A ps ow sv stk found)(stk':List V):gq H A ps ow sv stk' found (H.set A.sl (.list stk'.reverse)) :=
 have l:=R.stk.list
 ⟨⟨am R.inst l rfl,am R.attrs l rfl,du R.ps R.ne.1,am R.ow l rfl,am R.sv l rfl,⟨am R.stk.inst l rfl,am R.stk.attrs l rfl,F3 _ _ _⟩,am R.fb l rfl,R.ne⟩,Mv.put (.inr (.inr (.inr (.inl rfl))))⟩
theorem Rn.setPs (R:Rn H A ps ow sv stk found)(ps':List V):gq H A ps' ow sv stk found (H.set A.pl (.list ps')) :=
 have l:=R.ps
 ⟨⟨am R.inst l rfl,am R.attrs l rfl,F3 _ _ _,am R.ow l rfl,am R.sv l rfl,⟨am R.stk.inst l rfl,am R.stk.attrs l rfl,du R.stk.list R.ne.1.symm⟩,am R.fb l rfl,R.ne⟩,Mv.put (.inl rfl)⟩
theorem Rn.setOw (R:Rn H A ps ow sv stk found)(ow':List (Int×V)):gq H A ps ow' sv stk found (H.set A.own (.idict ow')) :=
 have l:=R.ow
 ⟨⟨am R.inst l rfl,am R.attrs l rfl,am R.ps l rfl,F3 _ _ _,du R.sv R.ne.2.1.symm,⟨am R.stk.inst l rfl,am R.stk.attrs l rfl,am R.stk.list l rfl⟩,am R.fb l rfl,R.ne⟩,Mv.put (.inr (.inl rfl))⟩
theorem Rn.setSv (R:Rn H A ps ow sv stk found)(sv':List (Int×V)):gq H A ps ow sv' stk found (H.set A.st (.idict sv')) :=
 have l:=R.sv
 ⟨⟨am R.inst l rfl,am R.attrs l rfl,am R.ps l rfl,du R.ow R.ne.2.1,F3 _ _ _,⟨am R.stk.inst l rfl,am R.stk.attrs l rfl,am R.stk.list l rfl⟩,am R.fb l rfl,R.ne⟩,Mv.put (.inr (.inr (.inl rfl)))⟩
theorem Rn.setFb (R:Rn H A ps ow sv stk found)(f':List Nat):gq H A ps ow sv stk f' (H.set A.fb (.barr f')) :=
 have l:=R.fb
 ⟨⟨am R.inst l rfl,am R.attrs l rfl,am R.ps l rfl,am R.ow l rfl,am R.sv l rfl,⟨am R.stk.inst l rfl,am R.stk.attrs l rfl,am R.stk.list l rfl⟩,F3 _ _ _,R.ne⟩,Mv.put (.inr (.inr (.inr (.inr rfl))))⟩
theorem Rn.popped {H':AH}(R:Rn H A ps ow sv stk found)(h:stk=[]/\H'=H\/stk≠[]/\H'=H.set A.sl (.list stk.tail.reverse)):gq H A ps ow sv stk.tail found H':=by
 rcases h with ⟨rfl,rfl⟩|⟨_,rfl⟩
 .exact R.self
 .exact R.setStk _
noncomputable def ak (ps:List V)(n:Int):V:=match decide (n<=ps.length) with
 | true=>(ps[(n-1).toNat]?).getD (.int 0)
 | false=>.int 0
theorem Rn.ev {C:Cw}{ls:Ls}{j k:Nat}{v:V}(R:Rn H A ps ow sv stk found)(hv:lget ls j=some (.ref A.pr))(h:bV [(7,V.ref A.pl),(8,.ref A.own),(9,.ref A.st),(10,.ref A.sk),(11,.ref A.fb)] k=some v):EV (.attr (.var j) k) C ls H v:=EV.attr (FY hv) λ _ q=>gU R.inst R.attrs rfl h q
theorem Rn.meth {C:Cw}{ls:Ls}{j:Nat}{Q:V->AH->Prop}(R:Rn H A ps ow sv stk found){f:Nat}{es:Es}{vs:List V}(hv:lget ls j=some (.ref A.pr))(h:AV es C ls H vs)(q:C.call C.β C.X f (.ref A.pr::vs) H Q):xe (.meth 3 f (.var j) es) C ls H Q:=gZ (FY hv) ⟨_,_,R.inst,R.attrs⟩ h q
theorem Rn.stkM {C:Cw}{ls:Ls}{j:Nat}{Q:V->AH->Prop}(R:Rn H A ps ow sv stk found){f:Nat}{es:Es}{vs:List V}(hv:lget ls j=some (.ref A.pr))(h:AV es C ls H vs)(q:C.call C.β C.X f (.ref A.sk::vs) H Q):xe (.meth 2 f (.attr (.var j) 10) es) C ls H Q:=gZ (R.ev hv rfl) ⟨_,_,R.stk.inst,R.stk.attrs⟩ h q
theorem uj {n:Int}{m:Nat}(h1:1<=n)(h:n<=m):(n-1).toNat<m:=(Int.toNat_lt (Int.sub_nonneg_of_le h1)).mpr (Int.lt_of_lt_of_le (Int.sub_lt_self n (by decide)) h)
theorem FI (P:Pk S){k:Nat}{β:Bool}{n:Int}(R:Rn H A ps ow sv stk found)(hl:ps.length<=1000)(hn:1<=n)(q:Q (ak ps n) H):af S (k+1) β X 26 [.ref A.pr,.int n] H Q:=by
 refine P.enter 25 rfl (.inl rfl) rfl nofun ?_
 walk_at "eI"
 have hl:=GK hl (show 1000<=16777216 from ac rfl)
 unfold ak at q
 have tst:∀ {t},decide (n<=ps.length)=t->TV (.cmp .le (.var 1) (.bi .lenL (.cons (.attr (.var 0) 7) .nil))) ⟨af S k,β,X⟩ [some (.ref A.pr),some (.int n)] H t:=λ e=>F7 (FY rfl) (EV.lenL (R.ev rfl rfl) (.inl R.ps) hl) (Cz e)
 induction h:decide (n<=ps.length) with
 | true =>
  rw [h] at q
  have hlt:(n-1).toNat<ps.length:=uj hn (GL h)
  have hv:=getElem?_eq_getElem hlt
  rw [hv] at q
  exact aC (Gq (tst h) (F5 (R.ev rfl rfl) (EV.min (FY rfl) FZ) (lC (toNat_of_nonneg (Int.sub_nonneg_of_le hn)).symm (.inl R.ps) hl hv))) q
 | false=>rw [h] at q;exact aC (Gr (tst h) FZ) q
theorem EF (P:Pk S){k:Nat}{β:Bool}{c:Nat}(R:Rn H A ps ow sv stk found)(q:Q (.ref (if 97<=c then A.own else A.st)) H):af S (k+1) β X 27 [.ref A.pr,.int c] H Q:=by
 refine P.enter 26 rfl (.inl rfl) rfl nofun ?_
 walk_at "eI"
 have tst:∀ {t},decide (97<=c)=t->TV (.cmp .ge (.var 1) (.sub (.bytes [97]) (.int 0))) ⟨af S k,β,X⟩ [some (.ref A.pr),some (.int c)] H t:=λ e=>F7 (FY rfl) (F5 F8 FZ (gQ (x:=0) rfl (ac rfl) rfl)) (nN (y:=97) rfl rfl e)
 by_cases h:97<=c
 .rw [if_pos h] at q;exact aC (Gq (tst (GM h)) (R.ev rfl rfl)) q
 .rw [if_neg h] at q;exact aC (Gr (tst (GN h)) (R.ev rfl rfl)) q
noncomputable def gJ:V->V
 | .int i=>.int (i+1)
 | v=>v
noncomputable def cD:List V->List V
 | a::b::r=>gJ a::gJ b::r
 | [a]=>[gJ a]
 | []=>[]
theorem km (P:Pk S){C:Cw}{ps:List V}{i:Nat}{v:V}{H:AH}(R:Rn H A ps ow sv stk found)(hl:ps.length<=1000)(hv:ps[i]?=some v)(hpv:eL v){K:Ls->AH->Prop}{Rr:V->AH->Prop}(q:∀ H',gq H A (ps.set i (gJ v)) ow sv stk found H'->K [some (.ref A.pr),some (.int i)] H') :
  xs (.cond (.val (.bi .isInt (.cons (.sub (.attr (.var 0) 7) (.var 1)) .nil)))
 (.setS (.attr (.var 0) 7) (.var 1) (.bin .add (.sub (.attr (.var 0) 7) (.var 1)) (.int 1))
 .done)
 .done
 .done) C [some (.ref A.pr),some (.int i)] H K Rr:=by
 have hi:i<ps.length:=(List.getElem?_eq_some_iff.mp hv).1
 have hl:=GK hl (show 1000<=16777216 from ac rfl)
 have gv:EV (.sub (.attr (.var 0) 7) (.var 1)) C [some (.ref A.pr),some (.int i)] H v:=F5 (R.ev rfl rfl) (FY rfl) (lC rfl (.inl R.ps) hl hv)
 induction hpv with
 | int j=>exact dX (TV.val (EV.bi (.one gv) λ _ q=>q) λ _ q=>q) (jd (EV.add gv FZ) (R.ev rfl rfl) (FY rfl) (wj R.ps hl rfl hi (q _ (R.setPs _))))
 | bytes l =>
  have e:ps.set i (gJ (.bytes l))=ps:=by
   have:gJ (.bytes l)=ps[i]:=by rw [getElem?_eq_getElem hi] at hv;exact (Option.some.inj hv).symm
   exact sr (this ..) (sr (List.set_getElem_self ..) rfl)
  exact dN (TV.val (EV.bi (.one gv) λ _ q=>q) λ _ q=>q) (q _ (e.symm▸R.self))
theorem Fh (P:Pk S){k:Nat}{β:Bool}(R:Rn H A ps ow sv stk found)(hl:ps.length<=1000)(hv:∀ v∈ps,eL v)(q:∀ H',gq H A (cD ps) ow sv stk found H'->Q .none H'):af S (k+1) β X 28 [.ref A.pr] H Q:=by
 refine P.enter 27 rfl (.inl rfl) rfl nofun ?_
 walk_at "eI"
 have mn:EV (.bi .min (.cons (.int 2) (.cons (.bi .lenL (.cons (.attr (.var 0) 7) .nil)) .nil))) ⟨af S k,β,X⟩ [some (.ref A.pr),none] H (.int (if (ps.length:Int)<2 then (ps.length:Int) else 2)):=EV.bi (.two FZ (EV.lenL (R.ev rfl rfl) (.inl R.ps) (GK hl (ac rfl)))) λ _ q=>q
 rcases ps with _|⟨a,_|⟨b,r⟩⟩
 .exact kf (items:=[]) mn ⟨⟨by decide,by decide⟩,rfl⟩ ⟨trivial,q _ R.self⟩
 .exact kf (items:=[.v (.int (0:Nat))]) mn ⟨⟨by show _<=(1:Int);decide,by show (1:Int)<=_;decide⟩,rfl⟩ ⟨trivial,km (i:=0) P R hl rfl (hv _ mem_cons_self) λ H1 x1x=>⟨trivial,q _ x1x⟩⟩
 .have e1:(if ((a::b::r).length:Int)<2 then ((a::b::r).length:Int) else 2)=2:=if_neg (Int.not_lt.mpr (ofNat_le.mpr (succ_le_succ (succ_le_succ (zero_le _)))))
  rw [e1] at mn
  exact kf (items:=[.v (.int (0:Nat)),.v (.int (1:Nat))]) mn ⟨⟨by decide,by decide⟩,rfl⟩ ⟨trivial,km (i:=0) P R hl rfl (hv _ mem_cons_self) λ H1 x1x=>⟨trivial,km (i:=1) P x1x.1 hl rfl (hv b (mem_cons_of_mem _ mem_cons_self)) λ H2x x2x=>⟨trivial,q _ (x1x.trans x2x)⟩⟩⟩
end
structure St where
 (ps:List V) (ow sv:List (Int×V)) (stk:List V) (out:List Nat)
noncomputable def bD:Op->St->St
 | .text l,s=>{s with out:=s.out++l}
 | .char,s=>{s with stk:=s.stk.tail,out:=s.out++[if (num (bO s.stk)).fmod 256=0 then 128 else ((num (bO s.stk)).fmod 256).toNat]}
 | .write letter flags width prec,s=>{s with stk:=s.stk.tail,out:=s.out++(if letter=115 then bH [] (oct (bO s.stk)) (if flags.contains 45 then [45] else []) width true else bz letter.toNat flags width prec (num (bO s.stk)))}
 | .param n,s=>{s with stk:=ak s.ps n::s.stk}
 | .push i,s=>{s with stk:=.int i::s.stk}
 | .set c,s=>if (97:Int)<=c then {s with stk:=s.stk.tail,ow:=cG s.ow c (bO s.stk)} else {s with stk:=s.stk.tail,sv:=cG s.sv c (bO s.stk)}
 | .get c,s=>{s with stk:=(if (97:Int)<=c then (bV s.ow c).getD (.int 0) else (bV s.sv c).getD (.int 0))::s.stk}
 | .length,s=>{s with stk:=.int (oct (bO s.stk)).length::s.stk.tail}
 | .more,s=>{s with ps:=cD s.ps}
 | .two c,s=>{s with stk:=.int (two c.toNat (num (bO s.stk.tail)) (num (bO s.stk)))::s.stk.tail.tail}
 | .one c,s=>{s with stk:=.int (if c=33 then (if num (bO s.stk)=0 then 1 else 0) else -num (bO s.stk)-1)::s.stk.tail}
 | .unless _,s=>s
 | .jump _,s=>s
structure eu (s:St):Prop where
 psl:s.ps.length<=1000
 ps:∀ v∈s.ps,eL v
 stkl:s.stk.length<=16000000
 stk:∀ v∈s.stk,eL v/\(num v).natAbs<536870912/\(oct v).length<=1000
 out:s.out.length<=10000000
 owl:s.ow.length<=1000
 svl:s.sv.length<=1000
noncomputable def fw:Op->Prop
 | .text l=>l.length<=6000000
 | .char=>True
 | .write letter flags width prec=>flags.length<=1000/\(-100000<=width/\width<=100000)/\(letter=115/\prec=none\/(letter=100\/letter=111\/letter=120\/letter=88)/\flags.contains 35=false/\∀ p∈prec,-1000<=p/\p<=1000)
 | .param n=>1<=n
 | .push _=>True
 | .set c=>∃ C:Nat,c=C/\C<256
 | .get c=>∃ C:Nat,c=C/\C<256
 | .length=>True
 | .more=>True
 | .two c=>∃ C:Nat,c=C/\C<256
 | .one c=>∃ C:Nat,c=C/\C<256
 | .unless _=>False
 | .jump _=>False
noncomputable abbrev Au (H:AH)(A:Ad)(s:St):Prop:=Rn H A s.ps s.ow s.sv s.stk s.out
noncomputable abbrev oQ (H:AH)(A:Ad)(s:St)(H':AH):Prop:=gq H A s.ps s.ow s.sv s.stk s.out H'
section
variable {S:Sx}{X:Int->Prop}{H:AH}{Q:V->AH->Prop}{A:Ad}{s:St}{t:Addr}{op:Op}
theorem Rn.notTup {ps ow sv stk f}(R:Rn H A ps ow sv stk f){vs:List V}(h:H t=some (.tup vs)):¬ DQ A t:=λ q=>by
 rcases q with rfl|rfl|rfl|rfl|rfl
 .rw [R.ps] at h;cases h
 .rw [R.ow] at h;cases h
 .rw [R.sv] at h;cases h
 .rw [R.stk.list] at h;cases h
 .rw [R.fb] at h;cases h
theorem pA (op:Op):op.vals.length<=16777216:=by cases op<;>exact ac rfl
theorem cu {C:Cw}{ls:Ls}{j:Nat}{v:V}(x:Nat)(hv:lget ls j=some (.ref t))(ht:H t=some (.tup op.vals))(h:op.vals[x]?=some v):EV (.sub (.var j) (.int x)) C ls H v:=F5 (FY hv) FZ (i1 (x:=x) rfl ht (pA op) h)
theorem Fe {ps ow sv stk f}(R:Rn H A ps ow sv stk f){op:Op}(h:H t=some (.tup op.vals)){v:V}(hv:op.vals[1]?=some v){Q:V->Prop}(q:Q v):iI (.ref t) (.int 1) H Q:=i1 (x:=1) rfl h (pA op) hv _ q
theorem vN {C:Cw}{ls:Ls}{o:E}{k n:Nat}{es:Es}{u:V}(ho:EV o C ls H u)(hi:fz k u H)(h:xes es C ls H λ vs H1=>C.call C.β C.X n (u::vs) H1 Q):xe (.meth k n o es) C ls H Q:=ho _ ⟨hi,h⟩
theorem vE {C:Cw}{ls ls':Ls}{N:Ls->AH->Prop}{e:E}{r:B}{ks:List Nat}{vs:List V}(hv:EV e C ls H (.ref t))(ht:H t=some (.tup vs))(hl:lputs ls ks vs=some ls')(p:xs r C ls' H N Q):xs (.setN ks e r) C ls H N Q:=cL (hv _ ⟨vs,ht,ls',hl,p⟩)
theorem fR {C:Cw}{ls:Ls}{op:BO}{a b:E}(h:xe a C ls H λ u H1=>xe b C ls H1 λ v H2x=>kE op u v H2x Q):xe (.bin op a b) C ls H Q:=h
theorem Rn.stkX {ps ow sv stk f}{C:Cw}{ls:Ls}{j:Nat}{Q:V->AH->Prop}(R:Rn H A ps ow sv stk f){n:Nat}{es:Es}(hv:lget ls j=some (.ref A.pr))(h:xes es C ls H λ vs H1=>C.call C.β C.X n (.ref A.sk::vs) H1 Q):xe (.meth 2 n (.attr (.var j) 10) es) C ls H Q:=vN (R.ev hv rfl) ⟨_,_,R.stk.inst,R.stk.attrs⟩ h
theorem kj {head body flags:List Nat}{width:Int}{hp:Bool}{n:Nat}(h1:head.length+body.length<=n)(h2:width<=100000):(bH head body flags width hp).length<=n+100000:=by
 have hr:∀ c:Nat,(dw (width-head.length-body.length) [c]).length<=100000:=λ c=>by refine sr (gh ..) ?_;lia
 dsimp only [bH]
 generalize width-head.length-body.length=z at *
 induction decide (z<=0) with
 | true=>exact (GO▸Nat.le_add_right_of_le h1:(head++body).length<=n+100000)
 | false =>
 induction flags.contains 45 with
 | true=>exact (by refine sr GO (sr GO ?_);exact add_le_add h1 (hr 32):(head++body++dw z [32]).length<=n+100000)
 | false =>
 induction (flags.contains 48&&!hp) with
 | true=>exact (by refine sr (GO ..) (sr (GO ..) (sr (Nat.add_right_comm ..) ?_));exact add_le_add h1 (hr 48):(head++dw z [48]++body).length<=n+100000)
 | false=>exact (by refine sr (GO ..) (sr (GO ..) (sr (add_assoc ..) (sr (add_comm ..) ?_)));exact add_le_add h1 (hr 32):(dw z [32]++head++body).length<=n+100000)
theorem mj (l:Nat)(flags:List Nat)(v:Int):(dP l flags v).length<=1:=by
 dsimp only [dP]
 induction decide (l=100) with
 | false=>exact ac rfl
 | true =>
 induction decide (v<0) with
 | true=>exact ac rfl
 | false =>
 induction flags.contains 43 with
 | true=>exact ac rfl
 | false=>cases flags.contains 32<;>exact ac rfl
theorem my {v:Int}(l:Nat)(hv:v.natAbs<2 ^ 40):(gH l v).length<=40:=by
 dsimp only [gH]
 induction decide (l=100) with
 | true=>exact cM (ac rfl) hv
 | false=>exact cM (by split<;>exact ac rfl) (mQ hv)
theorem l5 {prec:Option Int}{v:Int}{l:List Nat}{n:Nat}(hp:∀ p∈prec,p<=n)(hl:l.length<=n):(gw prec v l).length<=n:=by
 dsimp only [gw]
 induction prec with
 | none=>exact hl
 | some p =>
 have hp:=hp p rfl
 have rl:=λ n=>gh n 48
 dsimp only
 induction decide (p=0)&&decide (v=0) with
 | true=>dsimp only;refine sr (append_nil ..) (sr (rl ..) ?_);lia
 | false=>dsimp only;refine sr (GO ..) (sr (rl ..) ?_);lia
theorem oh {letter:Nat}{flags:List Nat}{width v:Int}{prec:Option Int}(h2:-100000<=width/\width<=100000)(hp:∀ p∈prec,-1000<=p/\p<=1000)(hv:v.natAbs<2 ^ 40):(bz letter flags width prec v).length<=200000 :=
 GK (kj (n:=1001) (GK (add_le_add (mj _ _ _) (l5 (n:=1000) (λ p m=>(hp p m).2) (GK (my _ hv) (ac rfl)))) (ac rfl)) h2.2) (ac rfl)
theorem kD {p:V->Prop}{l:List V}(h0:p (.int 0))(h:∀ v∈l,p v):p (bO l):=by
 induction l with
 | nil=>exact h0
 | cons v r=>exact h v mem_cons_self
theorem iD {s:St}(F:eu s):(num (bO s.stk)).natAbs<536870912/\(num (bO s.stk.tail)).natAbs<536870912 :=
 ⟨kD (p:=λ v=>(num v).natAbs<536870912) (ac rfl) λ v m=>(F.stk v m).2.1,kD (p:=λ v=>(num v).natAbs<536870912) (ac rfl) λ v m=>(F.stk v (mem_of_mem_tail m)).2.1⟩
theorem jW {s:St}(F:eu s):(oct (bO s.stk)).length<=1000:=kD (p:=λ v=>(oct v).length<=1000) (ac rfl) λ v m=>(F.stk v m).2.2
theorem d8 {α:Type}(l:List α):l.tail.length<=l.length:=by
 induction l with
 | nil=>exact le_refl _
 | cons _ _=>exact le_succ _
theorem eu.sl {s:St}(F:eu s){n:Nat}(h:ble 16000000 n=true):s.stk.length<=n:=GK F.stkl (ac h)
theorem eu.st {s:St}(F:eu s){n:Nat}(h:ble 16000000 n=true):s.stk.tail.length<=n:=GK (d8 _) (F.sl h)
theorem eu.ispv {s:St}(F:eu s):∀ v∈s.stk,eL v:=λ v m=>(F.stk v m).1
theorem Ft (P:Pk S){k:Nat}{letter:Int}{flags:List Nat}{width:Int}{prec:Option Int}(R:Au H A s)(F:eu s)(ht:H t=some (.tup (Op.write letter flags width prec).vals))(ho:fw (.write letter flags width prec))(q:∀ H',oQ H A (bD (.write letter flags width prec) s) H'->Q .none H') :
  af S (k+3) true X 29 [.ref A.pr,.ref t] H Q:=by
 obtain ⟨h1,h2,h3⟩:=ho
 refine P.enter 28 rfl (.inl rfl) rfl (λ _=>rfl) ?_
 walk_at "eI"
 refine vE (FY rfl) ht rfl ?_
 have fo:∀ {l:List Nat},l.length<=200000->s.out.length+l.length<=16777216:=λ h=>GK (add_le_add F.out h) (ac rfl)
 rcases h3 with ⟨rfl,rfl⟩|⟨hl,hf,hp⟩
 .refine bj (gb (a9 (x:=115) rfl rfl) (R.stkM rfl .nil (Er P R.stk (F.sl rfl) F.ispv λ H1 h=>?_)))
  have x1x:=R.popped h
  have hb:=jW F
  have hz:=kj (flags:=if flags.contains 45 then [45] else []) (hp:=true) (head:=[]) (body:=oct (bO s.stk)) (n:=1000) (by refine sr (length_nil ..) (sr (zero_add ..) ?_);exact hb) h2.2
  exact aG (mu (x1x.1.ev rfl rfl) ⟨_,x1x.1.fb⟩ (bI (ax (.cons (FY rfl) (.cons (FY rfl) (.cons (FY rfl) (.two (FY rfl) (FY rfl))))) (DJ P (GK hb (ac rfl)) h2 ⟨_,x1x.1.fb,fo (GK hz (ac rfl)),q _ (x1x.trans (x1x.1.setFb _))⟩))))
 .obtain ⟨L,rfl⟩:∃ L:Nat,letter=L:=⟨letter.toNat,by rcases hl with h|h|h|h<;>subst h<;>rfl⟩
  have h115:L≠115:=by rintro rfl;rcases hl with h|h|h|h<;>contradiction
  have hl:L=100\/L=111\/L=120\/L=88:=hl.imp Int.ofNat.inj (Or.imp Int.ofNat.inj (Or.imp Int.ofNat.inj Int.ofNat.inj))
  refine bj (ix (a9 (x:=L) rfl (GN h115)) (R.stkM rfl .nil (Ar P R.stk (F.sl rfl) F.ispv λ H1 h=>?_)))
  have x1x:=R.popped h
  have hb:(num (bO s.stk)).natAbs<2 ^ 40:=lt_of_lt_of_le (iD F).1 (by decide)
  refine aG (mu (x1x.1.ev rfl rfl) ⟨_,x1x.1.fb⟩ (bI (ax (.cons (FY rfl) (.cons (FY rfl) (.cons (FY rfl) (.two (FY rfl) (FY rfl))))) (Dx P hl hf h1 h2 hp hb λ H2x m=>?_))))
  have x2x:=x1x.1.other m
  unfold bD at q
  dsimp only at q
  rw [if_neg (λ e:(L:Int)=115=>h115 (Int.ofNat.inj e)),toNat_natCast] at q
  exact ⟨_,x2x.1.fb,fo (oh h2 hp hb),q _ ((x1x.trans x2x).trans (x2x.1.setFb _))⟩
theorem EV.inv {C:Cw}{ls:Ls}{e:E}{m:Int}(h:EV e C ls H (.int m)):EV (.inv e) C ls H (.int (-m-1)):=λ Q q=>h _ q
theorem Ei (P:Pk S){k:Nat}(R:Au H A s)(F:eu s)(ht:H t=some (.tup op.vals))(hop:(∃ c,op=.two c)\/∃ c,op=.one c)(ho:fw op)(q:∀ H',oQ H A (bD op s) H'->Q .none H'):af S (k+3) true X 31 [.ref A.pr,.ref t] H Q:=by
 obtain ⟨s1,s2⟩:=iD F
 have sm:∀ {z:Int},z.natAbs<536870912->Sm z:=λ h=>lt_of_lt_of_le h (ac rfl)
 refine P.enter 30 rfl (.inl rfl) rfl nofun ?_
 walk_at "eI"
 refine bj (R.stkM rfl .nil (Ar P R.stk (F.sl rfl) F.ispv λ H1 h=>?_))
 have x1x:=R.popped h
 have ht1:=x1x.2.keep _ _ ht (R.notTup ht)
 rcases hop with ⟨c,rfl⟩|⟨c,rfl⟩
 .refine aT ho λ c ez1 hc=>?_;subst ez1
  refine dX (F7 (cu 0 rfl ht1 rfl) F0 (sj rfl)) (aG (x1x.1.stkX rfl (bI (hN (jD (cu 1 rfl ht1 rfl) (nE (x1x.1.stkM rfl .nil (Ar P x1x.1.stk (F.st rfl) (λ v m=>F.ispv v (mem_of_mem_tail m)) λ H2x h2x=>?_))))))))
  have x2x:=x1x.1.popped h2x
  exact AV.one (FY rfl) _ (Fp P (sm s2) (sm s1) (xo P x2x.1.stk (GK (d8 _) (F.st rfl)) (q _ ((x1x.trans x2x).trans (x2x.1.setStk _)))))
 .refine aT ho λ c ez1 hc=>?_;subst ez1
  have w33:∀ {b},decide (c=33)=b->TV (.cmp .eq (.sub (.var 1) (.int 1)) (.sub (.bytes [33]) (.int 0))) ⟨af S (k+2),true,X⟩ [some (.ref A.pr),some (.ref t),some (.int (num (bO s.stk)))] H1 b:=λ e=>F7 (cu 1 rfl ht1 rfl) (F5 F8 FZ (gQ (x:=0) rfl (ac rfl) rfl)) (fQ (x:=c) (y:=33) rfl rfl e)
  refine dN (F7 (cu 0 rfl ht1 rfl) F0 (sj rfl)) ?_
  unfold bD at q
  dsimp only at q
  by_cases h33:c=33
  .rw [if_pos (show (c:Int)=33 from congrArg Int.ofNat h33)] at q
   exact dX (w33 (GM h33)) (aG (x1x.1.stkM rfl (.one (Gy (F7 (FY rfl) FZ (vq rfl)) rfl)) (xo P x1x.1.stk (F.st rfl) (q _ (x1x.trans (x1x.1.setStk _))))))
  .rw [if_neg (λ e:(c:Int)=33=>h33 (Int.ofNat.inj e))] at q
   exact dN (w33 (GN h33)) (aG (x1x.1.stkM rfl (.one (EV.inv (FY rfl))) (xo P x1x.1.stk (F.st rfl) (q _ (x1x.trans (x1x.1.setStk _))))))
noncomputable def chain:List (List Nat×B)->B->B
 | [],e=>e
 | (w,a)::r,e=>.cond (.cmp .eq (.var 2) (.str w)) a (chain r e) .done
noncomputable def pick (w:List Nat):List (List Nat×B)->B->B
 | [],e=>e
 | (y,a)::r,e=>cond (decide (w=y)) a (pick w r e)
theorem eT {C:Cw}{ls:Ls}{N:Ls->AH->Prop}{w:List Nat}(hv:lget ls 2=some (.str w)):∀ {L:List (List Nat×B)} {e:B},xs (pick w L e) C ls H N Q->xs (chain L e) C ls H N Q
 | [],e,p=>p
 | (y,a)::r,e,p=>by
  have t:TV (.cmp .eq (.var 2) (.str y)) C ls H (decide (w=y)):=F7 (FY hv) F0 (sj rfl)
  dsimp only [pick] at p
  induction h:decide (w=y) with
  | true=>rw [h] at t p;exact dX t p
  | false=>rw [h] at t p;exact dN t (eT hv p)
noncomputable def xE:List (List Nat×B):=[([116,101,120,116],.ex (.bm .bextend (.attr (.var 0) 11) (.cons (.sub (.var 1) (.int 1)) .nil)) .done),
 ([99,104,97,114],.set 3 (.bin .mod (.meth 2 20 (.attr (.var 0) 10) .nil) (.int 256)) (.ex (.bm .bappend (.attr (.var 0) 11) (.cons (.ite (.cmp .eq (.var 3) (.int 0)) (.glb 2) (.var 3)) .nil)) .done)),
 ([119,114,105,116,101],.ex (.meth 3 29 (.var 0) (.cons (.var 1) .nil)) .done),
 ([112,97,114,97,109],.ex (.meth 2 18 (.attr (.var 0) 10) (.cons (.meth 3 26 (.var 0) (.cons (.sub (.var 1) (.int 1)) .nil)) .nil)) .done),
 ([112,117,115,104],.ex (.meth 2 18 (.attr (.var 0) 10) (.cons (.sub (.var 1) (.int 1)) .nil)) .done),
 ([115,101,116],.setS (.meth 3 27 (.var 0) (.cons (.sub (.var 1) (.int 1)) .nil)) (.sub (.var 1) (.int 1)) (.meth 2 19 (.attr (.var 0) 10) .nil) .done),
 ([103,101,116],.ex (.meth 2 18 (.attr (.var 0) 10) (.cons (.bm .getI (.meth 3 27 (.var 0) (.cons (.sub (.var 1) (.int 1)) .nil)) (.cons (.sub (.var 1) (.int 1)) (.cons (.int 0) .nil))) .nil)) .done),
 ([108,101,110,103,116,104],.ex (.meth 2 18 (.attr (.var 0) 10) (.cons (.bi .len (.cons (.meth 2 21 (.attr (.var 0) 10) .nil) .nil)) .nil)) .done),
 ([109,111,114,101],.ex (.meth 3 28 (.var 0) .nil) .done)]
theorem xi (a:Int):∃ n:Nat,a.fmod 256=n/\n<256:=⟨(a.fmod 256).toNat,by refine sr (fmod_eq_emod_of_nonneg _ (by decide)) ?_;lia⟩
theorem E7 (P:Pk S){k:Nat}(R:Au H A s)(F:eu s)(ht:H t=some (.tup op.vals))(ho:fw op)(q:∀ H',oQ H A (bD op s) H'->Q .none H'):af S (k+4) true X 30 [.ref A.pr,.ref t] H Q:=by
 refine P.enter 29 rfl (.inl rfl) rfl (λ _=>rfl) ?_
 walk_at "eI"
 have beg:∀ w,op.vals[0]?=some (.str w)->xs (pick w xE (.ex (.meth 3 31 (.var 0) (.cons (.var 1) .nil)) .done)) ⟨af S (k+3),true,X⟩ [some (.ref A.pr),some (.ref t),some (.str w),none] H (λ _ H'=>Q .none H') Q->xs As ⟨af S (k+3),true,X⟩ [some (.ref A.pr),some (.ref t),none,none] H (λ _ H'=>Q .none H') Q:=λ w hw p =>
  aM (cu 0 rfl ht hw) (eT (L:=xE) (e:=.ex (.meth 3 31 (.var 0) (.cons (.var 1) .nil)) .done) rfl p)
 induction op with
 | text l=>exact beg _ rfl (aG (iB (R.ev rfl rfl) ⟨_,R.fb⟩ (.one (cu 1 rfl ht rfl)) ⟨_,R.fb,GK (add_le_add F.out ho) (ac rfl),q _ (R.setFb _)⟩))
 | char =>
  refine beg _ rfl (bj (fR (R.stkM rfl .nil (Ar P R.stk (F.sl rfl) F.ispv λ H1 h=>FZ _ ⟨by decide,?_⟩))))
  have x1x:=R.popped h
  refine aT (xi (num (bO s.stk))) λ n hn hn2=>?_
  unfold bD at q
  dsimp only at q
  rw [hn] at q ⊢
  have fo:=GK F.out (show 10000000<=16777215 from ac rfl)
  have tst:∀ {b},decide (n=0)=b->TV (.cmp .eq (.var 3) (.int 0)) ⟨af S (k+3),true,X⟩ [some (.ref A.pr),some (.ref t),some (.str [99,104,97,114]),some (.int n)] H1 b:=λ e=>F7 (FY rfl) FZ (fQ (x:=n) (y:=0) rfl rfl e)
  by_cases h0:n=0
  .rw [if_pos (show (n:Int)=0 from congrArg Int.ofNat h0)] at q
   exact aG (iB (x1x.1.ev rfl rfl) ⟨_,x1x.1.fb⟩ (.one (Gq (tst (GM h0)) EV.glb)) ⟨_,x1x.1.fb,rfl,fo,q _ (x1x.trans (x1x.1.setFb _))⟩)
  .rw [if_neg (λ e:(n:Int)=0=>h0 (Int.ofNat.inj e))] at q
   exact aG (iB (x1x.1.ev rfl rfl) ⟨_,x1x.1.fb⟩ (.one (Gr (tst (GN h0)) (FY rfl))) ⟨_,x1x.1.fb,jg hn2,fo,q _ (x1x.trans (x1x.1.setFb _))⟩)
 | length =>
  refine beg _ rfl (aG (R.stkX rfl (bI (uD (bI (R.stkM rfl .nil (Er P R.stk (F.sl rfl) F.ispv λ H1 h=>?_)))))))
  have x1x:=R.popped h
  exact ⟨GK (jW F) (ac rfl),xo P x1x.1.stk (F.st rfl) (q _ (x1x.trans (x1x.1.setStk _)))⟩
 | more=>exact beg _ rfl (aG (R.meth rfl .nil (Fh P R F.psl F.ps λ H1 x1x=>q _ x1x)))
 | param n=>exact beg _ rfl (aG (R.stkM rfl (.one (EV.meth (FY rfl) ⟨_,_,R.inst,R.attrs⟩ (.one (cu 1 rfl ht rfl)) λ Q q=>FI P R F.psl ho q)) (xo P R.stk (F.sl rfl) (q _ (R.setStk _)))))
 | set c =>
  refine beg _ rfl (f7 (R.stkM rfl .nil (CN P R.stk (F.sl rfl) λ H1 h=>?_)))
  have x1x:=R.popped h
  have ht1:=x1x.2.keep _ _ ht (R.notTup ht)
  refine aT ho λ c ez1 hc=>?_;subst ez1
  refine gZ (FY rfl) ⟨_,_,x1x.1.inst,x1x.1.attrs⟩ (.one (cu 1 rfl ht1 rfl)) (EF P x1x.1 (cu 1 rfl ht1 rfl _ ?_))
  unfold bD at q
  dsimp only at q
  by_cases h:97<=c
  .refine sr (if_pos h) ?_
   rw [if_pos (show (97:Int)<=c from ofNat_le.mpr h)] at q
   exact .inr ⟨_,x1x.1.ow,GK F.owl (ac rfl),q _ (x1x.trans (x1x.1.setOw _))⟩
  .refine sr (if_neg h) ?_
   rw [if_neg (λ g:(97:Int)<=c=>h (ofNat_le.mp g))] at q
   exact .inr ⟨_,x1x.1.sv,GK F.svl (ac rfl),q _ (x1x.trans (x1x.1.setSv _))⟩
 | get c =>
  refine aT ho λ c ez1 hc=>?_;subst ez1
  refine beg _ rfl (aG (R.stkX rfl (bI (gZ (FY rfl) ⟨_,_,R.inst,R.attrs⟩ (.one (cu 1 rfl ht rfl)) (EF P R ?_)))))
  unfold bD at q
  dsimp only at q
  by_cases h:97<=c
  .refine sr (if_pos h) ?_
   rw [if_pos (show (97:Int)<=c from ofNat_le.mpr h)] at q
   exact ⟨⟨_,R.ow⟩,AV.two (cu 1 rfl ht rfl) FZ _ ⟨_,R.ow,xo P R.stk (F.sl rfl) (q _ (R.setStk _))⟩⟩
  .refine sr (if_neg h) ?_
   rw [if_neg (λ g:(97:Int)<=c=>h (ofNat_le.mp g))] at q
   exact ⟨⟨_,R.sv⟩,AV.two (cu 1 rfl ht rfl) FZ _ ⟨_,R.sv,xo P R.stk (F.sl rfl) (q _ (R.setStk _))⟩⟩
 | push i=>exact beg _ rfl (aG (R.stkM rfl (.one (cu 1 rfl ht rfl)) (xo P R.stk (F.sl rfl) (q _ (R.setStk _)))))
 | two c=>exact beg _ rfl (aG (R.meth rfl (.one (FY rfl)) (Ei P R F ht (.inl ⟨c,rfl⟩) ho q)))
 | one c=>exact beg _ rfl (aG (R.meth rfl (.one (FY rfl)) (Ei P R F ht (.inr ⟨c,rfl⟩) ho q)))
 | write letter flags width prec=>exact beg _ rfl (aG (R.meth rfl (.one (FY rfl)) (Ft P R F ht ho q)))
 | «unless» _=>exact ho.elim
 | jump _=>exact ho.elim
end
inductive Ex (ops:List Op):Nat->St->St->Prop where
 | done {i s}:ops.length<=i->eu s->Ex ops i s s
 | jump {i s sF} {t:Nat}:ops[i]?=some (.jump t)->i<t->Ex ops t s sF->Ex ops i s sF
 | un0 {i s sF} {t:Nat}:ops[i]?=some (.unless t)->eu s->num (bO s.stk)=0->i<t->Ex ops t {s with stk:=s.stk.tail} sF->Ex ops i s sF
 | un1 {i s sF} {t:Nat}:ops[i]?=some (.unless t)->eu s->num (bO s.stk)≠0->Ex ops (i+1) {s with stk:=s.stk.tail} sF->Ex ops i s sF
 | op {i s sF op}:ops[i]?=some op->fw op->eu s->Ex ops (i+1) (bD op s) sF->Ex ops i s sF
section
variable {S:Sx}{X:Int->Prop}{H:AH}{Q:V->AH->Prop}{A:Ad}{s:St}{t:Addr}{op:Op}
theorem sW {C:Cw}{ls:Ls}{N:Ls->AH->Prop}{o:CO}{e:E}{m:Int}{a b:B}(h:xe e C ls H λ u H1=>cmp o u (.int m) H1 λ t=>(t=true->xs a C ls H1 N Q)/\(t=false->xs b C ls H1 N Q)):xs (.cond (.cmp o e (.int m)) a b .done) C ls H N Q:=h
theorem Ex.fin {ops:List Op}{i:Nat}{s sF:St}(e:Ex ops i s sF)(h:ops.length<=i):sF=s/\eu s:=by
 have no:∀ {op:Op} {p:Prop},ops[i]?=some op->p:=λ h1=>absurd (List.getElem?_eq_some_iff.mp h1).1 (not_lt.mpr h)
 induction e with
 | done _ f=>exact ⟨rfl,f⟩
 | jump h1=>exact no h1
 | un0 h1=>exact no h1
 | un1 h1=>exact no h1
 | op h1=>exact no h1
theorem vp {op:Op}(h:fw op):∃ w,op.vals[0]?=some (.str w)/\decide (w=[106,117,109,112])=false/\decide (w=[117,110,108,101,115,115])=false:=by
 cases op<;>first|exact ⟨_,rfl,rfl,rfl⟩|exact h.elim
theorem uq (P:Pk S){k:Nat}{t' j:Int}{rl:Addr}{N:Ls->AH->Prop}{Rr:V->AH->Prop}(R:Au H A s)(ht:H t=some (.tup (Op.unless t').vals))(F:eu s)
  (p0:num (bO s.stk)=0->∀ H',oQ H A {s with stk:=s.stk.tail} H'->N [some (.ref A.pr),some (.ref rl),some (.int t'),some (.ref t)] H')
  (p1:num (bO s.stk)≠0->∀ H',oQ H A {s with stk:=s.stk.tail} H'->N [some (.ref A.pr),some (.ref rl),some (.int j),some (.ref t)] H') :
  xs (.cond (.cmp .eq (.sub (.var 3) (.int 0)) (.str [106,117,109,112])) (.set 2 (.sub (.var 3) (.int 1)) .done) (.cond (.cmp .eq (.sub (.var 3) (.int 0)) (.str [117,110,108,101,115,115])) (.cond (.cmp .eq (.meth 2 20 (.attr (.var 0) 10) .nil) (.int 0)) (.set 2 (.sub (.var 3) (.int 1)) .done) .done .done) (.ex (.meth 3 30 (.var 0) (.cons (.var 3) .nil)) .done) .done) .done) ⟨af S (k+4),true,X⟩ [some (.ref A.pr),some (.ref rl),some (.int j),some (.ref t)] H N Rr:=by
 refine dN (F7 (cu 0 rfl ht rfl) F0 (sj rfl)) (dX (F7 (cu 0 rfl ht rfl) F0 (sj rfl)) (sW (R.stkM rfl .nil (Ar P R.stk (F.sl rfl) F.ispv λ H2x h=>?_))))
 have x:=R.popped h
 exact ⟨λ h0=>aM (cu 1 rfl (x.2.keep _ _ ht (R.notTup ht)) rfl) (p0 (GL h0) _ x),λ h0=>p1 (of_decide_eq_false h0) _ x⟩
def qf (H:AH)(A:Ad)(rl:Addr)(ops:List Op)(sF:St)(n:Nat)(ls:Ls)(H':AH):Prop :=
 ∃ (i:Nat) (s':St) (x3:Option V),n=ops.length-i/\ls=[some (.ref A.pr),some (.ref rl),some (.int i),x3]/\oQ H A s' H'/\Ex ops i s' sF
theorem qf.next {ops:List Op}{sF s2x:St}{H2x:AH}{rl:Addr}{i t:Nat}{x3:Option V}(hi:i<ops.length)(h:i<t)(e:Ex ops t s2x sF)(x:oQ H A s2x H2x):∃ m,m<ops.length-i/\qf H A rl ops sF m [some (.ref A.pr),some (.ref rl),some (.int t),x3] H2x:=⟨_,Nat.sub_lt_sub_left hi h,_,_,_,rfl,rfl,x,e⟩
theorem E0 (P:Pk S){k:Nat}{rl:Addr}{rows:List V}{ops:List Op}{sF:St}(R:Au H A s)(hr:H rl=some (.list rows))(ho:cr H rows ops)(n1:rl≠A.pl)(n2:rl≠A.sl)(hl:ops.length<=10000000)(run:Ex ops 0 s sF)
  (q:∀ H',oQ H A sF H'->Q (.bytes sF.out) H'):af S (k+5) true X 32 [.ref A.pr,.ref rl] H Q:=by
 refine P.enter 31 rfl (.inl rfl) rfl nofun ?_
 walk_at "eI"
 have rlen:=ho.length
 have rl2:rows.length<=16777216:=rlen.symm▸GK hl (ac rfl)
 have keepR:∀ {H'},Mv H H' (DQ A)->H' rl=some (.list rows)/\cr H' rows ops:=λ {H'} m=>by
  refine ⟨m.keep _ _ hr λ q=>?_,ho.keep λ t vs e=>m.keep _ _ e (R.notTup e)⟩
  rcases q with q|q|q|q|q
  .exact n1 q
  .rw [q,R.ow] at hr;cases hr
  .rw [q,R.sv] at hr;cases hr
  .exact n2 q
  .rw [q,R.fb] at hr;cases hr
 refine aM FZ (f8 (qf H A rl ops sF) (n:=ops.length) ⟨0,s,none,rfl,rfl,R.self,run⟩ ?_)
 rintro n ls H1 ⟨i,s',x3,rfl,rfl,x1x,ex⟩
 obtain ⟨g1,g2⟩:=keepR x1x.2
 have lt:∀ {b},decide (i<ops.length)=b->TV (.cmp .lt (.var 2) (.bi .lenL (.cons (.var 1) .nil))) ⟨af S (k+4),true,X⟩ [some (.ref A.pr),some (.ref rl),some (.int i),x3] H1 b:=λ e=>F7 (FY rfl) (EV.lenL (FY rfl) (.inl g1) rl2) (i8 (x:=i) (y:=rows.length) rfl rfl (rlen.symm▸e))
 by_cases hi:i<ops.length
 .obtain ⟨v,hv,t,rfl,ht⟩:=g2.get (getElem?_eq_getElem hi)
  refine zZ (lt (GM hi)) (aM (F5 (FY rfl) (FY rfl) (lC rfl (.inl g1) rl2 hv)) (aM (v:=.int (i+1:Nat)) (F6 (u:=.int i) (w:=.int 1) (FY rfl) FZ λ _ q=>q) ?_))
  have hop:=getElem?_eq_getElem hi
  generalize ops[i]=op at ht hop
  cases ex with
  | done h=>exact absurd hi (not_lt.mpr h)
  | jump h1 h2 h3 =>
   obtain rfl:=Option.some.inj (hop.symm.trans h1)
   exact dX (F7 (cu 0 rfl ht rfl) F0 (sj rfl)) (aM (cu 1 rfl ht rfl) (qf.next hi h2 h3 x1x))
  | un0 h1 F h2 h4 h3 =>
   obtain rfl:=Option.some.inj (hop.symm.trans h1)
   exact uq P x1x.1 ht F (λ _ H2x x=>qf.next hi h4 h3 (x1x.trans x)) λ h=>absurd h2 h
  | un1 h1 F h2 h3 =>
   obtain rfl:=Option.some.inj (hop.symm.trans h1)
   exact uq P x1x.1 ht F (λ h=>absurd h h2) λ _ H2x x=>qf.next hi (lt_succ_self i) h3 (x1x.trans x)
  | op h1 hf F h3 =>
   obtain rfl:=Option.some.inj (hop.symm.trans h1)
   exact bc λ zz=>nT (vp hf) λ w hw w1 w2=>zz (dN (F7 (cu 0 rfl ht hw) F0 (sj w1)) (dN (F7 (cu 0 rfl ht hw) F0 (sj w2)) (aG (x1x.1.meth rfl (.one (FY rfl)) (E7 P x1x.1 F ht hf λ H2x x2x=>qf.next hi (lt_succ_self i) h3 (x1x.trans x2x))))))
 .obtain ⟨rfl,F⟩:=ex.fin (Nat.le_of_not_lt hi)
  exact wZ (lt (GN hi)) (a6 (rA (.one (x1x.1.ev rfl rfl)) ⟨_,x1x.1.fb,GK F.out (ac rfl),q _ x1x⟩))
end
section
variable {S:Sx}{X:Int->Prop}{H:AH}{Q:V->AH->Prop}
theorem Mv.putR' {H H':AH}{a:Addr}{o:AO}{D:Addr->Prop}(x:Mv H H' D)(h:H a=none):Mv H (H'.set a o) D:=⟨λ b ao e n=>by
 have:b≠a:=by rintro rfl;rw [h] at e;contradiction
 refine sr (F4 _ _ this) ?_;exact x.keep _ _ e n,λ b e=>x.dom b (aA e).1⟩
theorem uw {a d:Addr}{c k:Nat}{es:List (Nat×V)}{v:V}{G:AH->Prop}(hi:H a=some (.inst c d))(hd:H d=some (.attrs es))(hc:iq c=true)(hl:es.length<=100)(q:∀ H',Mv H H' (λ x=>x=d)->H' d=some (.attrs (cG es k v))->G H'):cN (.ref a) k v H G :=
 bL hi hd hc hl (q _ (Mv.put rfl) (F3 _ _ _))
theorem Dy (P:Pk S){β:Bool}{k:Nat}{sk ds:Addr}(hi:H sk=some (.inst 2 ds))(hd:H ds=some (.attrs []))(q:∀ sl H',Mv H H' (λ x=>x=ds)->H sl=none->H' sl=some (.list [])->H' ds=some (.attrs [(6,.ref sl)])->Q .none H'):af S (k+1) β X 17 [.ref sk] H Q :=
 E1 P hi hd λ sl n=>q sl _ ((Ga n).putR rfl) n ((F4 _ _ (aB hd n).symm).trans (F3 _ _ _)) (F3 _ _ _)
section
variable {C:Cw}{ls:Ls}{c f:Nat}{e:E}{es:Es}
theorem xD {vs:List V}(h:AV es C ls H vs)(q:∀ d a H',Mv H H' (λ _=>False)->H d=none->H a=none->H' d=some (.attrs [])->H' a=some (.inst c d)->C.call C.β C.X f (.ref a::vs) H' λ u H2x=>u=.none/\Q (.ref a) H2x):xe (.mk c f es) C ls H Q :=
 h _ λ d a nd na n=>q d a _ ((Ga nd).newR ((F4 _ _ n).trans na)) nd na ((F4 _ _ n.symm).trans (F3 _ _ _)) (F3 _ _ _)
theorem qU {pa:Addr}{ps:List V}(h:AV es C ls H [.ref pa])(hp:listAt H pa ps)(hl:ps.length<=16777216)(q:∀ c H',Mv H H' (λ _=>False)->H c=none->H' c=some (.list ps)->Q (.ref c) H'):xe (.bi .list es) C ls H Q:=h _ ⟨ps,hp,hl,λ c n=>q c _ (Ga n) n (F3 _ _ _)⟩
theorem uL (q:∀ c H',Mv H H' (λ _=>False)->H c=none->H' c=some (.idict [])->Q (.ref c) H'):xe .empI C ls H Q:=λ c n=>q c _ (Ga n) n (F3 _ _ _)
theorem wB (q:∀ c H',Mv H H' (λ _=>False)->H c=none->H' c=some (.barr [])->Q (.ref c) H'):xe (.bi .barr .nil) C ls H Q:=λ c n=>q c _ (Ga n) n (F3 _ _ _)
end
theorem t4 {C:Cw}{ls:Ls}{o:E}{k n:Nat}{es:Es}(h:xe o C ls H λ u H1=>fz k u H1/\xes es C ls H1 λ vs H2x=>C.call C.β C.X n (u::vs) H2x Q):xe (.meth k n o es) C ls H Q:=h
theorem E4 (P:Pk S){k:Nat}{pr dp pa st:Addr}{ps:List V}{sv:List (Int×V)}(hi:H pr=some (.inst 3 dp))(hd:H dp=some (.attrs []))(hp:listAt H pa ps)(hpl:ps.length<=1000)(hs:H st=some (.idict sv))
  (q:∀ H' A,A.pr=pr->A.st=st->Rn H' A ps [] sv [] []->Mv H H' (λ a=>a=dp)->H A.pl=none->H A.own=none->H A.sk=none->H A.ds=none->H A.sl=none->H A.fb=none->A.dp=dp->Q .none H'):af S (k+2) true X 25 [.ref pr,.ref pa,.ref st] H Q:=by
 refine P.enter 24 rfl (.inl rfl) rfl (λ _=>rfl) ?_
 have npd:pr≠dp:=aw hi hd rfl
 refine di (qU (.one (FY rfl)) hp (GK hpl (ac rfl)) λ pl K1 m1x npl gpl=>FY rfl _ (uw (m1x.keep _ _ hi id) (m1x.keep _ _ hd id) rfl (ac rfl) λ K2 m2x gd2=>?_))
 have a2x:=m1x.trans m2x (D:=λ a=>a=dp) (λ _ h=>h.elim) λ _ h=>.inl h
 have kpl:=m2x.keep _ _ gpl (aB hd npl).symm
 refine di (uL λ own K3 m3x now gow=>FY rfl _ (uw (m3x.keep _ _ (a2x.keep _ _ hi npd) id) (m3x.keep _ _ gd2 id) rfl (ac rfl) λ K4 m4x gd4=>?_))
 have a4:=(a2x.trans m3x (λ _ h=>h) λ _ h=>h.elim).trans m4x (D:=λ a=>a=dp) (λ _ h=>h) λ _ h=>.inl h
 have nown:=aB gd2 now
 refine eX (FY rfl) (FY rfl) (uw (a4.keep _ _ hi npd) gd4 rfl (ac rfl) λ K5 m5x gd5=>?_)
 have a5:=a4.trans m5x (D:=λ a=>a=dp) (λ _ h=>h) λ _ h=>.inl h
 have b5x:=(m3x.trans m4x (D:=λ a=>a=dp) (λ _ h=>h.elim) λ _ h=>.inl h).trans m5x (D:=λ a=>a=dp) (λ _ h=>h) λ _ h=>.inl h
 have c5x:=m4x.trans m5x (D:=λ a=>a=dp) (λ _ h=>h) λ _ h=>.inl h
 have kow:=c5x.keep _ _ gow nown.symm
 refine di (xD (c:=2) .nil λ ds sk K6 m6x nds nsk gds gsk=>Dy P gsk gds λ sl K7 m7x nsl gsl gds7=>⟨rfl,?_⟩)
 have m67:=m6x.trans m7x (D:=λ a=>a=ds) (λ _ h=>h.elim) λ _ h=>.inl h
 have ndd:=aB gd5 nds
 have gd7:=m67.keep _ _ gd5 ndd
 have npr:=aB (a5.keep _ _ hi npd) nds
 refine FY rfl _ (uw (m67.keep _ _ (a5.keep _ _ hi npd) npr) gd7 rfl (ac rfl) λ K8 m8x gd8=>?_)
 have b8x:=m67.trans m8x (D:=λ a=>a=ds\/a=dp) (λ _ h=>.inl h) λ _ h=>.inl (.inr h)
 refine di (wB λ fb K9 m9x nfb gfb=>FY rfl _ (uw (m9x.keep _ _ (b8x.keep _ _ (a5.keep _ _ hi npd) λ h=>h.elim npr npd) id) (m9x.keep _ _ gd8 id) rfl (ac rfl) λ K m gd=>?_))
 have z {a:Addr} {x:AO} (e:K8 a=some x) (n:a≠dp):K a=some x:=m.keep _ _ (m9x.keep _ _ e id) n
 have y {a:Addr} {x:AO} (e:K7 a=some x) (n:a≠dp):K a=some x:=z (m8x.keep _ _ e n) n
 have w {a:Addr} {x:AO} (e:K5 a=some x) (n:a≠dp):K a=some x:=y (m67.keep _ _ e (aB e nds)) n
 have b9x:=b8x.trans (m9x.trans m (D:=λ a=>a=dp) (λ _ h=>h.elim) λ _ h=>.inl h) (D:=λ a=>a=ds\/a=dp) (λ _ h=>h) λ _ h=>.inl (.inr h)
 have nsk':=aB gd5 nsk
 have nsl':=aB (m6x.keep _ _ gd5 id) nsl
 exact q K ⟨pr,dp,pl,own,st,sk,ds,sl,fb⟩ rfl rfl ⟨w (a5.keep _ _ hi npd) npd,gd,w (b5x.keep _ _ kpl (aB hd npl).symm) (aB hd npl).symm,w kow nown.symm,w (a5.keep _ _ hs (aw hs hd rfl)) (aw hs hd rfl),
   ⟨y (m7x.keep _ _ gsk (aw gsk gds rfl)) nsk'.symm,y gds7 ndd.symm,y gsl nsl'.symm⟩,m.keep _ _ gfb (aB gd8 nfb).symm,
   ⟨aB (m6x.keep _ _ (b5x.keep _ _ kpl (aB hd npl).symm) id) nsl,(aB (a2x.keep _ _ hs (aw hs hd rfl)) now).symm,ndd⟩⟩
  (a5.trans b9x (λ _ h=>h) λ _ h=>h.elim (λ e=>.inr (e▸a5.dom _ nds)) .inl) npl (a2x.dom _ now) (a5.dom _ nsk) (a5.dom _ nds) (a5.dom _ (m6x.dom _ nsl)) (a5.dom _ (b8x.dom _ nfb)) rfl
theorem Ew (P:Pk S){k:Nat}{o:List Nat}{pa st:Addr}{ps:List V}{sv:List (Int×V)}{R:PR}(hp:listAt H pa ps)(hpl:ps.length<=1000)(hs:H st=some (.idict sv))(hl:o.length<=4000000)(ho:cR o)(run:aO o 0 [] [] [] R)
  (q:match R with
   | .bad told=>X told
   | .ok ops=>ops.length<=10000000/\∃ sF,Ex ops 0 ⟨ps,[],sv,[],[]⟩ sF/\∀ H',H' st=some (.idict sF.sv)->Mv H H' (λ a=>a=st)->Q (.bytes sF.out) H'):af S (k+7) true X 33 [.bytes o,.ref pa,.ref st] H Q:=by
 refine P.enter 32 rfl (.inl rfl) rfl nofun (a6 (t4 (xD (c:=3) (vs:=[.ref pa,.ref st]) (.two (FY rfl) (Gr (TV.isN (FY rfl) rfl) (FY rfl))) λ dp pr K0 m0x hdp hpr e1 e2=>?_)))
 have back:∀ {a:Addr},K0 a=none->H a=none:=λ e=>m0x.dom _ e
 refine E4 P e2 e1 (hp.imp (λ e=>m0x.keep _ _ e id) (λ e=>m0x.keep _ _ e id)) hpl (m0x.keep _ _ hs id) λ H1 A ea es R1x m1x f1 f2 f3 f4 f5 f6 edp=>⟨rfl,⟨_,_,ea▸R1x.inst,R1x.attrs⟩,?_⟩
 have m01:Mv H H1 (λ _=>False):=m0x.trans m1x (λ _ h=>h) λ a h=>.inr (h▸hdp)
 refine ER P run hl ho ?_
 induction R with
 | bad told=>exact q
 | ok ops =>
  refine bc λ zz=>?_
  obtain ⟨hops,sF,ex,q⟩:=q
  refine zz ?_
  intro H2x rl rows h2 h3 m2x n2
  have x2x:=R1x.other m2x
  refine ea▸E0 (s:=⟨ps,[],sv,[],[]⟩) P x2x.1 h2 h3 (λ e=>by rw [e,R1x.ps] at n2;cases n2) (λ e=>by rw [e,R1x.stk.list] at n2;contradiction) hops ex λ H3 x3x=>?_
  refine q H3 (es▸x3x.1.sv) ((m01.trans m2x (D:=λ _=>False) (λ _ h=>h) λ _ h=>.inl h).trans x3x.2 (λ _ h=>h.elim) λ a h=>?_)
  rcases h with h|h|h|h|h
  .exact .inr (h▸back f1)
  .exact .inr (h▸back f2)
  .exact .inl (h.trans es)
  .exact .inr (h▸back f5)
  .exact .inr (h▸back f6)
end
theorem iC:∀ d<10,(Nat.digitChar d).toNat=sg false d:=by decide
theorem lv (n:Nat):(Nat.toDigits 10 n).map Char.toNat=aE false 10 n:=by
 induction n using strongRecOn with
 | ind n ih =>
  by_cases h:n<10
  .rw [Nat.toDigits_of_lt_base h,aE,bJ h];simp [iC n h]
  .rw [Nat.toDigits_of_base_le (by lia) (by lia),aE,d7 (by lia) (by lia),map_append,map_append,ih _ (div_lt_self (by lia) (by lia))]
   simp [aE,iC (n % 10) (mod_lt _ (by lia))]
theorem fF (n:Nat):mO (n:Int)=aE false 10 n:=by
 show ((Int.repr (Int.ofNat n)).toList).map Char.toNat=_
 show ((Nat.repr n).toList).map Char.toNat=_
 exact sr (String.toList_ofList ..) (sr (lv ..) rfl)
section
variable {S:Sx}{X:Int->Prop}{β:Bool}{H:AH}{Q:V->AH->Prop}
noncomputable abbrev aQ:Addr->Prop:=λ _=>False
theorem Mv.after {H H1 H2x:AH}(m:Mv H H1 aQ)(m2x:Mv H1 H2x aQ):Mv H H2x aQ:=m.trans m2x (λ _ h=>h) λ _ h=>.inl h
theorem gN:∀ L:List Nat,bT (L.map λ c=>V.str [c])=some (L.map λ c=>[c])
 | []=>rfl
 | c::r=>by rw [map_cons,bT,gN r];rfl
theorem BR (c:Nat):∀ L:List Nat,(L.map λ c=>[c]).contains [c]=L.contains c
 | []=>rfl
 | a::r=>by exact sr map_cons (sr contains_cons (sr contains_cons (sr (BR c r) (congrArg (·||r.contains c) (Bool.and_true (c==a))))))
theorem Eb (c y:Nat):decide ([c]=[y])=decide (c=y):=by
 by_cases h:c=y
 .subst h;exact sr (GM rfl) (sr (GM rfl) rfl)
 .exact sr (GN h) (sr (GN λ e=>h (List.cons.inj e).1) rfl)
section
variable {C:Cw}{ls:Ls}{N:Ls->AH->Prop}{es:Es}{a b r:B}{j c:Nat}{L:List Nat}{t:Bool}
theorem fU {x:List Nat}{vs:List V}{ys:List (List Nat)}(hv:lget ls j=some (.str x))(hes:AV es C ls H vs)(hl:vs.length<=100)(hy:bT vs=some ys){Q:Bool->AH->Prop}
  (q:∀ c,H c=none->Q (ys.contains x) (H.set c (.tup vs))):xt (.cmp .isin (.var j) (.tup es)) C ls H Q:=FY hv _ (hes _ ⟨hl,λ c hc=>⟨vs,ys,F3 _ _ _,hy,q c hc⟩⟩)
theorem tK (hv:lget ls j=some (.str [c]))(hes:AV es C ls H (L.map λ c=>.str [c]))(hl:L.length<=100)(h:L.contains c=t){Q:Bool->AH->Prop}(q:∀ H',Mv H H' aQ->Q t H'):xt (.cmp .isin (.var j) (.tup es)) C ls H Q :=
 fU hv hes (by refine sr (length_map ..) ?_;exact hl) (gN L) λ c hc=>by rw [BR,h];exact q _ (Ga hc)
theorem rQ (hv:lget ls j=some (.str [c]))(hes:AV es C ls H (L.map λ c=>.str [c]))(hl:L.length<=100)(h:L.contains c=true)(p:∀ H',Mv H H' aQ->xs a C ls H' (λ ls' H'=>xs r C ls' H' N Q) Q):xs (.cond (.cmp .isin (.var j) (.tup es)) a b r) C ls H N Q :=
 tK hv hes hl h λ H' m=>⟨λ _=>p H' m,nofun⟩
theorem qL (hv:lget ls j=some (.str [c]))(hes:AV es C ls H (L.map λ c=>.str [c]))(hl:L.length<=100)(h:L.contains c=false)(p:∀ H',Mv H H' aQ->xs r C ls H' N Q):xs (.cond (.cmp .isin (.var j) (.tup es)) a .done r) C ls H N Q :=
 tK hv hes hl h λ H' m=>⟨nofun,λ _=>p H' m⟩
theorem bA (hv:lget ls j=some (.str [c])){y:Nat}(h:decide (c=y)=t):TV (.cmp .eq (.var j) (.str [y])) C ls H t:=F7 (FY hv) F0 (sj ((Eb c y).trans h))
theorem EV.and {e i:E}{s t:Bool}(h:EV e C ls H (.bool s))(g:EV i C ls H (.bool t)):EV (.and e i) C ls H (.bool (s&&t)):=λ Q q=>by
 cases s
 .exact qX h q
 .exact q6 h (g _ q)
theorem EV.or {e i:E}{s t:Bool}(h:EV e C ls H (.bool s))(g:EV i C ls H (.bool t)):EV (.or e i) C ls H (.bool (s||t)):=λ Q q=>h _ (by
 cases s
 .exact ⟨nofun,λ _=>g _ q⟩
 .exact ⟨λ _=>q,nofun⟩)
theorem Gz {e:E}{p:Prop}[Decidable p](h:EV e C ls H (.bool t))(z:decide p=t):EV (.bi .int (.cons e .nil)) C ls H (.int (if p then 1 else 0)):=λ Q q=>h _ (by
 subst z
 by_cases hp:p
 .rw [if_pos hp] at q;exact sr (GM hp) q
 .rw [if_neg hp] at q;refine sr (GN hp) ?_;exact q)
theorem EV.ne0 {a:Int}(h:lget ls j=some (.int a)):EV (.cmp .ne (.var j) (.int 0)) C ls H (.bool (!decide (a=0))):=EV.cmp (FY h) FZ λ _ q=>q
end
theorem yW {a b:Int}(h:decide (b=0)=false):qI a b=(a.natAbs / b.natAbs:Nat)*(cond (decide (a<0)==decide (b<0)) 1 (-1)):=by
 dsimp only [qI]
 refine sr h ?_
 induction (decide (a<0)==decide (b<0)) with
 | true=>exact (Int.mul_one _).symm
 | false=>exact (Int.mul_neg_one _).symm
theorem wQ {c:Nat}{L:List Nat}(h:L.contains c=true):c∈L:=List.contains_iff_mem.mp h
theorem Fi (P:Pk S){k:Nat}{c:Nat}{a b:Int}(hc:c∈([43,45,42,47,109,38,124,94,61,62,60,65,79]:List Nat))(ha:Sm a)(hb:Sm b)(q:∀ H',Mv H H' aQ->Q (.int (two c a b)) H'):af S (k+1) β X 42 [.str [c],.int a,.int b] H Q:=by
 refine P.enter 41 rfl (.inl rfl) rfl nofun ?_
 walk_at "eI"
 induction g1:([47,109]:List Nat).contains c with
 | true =>
  refine rQ (L:=[47,109]) rfl (.two F0 F0) (ac rfl) g1 λ H1 m1x=>?_
  have g:=wQ g1
  induction h0:decide (b=0) with
  | true =>
   refine cU (F7 (FY rfl) FZ (vq h0)) (aC FZ ?_)
   have h0:=GL h0
   have e:two c a b=0:=by
    rcases mem_cons.mp g with rfl|g
    .show qI a b=0;dsimp only [qI];exact sr (GM h0) rfl
    .obtain rfl:=GP g;exact if_pos h0
   exact e▸q _ m1x
  | false =>
   have v3:EV (.bin .mul (.bin .fdiv (.bi .abs (.cons (.var 1) .nil)) (.bi .abs (.cons (.var 2) .nil))) (.ite (.cmp .eq (.cmp .lt (.var 1) (.int 0)) (.cmp .lt (.var 2) (.int 0))) (.int 1) (.neg (.int 1)))) ⟨af S k,β,X⟩ [some (.str [c]),some (.int a),some (.int b),none] H1 (.int (qI a b)):=by
    refine sr (yW h0) ?_
    refine EV.mul (F6 (u:=.int a.natAbs) (w:=.int b.natAbs) (EV.bi (b:=.abs) (.one (FY rfl)) λ _ q=>q) (EV.bi (b:=.abs) (.one (FY rfl)) λ _ q=>q) λ Q q=>⟨⟨λ e=>of_decide_eq_false h0 (Int.natAbs_eq_zero.mp (Int.ofNat.inj e)),hb⟩,oN a b▸q⟩) ?_ (by cases (decide (a<0)==decide (b<0))<;>exact ⟨by decide,by decide⟩)
    have tst:TV (.cmp .eq (.cmp .lt (.var 1) (.int 0)) (.cmp .lt (.var 2) (.int 0))) ⟨af S k,β,X⟩ [some (.str [c]),some (.int a),some (.int b),none] H1 (decide (a<0)==decide (b<0)):=Gx (EV.cmp (FY rfl) FZ (u0 rfl)) (EV.cmp (FY rfl) FZ (u0 rfl))
    induction hs:(decide (a<0)==decide (b<0)) with
    | true=>rw [hs] at tst;exact Gq tst FZ
    | false=>rw [hs] at tst;exact Gr tst (EV.neg FZ)
   refine au (F7 (FY rfl) FZ (vq h0)) (aM v3 ?_)
   rcases mem_cons.mp g with rfl|g
   .exact aC (Gq (bA rfl rfl) (FY rfl)) (q _ m1x)
   .obtain rfl:=GP g
    have e:two 109 a b=a-qI a b*b:=(if_neg (of_decide_eq_false h0)).trans (by exact sr (Int.mul_comm ..) rfl)
    exact aC (Gr (bA rfl rfl) (EV.min (FY rfl) (EV.mul (FY rfl) (FY rfl) (qa hb)))) (e▸q _ m1x)
 | false =>
 refine qL (L:=[47,109]) rfl (.two F0 F0) (ac rfl) g1 λ H1 m1x=>?_
 induction g2:([43,45,42]:List Nat).contains c with
 | true =>
  refine rQ (L:=[43,45,42]) rfl (.cons F0 (.two F0 F0)) (ac rfl) g2 λ H2x m2x=>?_
  replace q:=q _ (m1x.after m2x)
  rcases mem_cons.mp (wQ g2) with rfl|g
  .exact aC (Gq (bA rfl rfl) (EV.add (FY rfl) (FY rfl))) q
  rcases mem_cons.mp g with rfl|g
  .exact aC (Gr (bA rfl rfl) (Gq (bA rfl rfl) (EV.min (FY rfl) (FY rfl)))) q
  .obtain rfl:=GP g
   exact aC (Gr (bA rfl rfl) (Gr (bA rfl rfl) (EV.mul (FY rfl) (FY rfl) (qa hb)))) q
 | false =>
 refine qL (L:=[43,45,42]) rfl (.cons F0 (.two F0 F0)) (ac rfl) g2 λ H2x m2x=>?_
 induction g3:([38,124,94]:List Nat).contains c with
 | true =>
  refine rQ (L:=[38,124,94]) rfl (.cons F0 (.two F0 F0)) (ac rfl) g3 λ H3 m3x=>?_
  replace q:=q _ ((m1x.after m2x).after m3x)
  rcases mem_cons.mp (wQ g3) with rfl|g
  .exact aC (Gq (bA rfl rfl) (F6 (FY rfl) (FY rfl) λ _ q=>q)) q
  rcases mem_cons.mp g with rfl|g
  .exact aC (Gr (bA rfl rfl) (Gq (bA rfl rfl) (F6 (FY rfl) (FY rfl) λ _ q=>q))) q
  .obtain rfl:=GP g
   exact aC (Gr (bA rfl rfl) (Gr (bA rfl rfl) (F6 (FY rfl) (FY rfl) λ _ q=>q))) q
 | false =>
 refine qL (L:=[38,124,94]) rfl (.cons F0 (.two F0 F0)) (ac rfl) g3 λ H3 m3x=>?_
 induction g4:([65,79]:List Nat).contains c with
 | true =>
  refine rQ (L:=[65,79]) rfl (.two F0 F0) (ac rfl) g4 λ H4 m4x=>?_
  replace q:=q _ (((m1x.after m2x).after m3x).after m4x)
  rcases mem_cons.mp (wQ g4) with rfl|g
  .exact aC (Gq (bA rfl rfl) (Gz (p:=a≠0/\b≠0) (EV.and (EV.ne0 rfl) (EV.ne0 rfl)) (by exact sr (Bool.decide_and ..) (sr (decide_not ..) (sr (decide_not ..) rfl))))) q
  .obtain rfl:=GP g
   exact aC (Gr (bA rfl rfl) (Gz (p:=a≠0\/b≠0) (EV.or (EV.ne0 rfl) (EV.ne0 rfl)) (by exact sr (Bool.decide_or ..) (sr (decide_not ..) (sr (decide_not ..) rfl))))) q
 | false =>
 refine qL (L:=[65,79]) rfl (.two F0 F0) (ac rfl) g4 λ H4 m4x=>?_
 replace q:=q _ (((m1x.after m2x).after m3x).after m4x)
 have hc:c=61\/c=62\/c=60:=by
  have no:∀ {c:Nat} {L:List Nat},c∈L->L.contains c=false->False:=λ m h=>Bool.noConfusion ((List.contains_iff_mem.mpr m).symm.trans h)
  clear q
  iterate 8 (rcases mem_cons.mp hc with rfl|hc;first|exact (Bool.noConfusion g1)|exact (Bool.noConfusion g2)|exact (Bool.noConfusion g3)|skip)
  rcases mem_cons.mp hc with rfl|hc
  .exact .inl rfl
  rcases mem_cons.mp hc with rfl|hc
  .exact .inr (.inl rfl)
  rcases mem_cons.mp hc with rfl|hc
  .exact .inr (.inr rfl)
  exact (no hc g4).elim
 rcases hc with rfl|rfl|rfl
 .exact aC (Gq (bA rfl rfl) (Gz (p:=a=b) (EV.cmp (FY rfl) (FY rfl) λ _ q=>q) rfl)) q
 .exact aC (Gr (bA rfl rfl) (Gq (bA rfl rfl) (Gz (p:=b<a) (EV.cmp (FY rfl) (FY rfl) λ _ q=>q) rfl))) q
 .exact aC (Gr (bA rfl rfl) (Gr (bA rfl rfl) (Gz (p:=a<b) (EV.cmp (FY rfl) (FY rfl) λ _ q=>q) rfl))) q
end
section
variable {S:Sx}{X:Int->Prop}{β:Bool}{H:AH}{Q:V->AH->Prop}
theorem pq {C:Cw}{ls ls':Ls}{N:Ls->AH->Prop}{es:Es}{r:B}{ks:List Nat}{vs:List V}(h:AV es C ls H vs)(hz:vs.length<=100)(hl:lputs ls ks vs=some ls')(p:∀ H',Mv H H' aQ->xs r C ls' H' N Q):xs (.setN ks (.tup es) r) C ls H N Q :=
 cL (kJ h hz λ c hc=>⟨vs,F3 _ _ _,ls',hl,p _ (Ga hc)⟩)
theorem F9 {C:Cw}{ls:Ls}{e i:E}{x y:List Nat}(he:EV e C ls H (.str x))(hi:EV i C ls H (.str y))(h:x.length+y.length<=16777216):EV (.bin .add e i) C ls H (.str (x++y)):=F6 he hi λ Q q=>⟨h,q⟩
theorem GA {C:Cw}{ls:Ls}{e i:E}{x:Nat}{y:List Nat}(he:EV e C ls H (.str (x::y)))(h:(x::y).length<=16777216):EV (.or e i) C ls H (.str (x::y)):=λ Q q=>he _ ⟨h,λ _=>q,nofun⟩
theorem GB {C:Cw}{ls:Ls}{e i:E}{v:V}(he:EV e C ls H (.str []))(hi:EV i C ls H v):EV (.or e i) C ls H v:=λ Q q=>he _ ⟨zero_le _,nofun,λ _=>hi _ q⟩
noncomputable def sK (b l:Nat)(f:List Nat):List Nat:=cond (decide (0<l)) ((dA b l).map (sg false)) []++f
theorem EO (P:Pk S){k:Nat}{n b:Nat}(hb:2<=b)(hb2:b<=16)(hl:(dA b n).length<=1000)(q:∀ H',Mv H H' aQ->Q (.str (aE false b n)) H'):af S (k+1) β X 43 [.int n,.int b] H Q:=by
 refine P.enter 42 rfl (.inl rfl) rfl nofun ?_
 walk_at "eI"
 have b0:b≠0:=λ e=>by subst e;contradiction
 refine aM F0 (f8 (λ z ls H'=>∃ f:List Nat,ls=[some (.int z),some (.int b),some (.str f)]/\sK b z f=sK b n []/\Mv H H' aQ) (n:=n) ⟨[],rfl,rfl,Mv.refl⟩ ?_)
 rintro l ls H1 ⟨f,rfl,hD,m⟩
 have hf:f.length<=1000:=by
  have e:=congrArg List.length hD
  unfold sK at e
  rw [GO,append_nil] at e
  refine GK (e▸le_add_left _ _) (?_:_<=1000)
  induction decide (0<n) with
  | true=>exact (by refine sr (length_map ..) ?_;exact hl:((dA b n).map (sg false)).length<=1000)
  | false=>exact zero_le _
 have tst:∀ {t},decide (0<l)=t->TV (.cmp .gt (.var 0) (.int 0)) ⟨af S k,β,X⟩ [some (.int l),some (.int b),some (.str f)] H1 t:=λ e=>F7 (FY rfl) FZ (fm (x:=l) (y:=0) rfl rfl e)
 induction h:decide (0<l) with
 | true =>
  have h0:=GL h
  have hlt:l % b<16:=lt_of_lt_of_le (mod_lt _ (Nat.pos_of_ne_zero b0)) hb2
  refine zZ (tst h) (pq (.two (F9 (F5 F0 (F6 (FY rfl) (FY rfl) (vQ b0)) (Be rfl (ac rfl) (oY (g:=false) hlt))) (FY rfl) (GK (add_le_add_left hf _) (ac rfl))) (F6 (FY rfl) (FY rfl) (BL b0 (lt_of_le_of_lt hb2 (ac rfl))))) (ac rfl) rfl λ H2x m2x=>⟨l / b,div_lt_self h0 hb,sg false (l % b)::f,rfl,(sl hD ?_),m.after m2x⟩)
  unfold sK
  refine sr h ?_
  show _=(dA b l).map (sg false)++f
  refine sl (mG (l:=l) (g:=false) hb ..) (sr (append_assoc ..) ?_)
  rfl
 | false =>
  refine wZ (tst h) ?_
  unfold sK at hD
  rw [h,append_nil] at hD
  replace hD:f=_:=hD
  replace q:=q _ m
  induction n with
  | zero =>
   have e:aE false b 0=[48]:=by unfold aE;refine sr (bJ (Nat.pos_of_ne_zero b0)) ?_;rfl
   rw [e] at q
   subst hD
   exact aC (GB (FY rfl) F0) q
  | succ n =>
   have e:f=aE false b (n+1):=hD
   have p:=tE b (n+1)
   induction f with
   | nil=>unfold aE at e;rw [<- length_map (f:=sg false),<- e] at p;contradiction
   | cons x r=>exact aC (GA (FY rfl) (GK hf (ac rfl))) (e▸q)
theorem wo {a b:Nat}:decide (([b]:List Nat)<[a])=decide (b<a):=by
 rw [Bool.eq_iff_iff]
 simp [List.lt_iff_exists,List.cons_lt_cons_iff]
 exact ⟨λ ⟨i,h,e,l⟩=>l,λ l=>⟨0,by simp,rfl,l⟩⟩
theorem qN {a b:Nat}(Q:Bool->Prop)(q:Q (!decide (b<a))):cmp .le (.str [a]) (.str [b]) H Q:=by rw [<- wo] at q;exact q
theorem Fj (P:Pk S){k:Nat}{c:Nat}(hc:c<256)(q:Q (.str [if 97<=c/\c<=102 then c-32 else c]) H):af S (k+1) β X 45 [.str [c]] H Q:=by
 refine P.enter 44 rfl (.inl rfl) rfl nofun ?_
 walk_at "eI"
 have tst:∀ {t},(!decide (c<97)&&!decide (102<c))=t->TV (.chain (.str [97]) .le (.var 0) .le (.str [102])) ⟨af S k,β,X⟩ [some (.str [c])] H t:=λ e=>TV.chain F0 (FY rfl) F0 qN qN e
 by_cases h:97<=c/\c<=102
 .rw [if_pos h] at q
  refine aC (Gq (tst (by refine sr (GN (not_lt.mpr h.1)) (sr (GN (not_lt.mpr h.2)) ?_);rfl)) (EV.bi (v:=.str [c-32]) (.one (EV.min (m:=c) (p:=(32:Nat)) (EV.bi (.one (FY rfl)) λ _ q=>q) FZ)) λ Q q=>?_)) q
  exact sl (Int.ofNat_sub (GK (ac rfl) h.1)) ⟨⟨natCast_nonneg _,ofNat_lt.mpr (lt_of_le_of_lt (Nat.sub_le _ _) hc)⟩,q⟩
 .rw [if_neg h] at q
  exact aC (Gr (tst (sl (decide_not ..) (sl (decide_not ..) (sl (Bool.decide_and ..) (sr (GN λ g=>h ⟨not_lt.mp g.1,not_lt.mp g.2⟩ ..) rfl))))) (FY rfl)) q
end
theorem bf {n:Int}{l:List Nat}(h:n<=0):dw n l=[]:=by
 unfold dw;refine sr (Int.toNat_of_nonpos h) ?_;rfl
theorem rF (k:Nat):(0:Int)-k<=0:=by lia
theorem jN (w:Int)(a b:List Nat):w-a.length-b.length=w-(a++b).length:=by exact sr (GO ..) (sr (Int.natCast_add ..) (sr (Int.sub_sub ..) rfl))
theorem dZ {head body flags:List Nat}{width:Int}{hp:Bool}(h1:flags.contains 45=false)(h2:(flags.contains 48&&!hp)=false):bH head body flags width hp=dw (width-(head++body).length) [32]++(head++body):=by
 unfold bH
 refine sr (h1 ..) (sr (h2 ..) (sr (jN ..) ?_))
 induction h:decide (width-(head++body).length<=0) with
 | true=>refine sr (bf (GL h)) ?_;rfl
 | false=>exact append_assoc _ _ _
theorem uP {head body flags:List Nat}{width:Int}(h1:flags.contains 45=false)(h2:flags.contains 48=true):bH head body flags width false=head++dw (width-(head++body).length) [48]++body:=by
 unfold bH
 refine sr (h1 ..) (sr (h2 ..) (sr (jN ..) ?_))
 induction h:decide (width-(head++body).length<=0) with
 | true=>exact sr (bf (l:=[48]) (GL h) ..) (sr (append_nil ..) rfl)
 | false=>rfl
theorem uN {head body flags:List Nat}{width:Int}{hp:Bool}(h1:flags.contains 45=true):bH head body flags width hp=(head++body)++dw (width-(head++body).length) [32]:=by
 unfold bH
 refine sr (h1 ..) (sr (jN ..) ?_)
 induction h:decide (width-(head++body).length<=0) with
 | true=>exact sr (bf (GL h) ..) (sr (append_nil ..) rfl)
 | false=>rfl
noncomputable def cj:Nat->List Nat
 | 0=>[37,100]|1=>[37,50,100]|2=>[37,48,51,100]|3=>[37,58,45,52,100]|4=>[37,58,43,100]|5=>[37,46,51,100]|6=>[37,120]|7=>[37,88]|8=>[37,111]|9=>[37,99]|10=>[37,52,46,50,100]|_=>[37,53,120]
noncomputable def xO:Nat->Op
 | 0=>.write 100 [] 0 none|1=>.write 100 [] 2 none|2=>.write 100 [48] 3 none|3=>.write 100 [45] 4 none|4=>.write 100 [43] 0 none|5=>.write 100 [] 0 (some 3)|6=>.write 120 [] 0 none|7=>.write 88 [] 0 none|8=>.write 111 [] 0 none
 | 9=>.char|10=>.write 100 [] 4 (some 2)|_=>.write 120 [] 5 none
noncomputable def uf (n:Int):List Nat:=[if n.fmod 256=0 then 128 else (n.fmod 256).toNat]
noncomputable def iP (w:Nat)(n:Int):List Nat:=match xO w with
 | .write letter flags width prec=>bz letter.toNat flags width prec n
 | _=>uf n
noncomputable def r6 (n:Int):List Nat:=if n<0 then [45] else []
theorem jK {flags:List Nat}{n:Int}(h1:flags.contains 43=false)(h2:flags.contains 32=false):dP 100 flags n=r6 n:=by
 unfold dP r6
 by_cases h:n<0
 .refine sr (if_pos h) (sr (GM h) ?_);rfl
 .refine sr (if_neg h) (sr (GN h) (sr h1 (sr h2 ?_)));rfl
theorem vj (n:Int):(r6 n).length<=1:=by unfold r6;split<;>exact ac rfl
theorem tF:∀ d<16,(if 97<=sg false d/\sg false d<=102 then sg false d-32 else sg false d)=sg true d:=by decide
section
variable {S:Sx}{X:Int->Prop}{β:Bool}{H:AH}{Q:V->AH->Prop}
theorem qG {C:Cw}{f:Nat->Nat}{elt:E}{still:AH->Prop}{H:AH}(hst:still H)(he:∀ (c:Nat) (ls:Ls),c<256->lget ls 1=some (.str [c])->EV elt C ls H (.str [f c])):∀ (l:List Nat) (a b d:Option V) (acc:List V) (K:List V->AH->Prop),(∀ c∈l,c<256)->K (acc++l.map λ c=>.str [f c]) H ->
  d6 still (.one 1) (λ ls' H' K=>xe elt C ls' H' K) (l.map λ c=>It.v (.str [c])) [a,b,d] acc H K
 | [],a,b,d,acc,K,hl,k=>⟨hst,append_nil acc▸k⟩
 | c::r,a,b,d,acc,K,hl,k=>⟨hst,he c [a,some (.str [c]),d] (hl c mem_cons_self) rfl _ (qG hst he r a (some (.str [c])) d _ K (λ x m=>hl x (mem_cons_of_mem _ m)) (by refine sr (append_assoc ..) ?_;exact k))⟩
theorem jT {f:Nat->Nat}:∀ l:List Nat,bT (l.map λ c=>V.str [f c])=some (l.map λ c=>[f c])
 | []=>rfl
 | c::r=>by rw [map_cons,bT,jT r];rfl
theorem hP {f:Nat->Nat}:∀ l:List Nat,(l.map λ c=>[f c]).flatten=l.map f
 | []=>rfl
 | c::r=>by refine sr map_cons (sr List.flatten_cons (sr (hP r) ?_));rfl
theorem iR {C:Cw}{ls:Ls}{src:Src}{tg:Tg}{n:Nat}{caps:List (Nat×Nat)}{elt e:E}{u:V}{items:List It}(he:EV e C.low ls H u)(hs:cF src u H items)
  (p:d6 (ay src u items) tg (λ ls' H' K=>xe elt C.low ls' H' K) items (dc ls caps (replicate n none)) [] H λ vs H2x=>vs.length<=16777216/\∀ c,H2x c=none->Q (.ref c) (H2x.set c (.list vs))):xe (.comp src tg n caps elt e) C ls H Q:=he _ ⟨items,hs,p⟩
theorem aN {C:Cw}{ls:Ls}{j:Nat}{x y:List Nat}{t:Bool}(hv:lget ls j=some (.str x))(h:decide (x=y)=t):TV (.cmp .eq (.var j) (.str y)) C ls H t:=F7 (FY hv) F0 (sj h)
theorem GC {C:Cw}{ls:Ls}{e:E}{z:Int}{c:Nat}(he:EV e C ls H (.int z))(hz:-1048576<=z/\z<=1048576):EV (.bin .mul (.str [c]) e) C ls H (.str (dw z [c])):=F6 F0 he λ Q q=>⟨⟨ac rfl,hz⟩,q⟩
theorem zb (a:Nat){l:Nat}(h:l<=1000)(ha:a<=1000):-1048576<=(a:Int)-l/\(a:Int)-l<=1048576:=by lia
theorem lh (a l c:Nat):(dw ((a:Int)-l) [c]).length<=a:=by refine sr (gh ..) ?_;lia
theorem GD {C:Cw}{ls:Ls}{e:E}{l:List Nat}{c:Nat}(a:Nat)(he:EV e C ls H (.str l))(hl:l.length<=1000)(ha:a<=1000):EV (.bin .mul (.str [c]) (.bin .sub (.int a) (.bi .len (.cons e .nil)))) C ls H (.str (dw ((a:Int)-l.length) [c])):=GC (EV.min FZ (Gs he (GK hl (ac rfl)))) (zb a hl ha)
theorem DP (P:Pk S){k:Nat}{w:Nat}{n:Int}{H0:AH}(hw:w=6\/w=7\/w=8\/w=11)(hn:n.natAbs<1073741824)(m0x:Mv H0 H aQ){N:Ls->AH->Prop}(q:∀ H',Mv H0 H' aQ->Q (.str (iP w n)) H') :
  xs ud ⟨af S (k+1),β,X⟩ [some (.str (cj w)),some (.int n),none,none,none] H N Q:=by
 have hn40:=mQ (v:=n) (lt_of_lt_of_le hn (by decide))
 have val:EV (.ite (.cmp .ge (.var 1) (.int 0)) (.var 1) (.bin .mod (.var 1) (.int 4294967296))) ⟨af S (k+1),β,X⟩ [some (.str (cj w)),some (.int n),none,none,none] H (.int (eP n).toNat):=by
  refine sr (toNat_of_nonneg (qB n)) ?_
  unfold eP
  by_cases h0:n<0
  .refine sr (GM h0) ?_;exact Gr (F7 (FY rfl) FZ λ Q q=>by show Q (decide (0<=n));refine sr (GN (Int.not_le.mpr h0)) ?_;exact q) (F6 (FY rfl) FZ λ Q q=>⟨by decide,q⟩)
  .refine sr (GN h0) ?_;exact Gq (F7 (FY rfl) FZ λ Q q=>by show Q (decide (0<=n));refine sr (GM (Int.not_lt.mp h0)) ?_;exact q) (FY rfl)
 have e:∀ (c b:Nat) (g:Bool) (width:Int),gH c n=aE g b (eP n).toNat->(c=100)=False->bz c [] width none n=dw (width-(aE g b (eP n).toNat).length) [32]++aE g b (eP n).toNat:=λ c b g width h hc=>by
  have hd:dP c [] n=[]:=by unfold dP;exact sr (GN (of_eq_false hc)) rfl
  unfold bz
  exact sr h (sr hd (dZ rfl rfl))
 have e6:iP 6 n=aE false 16 (eP n).toNat:=(e 120 16 false 0 rfl (eq_false (by decide))).trans (by refine sr (bf (rF _)) ?_;rfl)
 have e7:iP 7 n=aE true 16 (eP n).toNat:=(e 88 16 true 0 rfl (eq_false (by decide))).trans (by refine sr (bf (rF _)) ?_;rfl)
 have e8:iP 8 n=aE false 8 (eP n).toNat:=(e 111 8 false 0 rfl (eq_false (by decide))).trans (by refine sr (bf (rF _)) ?_;rfl)
 have Ep:iP 11 n=dw (5-(aE false 16 (eP n).toNat).length) [32]++aE false 16 (eP n).toNat:=e 120 16 false 5 rfl (eq_false (by decide))
 generalize (eP n).toNat=v at *
 have f16:=λ g=>cM (g:=g) (b:=16) (ac rfl) hn40
 have go:∀ {b:Nat},8<=b/\b<=16->EV (.ite (.cmp .eq (.var 0) (.str [37,111])) (.int 8) (.int 16)) ⟨af S (k+1),β,X⟩ [some (.str (cj w)),some (.int n),none,none,none] H (.int b)->(∀ H1,Mv H0 H1 aQ->xs (.cond (.cmp .eq (.var 0) (.str [37,88]))
   (.ret (.bm .join (.str []) (.cons (.comp .str (.one 1) 3 [] (.call 45 (.cons (.var 1) .nil)) (.var 2)) .nil)))
   .done
   (.ret (.ite (.cmp .eq (.var 0) (.str [37,53,120])) (.bin .add (.bin .mul (.str [32]) (.bin .sub (.int 5) (.bi .len (.cons (.var 2) .nil)))) (.var 2)) (.var 2)))) ⟨af S (k+1),β,X⟩ [some (.str (cj w)),some (.int n),some (.str (aE false b v)),none,none] H1 N Q)->xs ud ⟨af S (k+1),β,X⟩ [some (.str (cj w)),some (.int n),none,none,none] H N Q:=λ hb be p =>
  bj (ax (.two val be) (EO P (GK (ac rfl) hb.1) hb.2 (gM hb.1 hn40) λ H1 m1x=>p H1 (m0x.after m1x)))
 rcases hw with rfl|rfl|rfl|rfl
 .exact go (b:=16) ⟨ac rfl,ac rfl⟩ (Gr (aN rfl rfl) FZ) λ H1 m=>au (aN rfl rfl) (aC (Gr (aN rfl rfl) (FY rfl)) (e6▸q _ m))
 .refine go (b:=16) ⟨ac rfl,ac rfl⟩ (Gr (aN rfl rfl) FZ) λ H1 m=>cU (aN rfl rfl) (a6 (mu (b:=.join) (u:=.str []) F0 trivial (bI (iR (FY rfl) ⟨GK (f16 false) (ac rfl),rfl⟩ (qG trivial (f:=λ c=>if 97<=c/\c<=102 then c-32 else c) (λ c ls hc hv Q q=>ax (.one (FY hv)) (Fj P hc q)) _ _ _ _ _ _ (λ c hc=>?_) ⟨?_,λ c hc=>⟨_,_,.inl (F3 _ _ _),jT _,?_,?_,?_⟩⟩)))))
  .unfold aE at hc
   refine aT (mem_map.mp hc) λ d hd ez1=>?_;subst ez1
   exact qV (iA (ac rfl) _ d hd)
  .exact sr (nil_append ..) (sr (length_map ..) (GK (f16 false) (ac rfl)))
  .exact sr (hP ..) (sr (length_map ..) (GK (f16 false) (ac rfl)))
  .exact sr (nil_append ..) (sr (length_map ..) (GK (f16 false) (ac rfl)))
  .have e2:(aE false 16 v).map (λ c=>if 97<=c/\c<=102 then c-32 else c)=aE true 16 v:=by
    unfold aE
    exact sr map_map (List.map_congr_left λ d hd=>tF d (iA (ac rfl) _ d hd))
   exact sr (hP ..) (sr (e2 ..) (sl (e7 ..) (q _ (m.newR hc))))
 .exact go (b:=8) ⟨ac rfl,ac rfl⟩ (Gq (aN rfl rfl) FZ) λ H1 m=>au (aN rfl rfl) (aC (Gr (aN rfl rfl) (FY rfl)) (e8▸q _ m))
 .exact go (b:=16) ⟨ac rfl,ac rfl⟩ (Gr (aN rfl rfl) FZ) λ H1 m=>au (aN rfl rfl) (aC (Gq (aN rfl rfl) (F9 (GD 5 (FY rfl) (GK (f16 false) (ac rfl)) (ac rfl)) (FY rfl) (GK (add_le_add (lh _ _ _) (f16 false)) (ac rfl)))) (Ep▸q _ m))
end
noncomputable def DW (s F:List Nat):Nat->List Nat
 | 5=>s++(dw ((3:Nat)-F.length) [48]++F)
 | 10=>dw ((4:Nat)-(s++(dw ((2:Nat)-F.length) [48]++F)).length) [32]++s++(dw ((2:Nat)-F.length) [48]++F)
 | 2=>s++dw ((3:Nat)-(s++F).length) [48]++F
 | 4=>(match s with | []=>[43]|c::r=>c::r)++F
 | 1=>dw ((2:Nat)-(s++F).length) [32]++(s++F)
 | 3=>(s++F)++dw ((4:Nat)-(s++F).length) [32]
 | _=>s++F
theorem yg {w:Nat}(hw:w=0\/w=1\/w=2\/w=3\/w=4\/w=5\/w=10)(n:Int):iP w n=DW (r6 n) (aE false 10 n.natAbs) w:=by
 have sp:∀ {width:Int} {prec:Option Int} {B:List Nat},gw prec n (gH 100 n)=B->bz 100 [] width prec n=dw (width-(r6 n++B).length) [32]++(r6 n++B):=λ e=>by
  unfold bz
  exact sr e (sr (dZ rfl rfl) (sr (jK rfl rfl) rfl))
 rcases hw with rfl|rfl|rfl|rfl|rfl|rfl|rfl
 .exact (sp (width:=0) (prec:=none) rfl).trans (by refine sr (bf (rF _)) ?_;rfl)
 .exact sp (width:=2) (prec:=none) rfl
 .show bz 100 [48] 3 none n=_
  exact (uP rfl rfl).trans (by refine sr (jK rfl rfl) ?_;rfl)
 .show bz 100 [45] 4 none n=_
  exact (uN rfl).trans (by refine sr (jK rfl rfl) ?_;rfl)
 .show bz 100 [43] 0 none n=_
  refine (dZ rfl rfl).trans (sr (bf (rF _)) ?_)
  show dP 100 [43] n++aE false 10 n.natAbs=(match r6 n with | []=>[43]|c::r=>c::r)++aE false 10 n.natAbs
  unfold dP r6
  by_cases h:n<0
  .refine sr (if_pos h) (sr (GM h) ?_);rfl
  .refine sr (if_neg h) (sr (GN h) ?_);rfl
 .exact (sp (width:=0) (prec:=some 3) rfl).trans (by refine sr (bf (rF _)) ?_;rfl)
 .exact (sp (width:=4) (prec:=some 2) rfl).trans (append_assoc _ _ _).symm
section
variable {S:Sx}{X:Int->Prop}{β:Bool}{H:AH}{Q:V->AH->Prop}
theorem i9 {i:Nat}(h:i<1073741824):i<2 ^ 1024:=lt_of_lt_of_le h (Nat.pow_le_pow_right (n:=2) (ac rfl) (show 30<=1024 from ac rfl))
section
variable {C:Cw}{ls:Ls}{N:Ls->AH->Prop}{es:Es}{a b r:B}{j:Nat}{x:List Nat}{ys:List (List Nat)}{vs:List V}
theorem tJ (hv:lget ls j=some (.str x))(hes:AV es C ls H vs)(hl:vs.length<=100)(hy:bT vs=some ys)(h:ys.contains x=true)(p:∀ H',Mv H H' aQ->xs a C ls H' (λ ls' H'=>xs r C ls' H' N Q) Q):xs (.cond (.cmp .isin (.var j) (.tup es)) a b r) C ls H N Q :=
 fU hv hes hl hy λ c hc=>by exact sr h ⟨λ _=>p _ (Ga hc),nofun⟩
theorem jj (hv:lget ls j=some (.str x))(hes:AV es C ls H vs)(hl:vs.length<=100)(hy:bT vs=some ys)(h:ys.contains x=false)(p:∀ H',Mv H H' aQ->xs r C ls H' N Q):xs (.cond (.cmp .isin (.var j) (.tup es)) a .done r) C ls H N Q :=
 fU hv hes hl hy λ c hc=>by exact sr h ⟨nofun,λ _=>p _ (Ga hc)⟩
end
theorem CW (P:Pk S){k:Nat}{w:Nat}{n:Int}{H0:AH}(hw:w=0\/w=1\/w=2\/w=3\/w=4\/w=5\/w=10)(hn:n.natAbs<1073741824)(m0x:Mv H0 H aQ){N:Ls->AH->Prop}(q:∀ H',Mv H0 H' aQ->Q (.str (iP w n)) H') :
  xs wX ⟨af S (k+1),β,X⟩ [some (.str (cj w)),some (.int n),none,none,none] H N Q:=by
 rw [yg hw] at q
 have sg:EV (.ite (.cmp .lt (.var 1) (.int 0)) (.str [45]) (.str [])) ⟨af S (k+1),β,X⟩ [some (.str (cj w)),some (.int n),none,none,none] H (.str (r6 n)):=by
  unfold r6
  by_cases h:n<0
  .exact sr (if_pos h) (Gq (F7 (FY rfl) FZ (u0 (GM h))) F0)
  .exact sr (if_neg h) (Gr (F7 (FY rfl) FZ (u0 (GN h))) F0)
 have fg:EV (.bi .str (.cons (.bi .abs (.cons (.var 1) .nil)) .nil)) ⟨af S (k+1),β,X⟩ [some (.str (cj w)),some (.int n),none,none,none] H (.str (aE false 10 n.natAbs)) :=
  EV.bi (.one (EV.bi (b:=.abs) (v:=.int n.natAbs) (.one (FY rfl)) λ _ q=>q)) λ Q q=>⟨i9 hn,(fF n.natAbs).symm▸q⟩
 have hs:=vj n
 have hF:(aE false 10 n.natAbs).length<=40:=cM (ac rfl) (lt_of_lt_of_le hn (by decide))
 refine pq (.two sg fg) (ac rfl) rfl λ H1 m1x=>?_
 clear sg fg
 generalize aE false 10 n.natAbs=F at *
 generalize r6 n=s at *
 have hsF:(s++F).length<=41:=by exact sr (GO ..) (sr (add_comm ..) (add_le_add hF hs))
 have big:∀ {a b:Nat},ble b 1000=true->a<=b->a<=1000:=λ h g=>GK g (ac h)
 have bg:∀ {a b x y:Nat},a<=x->b<=y->ble (x+y) 16777216=true->a+b<=16777216:=λ h g z=>GK (add_le_add h g) (ac z)
 have hB:∀ p:Nat,p<=3->(dw ((p:Int)-F.length) [48]++F).length<=43:=λ p hp=>by exact sr (GO ..) (sr (add_comm ..) (add_le_add hF (GK (lh _ _ _) hp)))
 replace q:=λ H' m=>q H' (m0x.after (m1x.after m))
 rcases hw with rfl|rfl|rfl|rfl|rfl|rfl|rfl
 .exact jj rfl (.two F0 F0) (ac rfl) rfl rfl λ H2x m2x=>au (aN rfl rfl) (au (aN rfl rfl) (aM (F9 (FY rfl) (FY rfl) (bg hs hF rfl)) (aC (Gr (aN rfl rfl) (Gr (aN rfl rfl) (FY rfl))) (q _ m2x))))
 .exact jj rfl (.two F0 F0) (ac rfl) rfl rfl λ H2x m2x=>au (aN rfl rfl) (au (aN rfl rfl) (aM (F9 (FY rfl) (FY rfl) (bg hs hF rfl)) (aC (Gq (aN rfl rfl) (F9 (GD 2 (FY rfl) (big rfl hsF) (ac rfl)) (FY rfl) (bg (lh _ _ _) hsF rfl))) (q _ m2x))))
 .refine jj rfl (.two F0 F0) (ac rfl) rfl rfl λ H2x m2x=>cU (aN rfl rfl) ?_
  exact aC (F9 (F9 (FY rfl) (GD 3 (F9 (FY rfl) (FY rfl) (bg hs hF rfl)) (big rfl hsF) (ac rfl)) (bg hs (lh _ _ _) rfl)) (FY rfl) (by refine sr GO ?_;exact bg (add_le_add hs (lh _ _ _)) hF rfl)) (q _ m2x)
 .exact jj rfl (.two F0 F0) (ac rfl) rfl rfl λ H2x m2x=>au (aN rfl rfl) (au (aN rfl rfl) (aM (F9 (FY rfl) (FY rfl) (bg hs hF rfl)) (aC (Gr (aN rfl rfl) (Gq (aN rfl rfl) (F9 (FY rfl) (GD 4 (FY rfl) (big rfl hsF) (ac rfl)) (bg hsF (lh _ _ _) rfl)))) (q _ m2x))))
 .refine jj rfl (.two F0 F0) (ac rfl) rfl rfl λ H2x m2x=>au (aN rfl rfl) (cU (aN rfl rfl) ?_)
  induction s with
  | nil=>exact aC (F9 (GB (FY rfl) F0) (FY rfl) (bg (x:=1) (ac rfl) hF rfl)) (q _ m2x)
  | cons c r=>exact aC (F9 (GA (FY rfl) (GK hs (ac rfl))) (FY rfl) (bg hs hF rfl)) (q _ m2x)
 .exact tJ rfl (.two F0 F0) (ac rfl) rfl rfl λ H2x m2x=>aM (F9 (GC (EV.min (Gq (aN rfl rfl) (FZ (m:=(3:Nat)))) (Gs (FY rfl) (bg (b:=0) (y:=0) hF (ac rfl) rfl))) (zb 3 (big rfl hF) (ac rfl))) (FY rfl) (bg (lh _ _ _) hF rfl)) (aC (Gq (aN rfl rfl) (F9 (FY rfl) (FY rfl) (bg hs (hB 3 (ac rfl)) rfl))) (q _ m2x))
 .refine tJ rfl (.two F0 F0) (ac rfl) rfl rfl λ H2x m2x=>aM (F9 (GC (EV.min (Gr (aN rfl rfl) (FZ (m:=(2:Nat)))) (Gs (FY rfl) (bg (b:=0) (y:=0) hF (ac rfl) rfl))) (zb 2 (big rfl hF) (ac rfl))) (FY rfl) (bg (lh _ _ _) hF rfl)) ?_
  have h2:=hB 2 (ac rfl)
  exact aC (Gr (aN rfl rfl) (F9 (F9 (GD 4 (F9 (FY rfl) (FY rfl) (bg hs h2 rfl)) (by refine sr GO ?_;exact GK (add_le_add hs h2) (ac rfl)) (ac rfl)) (FY rfl) (bg (lh _ _ _) hs rfl)) (FY rfl) (by refine sr GO ?_;exact bg (add_le_add (lh _ _ _) hs) h2 rfl))) (q _ m2x)
theorem zS {k:Nat}(h:k<12):k=0\/k=1\/k=2\/k=3\/k=4\/k=5\/k=6\/k=7\/k=8\/k=9\/k=10\/k=11:=(by decide:∀ k<12,k=0\/k=1\/k=2\/k=3\/k=4\/k=5\/k=6\/k=7\/k=8\/k=9\/k=10\/k=11) k h
theorem words {w:Nat}(hw:w<12):w=9\/(w=6\/w=7\/w=8\/w=11)\/(w=0\/w=1\/w=2\/w=3\/w=4\/w=5\/w=10):=by
 have h:∀ w<12,(w=9\/(w=6\/w=7\/w=8\/w=11)\/(w=0\/w=1\/w=2\/w=3\/w=4\/w=5\/w=10)):=by decide
 exact h w hw
theorem Fc (P:Pk S){k:Nat}{w:Nat}{n:Int}(hw:w<12)(hn:n.natAbs<1073741824)(q:∀ H',Mv H H' aQ->Q (.str (iP w n)) H'):af S (k+2) β X 44 [.str (cj w),.int n] H Q:=by
 refine P.enter 43 rfl (.inl rfl) rfl nofun ?_
 walk_at "eI"
 have av:AV (.cons (.str [37,120]) (.cons (.str [37,88]) (.cons (.str [37,111]) (.cons (.str [37,53,120]) .nil)))) ⟨af S (k+1),β,X⟩ [some (.str (cj w)),some (.int n),none,none,none] H [.str [37,120],.str [37,88],.str [37,111],.str [37,53,120]]:=.cons F0 (.cons F0 (.two F0 F0))
 delta AU
 rcases words hw with rfl|hx|hd
 .refine aT (xi n) λ v hv hv2=>?_
  have q:Q (.str [if n.fmod 256=0 then 128 else (n.fmod 256).toNat]) H:=q _ Mv.refl
  have ev:EV (.bin .mod (.var 1) (.int 256)) ⟨af S (k+1),β,X⟩ [some (.str (cj 9)),some (.int n),none,none,none] H (.int v):=F6 (FY rfl) FZ λ Q q=>⟨by decide,hv.symm▸q⟩
  rw [hv] at q
  have tst:∀ {t},decide (0<v)=t->TV (.cmp .gt (.bin .mod (.var 1) (.int 256)) (.int 0)) ⟨af S (k+1),β,X⟩ [some (.str (cj 9)),some (.int n),none,none,none] H t:=λ e=>F7 ev FZ (fm (x:=v) (y:=0) rfl rfl e)
  by_cases h0:v=0
  .rw [if_pos (show (v:Int)=0 from congrArg Int.ofNat h0)] at q
   exact cU (aN rfl rfl) (aC (EV.bi (.one (Gr (tst (GN (h0▸Nat.lt_irrefl 0))) (FZ (m:=(128:Nat))))) λ Q q=>⟨⟨natCast_nonneg _,ofNat_lt.mpr (ac rfl)⟩,q⟩) q)
  .rw [if_neg (λ e:(v:Int)=0=>h0 (Int.ofNat.inj e))] at q
   exact cU (aN rfl rfl) (aC (EV.bi (.one (Gq (tst (GM (Nat.pos_of_ne_zero h0))) ev)) λ Q q=>⟨⟨natCast_nonneg _,ofNat_lt.mpr hv2⟩,q⟩) q)
 .exact au (aN rfl (by rcases hx with rfl|rfl|rfl|rfl<;>rfl)) (tJ rfl av (ac rfl) rfl (by rcases hx with rfl|rfl|rfl|rfl<;>rfl) λ H2x m2x=>DP P hx hn m2x q)
 .exact au (aN rfl (by rcases hd with rfl|rfl|rfl|rfl|rfl|rfl|rfl<;>rfl)) (jj rfl av (ac rfl) rfl (by rcases hd with rfl|rfl|rfl|rfl|rfl|rfl|rfl<;>rfl) λ H2x m2x=>CW P hd hn m2x q)
end
noncomputable def tT:List (List Nat×B):=[([108,105,116],.setS (.var 0) (.str [111,117,116]) (.bin .add (.sub (.var 0) (.str [111,117,116])) (.sub (.var 3) (.int 1))) .done),
 ([112],.ex (.bm .append (.sub (.var 0) (.str [115,116,97,99,107])) (.cons (.ite (.cmp .le (.sub (.var 3) (.int 1)) (.bi .lenL (.cons (.sub (.var 0) (.str [112,97,114,97,109,115])) .nil))) (.sub (.sub (.var 0) (.str [112,97,114,97,109,115])) (.bin .sub (.sub (.var 3) (.int 1)) (.int 1))) (.int 0)) .nil)) .done),
 ([110],.ex (.bm .append (.sub (.var 0) (.str [115,116,97,99,107])) (.cons (.sub (.var 3) (.int 1)) .nil)) .done),
 ([80],.setS (.var 0) (.sub (.var 3) (.int 1)) (.call 46 (.cons (.var 0) .nil)) .done),
 ([103],.ex (.bm .append (.sub (.var 0) (.str [115,116,97,99,107])) (.cons (.bm .getS (.var 0) (.cons (.sub (.var 3) (.int 1)) (.cons (.int 0) .nil))) .nil)) .done),
 ([116,101,120,116],.set 4 (.ite (.and (.cmp .gt (.bi .lenL (.cons (.sub (.var 0) (.str [112,97,114,97,109,115])) .nil)) (.int 1)) (.val (.bi .isBytes (.cons (.sub (.sub (.var 0) (.str [112,97,114,97,109,115])) (.int 1)) .nil)))) (.sub (.sub (.var 0) (.str [112,97,114,97,109,115])) (.int 1)) (.bytes []))
  (.cond (.cmp .ne (.sub (.var 3) (.int 1)) (.str []))
  (.setS (.var 0) (.str [111,117,116]) (.bin .add (.sub (.var 0) (.str [111,117,116])) (.ite (.cmp .eq (.sub (.var 3) (.int 1)) (.str [115])) (.bm .join (.str []) (.cons (.comp .bytes (.one 1) 3 [] (.bi .chr (.cons (.var 1) .nil)) (.var 4)) .nil)) (.bi .str (.cons (.bi .len (.cons (.var 4) .nil)) .nil)))) .done)
  .done .done)),
 ([105],.setS (.var 0) (.str [112,97,114,97,109,115]) (.comp .enum (.two 1 2) 5 [] (.ite (.and (.cmp .lt (.var 1) (.int 2)) (.val (.bi .isInt (.cons (.var 2) .nil)))) (.bin .add (.var 2) (.int 1)) (.var 2)) (.sub (.var 0) (.str [112,97,114,97,109,115]))) .done)]
noncomputable def mP:List (List Nat×B):=[([111,117,116],.setS (.var 0) (.str [111,117,116]) (.bin .add (.sub (.var 0) (.str [111,117,116])) (.call 44 (.cons (.sub (.var 3) (.int 1)) (.cons (.call 46 (.cons (.var 0) .nil)) .nil)))) .done),
 ([111,112],.set 6 (.call 46 (.cons (.var 0) .nil)) (.ex (.bm .append (.sub (.var 0) (.str [115,116,97,99,107])) (.cons (.call 42 (.cons (.sub (.var 3) (.int 1)) (.cons (.call 46 (.cons (.var 0) .nil)) (.cons (.var 6) .nil)))) .nil)) .done))]
noncomputable def tN:B:=.cond (.cmp .isin (.var 2) (.tup (.cons (.str [33]) (.cons (.str [126]) .nil))))
 (.set 5 (.call 46 (.cons (.var 0) .nil))
 (.ex (.bm .append (.sub (.var 0) (.str [115,116,97,99,107])) (.cons (.ite (.cmp .eq (.var 2) (.str [33])) (.bi .int (.cons (.cmp .eq (.var 5) (.int 0)) .nil)) (.bin .sub (.neg (.var 5)) (.int 1))) .nil))
 .done)) (chain mP (.ex (.call 48 (.cons (.var 0) (.cons (.var 3) .nil))) .done)) .done
noncomputable def q8:B:=chain tT tN
theorem Cl:BX=(.for .list (.two 2 3) (.comp .list (.one 1) 2 [] (.tup (.cons (.sub (.var 1) (.int 0)) (.cons (.var 1) .nil))) (.var 1))
 q8
 .done):=rfl
structure Wd where
 (stk:List Int) (ps:List V) (out:List Nat) (A B:Int) (a:Option Int)
noncomputable def yt:List Nat:=[115,116,97,99,107]
noncomputable def vS:List Nat:=[112,97,114,97,109,115]
noncomputable def De:List Nat:=[111,117,116]
noncomputable def Wd.es (w:Wd)(sk pm:Addr):List (List Nat×V) :=
 (yt,.ref sk)::(vS,.ref pm)::(De,.str w.out)::([65],.int w.A)::([66],.int w.B)::(match w.a with|none=>[]|some a=>[([97],.int a)])
inductive CQ (H:AH) (wd sk:Addr) (w:Wd):Prop
 | mk (pm:Addr) (a:H wd=some (.sdict (w.es sk pm))) (b:listAt H pm w.ps) (c:pm≠sk)
structure gn (H:AH) (wd sk:Addr) (w:Wd):Prop where
 d:CQ H wd sk w
 s:H sk=some (.list (w.stk.reverse.map V.int))
noncomputable abbrev WD (wd sk:Addr):Addr->Prop:=λ a=>a=wd\/a=sk
def g0 (H:AH)(wd sk:Addr)(w:Wd)(H':AH):Prop:=gn H' wd sk w/\Mv H H' (WD wd sk)
noncomputable def bR:List Int->Int
 | []=>0
 | i::_=>i
structure th (ps:List V):Prop where
 len:ps.length<=3
 pv:∀ v∈ps,eL v/\(num v).natAbs<536870912/\(oct v).length<=1000/\cR (oct v)
 i0:∀ v,ps[0]?=some v->v=.int (num v)
 i2:∀ v,ps[2]?=some v->v=.int (num v)
structure jq (w:Wd):Prop where
 ps:th w.ps
 stkl:w.stk.length<=8000000
 stk:∀ i∈w.stk,i.natAbs<536870912
 out:w.out.length<=6000000
 A:w.A.natAbs<536870912
 B:w.B.natAbs<536870912
 a:∀ i∈w.a,i.natAbs<536870912
inductive Rw where
 | lit (l:List Nat)|p (w:Nat)|n (i:Nat)|P (c:Nat)|g (c:Nat)|text (k:List Nat)|ii|nt|iv|out (w:Nat)|op (c:Nat)
noncomputable def Rw.vals:Rw->List V
 | .lit l=>[.str [108,105,116],.str l]
 | .p w=>[.str [112],.int w]
 | .n i=>[.str [110],.int i]
 | .P c=>[.str [80],.str [c]]
 | .g c=>[.str [103],.str [c]]
 | .text k=>[.str [116,101,120,116],.str k]
 | .ii=>[.str [105],.int 0]
 | .nt=>[.str [33],.int 0]
 | .iv=>[.str [126],.int 0]
 | .out w=>[.str [111,117,116],.str (cj w)]
 | .op c=>[.str [111,112],.str [c]]
noncomputable def cC:Rw->Wd->Wd
 | .lit l,w=>{w with out:=w.out++l}
 | .p k,w=>{w with stk:=num (ak w.ps k)::w.stk}
 | .n i,w=>{w with stk:=i::w.stk}
 | .P c,w=>if c=97 then {w with stk:=w.stk.tail,a:=some (bR w.stk)} else {w with stk:=w.stk.tail,A:=bR w.stk}
 | .g c,w=>{w with stk:=(if c=97 then w.a.getD 0 else if c=65 then w.A else if c=66 then w.B else 0)::w.stk}
 | .text k,w=>if k=[] then w else {w with out:=w.out++(if k=[115] then oct (ak w.ps 2) else aE false 10 (oct (ak w.ps 2)).length)}
 | .ii,w=>{w with ps:=cD w.ps}
 | .nt,w=>{w with stk:=(if bR w.stk=0 then 1 else 0)::w.stk.tail}
 | .iv,w=>{w with stk:=(-bR w.stk-1)::w.stk.tail}
 | .out k,w=>{w with stk:=w.stk.tail,out:=w.out++iP k (bR w.stk)}
 | .op c,w=>{w with stk:=two c (bR w.stk.tail) (bR w.stk)::w.stk.tail.tail}
noncomputable def zi:Rw->Prop
 | .lit l=>l.length<=100
 | .p w=>w=1\/w=3\/w=4
 | .n _=>True
 | .P c=>c=97\/c=65
 | .g c=>c=97\/c=65\/c=98\/c=66
 | .text k=>k=[115]\/k=[108]\/k=[]
 | .ii=>True
 | .nt=>True
 | .iv=>True
 | .out w=>w<12
 | .op c=>c∈([43,45,42,47,109,38,124,94,61,62,60,65,79]:List Nat)
section
variable {S:Sx}{X:Int->Prop}{β:Bool}{H:AH}{Q:V->AH->Prop}{wd sk:Addr}{w:Wd}
theorem g0.self (R:gn H wd sk w):g0 H wd sk w H:=⟨R,Mv.refl⟩
theorem g0.trans {H1 H2x:AH}{w1x w2x:Wd}(x:g0 H wd sk w1x H1)(y:g0 H1 wd sk w2x H2x):g0 H wd sk w2x H2x:=⟨y.1,x.2.trans y.2 (λ _ h=>h) λ _ h=>.inl h⟩
theorem gn.other {H':AH}(R:gn H wd sk w)(m:Mv H H' aQ):g0 H wd sk w H' :=
 let ⟨pm,a,b,c⟩:=R.d
 ⟨⟨⟨pm,m.keep _ _ a id,b.imp (λ e=>m.keep _ _ e id) (λ e=>m.keep _ _ e id),c⟩,m.keep _ _ R.s id⟩,m.mono λ _ h=>h.elim⟩
theorem gn.setStk (R:gn H wd sk w)(stk:List Int):g0 H wd sk {w with stk:=stk} (H.set sk (.list (stk.reverse.map V.int))):=by
 obtain ⟨pm,a,b,c⟩:=R.d
 refine ⟨⟨⟨pm,am a R.s rfl,b.imp (λ e=>du e c) (λ e=>du e c),c⟩,F3 _ _ _⟩,Mv.put (.inr rfl)⟩
theorem gn.setD {w':Wd}{pm':Addr}{es':List (List Nat×V)}(R:gn H wd sk w)(e:es'=w'.es sk pm')(h1:w'.stk=w.stk)(h2:listAt H pm' w'.ps)(h3:pm'≠sk):g0 H wd sk w' (H.set wd (.sdict es')):=by
 obtain ⟨pm,a,b,c⟩:=R.d
 have g:∀ {x:Addr} {vs:List V},listAt H x vs->listAt (H.set wd (.sdict es')) x vs:=λ b=>b.imp (λ e=>am e a rfl) (λ e=>am e a rfl)
 subst e
 refine ⟨⟨⟨pm',F3 _ _ _,g h2,h3⟩,by refine sr h1 ?_;exact am R.s a rfl⟩,Mv.put (.inl rfl)⟩
theorem gn.keepTup {H':AH}(R:gn H wd sk w)(m:Mv H H' (WD wd sk)){t:Addr}{vs:List V}(e:H t=some (.tup vs)):H' t=some (.tup vs):=m.keep _ _ e λ q=>by
 obtain ⟨pm,a,b,c⟩:=R.d
 rcases q with rfl|rfl
 .rw [a] at e;cases e
 .rw [R.s] at e;cases e
theorem gn.keepF {H':AH}(R:gn H wd sk w)(m:Mv H H' (WD wd sk)){t:Addr}{vs:List V}(e:H t=some (.flist vs)):H' t=some (.flist vs):=m.keep _ _ e λ q=>by
 obtain ⟨pm,a,b,c⟩:=R.d
 rcases q with rfl|rfl
 .rw [a] at e;cases e
 .rw [R.s] at e;cases e
theorem lf {n:Addr}{es:List (List Nat×V)}{k:List Nat}{v:V}(g:H n=some (.sdict es))(h:bV es k=some v)(Q:V->Prop)(q:Q v):iI (.ref n) (.str k) H Q:=⟨es,v,g,h,q⟩
section
variable {C:Cw}{ls:Ls}{j:Nat}
theorem gn.evS (R:gn H wd sk w)(hv:lget ls j=some (.ref wd)):EV (.sub (.var j) (.str [115,116,97,99,107])) C ls H (.ref sk) :=
 by obtain ⟨pm,a,_,_⟩:=R.d;exact F5 (FY hv) F0 (lf a rfl)
theorem gn.evO (R:gn H wd sk w)(hv:lget ls j=some (.ref wd)):EV (.sub (.var j) (.str [111,117,116])) C ls H (.str w.out) :=
 by obtain ⟨pm,a,_,_⟩:=R.d;exact F5 (FY hv) F0 (lf a rfl)
theorem gn.pushed {Q:V->AH->Prop}{i:Int}(R:gn H wd sk w)(hl:w.stk.length<=8000000)(q:∀ H',g0 H wd sk {w with stk:=i::w.stk} H'->Q .none H'):we .append (.ref sk) [.int i] H Q:=by
 have x:=R.setStk (i::w.stk)
 rw [reverse_cons,map_append] at x
 exact ⟨_,R.s,by refine sr (length_map ..) (sr (length_reverse ..) ?_);exact GK hl (ac rfl),q _ x⟩
theorem gn.push {Q:V->AH->Prop}{es:Es}{i:Int}(R:gn H wd sk w)(hv:lget ls j=some (.ref wd))(hl:w.stk.length<=8000000)(h:AV es C ls H [.int i])(q:∀ H',g0 H wd sk {w with stk:=i::w.stk} H'->Q .none H'):xe (.bm .append (.sub (.var j) (.str [115,116,97,99,107])) es) C ls H Q:=iB (R.evS hv) ⟨_,R.s⟩ h (R.pushed hl q)
end
theorem zk (P:Pk S){k:Nat}(R:gn H wd sk w)(hl:w.stk.length<=8000000)(q:∀ H',g0 H wd sk {w with stk:=w.stk.tail} H'->Q (.int (bR w.stk)) H'):af S (k+1) β X 46 [.ref wd] H Q:=by
 refine P.enter 45 rfl (.inl rfl) rfl nofun ?_
 walk_at "eI"
 have s:=R.s
 induction hs:w.stk with
 | nil =>
  rw [hs] at s q
  obtain ⟨st,ps,o,A,B,a⟩:=w
  obtain rfl:st=[]:=hs
  exact a6 (ix (TV.neNil (R.evS rfl) (.inl s) rfl) (q H (g0.self R)))
 | cons i r =>
  rw [hs] at s q hl
  rw [reverse_cons,map_append] at s
  exact a6 (gb (TV.neNil (R.evS rfl) (.inl s) (by cases r.reverse.map V.int<;>rfl)) (iB (R.evS rfl) ⟨_,s⟩ .nil ⟨r.reverse.map V.int,.int i,s,by refine sr (length_map ..) (sr (length_reverse ..) ?_);exact GK (Nat.le_of_succ_le hl) (ac rfl),q _ (R.setStk r)⟩))
end
section
variable {S:Sx}{X:Int->Prop}{β:Bool}{H:AH}{Q:V->AH->Prop}{wd sk:Addr}{w:Wd}
theorem lV (rw:Rw):rw.vals.length<=16777216:=by cases rw<;>exact ac rfl
theorem iZ {C:Cw}{ls:Ls}{j:Nat}{t:Addr}{rw:Rw}{v:V}(hv:lget ls j=some (.ref t))(h:H t=some (.tup rw.vals))(hx:rw.vals[1]?=some v):EV (.sub (.var j) (.int 1)) C ls H v:=F5 (FY hv) FZ (i1 (x:=1) rfl h (lV rw) hx)
theorem FP {H:AH}{t:Addr}{rw:Rw}(h:H t=some (.tup rw.vals)){v:V}(hv:rw.vals[1]?=some v){Q:V->Prop}(q:Q v):iI (.ref t) (.int 1) H Q:=i1 (x:=1) rfl h (lV rw) hv _ q
theorem og {p:Int->Prop}{l:List Int}(h0:p 0)(h:∀ i∈l,p i):p (bR l):=by
 induction l with
 | nil=>exact h0
 | cons i r=>exact h i mem_cons_self
theorem gV (F:jq w):(bR w.stk).natAbs<536870912:=og (p:=λ i=>i.natAbs<536870912) (ac rfl) F.stk
theorem pk (F:jq w):(bR w.stk.tail).natAbs<536870912:=og (p:=λ i=>i.natAbs<536870912) (ac rfl) λ i m=>F.stk i (mem_of_mem_tail m)
theorem nF {letter:Nat}{flags:List Nat}{width n:Int}{prec:Option Int}(hw:width<=5)(hp:∀ p∈prec,p<=3)(hn:n.natAbs<2 ^ 40):(bz letter flags width prec n).length<=100:=by
 have hr:∀ {a:Nat} (c:Nat),(dw (width-a) [c]).length<=5:=λ c=>by refine sr (gh ..) ?_;omega
 have hb:(dP letter flags n++gw prec n (gH letter n)).length<=41:=by
  exact sr GO (GK (add_le_add (mj _ _ _) (l5 (n:=40) (λ p m=>le_trans (hp p m) (by decide)) (my _ hn))) (ac rfl))
 dsimp only [bz,bH]
 refine sr (jN ..) ?_
 generalize gw prec n (gH letter n)=B at *
 generalize dP letter flags n=h at *
 have hb2:=hb
 rw [GO] at hb2
 induction decide (width-(h++B).length<=0) with
 | true=>exact GK hb (ac rfl)
 | false =>
 induction flags.contains 45 with
 | true=>exact (by refine sr GO ?_;exact GK (add_le_add hb (hr 32)) (ac rfl):(h++B++dw (width-(h++B).length) [32]).length<=100)
 | false =>
 induction (flags.contains 48&&!prec.isSome) with
 | true=>exact (by refine sr (GO ..) (sr (GO ..) (sr (Nat.add_right_comm ..) ?_));exact GK (add_le_add hb2 (hr 48)) (ac rfl):(h++dw (width-(h++B).length) [48]++B).length<=100)
 | false=>exact (by refine sr (GO ..) (sr (GO ..) (sr (add_assoc ..) (sr (add_comm ..) ?_)));exact GK (add_le_add hb2 (hr 32)) (ac rfl):(dw (width-(h++B).length) [32]++h++B).length<=100)
theorem je {k:Nat}{n:Int}(hk:k<12)(hn:n.natAbs<2 ^ 40):(iP k n).length<=100:=by
 rcases words hk with rfl|(rfl|rfl|rfl|rfl)|(rfl|rfl|rfl|rfl|rfl|rfl|rfl)
 .exact ac rfl
 all_goals exact nF (by decide) (by intro p hp;cases hp<;>decide) hn
theorem lP {C:Cw}{elt:E}{still:AH->Prop}{H:AH}(hst:still H)(he:∀ (c:Nat) (ls:Ls),c<256->lget ls 1=some (.int c)->EV elt C ls H (.str [c])):∀ (l:List Nat) (a b d:Option V) (acc:List V) (K:List V->AH->Prop),(∀ c∈l,c<256)->K (acc++l.map λ c=>.str [c]) H ->
  d6 still (.one 1) (λ ls' H' K=>xe elt C ls' H' K) (l.map λ (c:Nat)=>It.v (.int c)) [a,b,d] acc H K
 | [],a,b,d,acc,K,hl,k=>⟨hst,append_nil acc▸k⟩
 | c::r,a,b,d,acc,K,hl,k=>⟨hst,he c [a,some (.int c),d] (hl c mem_cons_self) rfl _ (lP hst he r a (some (.int c)) d _ K (λ x m=>hl x (mem_cons_of_mem _ m)) (by refine sr (append_assoc ..) ?_;exact k))⟩
theorem th.par {ps:List V}(h:th ps){v:Nat}(ok:v=1\/v=3\/v=4):ak ps v=.int (num (ak ps v)):=by
 have g:∀ {o:Option V},(∀ x,o=some x->x=.int (num x))->o.getD (.int 0)=.int (num (o.getD (.int 0))):=λ {o} h=>by
  induction o with
  | none=>rfl
  | some x=>exact h x rfl
 dsimp only [ak]
 induction hd:decide ((v:Int)<=ps.length) with
 | false=>rfl
 | true =>
  rcases ok with rfl|rfl|rfl
  .exact g h.i0
  .exact g h.i2
  .exact absurd (GK (ofNat_le.mp (GL hd)) h.len) (by decide)
theorem qk (w:Wd)(sk pm:Addr):(w.es sk pm).length<=6:=by
 dsimp only [Wd.es]
 cases w.a<;>exact ac rfl
theorem C4 (w:Wd)(sk pm:Addr)(i:Int):cG (w.es sk pm) [97] (.int i)=({w with a:=some i}:Wd).es sk pm:=by
 obtain ⟨st,ps,out,A,B,_|x⟩:=w<;>rfl
theorem CL (w:Wd)(sk pm:Addr)(i:Int):cG (w.es sk pm) [65] (.int i)=({w with A:=i}:Wd).es sk pm:=by
 obtain ⟨st,ps,out,A,B,_|x⟩:=w<;>rfl
theorem gn.setO {wd sk:Addr}{K:AH->Prop}{l:List Nat}(R:gn H wd sk w)(q:∀ H',g0 H wd sk {w with out:=l} H'->K H'):dj (.ref wd) (.str [111,117,116]) (.str l) H K:=by
 obtain ⟨pm,a,b,c⟩:=R.d
 exact ⟨_,a,GK (qk _ _ _) (ac rfl),q _ (R.setD (w':={w with out:=l}) (pm':=pm) rfl rfl b c)⟩
theorem th.txt {ps:List V}(h:th ps):(oct (ak ps 2)).length<=1000/\cR (oct (ak ps 2)):=by
 dsimp only [ak]
 induction hd:decide ((2:Int)<=ps.length) with
 | false=>exact ⟨zero_le _,λ c m=>nomatch m⟩
 | true =>
  have hlt:1<ps.length:=ofNat_le.mp (GL hd)
  refine Ai (h.pv _ (getElem_mem hlt)) λ g1 g2 g3 g4=>?_
  show (oct ((ps[1]?).getD (.int 0))).length<=1000/\cR (oct ((ps[1]?).getD (.int 0)))
  refine sr (getElem?_eq_getElem hlt) ?_
  exact ⟨g3,g4⟩
theorem sH {C:Cw}{ls:Ls}{N:Ls->AH->Prop}{es:Es}{a b:B}{j:Nat}{x:List Nat}{ys:List (List Nat)}{vs:List V}(hv:lget ls j=some (.str x))(hes:AV es C ls H vs)(hl:vs.length<=100)(hy:bT vs=some ys)(h:ys.contains x=false)(p:∀ H',Mv H H' aQ->xs b C ls H' N Q):xs (.cond (.cmp .isin (.var j) (.tup es)) a b .done) C ls H N Q :=
 fU hv hes hl hy λ c hc=>by exact sr h ⟨nofun,λ _=>p _ (Ga hc)⟩
theorem zI {v:Nat}(ok:v=1\/v=3\/v=4):1<=v:=by rcases ok with rfl|rfl|rfl<;>exact ac rfl
theorem yE {w:Wd}{sk pm:Addr}{v:Nat}(ok:v=97\/v=65\/v=98\/v=66):(bV (w.es sk pm) [v]).getD (.int 0)=.int (if v=97 then w.a.getD 0 else if v=65 then w.A else if v=66 then w.B else 0):=by
 dsimp only [Wd.es]
 rcases ok with rfl|rfl|rfl|rfl<;>rcases w.a with _|_<;>rfl
theorem turn (P:Pk S){k:Nat}{t:Addr}{row:Rw}{rlv:V}{y4 y5 y6:Option V}(R:gn H wd sk w)(F:jq w)(ok:zi row)(ht:H t=some (.tup row.vals)){word:List Nat}(hw:row.vals[0]?=some (.str word)){K:Ls->AH->Prop}{Rr:V->AH->Prop}
  (q:∀ H' z4 z5 z6,g0 H wd sk (cC row w) H'->K [some (.ref wd),some rlv,some (.str word),some (.ref t),z4,z5,z6] H'):xs q8 ⟨af S (k+2),β,X⟩ [some (.ref wd),some rlv,some (.str word),some (.ref t),y4,y5,y6] H K Rr:=by
 obtain ⟨pm,a,b,c⟩:=R.d
 have fs:=F.stkl
 have fs1:w.stk.tail.length<=8000000:=GK (d8 _) fs
 have fo:∀ {n:Nat},n<=1000->w.out.length+n<=16777216:=λ h=>GK (add_le_add F.out h) (ac rfl)
 have pl:w.ps.length<=16777216:=GK F.ps.len (ac rfl)
 have evP:∀ {C:Cw} {ls:Ls},lget ls 0=some (.ref wd)->EV (.sub (.var 0) (.str [112,97,114,97,109,115])) C ls H (.ref pm):=λ hv=>F5 (FY hv) F0 (lf a rfl)
 refine eT (L:=tT) (e:=tN) rfl (ES ?_)
 intro C
 induction row with
 | lit l =>
  obtain rfl:=Gb hw
  refine uS ?_
  intro L
  exact jd (F9 (R.evO rfl) (iZ rfl ht rfl) (fo (GK ok (ac rfl)))) (FY rfl) F0 (R.setO λ H' x=>q _ _ _ _ x)
 | p v =>
  obtain rfl:=Gb hw
  refine uS ?_
  intro L
  refine aG (R.push rfl fs (i:=num (ak w.ps v)) (.one (sl (F.ps.par ok) ?_)) λ H' x=>q _ _ _ _ x)
  have h1:(1:Int)<=v:=ofNat_le.mpr (zI ok)
  have tst:∀ {t'},decide ((v:Int)<=w.ps.length)=t'->TV (.cmp .le (.sub (.var 3) (.int 1)) (.bi .lenL (.cons (.sub (.var 0) (.str [112,97,114,97,109,115])) .nil))) C L H t':=λ e=>F7 (iZ rfl ht rfl) (EV.lenL (evP rfl) b pl) (Cz e)
  dsimp only [ak]
  induction h:decide ((v:Int)<=w.ps.length) with
  | true =>
   have hlt:((v:Int)-1).toNat<w.ps.length:=uj h1 (GL h)
   have hv:=getElem?_eq_getElem hlt
   exact sr hv (Gq (tst h) (F5 (evP rfl) (EV.min (iZ rfl ht rfl) FZ) (lC (toNat_of_nonneg (Int.sub_nonneg_of_le h1)).symm b pl hv)))
  | false=>exact Gr (tst h) FZ
 | n v =>
  obtain rfl:=Gb hw
  refine uS ?_
  intro L
  exact aG (R.push rfl fs (.one (iZ rfl ht rfl)) λ H' x=>q _ _ _ _ x)
 | P v =>
  obtain rfl:=Gb hw
  refine uS ?_
  intro L
  refine f7 (ax (.one (FY rfl)) (zk P R fs λ H1 x1x=>FY rfl _ (iZ rfl (R.keepTup x1x.2 ht) rfl _ ?_)))
  obtain ⟨pm1,a1x,b1x,c1x⟩:=x1x.1.d
  refine ⟨_,a1x,GK (qk _ _ _) (ac rfl),?_⟩
  rcases ok with rfl|rfl
  .exact q _ _ _ _ (x1x.trans (x1x.1.setD (w':=cC (.P 97) w) (pm':=pm1) (C4 w _ _ _) rfl b1x c1x))
  .exact q _ _ _ _ (x1x.trans (x1x.1.setD (w':=cC (.P 65) w) (pm':=pm1) (CL w _ _ _) rfl b1x c1x))
 | g v =>
  obtain rfl:=Gb hw
  refine uS ?_
  intro L
  have e:(bV (w.es sk pm) [v]).getD (.int 0)=.int (if v=97 then w.a.getD 0 else if v=65 then w.A else if v=66 then w.B else 0):=yE ok
  exact aG (R.push rfl fs (.one (EV.bm (FY rfl) ⟨_,a⟩ (.two (iZ rfl ht rfl) FZ) λ Q q=>⟨_,a,e.symm▸q⟩)) λ H' x=>q _ _ _ _ x)
 | text kk =>
  obtain rfl:=Gb hw
  refine uS ?_
  intro L
  obtain ⟨tl,to⟩:=F.ps.txt
  have v4:EV (.ite (.and (.cmp .gt (.bi .lenL (.cons (.sub (.var 0) (.str [112,97,114,97,109,115])) .nil)) (.int 1)) (.val (.bi .isBytes (.cons (.sub (.sub (.var 0) (.str [112,97,114,97,109,115])) (.int 1)) .nil)))) (.sub (.sub (.var 0) (.str [112,97,114,97,109,115])) (.int 1)) (.bytes [])) C L H (.bytes (oct (ak w.ps 2))):=by
   have gt:∀ {t'},decide (1<w.ps.length)=t'->TV (.cmp .gt (.bi .lenL (.cons (.sub (.var 0) (.str [112,97,114,97,109,115])) .nil)) (.int 1)) C L H t':=λ e=>F7 (EV.lenL (evP rfl) b pl) FZ (fm (x:=w.ps.length) (y:=1) rfl rfl e)
   dsimp only [ak]
   induction hd:decide ((2:Int)<=w.ps.length) with
   | false=>exact Gr (Gm (gt (GN λ g=>of_decide_eq_false hd (ofNat_le.mpr g)))) F8
   | true =>
    have hlt:1<w.ps.length:=ofNat_le.mp (GL hd)
    have hpv:=(F.ps.pv _ (getElem_mem hlt)).1
    have hx:=getElem?_eq_getElem hlt
    show EV _ _ _ _ (.bytes (oct ((w.ps[1]?).getD (.int 0))))
    refine sr hx ?_
    have gx:EV (.sub (.sub (.var 0) (.str [112,97,114,97,109,115])) (.int 1)) C L H w.ps[1]:=F5 (evP rfl) FZ (lC (x:=1) rfl b pl hx)
    generalize w.ps[1]=x at hpv gx
    induction hpv with
    | int j=>exact Gr (Gl (gt (GM hlt)) (TV.val (EV.bi (.one gx) λ _ q=>q) λ _ q=>q)) F8
    | bytes l=>exact Gq (Gl (gt (GM hlt)) (TV.val (EV.bi (.one gx) λ _ q=>q) λ _ q=>q)) gx
  refine aM v4 ?_
  clear v4
  rcases ok with rfl|rfl|rfl
  .refine dX (F7 (iZ rfl ht rfl) F0 λ _ q=>q) (f7 (fR (R.evO rfl _ (gb (F7 (iZ rfl ht rfl) F0 (sj rfl)) (mu (b:=.join) (u:=.str []) F0 trivial (bI (iR (FY rfl) ⟨GK tl (ac rfl),rfl⟩ (lP (elt:=.bi .chr (.cons (.var 1) .nil)) trivial (λ c ls hc hv=>EV.bi (.one (FY hv)) λ Q q=>⟨⟨natCast_nonneg c,ofNat_lt.mpr hc⟩,q⟩) _ _ _ _ _ _ to ?_))))))))
   have fl:((oct (ak w.ps 2)).map λ c=>[c]).flatten=(oct (ak w.ps 2)):=(hP (f:=id) (oct (ak w.ps 2))).trans (List.map_id (oct (ak w.ps 2)))
   refine sr (nil_append ..) ?_
   refine ⟨by refine sr (length_map ..) ?_;exact GK tl (ac rfl),λ c hc=>⟨_,_,.inl (F3 _ _ _),gN (oct (ak w.ps 2)),by rw [fl];exact GK tl (ac rfl),by rw [length_map];exact GK tl (ac rfl),?_⟩⟩
   refine sr fl ?_
   have x1x:=R.other (Ga (D:=aQ) (o:=.list ((oct (ak w.ps 2)).map λ c=>V.str [c])) hc)
   exact ⟨fo tl,FY rfl _ (F0 _ (x1x.1.setO λ H' x=>q _ _ _ _ (x1x.trans x)))⟩
  .exact dX (F7 (iZ rfl ht rfl) F0 λ _ q=>q) (jd (F9 (R.evO rfl) (Gr (F7 (iZ rfl ht rfl) F0 (sj rfl)) (EV.bi (v:=.str (aE false 10 (oct (ak w.ps 2)).length)) (.one (EV.lenB (FY rfl) (GK tl (ac rfl)))) λ Q q=>⟨i9 (lt_of_le_of_lt tl (ac rfl)),(fF (oct (ak w.ps 2)).length).symm▸q⟩)) (fo (GK (cM (ac rfl) (lt_of_le_of_lt tl (by decide))) (ac rfl)))) (FY rfl) F0 (R.setO λ H' x=>q _ _ _ _ x))
  .exact dN (F7 (iZ rfl ht rfl) F0 λ _ q=>q) (q _ _ _ _ (g0.self R))
 | ii =>
  obtain rfl:=Gb hw
  refine uS ?_
  intro L
  have set:∀ {l:List V} (c1:Addr),l=cD w.ps->H c1=none->dj (.ref wd) (.str [112,97,114,97,109,115]) (.ref c1) (H.set c1 (.list l)) λ H4=>K L H4:=λ {l} c1 e h1=>by
   subst e
   have x2x:=R.other (Ga (D:=aQ) (o:=.list (cD w.ps)) h1)
   obtain ⟨pm2,a2x,b2x,c2x⟩:=x2x.1.d
   refine ⟨_,a2x,GK (qk _ _ _) (ac rfl),q _ _ _ _ (x2x.trans (x2x.1.setD (w':=cC .ii w) (pm':=c1) rfl rfl (.inl (F3 _ _ _)) ?_))⟩
   rintro rfl
   have:=R.s;rw [h1] at this;contradiction
  have st:ay .enum (.ref pm) (bM 0 w.ps) H:=⟨_,b,rfl⟩
  have elt:∀ (i:Nat) (x:V) (ls:Ls),i<2->lget ls 1=some (.int i)->lget ls 2=some x->eL x->EV (.ite (.and (.cmp .lt (.var 1) (.int 2)) (.val (.bi .isInt (.cons (.var 2) .nil)))) (.bin .add (.var 2) (.int 1)) (.var 2)) (Cw.low C) ls H (gJ x):=λ i x ls hi h1 h2 hpv=>by
   have lt:=F7 (H:=H) (C:=Cw.low C) (op:=.lt) (FY h1) (FZ (m:=2)) (i8 (x:=i) (y:=2) rfl rfl (GM hi))
   induction hpv with
   | int j=>exact Gq (Gl lt (TV.val (EV.bi (.one (FY h2)) λ _ q=>q) λ _ q=>q)) (EV.add (FY h2) FZ)
   | bytes l=>exact Gr (Gl lt (TV.val (EV.bi (.one (FY h2)) λ _ q=>q) λ _ q=>q)) (FY h2)
  have elt2:∀ (x:V) (ls:Ls),lget ls 1=some (.int (2:Nat))->lget ls 2=some x->EV (.ite (.and (.cmp .lt (.var 1) (.int 2)) (.val (.bi .isInt (.cons (.var 2) .nil)))) (.bin .add (.var 2) (.int 1)) (.var 2)) (Cw.low C) ls H x:=λ x ls h1 h2 =>
   Gr (Gm (F7 (FY h1) FZ (i8 (x:=2) (y:=2) rfl rfl rfl))) (FY h2)
  have pv:=λ v m=>(F.ps.pv v m).1
  have pl3:=F.ps.len
  refine f7 (iR (evP rfl) ⟨_,b,pl,rfl⟩ ?_)
  have fin:∀ {l:List V},l=cD w.ps->l.length<=16777216/\∀ c,H c=none->xe (.var 0) C L (H.set c (.list l)) λ u H2x=>xe (.str [112,97,114,97,109,115]) C L H2x λ j H3=>dj u j (.ref c) H3 λ H4=>xs .done C L H4 K Rr:=λ {l} e=>by
   refine ⟨?_,λ c h1=>FY rfl _ (F0 _ (set c e h1))⟩
   subst e
   rcases hp:w.ps with _|⟨v0,_|⟨v1,r⟩⟩
   .exact ac rfl
   .exact ac rfl
   .rw [hp] at pl;exact pl
  generalize w.ps=ps at *
  rcases ps with _|⟨v0,_|⟨v1,_|⟨v2,_|⟨v3,r⟩⟩⟩⟩
  .exact ⟨st,fin rfl⟩
  .exact ⟨st,elt 0 v0 _ (ac rfl) rfl rfl (pv v0 mem_cons_self) _ ⟨st,fin rfl⟩⟩
  .exact ⟨st,elt 0 v0 _ (ac rfl) rfl rfl (pv v0 mem_cons_self) _ ⟨st,elt 1 v1 _ (ac rfl) rfl rfl (pv v1 (mem_cons_of_mem _ mem_cons_self)) _ ⟨st,fin rfl⟩⟩⟩
  .exact ⟨st,elt 0 v0 _ (ac rfl) rfl rfl (pv v0 mem_cons_self) _ ⟨st,elt 1 v1 _ (ac rfl) rfl rfl (pv v1 (mem_cons_of_mem _ mem_cons_self)) _ ⟨st,elt2 v2 _ rfl rfl _ ⟨st,fin rfl⟩⟩⟩⟩
  .exact absurd pl3 (not_le.mpr (succ_le_succ (succ_le_succ (succ_le_succ (succ_le_succ (zero_le _))))))
 | nt =>
  obtain rfl:=Gb hw
  refine uS ?_
  intro L
  refine rQ (L:=[33,126]) rfl (.two F0 F0) (ac rfl) rfl λ H0 m0x=>?_
  have z0:=R.other m0x
  exact bj (ax (.one (FY rfl)) (zk P z0.1 fs λ H1 x1x=>(aG (x1x.1.push rfl fs1 (.one (Gq (bA rfl rfl) (Gz (p:=bR w.stk=0) (EV.cmp (FY rfl) FZ λ _ q=>q) rfl))) λ H' x=>q _ _ _ _ ((z0.trans x1x).trans x)))))
 | iv =>
  obtain rfl:=Gb hw
  refine uS ?_
  intro L
  refine rQ (L:=[33,126]) rfl (.two F0 F0) (ac rfl) rfl λ H0 m0x=>?_
  have z0:=R.other m0x
  exact bj (ax (.one (FY rfl)) (zk P z0.1 fs λ H1 x1x=>(aG (x1x.1.push rfl fs1 (.one (Gr (bA rfl rfl) (EV.min (EV.neg (FY rfl)) FZ))) λ H' x=>q _ _ _ _ ((z0.trans x1x).trans x)))))
 | out v =>
  obtain rfl:=Gb hw
  refine uS ?_
  intro L
  refine sH (x:=[111,117,116]) (ys:=[[33],[126]]) rfl (.two F0 F0) (ac rfl) rfl rfl λ H0 m0x=>eT (L:=mP) (e:=.ex (.call 48 (.cons (.var 0) (.cons (.var 3) .nil))) .done) rfl ?_
  have z0:=R.other m0x
  refine f7 (fR (z0.1.evO rfl _ (hN (jD (iZ rfl (R.keepTup z0.2 ht) rfl) (bI (ax (.one (FY rfl)) (zk P z0.1 fs λ H1 x1x=>Fc P ok (lt_of_lt_of_le (gV F) (ac rfl)) λ H2x m2x=>?_)))))))
  have x2x:=x1x.1.other m2x
  exact ⟨fo (GK (je ok (lt_of_lt_of_le (gV F) (by decide))) (ac rfl)),FY rfl _ (F0 _ (x2x.1.setO λ H' x=>q _ _ _ _ (((z0.trans x1x).trans x2x).trans x)))⟩
 | op v =>
  obtain rfl:=Gb hw
  refine uS ?_
  intro L
  refine sH (x:=[111,112]) (ys:=[[33],[126]]) rfl (.two F0 F0) (ac rfl) rfl rfl λ H0 m0x=>eT (L:=mP) (e:=.ex (.call 48 (.cons (.var 0) (.cons (.var 3) .nil))) .done) rfl ?_
  have z0:=R.other m0x
  refine bj (ax (.one (FY rfl)) (zk P z0.1 fs λ H1 x1x=>aG (mu (x1x.1.evS rfl) ⟨_,x1x.1.s⟩ (bI (hN (jD (iZ rfl (z0.1.keepTup x1x.2 (R.keepTup z0.2 ht)) rfl) (nE (ax (.one (FY rfl)) (zk P x1x.1 fs1 λ H2x x2x=>AV.one (FY rfl) _ (Fi P ok (lt_of_lt_of_le (pk F) (ac rfl)) (lt_of_lt_of_le (gV F) (ac rfl)) λ H3 m3x=>?_))))))))))
  have x3x:=x2x.1.other m3x
  exact x3x.1.pushed (GK (d8 _) fs1) λ H' x=>q _ _ _ _ ((((z0.trans x1x).trans x2x).trans x3x).trans x)
end
inductive U where
 | lit (k:Nat)|p (w:Nat)|n (i:Nat)|q (c:Nat)|pg (c:Nat)|g (c:Nat)|txt (k:Nat)|inot|inv|out (w:Nat)|bin (w far s:Nat)
noncomputable def U.ctorIdx:U->Nat:=λ u=>U.casesOn (motive:=λ _=>Nat) u (λ _=>0) (λ _=>1) (λ _=>2) (λ _=>3) (λ _=>4) (λ _=>5) (λ _=>6) 7 8 (λ _=>9) (λ _ _ _=>10)
mutual
inductive Px where
 | u (u:U)|iff (b:Bs)
inductive Ts where
 | nil|cons (t:Px) (r:Ts)
inductive Bs where
 | last (n f:Ts)|lastE (n f e:Ts)|more (n f:Ts) (b:Bs)
end
noncomputable def dU:Nat->List Nat
 | 0=>[120]|1=>[37]|2=>[36,60,53,62]|_=>[97,59]
noncomputable def pG:Nat->List Nat
 | 0=>[115]|1=>[108]|_=>[]
noncomputable def U.rows:U->List Rw
 | .lit k=>[.lit (dU k)] | .p w=>[.p w] | .n i=>[.n i] | .q c=>[.n c] | .pg c=>[.P c,.g c] | .g c=>[.g c] | .txt k=>[.text (pG k)]
 | .inot=>[.ii,.nt] | .inv=>[.iv] | .out w=>[.out w] | .bin w far s=>[.p w,.n far,.op s,.out 0]
noncomputable abbrev cX:List Nat:=[43,45,42,47,109,38,124,94,61,62,60,65,79]
noncomputable def U.ok:U->Prop
 | .lit k=>k<4 | .p w=>w=1\/w=3\/w=4 | .n i=>i<=56 | .q c=>c=65\/c=90\/c=43 | .pg c=>c=97\/c=65 | .g c=>c=97\/c=65\/c=98\/c=66 | .txt k=>k<3
 | .inot=>True | .inv=>True | .out w=>w<12 | .bin w far s=>(w=1\/w=3\/w=4)/\far<=8/\s∈cX
noncomputable def kx (u:U)(w:Wd):Wd:=u.rows.foldl (λ w r=>cC r w) w
noncomputable def popW (w:Wd):Wd:={w with stk:=w.stk.tail}
mutual
noncomputable def Ts.ok:Ts->Prop
 | .nil=>True
 | .cons t r=>t.ok/\r.ok
noncomputable def Px.ok:Px->Prop
 | .u u=>u.ok
 | .iff b=>b.ok
noncomputable def Bs.ok:Bs->Prop
 | .last n f=>n.ok/\f.ok
 | .lastE n f e=>n.ok/\f.ok/\e.ok
 | .more n f b=>n.ok/\f.ok/\b.ok
end
mutual
noncomputable def az:Ts->Wd->Wd
 | .nil,w=>w
 | .cons t r,w=>az r (doneT t w)
noncomputable def doneT:Px->Wd->Wd
 | .u u,w=>kx u w
 | .iff b,w=>doneB b w
noncomputable def doneB:Bs->Wd->Wd
 | .last n f,w=>if bR (az n w).stk≠0 then az f (popW (az n w)) else popW (az n w)
 | .lastE n f e,w=>if bR (az n w).stk≠0 then az f (popW (az n w)) else az e (popW (az n w))
 | .more n f b,w=>if bR (az n w).stk≠0 then az f (popW (az n w)) else doneB b (popW (az n w))
end
mutual
noncomputable def Ts.cost:Ts->Nat
 | .nil=>0
 | .cons t r=>t.cost+r.cost
noncomputable def Px.cost:Px->Nat
 | .u _=>1
 | .iff b=>b.cost+1
noncomputable def Bs.cost:Bs->Nat
 | .last n f=>n.cost+f.cost+1
 | .lastE n f e=>n.cost+f.cost+e.cost+1
 | .more n f b=>n.cost+f.cost+b.cost+1
end
mutual
noncomputable def Ts.dep:Ts->Nat
 | .nil=>0
 | .cons t r=>max t.dep r.dep
noncomputable def Px.dep:Px->Nat
 | .u _=>0
 | .iff b=>b.dep+2
noncomputable def Bs.dep:Bs->Nat
 | .last n f=>max n.dep f.dep
 | .lastE n f e=>max (max n.dep f.dep) e.dep
 | .more n f b=>max (max n.dep f.dep) b.dep
end
def E5 (H:AH)(v:V)(vals:List V):Prop:=∃ t,v=.ref t/\H t=some (.tup vals)
inductive fi (H:AH):List V->List (List V)->Prop where
 | nil:fi H [] []
 | cons {v vals vs r}:E5 H v vals->fi H vs r->fi H (v::vs) (vals::r)
inductive DX (H:AH) (bv r:List V) (P Q:List V->Prop) (W:Prop):Prop
 | mk (t a c:Addr) (na fa:List V) (e:bv=.ref t::r) (h1:H t=some (.tup [.ref a,.ref c])) (h2:H a=some (.flist na)) (h3:H c=some (.flist fa)) (h4:P na) (h5:Q fa) (h6:W)
inductive Fw (H:AH) (vs:List V) (P:List V->List V->Prop):Prop
 | mk (t bl el:Addr) (bv ev:List V) (e:vs=[.ref t]) (h1:H t=some (.tup [.str [105,102],.ref bl,.ref el])) (h2:H bl=some (.flist bv)) (h3:H el=some (.flist ev)) (h4:P bv ev)
mutual
noncomputable def cw (H:AH)(vs:List V):Ts->Prop
 | .nil=>vs=[]
 | .cons t r=>∃ a b,vs=a++b/\TAt H a t/\cw H b r
noncomputable def TAt (H:AH)(vs:List V):Px->Prop
 | .u u=>fi H vs (u.rows.map Rw.vals)
 | .iff b=>Fw H vs λ bv ev=>BAt H bv ev b
noncomputable def BAt (H:AH)(bv ev:List V):Bs->Prop
 | .last n f=>DX H bv [] (λ na=>cw H na n) (λ fa=>cw H fa f) (ev=[])
 | .lastE n f e=>DX H bv [] (λ na=>cw H na n) (λ fa=>cw H fa f) (cw H ev e)
 | .more n f b=>∃ r,DX H bv r (λ na=>cw H na n) (λ fa=>cw H fa f) (BAt H r ev b)
end
def aH (H H':AH):Prop:=∀ a ao,ao.frozen=true->H a=some ao->H' a=some ao
theorem aH.tup {H H':AH}(m:aH H H'){t vs}(e:H t=some (.tup vs)):H' t=some (.tup vs):=m _ _ rfl e
theorem aH.fl {H H':AH}(m:aH H H'){t vs}(e:H t=some (.flist vs)):H' t=some (.flist vs):=m _ _ rfl e
theorem aH.trans {H H1 H2x:AH}(x:aH H H1)(y:aH H1 H2x):aH H H2x:=λ a ao f e=>y a ao f (x a ao f e)
theorem aH.new {H:AH}{a:Addr}{o:AO}(h:H a=none):aH H (H.set a o):=λ b ao _ e=>aq e h
theorem fi.keep {H H':AH}(m:aH H H'){vs l}(h:fi H vs l):fi H' vs l:=by
 induction h with
 | nil=>exact .nil
 | cons a b ih=>obtain ⟨t,e,g⟩:=a;exact .cons ⟨t,e,m.tup g⟩ ih
theorem fi.length {H:AH}{vs l}(h:fi H vs l):vs.length=l.length:=by
 induction h with
 | nil=>rfl
 | cons a b ih=>simp [ih]
mutual
theorem cw.keep {H H':AH}(m:aH H H'):∀ (ts:Ts) {vs:List V},cw H vs ts->cw H' vs ts
 | .nil,vs,h=>by exact h
 | .cons t r,vs,h=>by
  exact ln h λ a b e h1 h2=>⟨a,b,e,TAt.keep m t h1,cw.keep m r h2⟩
theorem TAt.keep {H H':AH}(m:aH H H'):∀ (t:Px) {vs:List V},TAt H vs t->TAt H' vs t
 | .u u,vs,h=>by exact fi.keep m h
 | .iff b,vs,h=>by
  obtain ⟨t,bl,el,bv,ev,e,h1,h2,h3,h4⟩:=h
  exact ⟨t,bl,el,bv,ev,e,m.tup h1,m.fl h2,m.fl h3,BAt.keep m b h4⟩
theorem BAt.keep {H H':AH}(m:aH H H'):∀ (b:Bs) {bv ev:List V},BAt H bv ev b->BAt H' bv ev b
 | .last n f,bv,ev,h=>by
  obtain ⟨t,a,c,na,fa,e,h1,h2,h3,h4,h5,h6⟩:=h
  exact ⟨t,a,c,na,fa,e,m.tup h1,m.fl h2,m.fl h3,cw.keep m n h4,cw.keep m f h5,h6⟩
 | .lastE n f e,bv,ev,h=>by
  obtain ⟨t,a,c,na,fa,e',h1,h2,h3,h4,h5,h6⟩:=h
  exact ⟨t,a,c,na,fa,e',m.tup h1,m.fl h2,m.fl h3,cw.keep m n h4,cw.keep m f h5,cw.keep m e h6⟩
 | .more n f b,bv,ev,h=>by
  obtain ⟨r,t,a,c,na,fa,e,h1,h2,h3,h4,h5,h6⟩:=h
  exact ⟨r,t,a,c,na,fa,e,m.tup h1,m.fl h2,m.fl h3,cw.keep m n h4,cw.keep m f h5,BAt.keep m b h6⟩
end
theorem oS (u:U):u.rows.length<=4:=by induction u<;>exact ac rfl
theorem cw.len {H:AH}:∀ (ts:Ts) {vs:List V},cw H vs ts->vs.length<=4*ts.cost
 | .nil,vs,h=>by dsimp only [cw] at h;simp [h]
 | .cons t r,vs,h=>by
  obtain ⟨a,b,e,h1,h2⟩:=h
  have:=cw.len r h2
  subst e
  cases t with
  | u u =>
   have e:=h1.length
   have:=oS u
   simp only [length_map] at e
   simp only [GO,Ts.cost,Px.cost];lia
  | iff bb =>
   obtain ⟨_,_,_,_,_,e,_⟩:=h1
   subst e
   simp only [GO,Ts.cost,Px.cost,length_cons,length_nil];lia
structure WB (n:Nat) (w:Wd):Prop where
 psl:w.ps.length<=3
 pv:∀ v∈w.ps,eL v/\(num v).natAbs<=1000+n/\(oct v).length<=60/\cR (oct v)
 i0:∀ v,w.ps[0]?=some v->v=.int (num v)
 i2:∀ v,w.ps[2]?=some v->v=.int (num v)
 stkl:w.stk.length<=n
 stk:∀ i∈w.stk,i.natAbs<=1000+n
 out:w.out.length<=100*n
 A:w.A.natAbs<=1000+n
 B:w.B.natAbs<=1000+n
 a:∀ i∈w.a,i.natAbs<=1000+n
theorem WB.mono {n m:Nat}{w:Wd}(h:WB n w)(l:n<=m):WB m w :=
 have u:=add_le_add_left l 1000
 ⟨h.psl,λ v q=>have z:=h.pv v q;⟨z.1,GK z.2.1 u,z.2.2⟩,h.i0,h.i2,GK h.stkl l,λ i q=>GK (h.stk i q) u,GK h.out (mul_le_mul_left 100 l),GK h.A u,GK h.B u,λ i q=>GK (h.a i q) u⟩
theorem WB.fine {n:Nat}{w:Wd}(h:WB n w)(l:n<=60000):jq w :=
 have u:∀ {x:Nat},x<=1000+n->x<536870912:=λ g=>lt_of_le_of_lt (GK g (add_le_add_left l 1000)) (ac rfl)
 ⟨⟨h.psl,λ v q=>have z:=h.pv v q;⟨z.1,u z.2.1,GK z.2.2.1 (ac rfl),z.2.2.2⟩,h.i0,h.i2⟩,GK h.stkl (GK l (ac rfl)),λ i q=>u (h.stk i q),GK h.out (GK (mul_le_mul_left 100 l) (ac rfl)),u h.A,u h.B,λ i q=>u (h.a i q)⟩
theorem WB.pop {n:Nat}{w:Wd}(h:WB n w):WB n (popW w)/\(bR w.stk).natAbs<=1000+n:=by
 refine ⟨⟨h.psl,h.pv,h.i0,h.i2,GK (d8 _) h.stkl,λ i q=>h.stk i (mem_of_mem_tail q),h.out,h.A,h.B,h.a⟩,?_⟩
 induction hs:w.stk with
 | nil=>simp [bR]
 | cons i r=>exact h.stk i (by refine sr hs ?_;simp)
theorem WB.push {n:Nat}{w:Wd}(h:WB n w){i:Int}(hi:i.natAbs<=1000+(n+1)):WB (n+1) {w with stk:=i::w.stk}:=by
 have hl:=h.stkl
 have h:=h.mono (le_succ n)
 refine ⟨h.psl,h.pv,h.i0,h.i2,succ_le_succ hl,?_,h.out,h.A,h.B,h.a⟩
 intro j q
 rcases mem_cons.mp q with rfl|q
 .exact hi
 .exact h.stk j q
theorem WB.write {n:Nat}{w:Wd}(h:WB n w){l:List Nat}(hl:l.length<=100):WB (n+1) {w with out:=w.out++l}:=by
 have ho:=h.out
 have h:=h.mono (le_succ n)
 exact ⟨h.psl,h.pv,h.i0,h.i2,h.stkl,h.stk,sr GO (add_le_add ho hl),h.A,h.B,h.a⟩
theorem pW {n:Nat}{w:Wd}(h:WB n w){i:Int}(hi:i.natAbs<=1000+(n+1)):WB (n+1) {w with stk:=i::w.stk.tail}:=by
 have:=(h.pop).1.push (i:=i) hi
 exact this
theorem nI {a b:Int}(hb:0<=b):0<=Builtin.bitAnd a b/\Builtin.bitAnd a b<=b:=by
 unfold Builtin.bitAnd
 by_cases ha:0<=a
 .exact sr (GM ha) (sr (GM hb) ⟨natCast_nonneg _,le_trans (ofNat_le.mpr Nat.and_le_right) (Int.le_of_eq (toNat_of_nonneg hb))⟩)
 .exact sr (GN ha) (sr (GM hb) ⟨Int.sub_nonneg_of_le (le_trans (ofNat_le.mpr Nat.and_le_left) (Int.le_of_eq (toNat_of_nonneg hb))),Int.sub_le_self b (natCast_nonneg _)⟩)
theorem tV (x y:Int):Builtin.bitOr x y=x+y-Builtin.bitAnd x y:=PyProof.Rows.bitOr_and x y
theorem iK {p:Prop}[Decidable p]{x y:Int}{B:Int->Prop}(hx:B x)(hy:B y):B (if p then x else y):=by
 by_cases h:p
 .exact sr (if_pos h) hx
 .exact sr (if_neg h) hy
theorem rt {c:Nat}{a b:Int}(hb:0<=b)(hb2:b<=8):(two c a b).natAbs<=10*a.natAbs+100:=by
 have fin:∀ {x:Nat},x<=9*a.natAbs+50->x<=10*a.natAbs+100:=λ h=>by lia
 have l9:∀ {x B:Nat},x<=a.natAbs+B->B<=8*a.natAbs+50->x<=9*a.natAbs+50:=λ h g=>GK h (GK (add_le_add_left g _) (by lia))
 have sm:∀ {B m:Nat},B<=m->m<=50->B<=8*a.natAbs+50:=λ h g=>GK (GK h g) (le_add_left 50 _)
 have b8:b.natAbs<=8:=ofNat_le.mp (by refine sr (Int.natAbs_of_nonneg hb) ?_;exact hb2)
 have hd:(Builtin.bitAnd a b).natAbs<=8:=by
  obtain ⟨h1,h2⟩:=nI (a:=a) hb
  exact ofNat_le.mp (by refine sr (Int.natAbs_of_nonneg h1) ?_;exact le_trans h2 hb2)
 have sub:∀ {x y:Int},(x-y).natAbs<=x.natAbs+y.natAbs:=λ {x y}=>by exact sr Int.sub_eq_add_neg (sl (Int.natAbs_neg y) (Int.natAbs_add_le _ _))
 have mul:∀ {x:Int},x.natAbs<=a.natAbs->(b*x).natAbs<=8*a.natAbs:=λ h=>by exact sr (Int.natAbs_mul ..) (mul_le_mul b8 h)
 have ab:=Int.natAbs_add_le a b
 have q:=sP a b
 have bit:∀ {p:Prop} [Decidable p],(if p then (1:Int) else 0).natAbs<=10*a.natAbs+100:=iK (B:=λ z=>z.natAbs<=10*a.natAbs+100) (fin (GK (ac rfl:1<=50) (le_add_left _ _))) (zero_le _)
 unfold two
 generalize qI a b=u at *
 generalize hz:Builtin.bitAnd a b=z at *
 have hor:Builtin.bitOr a b=a+b-z:=hz▸tV a b
 have hxor:Builtin.bitXor a b=a+b-2*z:=hz▸PyProof.Rows.bitXor_and a b
 have m1:=mul (le_refl _)
 have m2:=mul q
 have s1:=sub (x:=a) (y:=b)
 have s2:=sub (x:=a) (y:=b*u)
 have s3:=sub (x:=a+b) (y:=z)
 have s4:=sub (x:=a+b) (y:=2*z)
 have z2:(2*z).natAbs<=16:=by exact sr (Int.natAbs_mul ..) (mul_le_mul_left 2 hd)
 refine iK (B:=λ z=>z.natAbs<=10*a.natAbs+100) (fin ?_) (iK (B:=λ z=>z.natAbs<=10*a.natAbs+100) (fin ?_) (iK (B:=λ z=>z.natAbs<=10*a.natAbs+100) (fin ?_) (iK (B:=λ z=>z.natAbs<=10*a.natAbs+100) (fin ?_) (iK (B:=λ z=>z.natAbs<=10*a.natAbs+100) (iK (B:=λ z=>z.natAbs<=10*a.natAbs+100) (zero_le _) (fin ?_))
  (iK (B:=λ z=>z.natAbs<=10*a.natAbs+100) (fin ?_) (iK (B:=λ z=>z.natAbs<=10*a.natAbs+100) (fin ?_) (iK (B:=λ z=>z.natAbs<=10*a.natAbs+100) (fin ?_) (iK (B:=λ z=>z.natAbs<=10*a.natAbs+100) bit (iK (B:=λ z=>z.natAbs<=10*a.natAbs+100) bit (iK (B:=λ z=>z.natAbs<=10*a.natAbs+100) bit (iK (B:=λ z=>z.natAbs<=10*a.natAbs+100) bit bit)))))))))))
 .exact l9 ab (sm b8 (ac rfl))
 .exact l9 s1 (sm b8 (ac rfl))
 .exact sr (Int.mul_comm ..) (l9 (GK m1 (le_add_left _ a.natAbs)) (le_add_right _ 50))
 .exact l9 (B:=0) q (zero_le _)
 .exact l9 s2 (GK m2 (le_add_right _ 50))
 .exact GK hd (GK (ac rfl) (le_add_left 50 _))
 .exact sr hor (l9 (GK s3 (GK (add_le_add_right ab _) (le_of_eq (add_assoc ..)))) (sm (add_le_add b8 hd) (ac rfl)))
 .exact sr hxor (l9 (GK s4 (GK (add_le_add_right ab _) (le_of_eq (add_assoc ..)))) (sm (add_le_add b8 z2) (ac rfl)))
theorem qh {n:Nat}(h:n<2 ^ 40):(aE false 10 n).length<=40:=cM (ac rfl) h
inductive mi:List Rw->Wd->Prop where
 | nil {w}:mi [] w
 | cons {r rs w}:jq w->zi r->mi rs (cC r w)->mi (r::rs) w
theorem jp {n:Nat}{w:Wd}(h:WB n w)(k:Nat):(num (ak w.ps k)).natAbs<=1000+n:=by
 unfold ak
 split
 .induction e:w.ps[((k:Int)-1).toNat]? with
  | none=>simp [num]
  | some v=>exact (h.pv v (mem_of_getElem? e)).2.1
 .simp [num]
theorem mA {n:Nat}{w:Wd}(h:WB n w):(oct (ak w.ps 2)).length<=60:=by
 unfold ak
 split
 .induction e:w.ps[((2:Int)-1).toNat]? with
  | none=>simp [oct]
  | some v=>exact (h.pv v (mem_of_getElem? e)).2.2.1
 .simp [oct]
theorem EC {n:Nat}{w:Wd}(h:WB n w)(c:Nat):WB (n+1) (cC (.g c) w):=by
 refine h.push ?_
 have hA:=h.A
 have hB:=h.B
 repeat' split
 .induction ha:w.a with
  | none=>simp
  | some a=>have:=h.a a (by refine sr ha ?_;rfl);simp;lia
 .lia
 .lia
 .simp
theorem i4 {c m:Nat}(h:c<=1000):(c:Int).natAbs<=1000+m:=GK h (le_add_right _ _)
theorem nM {n:Nat}{w:Wd}(h:WB n w)(l:n<=50000){u:U}(hu:u.ok):mi u.rows w/\WB (n+1) (kx u w):=by
 have F:=h.fine (GK l (ac rfl))
 induction u with
 | lit k =>
  have hk:(dU k).length<=100:=(by decide:∀ k<4,(dU k).length<=100) k hu
  exact ⟨.cons F hk .nil,h.write hk⟩
 | p k=>exact ⟨.cons F hu .nil,h.push (le_succ_of_le (jp h k))⟩
 | n i=>exact ⟨.cons F trivial .nil,h.push (i4 (GK hu (ac rfl)))⟩
 | q c=>exact ⟨.cons F trivial .nil,h.push (i4 (hu.elim (λ e=>e▸ac rfl) λ hu=>hu.elim (λ e=>e▸ac rfl) λ e=>e▸ac rfl))⟩
 | g c=>exact ⟨.cons F hu .nil,EC h c⟩
 | pg c =>
  have hp:=h.pop
  have h1:WB n (cC (.P c) w):=by
   delta cC
   dsimp only
   split
   .exact ⟨hp.1.psl,hp.1.pv,hp.1.i0,hp.1.i2,hp.1.stkl,hp.1.stk,hp.1.out,hp.1.A,hp.1.B,λ i q=>by (injection q with q;subst q);exact hp.2⟩
   .exact ⟨hp.1.psl,hp.1.pv,hp.1.i0,hp.1.i2,hp.1.stkl,hp.1.stk,hp.1.out,hp.2,hp.1.B,hp.1.a⟩
  exact ⟨.cons F hu (.cons (h1.fine (GK l (ac rfl))) (hu.imp id .inl) .nil),EC h1 c⟩
 | txt k =>
  have ob:=mA h
  refine ⟨.cons F ((by decide:∀ k<3,pG k=[115]\/pG k=[108]\/pG k=[]) k hu) .nil,?_⟩
  show WB (n+1) (cC (.text (pG k)) w)
  delta cC
  dsimp only
  split
  .exact h.mono (by lia)
  .refine h.write ?_
   split
   .lia
   .have:=qh (n:=(oct (ak w.ps 2)).length) (by lia);lia
 | inot =>
  have h1:WB (n+1) (cC .ii w):=by
   have hm:=h.mono (le_succ n)
   have pl:=h.psl
   have inc:∀ v∈w.ps,eL (gJ v)/\(num (gJ v)).natAbs<=1000+(n+1)/\(oct (gJ v)).length<=60/\cR (oct (gJ v)):=λ v q=>by
    refine Ai (h.pv v q) λ a b c d=>?_
    induction a with
    | int i=>exact ⟨.int _,GK (Int.natAbs_add_le i 1) (succ_le_succ b),zero_le _,λ x m=>(not_mem_nil m).elim⟩
    | bytes l=>exact ⟨.bytes _,zero_le _,c,d⟩
   have more:(cD w.ps).length<=3/\(∀ v∈cD w.ps,eL v/\(num v).natAbs<=1000+(n+1)/\(oct v).length<=60/\cR (oct v))/\(∀ v,(cD w.ps)[0]?=some v->v=.int (num v))/\∀ v,(cD w.ps)[2]?=some v->v=.int (num v):=by
    have i0:=h.i0
    have i2:=h.i2
    have pv:=hm.pv
    generalize w.ps=ps at pl inc i0 i2 pv
    have e0:∀ x:V,x=.int (num x)->gJ x=.int (num (gJ x)):=λ x e=>by refine sr e ?_;rfl
    rcases ps with _|⟨x,_|⟨y,_|⟨z,_|⟨t,r⟩⟩⟩⟩
    .exact ⟨ac rfl,λ _ m=>(not_mem_nil m).elim,λ _ q=>by injection q,λ _ q=>by injection q⟩
    .refine ⟨ac rfl,λ v q=>?_,λ v q=>?_,λ _ q=>by injection q⟩
     .exact GP q▸inc x mem_cons_self
     ·(injection q with q;subst q);exact e0 x (i0 x rfl)
    .refine ⟨ac rfl,λ v q=>?_,λ v q=>?_,λ _ q=>by injection q⟩
     .rcases mem_cons.mp q with rfl|q
      .exact inc x mem_cons_self
      .exact GP q▸inc y (.tail _ mem_cons_self)
     ·(injection q with q;subst q);exact e0 x (i0 x rfl)
    .refine ⟨ac rfl,λ v q=>?_,λ v q=>?_,λ v q=>?_⟩
     .rcases mem_cons.mp q with rfl|q
      .exact inc x mem_cons_self
      .rcases mem_cons.mp q with rfl|q
       .exact inc y (.tail _ mem_cons_self)
       .exact GP q▸pv _ (.tail _ (.tail _ mem_cons_self))
     ·(injection q with q;subst q);exact e0 x (i0 x rfl)
     ·(injection q with q;subst q);exact i2 _ rfl
    .simp at pl
   exact ⟨more.1,more.2.1,more.2.2.1,more.2.2.2,hm.stkl,hm.stk,hm.out,hm.A,hm.B,hm.a⟩
  refine ⟨.cons F trivial (.cons (h1.fine (GK (succ_le_succ l) (ac rfl))) trivial .nil),?_⟩
  have hl:=h.stkl
  refine ⟨h1.psl,h1.pv,h1.i0,h1.i2,?_,?_,h1.out,h1.A,h1.B,h1.a⟩
  .show ((if bR w.stk=0 then (1:Int) else 0)::w.stk.tail).length<=n+1
   exact succ_le_succ (GK (d8 _) hl)
  .intro i q
   rcases mem_cons.mp q with rfl|q
   .split<;>exact GK (show _<=1000 from ac rfl) (le_add_right _ _)
   .exact h1.stk i (mem_of_mem_tail q)
 | inv =>
  exact ⟨.cons F trivial .nil,pW h (GK (Int.natAbs_sub_le _ 1) (succ_le_succ (GK (le_of_eq (Int.natAbs_neg _)) h.pop.2)))⟩
 | out k =>
  refine ⟨.cons F hu .nil,?_⟩
  have hp:=h.pop
  exact hp.1.write (je hu (lt_of_le_of_lt (GK hp.2 (add_le_add_left l 1000)) (ac rfl)))
 | bin k far s =>
  refine mL hu λ h1 h2 h3=>?_
  have pb:=jp h k
  have w1:=h.push (i:=num (ak w.ps k)) (le_succ_of_le pb)
  have w2:=w1.push (i:=(far:Int)) (i4 (GK h2 (ac rfl)))
  have tb:=GK (rt (c:=s) (a:=num (ak w.ps k)) (b:=far) (natCast_nonneg _) (ofNat_le.mpr h2)) (add_le_add_right (mul_le_mul_left 10 (GK pb (add_le_add_left l 1000))) 100)
  refine ⟨.cons F h1 (.cons (w1.fine (GK (succ_le_succ l) (ac rfl))) trivial (.cons (w2.fine (GK (succ_le_succ (succ_le_succ l)) (ac rfl))) h3 (.cons ?_ ?_ .nil))),?_⟩
  .refine ⟨F.ps,Nat.succ_le_of_lt (lt_of_le_of_lt h.stkl (lt_of_le_of_lt l (ac rfl))),?_,F.out,F.A,F.B,F.a⟩
   intro i q
   rcases mem_cons.mp q with rfl|q
   .exact lt_of_le_of_lt tb (ac rfl)
   .exact F.stk i q
  .exact ac rfl
  .exact h.write (je (ac rfl) (lt_of_le_of_lt tb (ac rfl)))
mutual
theorem WB.ts:∀ (ts:Ts) {n:Nat} {w:Wd},WB n w->ts.ok->n+ts.cost<=50000->WB (n+ts.cost) (az ts w)
 | .nil,n,w,h,ok,l=>by exact h
 | .cons t r,n,w,h,ok,l=>by
  dsimp only [Ts.cost] at l ⊢
  have h1:=GF t h ok.1 (by lia)
  have h2:=WB.ts r h1 ok.2 (by lia)
  exact sl (add_assoc ..) h2
theorem GF:∀ (t:Px) {n:Nat} {w:Wd},WB n w->t.ok->n+t.cost<=50000->WB (n+t.cost) (doneT t w)
 | .u u,n,w,h,ok,l=>by
  dsimp only [Px.cost] at l ⊢
  exact (nM h (by lia) ok).2
 | .iff b,n,w,h,ok,l=>by
  dsimp only [Px.cost] at l ⊢
  exact (GG b h ok (by lia)).mono (by lia)
theorem GG:∀ (b:Bs) {n:Nat} {w:Wd},WB n w->b.ok->n+b.cost<=50000->WB (n+b.cost) (doneB b w)
 | .last a f,n,w,h,ok,l=>by
  dsimp only [Bs.cost] at l ⊢
  dsimp only [doneB]
  have h1:=(WB.ts a h ok.1 (by lia)).pop.1
  split
  .exact (WB.ts f h1 ok.2 (by lia)).mono (by lia)
  .exact h1.mono (by lia)
 | .lastE a f e,n,w,h,ok,l=>by
  dsimp only [Bs.cost] at l ⊢
  dsimp only [doneB]
  have h1:=(WB.ts a h ok.1 (by lia)).pop.1
  split
  .exact (WB.ts f h1 ok.2.1 (by lia)).mono (by lia)
  .exact (WB.ts e h1 ok.2.2 (by lia)).mono (by lia)
 | .more a f b,n,w,h,ok,l=>by
  dsimp only [Bs.cost] at l ⊢
  dsimp only [doneB]
  have h1:=(WB.ts a h ok.1 (by lia)).pop.1
  split
  .exact (WB.ts f h1 ok.2.1 (by lia)).mono (by lia)
  .exact (GG b h1 ok.2.2 (by lia)).mono (by lia)
end
inductive FH (H:AH) (p v:V):Prop
 | mk (q t:Addr) (vals:List V) (kw:List Nat) (a:p=.ref q) (b:v=.ref t) (c:H q=some (.tup [.str kw,.ref t])) (d:H t=some (.tup vals)) (e:vals[0]?=some (.str kw))
inductive dY (H:AH):List V->List V->Prop where
 | nil:dY H [] []
 | cons {p v ps vs}:FH H p v->dY H ps vs->dY H (p::ps) (v::vs)
theorem dY.keep {H H':AH}(m:aH H H'){ps vs}(h:dY H ps vs):dY H' ps vs:=by
 induction h with
 | nil=>exact .nil
 | cons a b ih=>obtain ⟨q,t,vals,kw,e1,e2,e3,e4,e5⟩:=a;exact .cons ⟨q,t,vals,kw,e1,e2,m.tup e3,m.tup e4,e5⟩ ih
theorem dY.split {H:AH}:∀ {a b ps:List V},dY H ps (a++b)->∃ pa pb,ps=pa++pb/\dY H pa a/\dY H pb b
 | [],b,ps,h=>⟨[],ps,rfl,.nil,h⟩
 | x::a,b,ps,h=>by
  cases h with
  | cons h1 h2 =>
   refine ln (dY.split h2) λ pa pb e g1 g2=>?_
   exact ⟨_::pa,pb,by refine sr e ?_;rfl,.cons h1 g1,g2⟩
section
variable {S:Sx}{wd sk:Addr}{w:Wd}{H:AH}
theorem g0.fk {H':AH}(R:gn H wd sk w){w':Wd}(x:g0 H wd sk w' H'):aH H H':=λ a ao f e=>x.2.keep a ao e λ q=>by
 obtain ⟨pm,h1,h2,h3⟩:=R.d
 rcases q with rfl|rfl
 .rw [h1] at e;cases e;contradiction
 .rw [R.s] at e;cases e;contradiction
noncomputable abbrev rR (S:Sx)(k:Nat)(β:Bool)(X:Int->Prop)(wd L:Addr)(all:List V)(rlv:V)(Rr:V->AH->Prop)(pb:List V)(K:Ls->AH->Prop)(H:AH):Prop:=∀ z2 z3 z4 z5 z6,
 iL (ay .list (.ref L) (all.map It.v)) (.two 2 3) (λ ls' H' Kt=>xs q8 (Cw.nox ⟨af S (k+2),β,X⟩) ls' H' Kt Rr) (pb.map It.v) [some (.ref wd),some rlv,z2,z3,z4,z5,z6] H K
theorem nX (P:Pk S){k:Nat}{β:Bool}{X:Int->Prop}{L:Addr}{all pb:List V}{rlv:V}{Rr:V->AH->Prop}(h1:L≠sk)(h2:L≠wd):∀ (rs:List Rw) {H:AH} {w:Wd} {ps vs:List V} {K:Ls->AH->Prop},mi rs w->gn H wd sk w->fi H vs (rs.map Rw.vals)->dY H ps vs->H L=some (.list all) ->
  (∀ H',g0 H wd sk (rs.foldl (λ w r=>cC r w) w) H'->H' L=some (.list all)->rR S k β X wd L all rlv Rr pb K H')->rR S k β X wd L all rlv Rr (ps++pb) K H
 | [],H,w,ps,vs,K,st,R,hv,hp,hL,kk=>by
  cases hv;cases hp
  exact kk H (g0.self R) hL
 | r::rs,H,w,ps,vs,K,st,R,hv,hp,hL,kk=>by
  cases st with
  | cons F ok st =>
   cases hv with
   | cons a hv =>
    cases hp with
    | cons b hp =>
     refine aT a λ t ez1 ht=>?_;subst ez1
     obtain ⟨q,t',vals,kw,rfl,e2,e3,e4,e5⟩:=b
     (injection e2 with e2;subst e2)
     rw [ht] at e4;cases e4
     intro z2 z3 z4 z5 z6
     refine ⟨⟨_,.inl hL,rfl⟩,_,_,e3,(turn P R F ok ht e5 λ H' z4 z5 z6 x=>?_)⟩
     have fk:=x.fk R
     have hL':H' L=some (.list all):=x.2.keep _ _ hL λ q=>q.elim h2 h1
     exact nX P h1 h2 rs st x.1 (hv.keep fk) (hp.keep fk) hL' (λ H'' x'=>kk H'' (x.trans x')) _ _ _ _ _
def BS (S:Sx)(ts:Ts):Prop:=∀ (k:Nat) (β:Bool) (X:Int->Prop) (wd sk rl:Addr) (w:Wd) (n:Nat) (vs:List V) (H:AH) (Q:V->AH->Prop),ts.dep+5<=k->ts.ok->gn H wd sk w->WB n w->n+ts.cost<=50000->cw H vs ts->H rl=some (.flist vs) ->
  (∀ H',g0 H wd sk (az ts w) H'->Q .none H')->af S k β X 47 [.ref wd,.ref rl] H Q
def E2 (S:Sx)(b:Bs):Prop:=∀ (k:Nat) (β:Bool) (X:Int->Prop) (wd sk t bl el:Addr) (w:Wd) (n:Nat) (bv ev:List V) (H:AH) (Q:V->AH->Prop),b.dep+6<=k->b.ok->gn H wd sk w->WB n w->n+b.cost<=50000 ->
  H t=some (.tup [.str [105,102],.ref bl,.ref el])->H bl=some (.flist bv)->H el=some (.flist ev)->BAt H bv ev b->(∀ H',g0 H wd sk (doneB b w) H'->Q .none H')->af S k β X 48 [.ref wd,.ref t] H Q
def Lp (S:Sx)(ts:Ts):Prop:=∀ (k:Nat) (β:Bool) (X:Int->Prop) (wd sk L:Addr) (w:Wd) (n:Nat) (vs ps pb all:List V) (rlv:V) (H:AH) (Rr:V->AH->Prop) (K:Ls->AH->Prop),L≠sk->L≠wd->ts.dep+2<=k->ts.ok->gn H wd sk w->WB n w->n+ts.cost<=50000->cw H vs ts->dY H ps vs->H L=some (.list all) ->
  (∀ H',g0 H wd sk (az ts w) H'->H' L=some (.list all)->rR S k β X wd L all rlv Rr pb K H')->rR S k β X wd L all rlv Rr (ps++pb) K H
theorem zw {Q:V->AH->Prop}{C:Cw}{ls:Ls}{N:Ls->AH->Prop}{es:Es}{a b:B}{j:Nat}{x:List Nat}{ys:List (List Nat)}{vs:List V}(hv:lget ls j=some (.str x))(hes:AV es C ls H vs)(hl:vs.length<=100)(hy:bT vs=some ys)(h:ys.contains x=false)(p:∀ c,H c=none->xs b C ls (H.set c (.tup vs)) N Q):xs (.cond (.cmp .isin (.var j) (.tup es)) a b .done) C ls H N Q :=
 fU hv hes hl hy λ c hc=>by exact sr h ⟨nofun,λ _=>p c hc⟩
theorem zj {k:Nat}{β:Bool}{X:Int->Prop}{t:Addr}{rlv:V}{y4 y5 y6:Option V}{K:Ls->AH->Prop}{Rr:V->AH->Prop}
  (q:∀ c0,H c0=none->af S k β X 48 [.ref wd,.ref t] (H.set c0 (.tup [.str [33],.str [126]])) λ _ H'=>K [some (.ref wd),some rlv,some (.str [105,102]),some (.ref t),y4,y5,y6] H'):xs q8 ⟨af S k,β,X⟩ [some (.ref wd),some rlv,some (.str [105,102]),some (.ref t),y4,y5,y6] H K Rr:=by
 exact eT (w:=[105,102]) (L:=tT) (e:=tN) rfl (zw (x:=[105,102]) (ys:=[[33],[126]]) rfl (.two F0 F0) (ac rfl) rfl rfl λ c0 hc0=>eT (w:=[105,102]) (L:=mP) (e:=.ex (.call 48 (.cons (.var 0) (.cons (.var 3) .nil))) .done) rfl (aG (ax (.two (FY rfl) (FY rfl)) (q c0 hc0))))
theorem cw.tups {H:AH}:∀ (ts:Ts) {vs:List V},cw H vs ts->∀ v∈vs,∃ t vals kw,v=.ref t/\H t=some (.tup vals)/\vals[0]?=some (.str kw)/\vals.length<=100
 | .nil,vs,h,v,m=>by subst h;contradiction
 | .cons t r,vs,h,v,m=>by
  obtain ⟨a,b,e,h1,h2⟩:=h
  subst e
  rcases mem_append.mp m with m|m
  .cases t with
   | u u =>
    have:∀ (rs:List Rw) (vs:List V),fi H vs (rs.map Rw.vals)->∀ v∈vs,∃ t vals kw,v=.ref t/\H t=some (.tup vals)/\vals[0]?=some (.str kw)/\vals.length<=100:=by
     intro rs
     induction rs with
     | nil=>intro vs h v m;cases h;contradiction
     | cons r rs ih =>
      intro vs h v m
      cases h with
      | cons x y =>
       obtain ⟨t,rfl,ht⟩:=x
       rcases mem_cons.mp m with rfl|m
       .obtain ⟨kw,hk⟩:∃ kw,r.vals[0]?=some (.str kw):=by cases r<;>exact ⟨_,rfl⟩
        exact ⟨t,_,kw,rfl,ht,hk,by induction r<;>exact ac rfl⟩
       .exact ih _ y v m
    exact this _ _ h1 v m
   | iff bb =>
    obtain ⟨t,bl,el,bv,ev,e,g1,_⟩:=h1
    subst e
    simp only [mem_singleton] at m
    subst m
    exact ⟨t,_,_,rfl,g1,rfl,by simp⟩
  .exact cw.tups r h2 v m
theorem pH {Q:V->AH->Prop}{C:Cw}{ls:Ls}{N:Ls->AH->Prop}{src:Src}{tg:Tg}{e:E}{b r:B}(h:xe e C ls H λ u H1=>∃ items,cF src u H1 items/\iL (ay src u items) tg (λ ls' H' K=>xs b C.nox ls' H' K Q) items ls H1 λ ls' H'=>xs r C ls' H' N Q):xs (.for src tg e b r) C ls H N Q:=h
theorem eF (P:Pk S){ts:Ts}(lp:Lp S ts):BS S ts:=by
 intro k β X wd sk rl w n vs H Q hk ok R B hn hr hrl q
 obtain ⟨k,rfl⟩:∃ k',k=k'+3:=⟨k-3,by lia⟩
 refine P.enter 46 rfl (.inl rfl) rfl nofun ?_
 walk_at "eI"
 have vl:=hr.len ts
 refine pH (iR (FY rfl) ⟨vs,.inr hrl,by lia,rfl⟩ ?_)
 have mk:∀ (rest:List V) (ls:Ls) (acc done:List V) (H1:AH) (K:List V->AH->Prop),ls.length=2->(∀ v∈rest,∃ t vals kw,v=.ref t/\H t=some (.tup vals)/\vals[0]?=some (.str kw)/\vals.length<=100)->Mv H H1 aQ->dY H1 acc done ->
   (∀ acc' H2x,Mv H H2x aQ->dY H2x acc' (done++rest)->K acc' H2x) ->
   d6 (ay .list (.ref rl) (vs.map It.v)) (.one 1) (λ ls' H' K=>xe (.tup (.cons (.sub (.var 1) (.int 0)) (.cons (.var 1) .nil))) (Cw.low ⟨af S (k+2),β,X⟩) ls' H' K) (rest.map It.v) ls acc H1 K:=by
  intro rest
  induction rest with
  | nil =>
   intro ls acc done H1 K hl hv m hp kk
   exact ⟨⟨vs,.inr (m.keep _ _ hrl id),rfl⟩,kk acc H1 m (by simpa using hp)⟩
  | cons v rest ih =>
   intro ls acc done H1 K hl hv m hp kk
   obtain ⟨a,b,rfl⟩:∃ a b,ls=[a,b]:=by
    rcases ls with _|⟨a,_|⟨b,_|⟨c,r⟩⟩⟩<;>simp at hl
    exact ⟨a,b,rfl⟩
   refine Cv (hv v (by simp)) λ t vals kw ez1 ht hkw hvl=>?_;subst ez1
   refine ⟨⟨vs,.inr (m.keep _ _ hrl id),rfl⟩,?_⟩
   have ht1:=m.keep _ _ ht id
   show xe _ _ [a,some (.ref t)] H1 _
   refine kJ (.two (F5 (FY (v:=.ref t) rfl) FZ (i1 (x:=0) rfl ht1 (GK hvl (ac rfl)) hkw)) (FY (v:=.ref t) rfl)) (ac rfl) λ c hc=>?_
   have m2x:=m.newR (o:=.tup [.str kw,.ref t]) hc
   have fk:aH H1 (H1.set c (.tup [.str kw,.ref t])):=aH.new hc
   refine ih _ _ (done++[.ref t]) _ _ rfl (λ v m=>hv v (by simp [m])) m2x ?_ λ acc' H2x m' hp'=>kk acc' H2x m' (by simpa using hp')
   have snoc:∀ {ps vs:List V},dY (H1.set c (.tup [.str kw,.ref t])) ps vs->dY (H1.set c (.tup [.str kw,.ref t])) (ps++[.ref c]) (vs++[.ref t]):=by
    intro ps vs h
    induction h with
    | nil=>exact .cons ⟨c,t,vals,kw,rfl,rfl,F3 _ _ _,fk.tup ht1,hkw⟩ .nil
    | cons a b ih=>exact .cons a ih
   exact snoc (hp.keep fk)
 refine mk vs _ [] [] H _ (by rfl) (hr.tups ts) Mv.refl .nil λ ps H1 m hp=>?_
 have psl:ps.length=vs.length:=by
  have:∀ {a b:List V},dY H1 a b->a.length=b.length:=λ h=>by
   induction h with
   | nil=>rfl
   | cons _ _ ih=>simp [ih]
  simpa using this hp
 refine ⟨by lia,λ L hL=>?_⟩
 have x1x:=R.other (m.newR (o:=.list ps) hL)
 refine ⟨_,⟨ps,.inl (F3 _ _ _),by lia,rfl⟩,?_⟩
 have fk:aH H (H1.set L (.list ps)):=λ a ao f e=>(m.newR (o:=.list ps) hL).keep _ _ e id
 have nsk:L≠sk:=by
  rintro rfl
  have:=m.keep _ _ R.s id;rw [hL] at this;contradiction
 have nwd:L≠wd:=by
  rintro rfl
  obtain ⟨pm,h1,_⟩:=R.d
  have:=m.keep _ _ h1 id;rw [hL] at this;contradiction
 have:=lp k β (λ _=>False) wd sk L w n vs ps [] ps (.ref rl) (H1.set L (.list ps)) Q (λ ls' H'=>xs .done ⟨af S (k+2),β,X⟩ ls' H' (λ _ H'=>Q .none H') Q) nsk nwd (by lia) ok x1x.1 B hn (hr.keep fk) ((by simpa using hp:dY H1 ps vs).keep (aH.new hL)) (F3 _ _ _) λ H' x hL' z2 z3 z4 z5 z6=>⟨⟨_,.inl hL',rfl⟩,q H' (x1x.trans x)⟩
 rw [append_nil] at this
 exact this _ _ _ _ _
end
section
variable {S:Sx}
def Fu (S:Sx)(t:Px):Prop:=∀ (k:Nat) (β:Bool) (X:Int->Prop) (wd sk L:Addr) (w:Wd) (n:Nat) (vs ps pb all:List V) (rlv:V) (H:AH) (Rr:V->AH->Prop) (K:Ls->AH->Prop),L≠sk->L≠wd->t.dep+2<=k->t.ok->gn H wd sk w->WB n w->n+t.cost<=50000->TAt H vs t->dY H ps vs->H L=some (.list all) ->
  (∀ H',g0 H wd sk (doneT t w) H'->H' L=some (.list all)->rR S k β X wd L all rlv Rr pb K H')->rR S k β X wd L all rlv Rr (ps++pb) K H
def Bl (S:Sx)(b:Bs):Prop:=∀ (k:Nat) (β:Bool) (X:Int->Prop) (wd sk t bl el:Addr) (w:Wd) (n:Nat) (bv all ev:List V) (H:AH) (Q:V->AH->Prop) (y2 y3:Option V),b.dep+4<=k->b.ok->gn H wd sk w->WB n w->n+b.cost<=50000 ->
  H t=some (.tup [.str [105,102],.ref bl,.ref el])->H bl=some (.flist all)->H el=some (.flist ev)->BAt H bv ev b->(∀ H',g0 H wd sk (doneB b w) H'->Q .none H') ->
  iL (ay .list (.ref bl) (all.map It.v)) (.two 2 3) (λ ls' H' Kt=>xs qP (Cw.nox ⟨af S (k+1),β,X⟩) ls' H' Kt Q) (bv.map It.v) [some (.ref wd),some (.ref t),y2,y3] H λ ls' H'=>xs su ⟨af S (k+1),β,X⟩ ls' H' (λ _ H'=>Q .none H') Q
theorem yH (P:Pk S){b:Bs}(h:Bl S b)(hlen:∀ H bv ev,BAt H bv ev b->bv.length<=b.cost):E2 S b:=by
 intro k β X wd sk t bl el w n bv ev H Q hk ok R B hn ht hb he hba q
 obtain ⟨k,rfl⟩:∃ k',k=k'+2:=⟨k-2,by lia⟩
 refine P.enter 47 rfl (.inl rfl) rfl nofun ?_
 walk_at "eI"
 have:=hlen _ _ _ hba
 exact pH (F5 (FY rfl) FZ (i1 (x:=1) rfl ht (ac rfl) rfl) _ ⟨_,⟨bv,.inr hb,by lia,rfl⟩,h k β X wd sk t bl el w n bv bv ev H Q none none (by lia) ok R B hn ht hb he hba q⟩)
theorem pV (P:Pk S){n0 f0:Ts}(cn:BS S n0)(cf:BS S f0){k:Nat}{β:Bool}{X:Int->Prop}{wd sk t bl:Addr}{w:Wd}{n:Nat}{all na fa:List V}{H:AH}{Q:V->AH->Prop}{a c t1:Addr}{y2 y3:Option V}{rest:List V}{K:Ls->AH->Prop}(hk1:n0.dep+4<=k)(hk2:f0.dep+4<=k)(ok1:n0.ok)(ok2:f0.ok)
  (R:gn H wd sk w) (B:WB n w) (hn:n+n0.cost+f0.cost<=50000) (hb:H bl=some (.flist all)) (ht:H t1=some (.tup [.ref a,.ref c])) (ha:H a=some (.flist na)) (hc:H c=some (.flist fa)) (ra:cw H na n0) (rf:cw H fa f0)
  (q1:bR (az n0 w).stk≠0->∀ H',g0 H wd sk (az f0 (popW (az n0 w))) H'->Q .none H')
  (q2:bR (az n0 w).stk=0->∀ H',g0 H wd sk (popW (az n0 w)) H'->iL (ay .list (.ref bl) (all.map It.v)) (.two 2 3) (λ ls' H' Kt=>xs qP (Cw.nox ⟨af S (k+1),β,X⟩) ls' H' Kt Q) (rest.map It.v) [some (.ref wd),some (.ref t),some (.ref a),some (.ref c)] H' K) :
  iL (ay .list (.ref bl) (all.map It.v)) (.two 2 3) (λ ls' H' Kt=>xs qP (Cw.nox ⟨af S (k+1),β,X⟩) ls' H' Kt Q) ((.ref t1::rest).map It.v) [some (.ref wd),some (.ref t),y2,y3] H K:=by
 refine ⟨⟨all,.inr hb,rfl⟩,_,_,ht,(aG (ax (.two (FY rfl) (FY rfl)) (cn (k+1) β _ wd sk a w n na H _ (by lia) ok1 R B (by lia) ra ha λ H1 x1x=>?_)))⟩
 have B1x:=WB.ts n0 B ok1 (by lia)
 refine sW (ax (.one (FY rfl)) (zk P x1x.1 (by have:=B1x.stkl;lia) λ H2x x2x=>?_))
 have x12:=x1x.trans x2x
 have fk2:=x12.fk R
 refine ⟨λ h0=>?_,λ h0=>q2 (GL (by cases hd:decide (bR (az n0 w).stk=0) with|true=>rfl|false=>(have h0:(!decide (bR (az n0 w).stk=0))=false:=h0);rw [hd] at h0;contradiction)) H2x x12⟩
 refine aG (ax (.two (FY rfl) (FY rfl)) (cf (k+1) β _ wd sk c (popW (az n0 w)) (n+n0.cost) fa H2x _ (by lia) ok2 x2x.1 B1x.pop.1 (by lia) (cw.keep fk2 f0 rf) (fk2.fl hc) λ H3 x3x=>?_))
 exact q1 (of_decide_eq_false (by cases hd:decide (bR (az n0 w).stk=0) with|false=>rfl|true=>(have h0:(!decide (bR (az n0 w).stk=0))=true:=h0);rw [hd] at h0;contradiction)) H3 (x12.trans x3x)
theorem BAt.len {H:AH}:∀ (b:Bs) {bv ev:List V},BAt H bv ev b->bv.length<=b.cost
 | .last n f,bv,ev,h=>by obtain ⟨_,_,_,_,_,e,_⟩:=h;refine sr e ?_;dsimp only [Bs.cost];simp
 | .lastE n f e,bv,ev,h=>by obtain ⟨_,_,_,_,_,e',_⟩:=h;refine sr e' ?_;dsimp only [Bs.cost];simp
 | .more n f b,bv,ev,h=>by
  obtain ⟨r,_,_,_,_,_,e,_,_,_,_,_,h6⟩:=h
  have:=BAt.len b h6
  refine sr e ?_;dsimp only [Bs.cost];simp;lia
theorem xk (P:Pk S){e0:Ts}(ce:BS S e0){k:Nat}{β:Bool}{X:Int->Prop}{wd sk t bl el:Addr}{w:Wd}{n:Nat}{ev:List V}{H:AH}{Q:V->AH->Prop}{y2 y3:Option V}(hk:e0.dep+4<=k)(ok:e0.ok)(R:gn H wd sk w)(B:WB n w)(hn:n+e0.cost<=50000)
  (ht:H t=some (.tup [.str [105,102],.ref bl,.ref el])) (he:H el=some (.flist ev)) (re:cw H ev e0) (q:∀ H',g0 H wd sk (az e0 w) H'->Q .none H'):xs su ⟨af S (k+1),β,X⟩ [some (.ref wd),some (.ref t),y2,y3] H (λ _ H'=>Q .none H') Q:=by
 exact aG (ax (.two (FY rfl) (F5 (FY rfl) FZ (i1 (x:=2) rfl ht (ac rfl) rfl))) (ce (k+1) β X wd sk el w n ev H _ (by lia) ok R B hn re he q))
mutual
theorem loop (P:Pk S):∀ (ts:Ts),Lp S ts
 | .nil=>by
  intro k β X wd sk L w n vs ps pb all rlv H Rr K h1 h2 hk ok R B hn hr hp hL kk
  subst hr
  cases hp
  exact kk H (g0.self R) hL
 | .cons t r=>by
  intro k β X wd sk L w n vs ps pb all rlv H Rr K h1 h2 hk ok R B hn hr hp hL kk
  obtain ⟨a,b,rfl,ha,hb⟩:=hr
  obtain ⟨pa,pc,rfl,hpa,hpc⟩:=hp.split
  dsimp only [Ts.cost] at hn
  dsimp only [Ts.dep] at hk
  dsimp only [az] at kk
  refine sr (append_assoc ..) (loopT P t k β X wd sk L w n a pa (pc++pb) all rlv H Rr K h1 h2 (by lia) ok.1 R B (by lia) ha hpa hL λ H1 x1x hL1=>?_)
  have fk:=x1x.fk R
  exact loop P r k β X wd sk L _ (n+t.cost) b pc pb all rlv H1 Rr K h1 h2 (by lia) ok.2 x1x.1 (GF t B ok.1 (by lia)) (by lia) (cw.keep fk r hb) (hpc.keep fk) hL1 λ H2x x2x hL2=>kk H2x (x1x.trans x2x) hL2
theorem loopT (P:Pk S):∀ (t:Px),Fu S t
 | .u u=>by
  intro k β X wd sk L w n vs ps pb all rlv H Rr K h1 h2 hk ok R B hn hr hp hL kk
  exact nX P h1 h2 u.rows (nM B (by lia) ok).1 R hr hp hL kk
 | .iff b=>by
  intro k β X wd sk L w n vs ps pb all rlv H Rr K h1 h2 hk ok R B hn hr hp hL kk
  obtain ⟨t,bl,el,bv,ev,rfl,ht,hbl,hel,hb⟩:=hr
  dsimp only [Px.cost] at hn
  dsimp only [Px.dep] at hk
  dsimp only [doneT] at kk
  cases hp with
  | cons hp hnil =>
   cases hnil
   obtain ⟨q,t',vals,kw,rfl,e2,e3,e4,e5⟩:=hp
   (injection e2 with e2;subst e2)
   rw [ht] at e4;cases e4
   cases e5
   intro z2 z3 z4 z5 z6
   refine ⟨⟨_,.inl hL,rfl⟩,_,_,e3,(zj λ c0 hc0=>?_)⟩
   have x1x:=R.other (Ga (D:=aQ) (o:=.tup [.str [33],.str [126]]) hc0)
   have fk:=x1x.fk R
   have hL1:=aq (ao:=.tup [.str [33],.str [126]]) hL hc0
   exact yH P (loopB P b) (λ H bv ev h=>BAt.len b h) (k+2) β _ wd sk t bl el w n bv ev _ _ (by lia) ok x1x.1 B (by lia) (fk.tup ht) (fk.fl hbl) (fk.fl hel) (BAt.keep fk b hb) λ H2x x2x=>(kk H2x (x1x.trans x2x) (x2x.2.keep _ _ hL1 λ q=>q.elim h2 h1) _ _ _ _ _)
theorem loopB (P:Pk S):∀ (b:Bs),Bl S b
 | .last n0 f0=>by
  intro k β X wd sk t bl el w n bv all ev H Q y2 y3 hk ok R B hn ht hb he hba q
  obtain ⟨t1,a,c,na,fa,rfl,g1,g2,g3,g4,g5,rfl⟩:=hba
  dsimp only [Bs.cost] at hn
  dsimp only [Bs.dep] at hk
  dsimp only [doneB] at q
  refine pV P (rest:=[]) (eF P (loop P n0)) (eF P (loop P f0)) (by lia) (by lia) ok.1 ok.2 R B (by lia) hb g1 g2 g3 g4 g5 (λ h H' x=>q H' (by refine sr (if_pos h) ?_;exact x)) λ h H' x=>?_
  have fk:=x.fk R
  refine ⟨⟨all,.inr (fk.fl hb),rfl⟩,?_⟩
  have B1x:=(WB.ts n0 B ok.1 (by lia)).pop.1
  refine xk P (e0:=.nil) (n:=n+n0.cost) (eF P ?_) (by show 0+4<=k;lia) (by trivial) x.1 B1x (by show n+n0.cost+0<=50000;lia) (fk.tup ht) (fk.fl he) (by rfl) λ H2x x2x=>q H2x ?_
  .intro k β X wd sk L w n vs ps pb all rlv H Rr K h1 h2 hk ok R B hn hr hp hL kk
   subst hr
   cases hp
   exact kk H (g0.self R) hL
  .exact sr (if_neg (by simpa using h)) (x.trans x2x)
 | .lastE n0 f0 e0=>by
  intro k β X wd sk t bl el w n bv all ev H Q y2 y3 hk ok R B hn ht hb he hba q
  obtain ⟨t1,a,c,na,fa,rfl,g1,g2,g3,g4,g5,g6⟩:=hba
  dsimp only [Bs.cost] at hn
  dsimp only [Bs.dep] at hk
  dsimp only [doneB] at q
  refine pV P (rest:=[]) (eF P (loop P n0)) (eF P (loop P f0)) (by lia) (by lia) ok.1 ok.2.1 R B (by lia) hb g1 g2 g3 g4 g5 (λ h H' x=>q H' (by refine sr (if_pos h) ?_;exact x)) λ h H' x=>?_
  have fk:=x.fk R
  refine ⟨⟨all,.inr (fk.fl hb),rfl⟩,?_⟩
  have B1x:=(WB.ts n0 B ok.1 (by lia)).pop.1
  exact xk P (n:=n+n0.cost) (eF P (loop P e0)) (by lia) ok.2.2 x.1 B1x (by lia) (fk.tup ht) (fk.fl he) (cw.keep fk e0 g6) λ H2x x2x=>q H2x (sr (if_neg (by simpa using h)) (x.trans x2x))
 | .more n0 f0 b=>by
  intro k β X wd sk t bl el w n bv all ev H Q y2 y3 hk ok R B hn ht hb he hba q
  obtain ⟨r,t1,a,c,na,fa,rfl,g1,g2,g3,g4,g5,g6⟩:=hba
  dsimp only [Bs.cost] at hn
  dsimp only [Bs.dep] at hk
  dsimp only [doneB] at q
  refine pV P (eF P (loop P n0)) (eF P (loop P f0)) (by lia) (by lia) ok.1 ok.2.1 R B (by lia) hb g1 g2 g3 g4 g5 (λ h H' x=>q H' (by refine sr (if_pos h) ?_;exact x)) λ h H' x=>?_
  have fk:=x.fk R
  have B1x:=(WB.ts n0 B ok.1 (by lia)).pop.1
  exact loopB P b k β X wd sk t bl el _ (n+n0.cost) r all ev H' Q _ _ (by lia) ok.2.2 x.1 B1x (by lia) (fk.tup ht) (fk.fl hb) (fk.fl he) (BAt.keep fk b g6) λ H2x x2x=>q H2x (by refine sr (if_neg (by simpa using h)) ?_;exact x.trans x2x)
end
theorem FF (P:Pk S)(ts:Ts):BS S ts:=eF P (loop P ts)
end
noncomputable def oB:Rw->Op
 | .p w=>.param w | .n i=>.push i | .P c=>.set c | .g c=>.get c | .ii=>.more | .nt=>.one 33 | .iv=>.one 126 | .out w=>xO w | .op c=>.two c
 | .lit _=>.char | .text _=>.char
noncomputable def fB:Rw->Bool
 | .lit _=>false | .text _=>false|_=>true
noncomputable def U.ops:U->List Op
 | .lit _=>[]
 | .txt 0=>[.param 2,.write 115 [] 0 none]
 | .txt 1=>[.param 2,.length,.write 100 [] 0 none]
 | .txt _=>[.param 1,.write 115 [] 0 none]
 | u=>u.rows.map oB
noncomputable def db (p:List Nat):U->List Op×List Nat
 | .lit k=>([],p++dU k)
 | u=>(fl p++u.ops,[])
noncomputable def cK (x:List Op×List Nat):List Op:=x.1++fl x.2
noncomputable def jz (base E:Nat)(a b:List Op):List Op:=a++[.unless (base+a.length+1+b.length+1:Nat)]++b++[.jump E]
mutual
noncomputable def aD (base:Nat)(p:List Nat):Ts->List Op×List Nat
 | .nil=>([],p)
 | .cons t r=>((cpT base p t).1++(aD (base+(cpT base p t).1.length) (cpT base p t).2 r).1,(aD (base+(cpT base p t).1.length) (cpT base p t).2 r).2)
noncomputable def cpT (base:Nat)(p:List Nat):Px->List Op×List Nat
 | .u u=>db p u
 | .iff b=>(fl p++cpB (base+(fl p).length) (base+(fl p).length+(cpB (base+(fl p).length) 0 b).length) b,[])
noncomputable def cpB (base:Nat)(E:Nat):Bs->List Op
 | .last n f=>cK (aD base [] n)++[.unless E]++cK (aD (base+(cK (aD base [] n)).length+1) [] f)
 | .lastE n f e=>jz base E (cK (aD base [] n)) (cK (aD (base+(cK (aD base [] n)).length+1) [] f)) ++
   cK (aD (base+(cK (aD base [] n)).length+(cK (aD (base+(cK (aD base [] n)).length+1) [] f)).length+2) [] e)
 | .more n f b=>jz base E (cK (aD base [] n)) (cK (aD (base+(cK (aD base [] n)).length+1) [] f)) ++
   cpB (base+(cK (aD base [] n)).length+(cK (aD (base+(cK (aD base [] n)).length+1) [] f)).length+2) E b
end
theorem cg (base E:Nat)(a b:List Op):(jz base E a b).length=a.length+b.length+2:=by dsimp only [jz];simp;lia
theorem jI:∀ (b:Bs) (base E E':Nat),(cpB base E b).length=(cpB base E' b).length
 | .last n f,base,E,E'=>by dsimp only [cpB];simp
 | .lastE n f e,base,E,E'=>by dsimp only [cpB];simp [cg]
 | .more n f b,base,E,E'=>by
  dsimp only [cpB]
  rw [GO,GO,cg,cg,jI b _ E E']
structure gu (w:Wd) (s:St) (p:List Nat):Prop where
 ps:s.ps=w.ps
 stk:s.stk=w.stk.map V.int
 out:w.out=s.out++p
 a:s.ow=(match w.a with|none=>[]|some a=>[(97,.int a)])
 A:w.B=0/\(s.sv=[]/\w.A=0\/s.sv=[(65,.int w.A)])
theorem gu.pop {w s p}(R:gu w s p):bO s.stk=.int (bR w.stk)/\s.stk.tail=w.stk.tail.map V.int:=by
 refine sr R.stk ?_
 cases w.stk<;>exact ⟨rfl,rfl⟩
theorem gu.fine {w s p}(R:gu w s p)(F:jq w):eu s:=by
 refine ⟨?_,?_,?_,?_,?_,?_,?_⟩
 .refine sr R.ps ?_;have:=F.ps.len;lia
 .exact sr R.ps (λ v m=>(F.ps.pv v m).1)
 .refine sr R.stk ?_;have:=F.stkl;simp;lia
 .refine sr R.stk ?_
  intro v m
  refine aT (mem_map.mp m) λ i hi ez1=>?_;subst ez1
  exact ⟨.int i,F.stk i hi,by simp [oct]⟩
 .have:=F.out;have:=congrArg List.length R.out;simp at this;lia
 .refine sr R.a ?_;split<;>simp
 .rcases R.A.2 with ⟨e,_⟩|e<;>rw [e]<;>simp
theorem gu.flush {w s p}(R:gu w s p):gu w (bD (.text p) s) []:=⟨R.ps,R.stk,by refine sr R.out ?_;exact (append_nil _).symm,R.a,R.A⟩
theorem uJ {k:Nat}(h:k<12):fw (xO k):=by
 have:=zS h
 rcases this with rfl|rfl|rfl|rfl|rfl|rfl|rfl|rfl|rfl|rfl|rfl|rfl
 all_goals first
  | trivial
  | exact ⟨by decide,by decide,.inr ⟨by decide,by decide,by intro p hp;first|(subst hp;decide)|subst hp⟩⟩
theorem tB {k:Nat}(h:k<12){s:St}{n:Int}(hp:bO s.stk=.int n):bD (xO k) s={s with stk:=s.stk.tail,out:=s.out++iP k n}:=by
 obtain rfl:n=num (bO s.stk):=by refine sr hp ?_;rfl
 have:=zS h
 rcases this with rfl|rfl|rfl|rfl|rfl|rfl|rfl|rfl|rfl|rfl|rfl|rfl<;>rfl
theorem sZ {r:Rw}{w:Wd}{s:St}(R:gu w s [])(F:jq w)(ok:zi r)(hp:fB r=true):gu (cC r w) (bD (oB r) s) []/\fw (oB r):=by
 obtain ⟨p1,p2⟩:=R.pop
 have hout:w.out=s.out:=by have:=R.out;simpa using this
 induction r with
 | lit l=>contradiction
 | text l=>contradiction
 | p k =>
  have hk:=F.ps.par ok
  refine ⟨⟨R.ps,?_,R.out,R.a,R.A⟩,ofNat_le.mpr (show 1<=k from by rcases ok with rfl|rfl|rfl<;>exact ac rfl)⟩
  show ak s.ps k::s.stk=V.int (num (ak w.ps k))::w.stk.map V.int
  exact sr R.ps (sr R.stk (sl hk rfl))
 | n i=>exact ⟨⟨R.ps,by show V.int i::s.stk=_;refine sr R.stk ?_;rfl,R.out,R.a,R.A⟩,trivial⟩
 | P c =>
  rcases ok with rfl|rfl
  .refine ⟨⟨R.ps,p2,R.out,?_,R.A⟩,97,rfl,by decide⟩
   show cG s.ow ((97:Nat):Int) (bO s.stk)=[(97,.int (bR w.stk))]
   refine sr R.a (sr p1 ?_)
   cases w.a<;>rfl
  .refine ⟨⟨R.ps,p2,R.out,R.a,R.A.1,.inr ?_⟩,65,rfl,by decide⟩
   show cG s.sv ((65:Nat):Int) (bO s.stk)=[(65,.int (bR w.stk))]
   refine sr p1 ?_
   rcases R.A.2 with ⟨e,_⟩|e<;>rw [e]<;>rfl
 | g c =>
  have key:(if (97:Int)<=(c:Int) then (bV s.ow c).getD (.int 0) else (bV s.sv c).getD (.int 0))=.int (if c=97 then w.a.getD 0 else if c=65 then w.A else if c=66 then w.B else 0):=by
   refine sr R.a ?_
   obtain ⟨hB,hA⟩:=R.A
   rcases ok with rfl|rfl|rfl|rfl
   .cases w.a<;>rfl
   .rcases hA with ⟨e,e2⟩|e
    .refine sr e (sr e2 ?_);rfl
    .refine sr e ?_;rfl
   .cases w.a<;>rfl
   .refine sr hB ?_
    rcases hA with ⟨e,e2⟩|e<;>rw [e]<;>rfl
  refine ⟨⟨R.ps,?_,R.out,R.a,R.A⟩,c,rfl,by rcases ok with rfl|rfl|rfl|rfl<;>decide⟩
  show (if (97:Int)<=(c:Int) then (bV s.ow c).getD (.int 0) else (bV s.sv c).getD (.int 0))::s.stk=_
  refine sr key (sr R.stk ?_);rfl
 | ii=>exact ⟨⟨by show cD s.ps=cD w.ps;exact sr R.ps rfl,R.stk,R.out,R.a,R.A⟩,trivial⟩
 | nt =>
  refine ⟨⟨R.ps,?_,R.out,R.a,R.A⟩,33,rfl,by decide⟩
  show V.int (if (33:Int)=33 then (if num (bO s.stk)=0 then 1 else 0) else _)::s.stk.tail=V.int (if bR w.stk=0 then 1 else 0)::w.stk.tail.map V.int
  refine sr p1 (sr p2 (sr (if_pos rfl) ?_));rfl
 | iv =>
  refine ⟨⟨R.ps,?_,R.out,R.a,R.A⟩,126,rfl,by decide⟩
  show V.int (if (126:Int)=33 then _ else -num (bO s.stk)-1)::s.stk.tail=V.int (-bR w.stk-1)::w.stk.tail.map V.int
  refine sr p1 (sr p2 (sr (if_neg (by decide)) ?_));rfl
 | out k =>
  have e:=tB ok p1
  refine ⟨?_,uJ ok⟩
  show gu _ (bD (xO k) s) []
  refine sr e ?_
  exact ⟨R.ps,p2,by show w.out++_=_;refine sr hout ?_;simp,R.a,R.A⟩
 | op c =>
  have q:=(show gu {w with stk:=w.stk.tail} {s with stk:=s.stk.tail} [] from ⟨R.ps,p2,R.out,R.a,R.A⟩).pop
  have cb:c<256:=(by decide:∀ c∈([43,45,42,47,109,38,124,94,61,62,60,65,79]:List Nat),c<256) c ok
  refine ⟨⟨R.ps,?_,R.out,R.a,R.A⟩,c,rfl,cb⟩
  show V.int (two (toNat c) (num (bO s.stk.tail)) (num (bO s.stk)))::s.stk.tail.tail=V.int (two c (bR w.stk.tail) (bR w.stk))::w.stk.tail.tail.map V.int
  refine sr q.1 (sr q.2 (sr p1 ?_));rfl
def dM (ops:List Op)(i:Nat)(code:List Op):Prop:=∀ j op,code[j]?=some op->ops[i+j]?=some op
theorem dM.app {ops:List Op}{i:Nat}{a b:List Op}(h:dM ops i (a++b)):dM ops i a/\dM ops (i+a.length) b:=by
 refine ⟨λ j op e=>h j op ?_,λ j op e=>?_⟩
 .have:=(List.getElem?_eq_some_iff.mp e).1
  refine sr (List.getElem?_append_left this) ?_;exact e
 .refine sr (add_assoc ..) (h _ op (sr (List.getElem?_append_right (by lia)) ?_))
  simpa using e
theorem dM.cons {ops:List Op}{i:Nat}{a:Op}{b:List Op}(h:dM ops i (a::b)):ops[i]?=some a/\dM ops (i+1) b:=by
 refine ⟨h 0 a rfl,λ j op e=>?_⟩
 exact sr (show i+1+j=i+(j+1) by lia) (h (j+1) op e)
def bS (ops:List Op)(i:Nat)(s:St)(j:Nat)(s':St):Prop:=∀ sF,Ex ops j s' sF->Ex ops i s sF
theorem bS.refl {ops i s}:bS ops i s i s:=λ _ h=>h
theorem bS.trans {ops i s j s' k s''}(x:bS ops i s j s')(y:bS ops j s' k s''):bS ops i s k s'':=λ sF h=>x sF (y sF h)
theorem fy {ops:List Op}{i:Nat}{w:Wd}{s:St}{p:List Nat}(R:gu w s p)(F:jq w)(h:dM ops i (fl p)):∃ s',gu w s' []/\bS ops i s (i+(fl p).length) s':=by
 induction p with
 | nil=>exact ⟨s,R,bS.refl⟩
 | cons c r =>
  refine ⟨_,R.flush,λ sF e=>(.op (h.cons).1 ?_ (R.fine F) e)⟩
  have:=F.out
  have:=congrArg List.length R.out
  simp only [GO] at this
  show _<=6000000
  lia
theorem qT {ops:List Op}:∀ (rs:List Rw) {i:Nat} {w:Wd} {s:St},(∀ r∈rs,fB r=true)->mi rs w->gu w s []->dM ops i (rs.map oB)->∃ s',gu (rs.foldl (λ w r=>cC r w) w) s' []/\bS ops i s (i+rs.length) s'
 | [],i,w,s,hp,st,R,h=>⟨s,R,bS.refl⟩
 | r::rs,i,w,s,hp,st,R,h=>by
  cases st with
  | cons F ok st =>
   obtain ⟨R',of⟩:=sZ R F ok (hp r (by simp))
   obtain ⟨h1,h2⟩:=dM.cons h
   refine aT (qT rs (λ r m=>hp r (by simp [m])) st R' h2) λ s' R'' x=>?_
   exact ⟨s',R'',λ sF e=>.op h1 of (R.fine F) (x sF (by rw [length_cons] at e;refine sr (show i+1+rs.length=i+(rs.length+1) by lia) ?_;exact e))⟩
theorem vG {a:Rw}(h:fB a=true):∀ r∈[a],fB r=true:=λ _ m=>GP m▸h
theorem Cc {a:Rw}{l:List Rw}(h:fB a=true)(g:∀ r∈l,fB r=true):∀ r∈a::l,fB r=true:=λ r m=>(mem_cons.mp m).elim (λ e=>e▸h) (g r)
theorem wN {ops:List Op}{i n:Nat}{w:Wd}{s:St}{p:List Nat}{u:U}(R:gu w s p)(B:WB n w)(hn:n<=50000)(ok:u.ok)(h:dM ops i (db p u).1):∃ s',gu (kx u w) s' (db p u).2/\bS ops i s (i+(db p u).1.length) s':=by
 obtain ⟨st,B'⟩:=nM B hn ok
 have F:=B.fine (by lia)
 have plain:(∀ r∈u.rows,fB r=true)->(db p u)=(fl p++u.rows.map oB,[])->∃ s',gu (kx u w) s' (db p u).2/\bS ops i s (i+(db p u).1.length) s':=λ hp e=>by
  rw [e] at h ⊢
  obtain ⟨h1,h2⟩:=dM.app h
  refine aT (fy R F h1) λ s1 R1 x1=>aT (qT u.rows hp st R1 h2) λ s2 R2 x2=>⟨s2,R2,x1.trans ?_⟩
  simp only [GO,length_map]
  exact sl (add_assoc ..) x2
 induction u with
 | lit k=>exact ⟨s,⟨R.ps,R.stk,by show w.out++dU k=_;refine sr R.out ?_;simp [db],R.a,R.A⟩,bS.refl⟩
 | txt k =>
  have ob:=mA B
  have hk:k=0\/k=1\/k=2:=(by decide:∀ k<3,k=0\/k=1\/k=2) k ok
  have pe:ak s.ps 2=ak w.ps 2:=by exact sr R.ps rfl
  obtain ⟨h1,h2⟩:=dM.app (show dM ops i (fl p++(U.txt k).ops) from h)
  refine aT (fy R F h1) λ s1 R1 x1=>?_
  have hout:w.out=s1.out:=by have:=R1.out;simpa using this
  have F1:=R1.fine F
  have fin:∀ {j:Nat} {s2:St} {m:Nat},bS ops (i+(fl p).length) s1 j s2->j=i+(fl p).length+m->m=(U.txt k).ops.length->gu (kx (.txt k) w) s2 []->∃ s',gu (kx (.txt k) w) s' (db p (.txt k)).2/\bS ops i s (i+(db p (.txt k)).1.length) s':=λ {j s2 m} x e1 e2 R2=>by
   refine ⟨s2,R2,x1.trans ?_⟩
   have:i+(db p (.txt k)).1.length=j:=by
    show i+(fl p++(U.txt k).ops).length=j
    refine sr GO (sl e2 ?_);lia
   exact sr this x
  have fp:∀ v:V,v=ak s1.ps 2\/v=ak s1.ps 1->eL v/\(num v).natAbs<536870912/\(oct v).length<=1000:=λ v hv=>by
   have:∀ z:Int,eL (ak s1.ps z)/\(num (ak s1.ps z)).natAbs<536870912/\(oct (ak s1.ps z)).length<=1000:=λ z=>by
    refine sr R1.ps ?_
    unfold ak
    split
    .induction e:w.ps[(z-1).toNat]? with
     | none=>exact ⟨.int 0,by simp [num],by simp [oct]⟩
     | some v=>obtain ⟨a,b,c,_⟩:=F.ps.pv v (mem_of_getElem? e);exact ⟨a,b,c⟩
    .exact ⟨.int 0,by simp [num],by simp [oct]⟩
   rcases hv with rfl|rfl<;>exact this _
  have fineP:∀ v:V,v=ak s1.ps 2\/v=ak s1.ps 1->eu {s1 with stk:=v::s1.stk}:=λ v hv=>⟨F1.psl,F1.ps,by have:=F.stkl;refine sr R1.stk ?_;simp;lia,λ x m=>by
   rcases mem_cons.mp m with rfl|m
   .exact fp x hv
   .exact F1.stk x m,F1.out,F1.owl,F1.svl⟩
  have pw:∀ l:List Nat,bH [] l (if ([]:List Nat).contains 45 then [45] else []) 0 true=l:=λ l=>by
   refine sr (dZ rfl rfl) (sr (bf (by simp)) ?_);rfl
  have wfine:fw (.write 115 [] 0 none):=⟨by decide,by decide,.inl ⟨rfl,rfl⟩⟩
  rcases hk with rfl|rfl|rfl
  .obtain ⟨g1,g2⟩:=dM.cons h2
   obtain ⟨g3,_⟩:=dM.cons g2
   refine fin (s2:={s1 with out:=s1.out++oct (ak s1.ps 2)}) (λ sF e=>?_) rfl rfl ?_
   .refine .op g1 (by decide:(1:Int)<=2) F1 (.op g3 wfine (fineP _ (.inl rfl)) ?_)
    have es:bD (.write 115 [] 0 none) (bD (.param 2) s1)={s1 with out:=s1.out++oct (ak s1.ps 2)}:=by
     show ({s1 with stk:=s1.stk,out:=s1.out++_}:St)=_
     refine sr (if_pos rfl ..) (sr (pw ..) ?_);rfl
    exact sr es e
   .refine ⟨R1.ps,R1.stk,?_,R1.a,R1.A⟩
    show w.out++oct (ak w.ps 2)=s1.out++oct (ak s1.ps 2)++[]
    refine sr hout (sr R1.ps ?_);simp
  .obtain ⟨g1,g2⟩:=dM.cons h2
   obtain ⟨g3,g4⟩:=dM.cons g2
   obtain ⟨g5,_⟩:=dM.cons g4
   have lb:(oct (ak s1.ps 2)).length<=1000:=(fp _ (.inl rfl)).2.2
   refine fin (s2:={s1 with out:=s1.out++aE false 10 (oct (ak s1.ps 2)).length}) (λ sF e=>?_) rfl rfl ?_
   .refine .op g1 (by decide:(1:Int)<=2) F1 (.op g3 trivial (fineP _ (.inl rfl)) (.op g5 ⟨by decide,by decide,.inr ⟨by decide,by decide,by intro p hp;contradiction⟩⟩ ?_ ?_))
    .refine ⟨F1.psl,F1.ps,by have:=F.stkl;show (V.int _::s1.stk).length<=_;refine sr R1.stk ?_;simp;lia,λ x m=>?_,F1.out,F1.owl,F1.svl⟩
     rcases mem_cons.mp m with rfl|m
     .refine ⟨.int _,?_,by simp [oct]⟩
      show (Int.natAbs ((oct (ak s1.ps 2)).length:Int))<_
      lia
     .exact F1.stk x m
    have es:bD (.write 100 [] 0 none) (bD .length (bD (.param 2) s1))={s1 with out:=s1.out++aE false 10 (oct (ak s1.ps 2)).length}:=by
     show ({s1 with stk:=s1.stk,out:=s1.out++_}:St)=_
     refine sr (if_neg (by decide)) ?_
     have:bz (toNat 100) [] 0 none ((oct (ak s1.ps 2)).length:Int)=aE false 10 (oct (ak s1.ps 2)).length:=by
      unfold bz
      refine sr (dZ rfl rfl) (sr (bf (by lia)) (sr (show toNat 100=100 from rfl) (sr (jK rfl rfl) ?_)))
      have:r6 ((oct (ak s1.ps 2)).length:Int)=[]:=if_neg (by lia)
      refine sr this ?_;rfl
     exact congrArg (λ l=>({s1 with out:=s1.out++l}:St)) this
    exact sr es e
   .refine ⟨R1.ps,R1.stk,?_,R1.a,R1.A⟩
    show w.out++aE false 10 (oct (ak w.ps 2)).length=s1.out++aE false 10 (oct (ak s1.ps 2)).length++[]
    refine sr hout (sr R1.ps ?_);simp
  .obtain ⟨g1,g2⟩:=dM.cons h2
   obtain ⟨g3,_⟩:=dM.cons g2
   have o1:oct (ak s1.ps 1)=[]:=by
    refine sr R1.ps ?_
    unfold ak
    split
    .induction e:w.ps[((1:Int)-1).toNat]? with
     | none=>rfl
     | some v=>refine sr (show (some v).getD (.int 0)=v from rfl) (sr (F.ps.i0 v e) ?_);rfl
    .rfl
   refine fin (s2:=s1) (λ sF e=>?_) rfl rfl ?_
   .refine .op g1 (by decide:(1:Int)<=1) F1 (.op g3 wfine (fineP _ (.inr rfl)) ?_)
    have es:bD (.write 115 [] 0 none) (bD (.param 1) s1)=s1:=by
     show ({s1 with stk:=s1.stk,out:=s1.out++_}:St)=_
     refine sr (if_pos rfl ..) (sr (pw ..) ?_)
     show ({s1 with out:=s1.out++oct (ak s1.ps 1)}:St)=s1
     exact sr (o1 ..) (sr (append_nil ..) rfl)
    exact sr es e
   .exact R1
 | p k=>exact plain (vG rfl) rfl
 | n k=>exact plain (vG rfl) rfl
 | q k=>exact plain (vG rfl) rfl
 | pg k=>exact plain (Cc rfl (vG rfl)) rfl
 | g k=>exact plain (vG rfl) rfl
 | inot=>exact plain (Cc rfl (vG rfl)) rfl
 | inv=>exact plain (vG rfl) rfl
 | out k=>exact plain (vG rfl) rfl
 | bin a b c=>exact plain (Cc rfl (Cc rfl (Cc rfl (vG rfl)))) rfl
theorem gu.popW {w s}(R:gu w s []):gu (popW w) {s with stk:=s.stk.tail} []:=⟨R.ps,R.pop.2,R.out,R.a,R.A⟩
theorem gR {ops:List Op}{i n:Nat}{w':Wd}{s:St}{x:List Op×List Nat}(B:WB n w')(hn:n<=60000)(h:dM ops i (cK x))
  (g:dM ops i x.1->∃ s',gu w' s' x.2/\bS ops i s (i+x.1.length) s'):∃ s',gu w' s' []/\bS ops i s (i+(cK x).length) s':=by
 obtain ⟨h1,h2⟩:=dM.app h
 exact aT (g h1) λ s1 R1 x1=>aT (fy R1 (B.fine hn) h2) λ s2 R2 x2=>⟨s2,R2,x1.trans (sr (GO ..) (sl (add_assoc ..) x2))⟩
theorem nh {ops:List Op}{i n:Nat}{w:Wd}{s:St}{t:Nat}(R:gu w s [])(B:WB n w)(hn:n<=60000)(h:ops[i]?=some (.unless t))(ht:i<t) :
  (bR w.stk≠0->bS ops i s (i+1) {s with stk:=s.stk.tail})/\(bR w.stk=0->bS ops i s t {s with stk:=s.stk.tail}):=by
 have F:=R.fine (B.fine hn)
 have p:=R.pop.1
 refine ⟨λ hz sF e=>.un1 h F (by refine sr p ?_;exact hz) e,λ hz sF e=>.un0 h F (by refine sr p ?_;exact hz) ht e⟩
mutual
theorem ib {ops:List Op}:∀ (ts:Ts) {i n:Nat} {w:Wd} {s:St} {p:List Nat},gu w s p->WB n w->n+ts.cost<=50000->ts.ok->dM ops i (aD i p ts).1->∃ s',gu (az ts w) s' (aD i p ts).2/\bS ops i s (i+(aD i p ts).1.length) s'
 | .nil,i,n,w,s,p,R,B,hn,ok,h=>by
  exact ⟨s,R,bS.refl⟩
 | .cons t r,i,n,w,s,p,R,B,hn,ok,h=>by
  dsimp only [aD] at h ⊢
  dsimp only [Ts.cost] at hn
  refine bc λ zz=>?_
  obtain ⟨h1,h2⟩:=dM.app h
  exact aT (ex_t t R B (by lia) ok.1 h1) λ s1 R1 x1=>aT (ib r R1 (GF t B ok.1 (by lia)) (by lia) ok.2 h2) λ s2 R2 x2=>zz ⟨s2,R2,x1.trans (sr (GO ..) (sl (add_assoc ..) x2))⟩
theorem ex_t {ops:List Op}:∀ (t:Px) {i n:Nat} {w:Wd} {s:St} {p:List Nat},gu w s p->WB n w->n+t.cost<=50000->t.ok->dM ops i (cpT i p t).1->∃ s',gu (doneT t w) s' (cpT i p t).2/\bS ops i s (i+(cpT i p t).1.length) s'
 | .u u,i,n,w,s,p,R,B,hn,ok,h=>by
  dsimp only [cpT] at h ⊢
  exact wN R B (by lia) ok h
 | .iff b,i,n,w,s,p,R,B,hn,ok,h=>by
  dsimp only [cpT] at h ⊢
  dsimp only [Px.cost] at hn
  refine bc λ zz=>?_
  obtain ⟨h1,h2⟩:=dM.app h
  refine aT (fy R (B.fine (by lia)) h1) λ s1 R1 x1=>aT (ex_b b (E:=i+(fl p).length+(cpB (i+(fl p).length) 0 b).length) R1 B (by lia) ok h2 (congrArg (λ z=>i+(fl p).length+z) (jI b _ _ _))) λ s2 R2 x2=>zz ⟨s2,R2,x1.trans ?_⟩
  have:i+(fl p++cpB (i+(fl p).length) (i+(fl p).length+(cpB (i+(fl p).length) 0 b).length) b).length=i+(fl p).length+(cpB (i+(fl p).length) 0 b).length:=by
   have:=jI b (i+(fl p).length) (i+(fl p).length+(cpB (i+(fl p).length) 0 b).length) 0
   refine sr GO ?_;lia
  exact sr this x2
theorem ex_b {ops:List Op}:∀ (b:Bs) {i n E:Nat} {w:Wd} {s:St},gu w s []->WB n w->n+b.cost<=50000->b.ok->dM ops i (cpB i E b)->E=i+(cpB i E b).length->∃ s',gu (doneB b w) s' []/\bS ops i s E s'
 | .last n0 f0,i,n,E,w,s,R,B,hn,ok,h,hE=>by
  dsimp only [cpB] at h hE
  dsimp only [doneB]
  dsimp only [Bs.ok] at ok
  dsimp only [Bs.cost] at hn
  obtain ⟨h12,h3⟩:=dM.app h
  obtain ⟨h1,h2⟩:=dM.app h12
  have B1:=WB.ts n0 B ok.1 (by lia)
  refine aT (gR B1 (by lia) h1 λ g=>ib n0 R B (by lia) ok.1 g) λ s1 R1 x1=>?_
  simp only [GO,length_cons,length_nil] at h3 hE
  obtain ⟨t1,t2⟩:=nh (t:=E) R1 B1 (by lia) (dM.cons h2).1 (by lia)
  have Rp:=R1.popW
  by_cases hz:bR (az n0 w).stk=0
  .exact sr (if_neg (by simpa using hz)) ⟨_,Rp,x1.trans (t2 hz)⟩
  .refine sr (if_pos hz) ?_
   have B2:=WB.ts f0 B1.pop.1 ok.2 (by lia)
   refine aT (gR B2 (by lia) h3 λ g=>ib f0 Rp B1.pop.1 (by lia) ok.2 g) λ s2 R2 x2=>⟨s2,R2,x1.trans ((t1 hz).trans ?_)⟩
   have e:E=i+((cK (aD i [] n0)).length+(0+1))+(cK (aD (i+(cK (aD i [] n0)).length+1) [] f0)).length:=by lia
   exact sr e x2
 | .lastE n0 f0 e0,i,n,E,w,s,R,B,hn,ok,h,hE=>by
  dsimp only [cpB] at h hE
  dsimp only [doneB]
  dsimp only [Bs.ok] at ok
  dsimp only [Bs.cost] at hn
  generalize hA:cK (aD i [] n0)=A at h hE
  generalize hC:cK (aD (i+A.length+1) [] f0)=C at h hE
  obtain ⟨hh,h4⟩:=dM.app h
  rw [cg] at h4
  rw [GO,cg] at hE
  obtain ⟨hh,h3⟩:=dM.app hh
  obtain ⟨hh,h2⟩:=dM.app hh
  obtain ⟨h0,h1⟩:=dM.app hh
  simp only [GO,length_cons,length_nil] at h2 h3 hE
  have B1:=WB.ts n0 B ok.1 (by lia)
  obtain ⟨s1,R1,x1⟩:=gR (x:=aD i [] n0) B1 (by lia) (by refine sr hA ?_;exact h0) λ g=>ib n0 R B (by lia) ok.1 g
  rw [hA] at x1
  obtain ⟨t1,t2⟩:=nh R1 B1 (by lia) (dM.cons h1).1 (by lia)
  have Rp:=R1.popW
  by_cases hz:bR (az n0 w).stk=0
  .refine sr (if_neg (by simpa using hz)) ?_
   have B2:=WB.ts e0 B1.pop.1 ok.2.2 (by lia)
   have e4:i+A.length+C.length+2=i+A.length+1+C.length+1:=by lia
   obtain ⟨s2,R2,x2⟩:=gR (i:=i+A.length+C.length+2) (x:=aD (i+A.length+C.length+2) [] e0) B2 (by lia) (by rw [show i+A.length+C.length+2=i+(A.length+C.length+2) by lia] at h4 ⊢;exact h4) λ g=>ib e0 Rp B1.pop.1 (by lia) ok.2.2 g
   refine ⟨s2,R2,x1.trans ((t2 hz).trans ?_)⟩
   have e:E=i+A.length+C.length+2+(cK (aD (i+A.length+C.length+2) [] e0)).length:=by lia
   exact sr e (sl e4 x2)
  .refine sr (if_pos hz) ?_
   have B2:=WB.ts f0 B1.pop.1 ok.2.1 (by lia)
   obtain ⟨s2,R2,x2⟩:=gR (i:=i+A.length+1) (x:=aD (i+A.length+1) [] f0) B2 (by lia) (by refine sr hC ?_;exact h2) λ g=>ib f0 Rp B1.pop.1 (by lia) ok.2.1 g
   rw [hC] at x2
   refine ⟨s2,R2,x1.trans ((t1 hz).trans (x2.trans λ sF ex=>?_))⟩
   have e:i+(A.length+(0+1)+C.length)=i+A.length+1+C.length:=by lia
   exact .jump (by have:=(dM.cons h3).1;rw [e] at this;exact this) (by lia) ex
 | .more n0 f0 b,i,n,E,w,s,R,B,hn,ok,h,hE=>by
  dsimp only [cpB] at h hE
  dsimp only [doneB]
  dsimp only [Bs.ok] at ok
  dsimp only [Bs.cost] at hn
  generalize hA:cK (aD i [] n0)=A at h hE
  generalize hC:cK (aD (i+A.length+1) [] f0)=C at h hE
  obtain ⟨hh,h4⟩:=dM.app h
  rw [cg] at h4
  rw [GO,cg] at hE
  obtain ⟨hh,h3⟩:=dM.app hh
  obtain ⟨hh,h2⟩:=dM.app hh
  obtain ⟨h0,h1⟩:=dM.app hh
  simp only [GO,length_cons,length_nil] at h2 h3 hE
  have B1:=WB.ts n0 B ok.1 (by lia)
  obtain ⟨s1,R1,x1⟩:=gR (x:=aD i [] n0) B1 (by lia) (by refine sr hA ?_;exact h0) λ g=>ib n0 R B (by lia) ok.1 g
  rw [hA] at x1
  obtain ⟨t1,t2⟩:=nh R1 B1 (by lia) (dM.cons h1).1 (by lia)
  have Rp:=R1.popW
  by_cases hz:bR (az n0 w).stk=0
  .refine sr (if_neg (by simpa using hz)) ?_
   have e4:i+A.length+C.length+2=i+A.length+1+C.length+1:=by lia
   obtain ⟨s2,R2,x2⟩:=ex_b b (i:=i+A.length+C.length+2) (E:=E) Rp B1.pop.1 (by lia) ok.2.2 (by rw [show i+A.length+C.length+2=i+(A.length+C.length+2) by lia] at h4 ⊢;exact h4) (by lia)
   exact ⟨s2,R2,x1.trans ((t2 hz).trans (sl e4 x2))⟩
  .refine sr (if_pos hz) ?_
   have B2:=WB.ts f0 B1.pop.1 ok.2.1 (by lia)
   obtain ⟨s2,R2,x2⟩:=gR (i:=i+A.length+1) (x:=aD (i+A.length+1) [] f0) B2 (by lia) (by refine sr hC ?_;exact h2) λ g=>ib f0 Rp B1.pop.1 (by lia) ok.2.1 g
   rw [hC] at x2
   refine ⟨s2,R2,x1.trans ((t1 hz).trans (x2.trans λ sF ex=>?_))⟩
   have e:i+(A.length+(0+1)+C.length)=i+A.length+1+C.length:=by lia
   exact .jump (by have:=(dM.cons h3).1;rw [e] at this;exact this) (by lia) ex
end
noncomputable def ng:Nat->List Nat
 | 0=>[120]|1=>[37,37]|2=>[36,60,53,62]|_=>[97,59]
noncomputable def U.text:U->List Nat
 | .lit k=>ng k
 | .p w=>[37,112,48+w]
 | .n i=>[37,123]++aE false 10 i++[125]
 | .q c=>[37,39,c,39]
 | .pg c=>[37,80,c,37,103,c]
 | .g c=>[37,103,c]
 | .txt 0=>[37,112,50,37,115]
 | .txt 1=>[37,112,50,37,108,37,100]
 | .txt _=>[37,112,49,37,115]
 | .inot=>[37,105,37,33]
 | .inv=>[37,126]
 | .out w=>cj w
 | .bin w far s=>[37,112,48+w]++([37,123]++aE false 10 far++[125])++[37,s,37,100]
mutual
noncomputable def Ts.text:Ts->List Nat
 | .nil=>[]
 | .cons t r=>t.text++r.text
noncomputable def Px.text:Px->List Nat
 | .u u=>u.text
 | .iff b=>[37,63]++b.text
noncomputable def Bs.text:Bs->List Nat
 | .last n f=>n.text++[37,116]++f.text++[37,59]
 | .lastE n f e=>n.text++[37,116]++f.text++[37,101]++e.text++[37,59]
 | .more n f b=>n.text++[37,116]++f.text++[37,101]++b.text
end
theorem rN (n:Nat):(dA 10 n).foldl (λ (a:Int) (d:Nat)=>a*10+d) 0=n:=by
 induction n using strongRecOn with
 | ind n ih =>
  by_cases h:n<10
  .refine sr (bJ h) ?_;simp
  .refine sr (d7 (by lia) (by lia)) (sr List.foldl_append (sr (ih _ (div_lt_self (by lia) (by lia))) ?_))
   simp;lia
theorem ki:∀ (ds:List Nat) (acc:Int) (r:List Nat),(∀ d∈ds,d<10)->(∀ c r',r=c::r'->oG c=false)->aJ (ds.map (sg false)++r) acc=(ds.foldl (λ (a:Int) (d:Nat)=>a*10+d) acc,ds.length)
 | [],acc,r,h,hr=>by
  induction r with
  | nil=>rfl
  | cons c r=>simp [aJ,hr c r rfl]
 | d::ds,acc,r,h,hr=>by
  have hd:=h d (by simp)
  have e:sg false d=48+d:=by unfold sg;exact sr (if_pos hd) rfl
  have hD:oG (sg false d)=true:=by refine sr e ?_;unfold oG;simp;lia
  rw [map_cons,cons_append,aJ,hD]
  have ih:=ki ds (acc*10+(sg false d:Nat)-48) r (λ x m=>h x (by simp [m])) hr
  simp only [ih]
  have e2:acc*10+((sg false d:Nat):Int)-48=acc*10+d:=by refine sr e ?_;push_cast;lia
  refine sr e2 ?_;rfl
theorem u7 (n:Nat):∃ d r,dA 10 n=d::r/\d<10:=by
 induction h:dA 10 n with
 | nil =>
  exfalso
  by_cases hn:n<10
  .rw [bJ hn] at h;contradiction
  .rw [d7 (by lia) (by lia)] at h;simp at h
 | cons d r=>exact ⟨d,r,rfl,iA (by lia) n d (by refine sr h ?_;simp)⟩
theorem yu (n:Nat)(hn:n<1000000)(r:List Nat):bY (123::(aE false 10 n++125::r))=some (.op (.push n),3+(aE false 10 n).length)/\mM (123::(aE false 10 n++125::r)):=by
 have e:aJ (aE false 10 n++125::r) 0=((n:Int),(aE false 10 n).length):=by
  unfold aE
  exact sr (ki _ _ _ (iA (by lia) n) (λ c r' h=>by (injection h with h;subst h);rfl) ..) (sr (rN ..) (sr (length_map ..) rfl))
 refine k9 (u7 n) λ d ds hd hl=>?_
 have ef:aE false 10 n=sg false d::ds.map (sg false):=by unfold aE;refine sr hd ?_;rfl
 have es:sg false d=48+d:=by unfold sg;exact sr (if_pos hl) rfl
 have hD:oG (sg false d)=true:=by refine sr es ?_;unfold oG;simp;lia
 obtain ⟨t,ht⟩:∃ t,aE false 10 n++125::r=sg false d::t:=⟨_,by refine sr ef ?_;rfl⟩
 have e2:(aE false 10 n++125::r).drop (aE false 10 n).length=125::r:=List.drop_left
 refine ⟨?_,λ l' h=>?_⟩
 .have h:Cs (aE false 10 n++125::r)=cond (oG (sg false d)) (cond (nx ((aE false 10 n++125::r).drop (aJ (aE false 10 n++125::r) 0).2) 125) (some (aJ (aE false 10 n++125::r) 0)) none) none:=by refine sr ht ?_;rfl
  rw [e,hD,e2,vJ] at h
  show (Cs (aE false 10 n++125::r)).map (λ v=>(wP.op (.push v.1),2+v.2+1))=_
  refine sr h ?_
  show some (wP.op (.push n),2+(aE false 10 n).length+1)=_
  exact sr (Nat.add_right_comm ..) rfl
 .cases h
  refine ⟨by refine sr ht ?_;exact AY (by refine sr es ?_;lia),?_⟩
  refine sr e ?_;simp only;lia
def Ch (chunk:List Nat)(op:Op):Prop:=∃ l,chunk=37::l/\∀ r,bY (l++r)=some (.op op,chunk.length)/\mM (l++r)
theorem aK {c:Nat}{l:List Nat}(h:c≠123):mM (c::l):=λ l' e=>by (injection e with e;subst e);exact absurd rfl h
theorem fM {w:Nat}(h:w=1\/w=2\/w=3\/w=4):Ch [37,112,48+w] (.param w):=by
 rcases h with rfl|rfl|rfl|rfl<;>exact ⟨_,rfl,λ r=>⟨rfl,aK (by decide)⟩⟩
theorem qM {n:Nat}(h:n<1000000):Ch ([37,123]++aE false 10 n++[125]) (.push n):=by
 refine ⟨123::(aE false 10 n++[125]),by simp,λ r=>?_⟩
 obtain ⟨a,b⟩:=yu n h r
 have e:(123::(aE false 10 n++[125]))++r=123::(aE false 10 n++125::r):=by simp
 refine sr e (sr a ⟨?_,b⟩)
 congr 2
 simp;lia
theorem C9 {c:Nat}:Ch [37,39,c,39] (.push c):=⟨_,rfl,λ r=>⟨rfl,aK (by decide)⟩⟩
theorem zK {c:Nat}(h:c=97\/c=65):Ch [37,80,c] (.set c):=by
 rcases h with rfl|rfl<;>exact ⟨_,rfl,λ r=>⟨rfl,aK (by decide)⟩⟩
theorem sS {c:Nat}(h:c=97\/c=65\/c=98\/c=66):Ch [37,103,c] (.get c):=by
 rcases h with rfl|rfl|rfl|rfl<;>exact ⟨_,rfl,λ r=>⟨rfl,aK (by decide)⟩⟩
theorem AA:Ch [37,115] (.write 115 [] 0 none):=⟨_,rfl,λ r=>⟨rfl,aK (by decide)⟩⟩
theorem By:Ch [37,100] (.write 100 [] 0 none):=⟨_,rfl,λ r=>⟨rfl,aK (by decide)⟩⟩
theorem Db:Ch [37,108] .length:=⟨_,rfl,λ r=>⟨rfl,aK (by decide)⟩⟩
theorem C8:Ch [37,105] .more:=⟨_,rfl,λ r=>⟨rfl,aK (by decide)⟩⟩
theorem zm:Ch [37,33] (.one 33):=⟨_,rfl,λ r=>⟨rfl,aK (by decide)⟩⟩
theorem yY:Ch [37,126] (.one 126):=⟨_,rfl,λ r=>⟨rfl,aK (by decide)⟩⟩
theorem yo {c:Nat}(h:c∈cX):Ch [37,c] (.two c):=by
 simp only [cX,mem_cons,not_mem_nil,or_false] at h
 rcases h with rfl|rfl|rfl|rfl|rfl|rfl|rfl|rfl|rfl|rfl|rfl|rfl|rfl<;>exact ⟨_,rfl,λ r=>⟨rfl,aK (by decide)⟩⟩
theorem zF {k:Nat}(h:k<12):Ch (cj k) (xO k):=by
 have:=zS h
 rcases this with rfl|rfl|rfl|rfl|rfl|rfl|rfl|rfl|rfl|rfl|rfl|rfl<;>exact ⟨_,rfl,λ r=>⟨rfl,aK (by decide)⟩⟩
theorem cA {o a b:List Nat}{i:Nat}(h:o.drop i=a++b):o.drop (i+a.length)=b:=by
 refine sl drop_drop (sr h ?_);simp
theorem tD {o:List Nat}{fs:Fs}{R:PR}{rest:List Nat}:∀ (cs:List (List Nat×Op)) {i:Nat} {ops:List Op} {p:List Nat},cs≠[]->(∀ c∈cs,Ch c.1 c.2)->o.drop i=(cs.map (·.1)).flatten++rest ->
  aO o (i+((cs.map (·.1)).flatten).length) (ops++fl p++cs.map (·.2)) [] fs R->aO o i ops p fs R
 | [],i,ops,p,h0,hc,hd,k=>absurd rfl h0
 | (ch,op)::cs,i,ops,p,h0,hc,hd,k=>by
  refine aT (hc _ mem_cons_self) λ l e hr=>?_
  simp only [map_cons,List.flatten_cons,append_assoc] at hd
  have hd':=cA hd
  simp only at e
  have Co:=hd
  rw [e] at hd
  obtain ⟨r1,r2⟩:=hr ((cs.map (·.1)).flatten++rest)
  refine .op hd r2 r1 ?_
  rw [<- e] at hd
  simp only
  cases cs with
  | nil=>simpa using k
  | cons c cs =>
   refine tD (c::cs) nofun (λ x m=>hc x (mem_cons_of_mem _ m)) hd' ?_
   have e2:i+ch.length+(((c::cs).map (·.1)).flatten).length=i+((((ch,op)::c::cs).map (·.1)).flatten).length:=by simp;lia
   have e3:ops++fl p++[op]++fl []++(c::cs).map (·.2)=ops++fl p++((ch,op)::c::cs).map (·.2):=by simp [fl]
   exact sr e2 (sr e3 k)
theorem iM {o:List Nat}{fs:Fs}{R:PR}{rest:List Nat}:∀ (l:List Nat) {i:Nat} {ops:List Op} {p:List Nat},(∀ c∈l,c≠37)->o.drop i=l++rest->aO o (i+l.length) ops (p++l) fs R->aO o i ops p fs R
 | [],i,ops,p,h,hd,k=>by simpa using k
 | c::l,i,ops,p,h,hd,k=>by
  refine .plain hd (h c (by simp)) ?_
  refine iM l (λ x m=>h x (by simp [m])) (by refine sl drop_drop (sr hd ?_);rfl) ?_
  have e:i+1+l.length=i+(c::l).length:=by simp;lia
  exact sr (e ..) (sr (append_assoc ..) k)
theorem pP {c:List Nat}{op:Op}(h:Ch c op):∀ x∈[(c,op)],Ch x.1 x.2:=λ _ m=>GP m▸h
theorem tA {c d:List Nat}{op oq:Op}(h:Ch c op)(g:Ch d oq):∀ x∈[(c,op),(d,oq)],Ch x.1 x.2:=λ x m=>(mem_cons.mp m).elim (λ e=>e▸h) (pP g x)
theorem BB {c d e:List Nat}{op oq oR:Op}(h:Ch c op)(g:Ch d oq)(f:Ch e oR):∀ x∈[(c,op),(d,oq),(e,oR)],Ch x.1 x.2:=λ x m=>(mem_cons.mp m).elim (λ e=>e▸h) (tA g f x)
theorem uM {o:List Nat}{fs:Fs}{R:PR}{rest:List Nat}{u:U}{i:Nat}{ops:List Op}{p:List Nat}(ok:u.ok)(hd:o.drop i=u.text++rest)(k:aO o (i+u.text.length) (ops++(db p u).1) (db p u).2 fs R):aO o i ops p fs R:=by
 have go:∀ cs:List (List Nat×Op),cs≠[]->(∀ c∈cs,Ch c.1 c.2)->u.text=(cs.map (·.1)).flatten->db p u=(fl p++cs.map (·.2),[])->aO o i ops p fs R:=λ cs h0 hc e1 e2=>by
  refine tD cs h0 hc (by refine sl e1 ?_;exact hd) ?_
  refine sl e1 ?_
  rw [e2] at k
  simpa using k
 have k4:∀ {k:Nat},k<4->k=0\/k=1\/k=2\/k=3:=λ {k} h=>(by decide:∀ k<4,k=0\/k=1\/k=2\/k=3) k h
 have k3:∀ {k:Nat},k<3->k=0\/k=1\/k=2:=λ {k} h=>(by decide:∀ k<3,k=0\/k=1\/k=2) k h
 have k0:∀ {a:Nat} {b:List Nat},aO o a (ops++[]) b fs R->aO o a ops b fs R:=λ h=>append_nil ops▸h
 have p3:∀ {w:Nat},(w=1\/w=3\/w=4)->w=1\/w=2\/w=3\/w=4:=λ h=>h.imp id .inr
 induction u with
 | lit n =>
  rcases k4 ok with rfl|rfl|rfl|rfl
  .exact iM [120] (by decide) hd (k0 k)
  .exact .lit (l:=37::rest) (n:=2) hd (aK (by decide)) rfl (k0 k)
  .exact iM [36,60,53,62] (by decide) hd (k0 k)
  .exact iM [97,59] (by decide) hd (k0 k)
 | p w=>exact go [([37,112,48+w],.param w)] nofun (pP (fM (p3 ok))) rfl rfl
 | n j=>exact go [([37,123]++aE false 10 j++[125],.push j)] nofun (pP (qM (lt_of_le_of_lt ok (ac rfl)))) (append_nil _).symm rfl
 | q c=>exact go [([37,39,c,39],.push c)] nofun (pP C9) rfl rfl
 | pg c=>exact go [([37,80,c],.set c),([37,103,c],.get c)] nofun (tA (zK ok) (sS (ok.imp id .inl))) rfl rfl
 | g c=>exact go [([37,103,c],.get c)] nofun (pP (sS ok)) rfl rfl
 | txt j =>
  rcases k3 ok with rfl|rfl|rfl
  .exact go [([37,112,48+2],.param 2),([37,115],.write 115 [] 0 none)] nofun (tA (fM (.inr (.inl rfl))) AA) rfl rfl
  .exact go [([37,112,48+2],.param 2),([37,108],.length),([37,100],.write 100 [] 0 none)] nofun (BB (fM (.inr (.inl rfl))) Db By) rfl rfl
  .exact go [([37,112,48+1],.param 1),([37,115],.write 115 [] 0 none)] nofun (tA (fM (.inl rfl)) AA) rfl rfl
 | inot=>exact go [([37,105],.more),([37,33],.one 33)] nofun (tA C8 zm) rfl rfl
 | inv=>exact go [([37,126],.one 126)] nofun (pP yY) rfl rfl
 | out w=>exact go [(cj w,xO w)] nofun (pP (zF ok)) (append_nil _).symm rfl
 | bin w far s =>
  refine go [([37,112,48+w],.param w),([37,123]++aE false 10 far++[125],.push far),([37,s],.two s),([37,100],.write 100 [] 0 none)] nofun (λ x m=>(mem_cons.mp m).elim (λ e=>e▸fM (p3 ok.1)) (BB (qM (lt_of_le_of_lt ok.2.1 (ac rfl))) (yo ok.2.2) By x)) (append_assoc _ _ _) rfl
theorem nK {α:Type}(A B:List α)(x y:α):(A++x::B).set A.length y=A++y::B:=by simp
theorem eM (n:Nat):∀ (J:List Nat) (ops X:List Op),(∀ j∈J,j<ops.length)->aZ n J (ops++X)=aZ n J ops++X
 | [],ops,X,h=>rfl
 | j::J,ops,X,h=>by
  have hj:=h j (by simp)
  rw [aZ,aZ,List.set_append_left _ _ hj]
  exact eM n J _ X λ k m=>by simpa using h k (by simp [m])
theorem fZ (n k:Nat):∀ (J:List Nat) (ops:List Op),aZ n (J++[k]) ops=(aZ n J ops).set k (.jump n)
 | [],ops=>rfl
 | j::J,ops=>by rw [cons_append,aZ,aZ];exact fZ n k J _
theorem wL {l:List Nat}:bY (63::l)=some (.br 63,2):=rfl
theorem pN {l:List Nat}:bY (116::l)=some (.br 116,2):=rfl
theorem yZ {l:List Nat}:bY (101::l)=some (.br 101,2):=rfl
theorem zt {l:List Nat}:bY (59::l)=some (.br 59,2):=rfl
mutual
theorem dS {o:List Nat}:∀ (ts:Ts) {fs:Fs} {R:PR} {rest:List Nat} {i:Nat} {ops:List Op} {p:List Nat},ts.ok->o.drop i=ts.text++rest->aO o (i+ts.text.length) (ops++(aD ops.length p ts).1) (aD ops.length p ts).2 fs R->aO o i ops p fs R
 | .nil,fs,R,rest,i,ops,p,ok,hd,k=>by
  dsimp only [Ts.text,aD] at k
  simpa using k
 | .cons t r,fs,R,rest,i,ops,p,ok,hd,k=>by
  dsimp only [Ts.text] at hd k
  dsimp only [aD] at k
  rw [append_assoc] at hd
  refine run_t t ok.1 hd (dS r ok.2 (cA hd) ?_)
  rw [GO] at k ⊢
  rw [<- append_assoc,<- add_assoc] at k
  exact k
theorem run_t {o:List Nat}:∀ (t:Px) {fs:Fs} {R:PR} {rest:List Nat} {i:Nat} {ops:List Op} {p:List Nat},t.ok->o.drop i=t.text++rest->aO o (i+t.text.length) (ops++(cpT ops.length p t).1) (cpT ops.length p t).2 fs R->aO o i ops p fs R
 | .u u,fs,R,rest,i,ops,p,ok,hd,k=>by
  exact uM ok hd k
 | .iff b,fs,R,rest,i,ops,p,ok,hd,k=>by
  dsimp only [Px.text] at hd k
  dsimp only [cpT] at k
  have hd':o.drop i=37::63::(b.text++rest):=by refine sr hd ?_;simp
  refine .q hd' (aK (by decide)) wL ?_
  have Co:o.drop (i+2)=b.text++rest:=by refine sl drop_drop (sr hd' ?_);rfl
  have e1:(ops++fl p).length=ops.length+(fl p).length:=GO
  generalize hE:ops.length+(fl p).length+(cpB (ops.length+(fl p).length) 0 b).length=E at k
  refine run_b b (E:=E) ok Co nofun (by refine sr e1 (sl hE ?_);exact congrArg (λ z=>ops.length+(fl p).length+z) (jI b _ _ _)) ?_
  refine sr e1 ?_
  have e2:i+2+b.text.length=i+([37,63]++b.text).length:=by simp;lia
  refine sr e2 ?_;rewrite [aZ]
  simp only [<- append_assoc] at k ⊢
  exact k
theorem vo (ops:List Op)(x:List Op×List Nat):ops++x.1++fl x.2=ops++cK x:=append_assoc _ _ _
theorem xU (X:List Op)(u:Op)(x:List Op×List Nat):X++[u]++x.1++fl x.2=X++u::cK x:=by refine sr (vo ..) (sr (append_assoc ..) ?_);rfl
theorem yF (a b:List Op)(u:Op):(a++b++[u]).length=a.length+b.length+1:=by refine sr GO (sr GO ?_);rfl
theorem A1 (a b c:List Op)(u:Op):((a++b)++u::c).length=a.length+b.length+1+c.length:=by refine sr GO (sr GO (sr length_cons ?_));lia
theorem Bj {o r:List Nat}{i c d:Nat}(h:o.drop i=c::d::r):o.drop (i+2)=r:=by refine sl drop_drop (sr h ?_);rfl
theorem sG (ops A B:List Op):((ops++A)++Op.unless 0::B++[Op.jump 0]).set (ops++A).length (.unless (ops.length+A.length+1+B.length+1:Nat))=ops++jz ops.length 0 A B:=by
 refine sr (append_assoc ..) (sr (cons_append ..) (sr (nK ..) ?_))
 dsimp only [jz];simp
theorem DY (i:Nat)(n f:List Nat)(c:Nat):i+n.length+2+f.length+2=i+(n++[37,116]++f++[37,c]).length:=by simp;lia
theorem uX (P A B D:List Op)(m E:Nat)(pl:P.length=m):(P++(jz m 0 A B++D)).set (m+A.length+1+B.length) (.jump E)=P++(jz m E A B++D):=by
 have:P++(jz m 0 A B++D)=(P++(A++[Op.unless (m+A.length+1+B.length+1:Nat)]++B))++Op.jump ((0:Nat):Int)::D:=by dsimp only [jz];simp
 refine sr this ?_
 have hl:m+A.length+1+B.length=(P++(A++[Op.unless (m+A.length+1+B.length+1:Nat)]++B)).length:=by simp [pl];lia
 generalize hz:P++(A++[Op.unless (m+A.length+1+B.length+1:Nat)]++B)=Z at hl ⊢
 refine sr (hl ..) (sr (nK ..) (sl (hz ..) ?_))
 dsimp only [jz];simp
theorem wU (P A B:List Op)(m E:Nat)(pl:P.length=m):(P++jz m 0 A B).set (m+A.length+1+B.length) (.jump E)=P++jz m E A B:=by
 have:=uX P A B [] m E pl
 rwa [append_nil,append_nil] at this
theorem run_b {o:List Nat}:∀ (b:Bs) {fs:Fs} {R:PR} {rest:List Nat} {i E:Nat} {ops:List Op} {J:List Nat},b.ok->o.drop i=b.text++rest->(∀ j∈J,j<ops.length) ->
  E=ops.length+(cpB ops.length E b).length->aO o (i+b.text.length) (aZ E J ops++cpB ops.length E b) [] fs R->aO o i ops [] ((none,J)::fs) R
 | .last n0 f0,fs,R,rest,i,E,ops,J,ok,hd,hJ,hE,k=>by
  dsimp only [Bs.text] at hd k
  simp only [append_assoc] at hd
  have d1:=cA hd
  have d1':o.drop (i+n0.text.length)=37::116::(f0.text++([37,59]++rest)):=d1
  have d2:o.drop (i+n0.text.length+2)=f0.text++([37,59]++rest):=Bj d1'
  have d3:=cA d2
  have d3':o.drop (i+n0.text.length+2+f0.text.length)=37::59::rest:=d3
  refine dS n0 ok.1 hd (.t d1' (aK (by decide)) pN ?_)
  have eA:ops++(aD ops.length [] n0).1++fl (aD ops.length [] n0).2=ops++cK (aD ops.length [] n0):=vo _ _
  refine sr eA ?_
  dsimp only [cpB] at k hE
  generalize cK (aD ops.length [] n0)=A at k hE ⊢
  have l1:(ops++A++[Op.unless 0]).length=ops.length+A.length+1:=yF _ _ _
  refine dS f0 ok.2 d2 (.s d3' (aK (by decide)) zt (sr l1 ?_))
  have eB:ops++A++[Op.unless 0]++(aD (ops.length+A.length+1) [] f0).1++fl (aD (ops.length+A.length+1) [] f0).2=(ops++A)++Op.unless 0::cK (aD (ops.length+A.length+1) [] f0):=xU _ _ _
  refine sr eB ?_
  generalize cK (aD (ops.length+A.length+1) [] f0)=B at k hE ⊢
  have lN:((ops++A)++Op.unless 0::B).length=E:=by refine sr hE ?_;simp
  refine sr lN ?_
  have e1:i3 E (some (ops++A).length) ((ops++A)++Op.unless 0::B)=(ops++A)++Op.unless E::B:=nK _ _ _ _
  refine sr (e1 ..) (sr (append_assoc ..) (sr (eM _ _ _ _ hJ ..) ?_))
  have e2:i+n0.text.length+2+f0.text.length+2=i+(n0.text++[37,116]++f0.text++[37,59]).length:=DY _ _ _ _
  refine sr e2 ?_
  simpa using k
 | .lastE n0 f0 e0,fs,R,rest,i,E,ops,J,ok,hd,hJ,hE,k=>by
  dsimp only [Bs.text] at hd k
  simp only [append_assoc] at hd
  have d1:=cA hd
  have d1':o.drop (i+n0.text.length)=37::116::(f0.text++([37,101]++(e0.text++([37,59]++rest)))):=d1
  have d2:o.drop (i+n0.text.length+2)=f0.text++([37,101]++(e0.text++([37,59]++rest))):=Bj d1'
  have d3:=cA d2
  have d3':o.drop (i+n0.text.length+2+f0.text.length)=37::101::(e0.text++([37,59]++rest)):=d3
  have d4:o.drop (i+n0.text.length+2+f0.text.length+2)=e0.text++([37,59]++rest):=Bj d3'
  have d5:=cA d4
  have d5':o.drop (i+n0.text.length+2+f0.text.length+2+e0.text.length)=37::59::rest:=d5
  refine dS n0 ok.1 hd (.t d1' (aK (by decide)) pN ?_)
  have eA:ops++(aD ops.length [] n0).1++fl (aD ops.length [] n0).2=ops++cK (aD ops.length [] n0):=vo _ _
  refine sr eA ?_
  dsimp only [cpB] at k hE
  generalize cK (aD ops.length [] n0)=A at k hE ⊢
  have l1:(ops++A++[Op.unless 0]).length=ops.length+A.length+1:=yF _ _ _
  refine dS f0 ok.2.1 d2 (.e d3' (aK (by decide)) yZ (sr l1 ?_))
  have eB:ops++A++[Op.unless 0]++(aD (ops.length+A.length+1) [] f0).1++fl (aD (ops.length+A.length+1) [] f0).2=(ops++A)++Op.unless 0::cK (aD (ops.length+A.length+1) [] f0):=xU _ _ _
  refine sr eB ?_
  generalize cK (aD (ops.length+A.length+1) [] f0)=B at k hE ⊢
  have lN:((ops++A)++Op.unless 0::B).length=ops.length+A.length+1+B.length:=A1 _ _ _ _
  refine sr lN ?_
  have e1:((ops++A)++Op.unless 0::B++[Op.jump 0]).set (ops++A).length (.unless (ops.length+A.length+1+B.length+1:Nat))=ops++jz ops.length 0 A B:=sG _ _ _
  refine sr e1 ?_
  have l2:(ops++jz ops.length 0 A B).length=ops.length+A.length+B.length+2:=by refine sr (GO ..) (sr (cg ..) ?_);lia
  refine dS e0 ok.2.2 d4 (.s d5' (aK (by decide)) zt (sr l2 ?_))
  have eC:ops++jz ops.length 0 A B++(aD (ops.length+A.length+B.length+2) [] e0).1++fl (aD (ops.length+A.length+B.length+2) [] e0).2=ops++(jz ops.length 0 A B++cK (aD (ops.length+A.length+B.length+2) [] e0)):=by dsimp only [cK];simp
  refine sr eC ?_
  generalize cK (aD (ops.length+A.length+B.length+2) [] e0)=D at k hE ⊢
  have lE:(ops++(jz ops.length 0 A B++D)).length=E:=by refine sr hE ?_;simp [cg]
  refine sr lE ?_
  show aO o _ (aZ E (J++[ops.length+A.length+1+B.length]) (ops++(jz ops.length 0 A B++D))) [] fs R
  refine sr (fZ ..) (sr (eM _ _ _ _ hJ ..) ?_)
  have pl:(aZ E J ops).length=ops.length:=eZ _ _ _
  have e3:(aZ E J ops++(jz ops.length 0 A B++D)).set (ops.length+A.length+1+B.length) (.jump E)=aZ E J ops++(jz ops.length E A B++D):=uX _ _ _ _ _ _ pl
  refine sr e3 ?_
  have e2:i+n0.text.length+2+f0.text.length+2+e0.text.length+2=i+(n0.text++[37,116]++f0.text++[37,101]++e0.text++[37,59]).length:=by simp;lia
  exact sr e2 k
 | .more n0 f0 b,fs,R,rest,i,E,ops,J,ok,hd,hJ,hE,k=>by
  dsimp only [Bs.text] at hd k
  simp only [append_assoc] at hd
  have d1:=cA hd
  have d1':o.drop (i+n0.text.length)=37::116::(f0.text++([37,101]++(b.text++rest))):=d1
  have d2:o.drop (i+n0.text.length+2)=f0.text++([37,101]++(b.text++rest)):=Bj d1'
  have d3:=cA d2
  have d3':o.drop (i+n0.text.length+2+f0.text.length)=37::101::(b.text++rest):=d3
  have d4:o.drop (i+n0.text.length+2+f0.text.length+2)=b.text++rest:=Bj d3'
  refine dS n0 ok.1 hd (.t d1' (aK (by decide)) pN ?_)
  have eA:ops++(aD ops.length [] n0).1++fl (aD ops.length [] n0).2=ops++cK (aD ops.length [] n0):=vo _ _
  refine sr eA ?_
  dsimp only [cpB] at k hE
  generalize cK (aD ops.length [] n0)=A at k hE ⊢
  have l1:(ops++A++[Op.unless 0]).length=ops.length+A.length+1:=yF _ _ _
  refine dS f0 ok.2.1 d2 (.e d3' (aK (by decide)) yZ (sr l1 ?_))
  have eB:ops++A++[Op.unless 0]++(aD (ops.length+A.length+1) [] f0).1++fl (aD (ops.length+A.length+1) [] f0).2=(ops++A)++Op.unless 0::cK (aD (ops.length+A.length+1) [] f0):=xU _ _ _
  refine sr eB ?_
  generalize cK (aD (ops.length+A.length+1) [] f0)=B at k hE ⊢
  have lN:((ops++A)++Op.unless 0::B).length=ops.length+A.length+1+B.length:=A1 _ _ _ _
  refine sr lN ?_
  have e1:((ops++A)++Op.unless 0::B++[Op.jump 0]).set (ops++A).length (.unless (ops.length+A.length+1+B.length+1:Nat))=ops++jz ops.length 0 A B:=sG _ _ _
  refine sr e1 ?_
  have l2:(ops++jz ops.length 0 A B).length=ops.length+A.length+B.length+2:=by refine sr (GO ..) (sr (cg ..) ?_);lia
  refine run_b b (E:=E) ok.2.2 d4 (λ j m=>?_) (by refine sr l2 ?_;rw [GO,cg] at hE;lia) ?_
  .refine sr l2 ?_
   rcases mem_append.mp m with m|m
   .have:=hJ j m;lia
   .simp only [mem_singleton] at m;lia
  refine sr l2 (sr (fZ ..) (sr (eM _ _ _ _ hJ ..) ?_))
  generalize cpB (ops.length+A.length+B.length+2) E b=D at k hE ⊢
  have pl:(aZ E J ops).length=ops.length:=eZ _ _ _
  have e3:(aZ E J ops++jz ops.length 0 A B).set (ops.length+A.length+1+B.length) (.jump E)=aZ E J ops++jz ops.length E A B:=wU _ _ _ _ _ pl
  refine sr (e3 ..) (sr (append_assoc ..) ?_)
  have e2:i+n0.text.length+2+f0.text.length+2+b.text.length=i+(n0.text++[37,116]++f0.text++[37,101]++b.text).length:=by simp;lia
  exact sr e2 k
end
noncomputable def uI:List Nat:=[108,101,102,116]
noncomputable def pE:List Nat:=[109,105,120,101,100]
structure bK (H:AH) (dk l:Addr):Prop where
 d:∃ m:Int,H dk=some (.sdict [(uI,.ref l),(pE,.int m)])
 l:∃ xs:List Int,H l=some (.list (xs.map V.int))/\xs.length<=24
noncomputable abbrev DD (dk l:Addr):Addr->Prop:=λ a=>a=dk\/a=l
section
variable {S:Sx}{X:Int->Prop}{β:Bool}{H:AH}{Q:V->AH->Prop}{dk l:Addr}
theorem bK.keep {H':AH}{D:Addr->Prop}(R:bK H dk l)(m:Mv H H' D)(h1:¬ D dk)(h2:¬ D l):bK H' dk l :=
 ⟨R.d.imp λ _ e=>m.keep _ _ e h1,R.l.imp λ _ e=>⟨m.keep _ _ e.1 h2,e.2⟩⟩
theorem bK.other {H':AH}(R:bK H dk l)(m:Mv H H' aQ):bK H' dk l:=R.keep m id id
theorem q7 (P:Pk S){k many:Nat}(R:bK H dk l)(hm:0<many)(q:∀ (d:Nat) H',d<many->bK H' dk l->Mv H H' (DD dk l)->Q (.int d) H'):af S (k+1) β X 38 [.ref dk,.int many] H Q:=by
 refine P.enter 37 rfl (.inl rfl) rfl nofun ?_
 obtain ⟨⟨m,hd⟩,xs',hl,hxl⟩:=R
 have nl:dk≠l:=aw hd hl rfl
 have mz:(many:Int)≠0:=λ e=>absurd (Int.ofNat.inj e) (ne_of_gt hm)
 have fin:∀ (x:Int) (H':AH),bK H' dk l->Mv H H' (DD dk l)->Q (.int (x.fmod many)) H':=λ x H' h1 h2=>by
  have e:((x % many).toNat:Int)=x.fmod many:=(toNat_of_nonneg (Int.emod_nonneg x mz)).trans (fmod_eq_emod_of_nonneg _ (natCast_nonneg _)).symm
  exact e▸q _ H' ((Int.toNat_lt (Int.emod_nonneg x mz)).mpr (Int.emod_lt_of_pos x (ofNat_lt.mpr hm))) h1 h2
 have sk {C:Cw}:EV (.sub (.var 0) (.str [108,101,102,116])) C [some (.ref dk),some (.int many)] H (.ref l):=F5 (FY rfl) F0 (lf hd rfl)
 have sm {C:Cw} {H':AH} {m:Int} (h:H' dk=some (.sdict [(uI,.ref l),(pE,.int m)])):EV (.sub (.var 0) (.str [109,105,120,101,100])) C [some (.ref dk),some (.int many)] H' (.int m):=F5 (FY rfl) F0 (lf h rfl)
 rcases xs' with _|⟨x,r⟩
 .refine au (TV.neNil sk (.inl hl) rfl) (jd (F6 (EV.add (EV.mul (sm hd) FZ (by decide)) FZ) FZ λ _ q=>⟨by decide,q⟩) (FY rfl) F0 ⟨_,hd,ac rfl,?_⟩)
  have g:(H.set dk (.sdict [(uI,.ref l),(pE,.int ((m*4801+97).fmod 1000003))])) dk=_:=F3 _ _ _
  exact aC (F6 (F6 (sm g) FZ λ _ q=>⟨by decide,q⟩) (FY rfl) λ _ q=>⟨mz,q⟩) (fin _ _ ⟨⟨_,g⟩,[],(F4 _ _ nl.symm).trans hl,zero_le _⟩ (Mv.put (.inl rfl)))
 .exact cU (TV.neNil sk (.inl hl) rfl) (a6 (fR (iB (b:=.pop0 ()) sk ⟨_,hl⟩ (.one FZ) ⟨rfl,_,_,hl,(GK (le_of_eq (length_map _)) (GK (le_succ _) (GK hxl (ac rfl)))),mz,fin x _ ⟨⟨m,(F4 _ _ nl).trans hd⟩,r,F3 _ _ _,GK (le_succ _) hxl⟩ (Mv.put (.inr rfl))⟩)))
theorem E8 (P:Pk S){k:Nat}(q:∀ c,H c=none->Q (.ref c) (H.set c (.list (cX.map λ s=>V.str [s])))):af S (k+1) β X 34 [] H Q:=by
 exact P.enter 33 rfl (.inl rfl) rfl nofun ⟨ac rfl,q⟩
theorem EU (P:Pk S){k:Nat}(q:∀ c,H c=none->Q (.ref c) (H.set c (.list ((List.range 12).map λ w=>V.str (cj w))))):af S (k+1) β X 35 [] H Q:=by
 exact P.enter 34 rfl (.inl rfl) rfl nofun ⟨ac rfl,q⟩
noncomputable def tb:Nat->Nat
 | 0=>40
 | d+1=>10*tb d+20
noncomputable def cb:Nat->Nat
 | 0=>1
 | d+1=>10*cb d+4
inductive Ax (H:AH) (t:Addr) (w:List Nat) (P:List V->Prop):Prop
 | mk (rl:Addr) (vs:List V) (a:H t=some (.tup [.str w,.ref rl])) (b:H rl=some (.flist vs)) (c:P vs)
structure ka (H:AH) (d:Nat) (t:Addr) (tr:Px):Prop where
 at_:Ax H t tr.text λ vs=>TAt H vs tr
 ok:tr.ok
 dep:tr.dep<=2*d
 text:tr.text.length<=tb d
 cost:tr.cost<=cb d
theorem ct {H:AH}{a:Addr}{vs:List V}(e:H a=some (.list vs)):dI H (H.set a (.flist vs)):=λ b ao g=>by
 by_cases h:b=a
 .subst h;rw [F3] at g;(injection g with g;subst g);exact .inr ⟨vs,rfl,e⟩
 .rw [F4 _ _ h] at g;exact .inl g
theorem tU {H H1:AH}{d:Nat}{u:U}{vs:List V}{Q':V->AH->Prop}(ok:u.ok)(ht:u.text.length<=tb d)(hv:fi H1 vs (u.rows.map Rw.vals))(D:bK H1 dk l)(m:Mv H H1 (DD dk l))
  (q:∀ t H' tr,ka H' d t tr->bK H' dk l->Mv H H' (DD dk l)->Q' (.ref t) H') :
  ∀ rl,H1 rl=none->∀ t,(H1.set rl (.list vs)) t=none->∃ H'',dI ((H1.set rl (.list vs)).set t (.tup [.str u.text,.ref rl])) H''/\Q' (.ref t) H'':=λ rl hr t ht'=>by
 obtain ⟨h1,h2⟩:=aA ht'
 have e1:((H1.set rl (.list vs)).set t (.tup [.str u.text,.ref rl])) rl=some (.list vs):=by exact sr (F4 _ _ h2.symm) (F3 _ _ _)
 refine ⟨_,ct e1,?_⟩
 have m2x:Mv H1 (((H1.set rl (.list vs)).set t (.tup [.str u.text,.ref rl])).set rl (.flist vs)) aQ:=((Ga hr).newR ht').putR' hr
 have fk:aH H1 (((H1.set rl (.list vs)).set t (.tup [.str u.text,.ref rl])).set rl (.flist vs)):=λ a ao _ e=>m2x.keep _ _ e id
 refine q t _ (.u u) ⟨⟨rl,vs,?_,F3 _ _ _,?_⟩,ok,zero_le _,ht,?_⟩ (D.other m2x) (m.trans m2x (λ _ h=>h) λ _ h=>h.elim)
 .exact sr (F4 _ _ h2) (F3 _ _ _)
 .exact hv.keep fk
 .show 1<=cb d
  cases d<;>simp [cb]
end
noncomputable def Cn:List (Nat×B)->B->B
 | [],e=>e
 | (n,a)::r,e=>.cond (.cmp .eq (.var 2) (.int n)) a .done (Cn r e)
noncomputable def DL (w:Nat):List (Nat×B)->B->B
 | [],e=>e
 | (n,a)::r,e=>cond (decide (w=n)) a (DL w r e)
noncomputable def tZ:List (Nat×B):=[(0,(.ret (.tup (.cons (.sub (.lst (.cons (.str [120]) (.cons (.str [37,37]) (.cons (.str [36,60,53,62]) (.cons (.str [97,59]) .nil))))) (.bin .mod (.var 3) (.int 4))) (.cons (.lst (.cons (.tup (.cons (.str [108,105,116]) (.cons (.sub (.lst (.cons (.str [120]) (.cons (.str [37]) (.cons (.str [36,60,53,62]) (.cons (.str [97,59]) .nil))))) (.bin .mod (.var 3) (.int 4))) .nil))) .nil)) .nil))))),
 (1,(.set 4 (.sub (.lst (.cons (.int 1) (.cons (.int 3) (.cons (.int 4) .nil)))) (.bin .mod (.var 3) (.int 3))) (.ret (.tup (.cons (.bin .add (.str [37,112]) (.bi .str (.cons (.var 4) .nil))) (.cons (.lst (.cons (.tup (.cons (.str [112]) (.cons (.var 4) .nil))) .nil)) .nil)))))),
 (2,(.ret (.tup (.cons (.bin .add (.bin .add (.str [37,123]) (.bi .str (.cons (.bin .mul (.var 3) (.int 7)) .nil))) (.str [125])) (.cons (.lst (.cons (.tup (.cons (.str [110]) (.cons (.bin .mul (.var 3) (.int 7)) .nil))) .nil)) .nil))))),
 (3,(.ret (.tup (.cons (.bin .add (.bin .add (.str [37,39]) (.sub (.str [65,90,43]) (.bin .mod (.var 3) (.int 3)))) (.str [39])) (.cons (.lst (.cons (.tup (.cons (.str [110]) (.cons (.bi .ord (.cons (.sub (.str [65,90,43]) (.bin .mod (.var 3) (.int 3))) .nil)) .nil))) .nil)) .nil))))),
 (4,(.ret (.tup (.cons (.bin .add (.bin .add (.bin .add (.str [37,80]) (.sub (.str [97,65]) (.bin .mod (.var 3) (.int 2)))) (.str [37,103])) (.sub (.str [97,65]) (.bin .mod (.var 3) (.int 2)))) (.cons (.lst (.cons (.tup (.cons (.str [80]) (.cons (.sub (.str [97,65]) (.bin .mod (.var 3) (.int 2))) .nil))) (.cons (.tup (.cons (.str [103]) (.cons (.sub (.str [97,65]) (.bin .mod (.var 3) (.int 2))) .nil))) .nil))) .nil))))),
 (5,(.ret (.tup (.cons (.bin .add (.str [37,103]) (.sub (.str [97,65,98,66]) (.bin .mod (.var 3) (.int 4)))) (.cons (.lst (.cons (.tup (.cons (.str [103]) (.cons (.sub (.str [97,65,98,66]) (.bin .mod (.var 3) (.int 4))) .nil))) .nil)) .nil))))),
 (6,(.ret (.tup (.cons (.sub (.lst (.cons (.str [37,112,50,37,115]) (.cons (.str [37,112,50,37,108,37,100]) (.cons (.str [37,112,49,37,115]) .nil)))) (.bin .mod (.var 3) (.int 3))) (.cons (.lst (.cons (.tup (.cons (.str [116,101,120,116]) (.cons (.sub (.lst (.cons (.str [115]) (.cons (.str [108]) (.cons (.str []) .nil)))) (.bin .mod (.var 3) (.int 3))) .nil))) .nil)) .nil))))),
 (7,(.ret (.tup (.cons (.str [37,105,37,33]) (.cons (.lst (.cons (.tup (.cons (.str [105]) (.cons (.int 0) .nil))) (.cons (.tup (.cons (.str [33]) (.cons (.int 0) .nil))) .nil))) .nil)))))]
noncomputable def kG:List (Nat×B):=[(9,(.ret (.tup (.cons (.str [37,126]) (.cons (.lst (.cons (.tup (.cons (.str [126]) (.cons (.int 0) .nil))) .nil)) .nil))))),
 (10,(.set 7 (.sub (.call 35 .nil) (.call 38 (.cons (.var 0) (.cons (.int 12) .nil)))) (.ret (.tup (.cons (.var 7) (.cons (.lst (.cons (.tup (.cons (.str [111,117,116]) (.cons (.var 7) .nil))) .nil)) .nil))))))]
noncomputable def lX:B:=(.setN [8,4] (.tup (.cons (.sub (.call 34 .nil) (.call 38 (.cons (.var 0) (.cons (.int 13) .nil)))) (.cons (.sub (.lst (.cons (.int 1) (.cons (.int 3) (.cons (.int 4) .nil)))) (.bin .mod (.var 3) (.int 3))) .nil))) (.set 9 (.call 38 (.cons (.var 0) (.cons (.int 9) .nil))) (.ret (.tup (.cons (.bin .add (.bin .add (.bin .add (.bin .add (.bin .add (.bin .add (.str [37,112]) (.bi .str (.cons (.var 4) .nil))) (.str [37,123])) (.bi .str (.cons (.var 9) .nil))) (.str [125,37])) (.var 8)) (.str [37,100])) (.cons (.lst (.cons (.tup (.cons (.str [112]) (.cons (.var 4) .nil))) (.cons (.tup (.cons (.str [110]) (.cons (.var 9) .nil))) (.cons (.tup (.cons (.str [111,112]) (.cons (.var 8) .nil))) (.cons (.tup (.cons (.str [111,117,116]) (.cons (.str [37,100]) .nil))) .nil))))) .nil))))))
noncomputable def wY:B:=.cond (.and (.cmp .eq (.var 2) (.int 8)) (.cmp .gt (.var 1) (.int 0)))
 (.setN [5,6] (.call 39 (.cons (.var 0) (.cons (.var 1) .nil))) (.ret (.tup (.cons (.var 5) (.cons (.lst (.cons (.var 6) .nil)) .nil)))))
 .done (Cn kG lX)
noncomputable def B5:B:=Cn tZ wY
theorem wC:Ba=(.setN [2,3] (.tup (.cons (.call 38 (.cons (.var 0) (.cons (.int 12) .nil))) (.cons (.call 38 (.cons (.var 0) (.cons (.int 9) .nil))) .nil)))
 B5):=rfl
theorem EN (n:Nat):(n:Int).fmod 4=((n % 4:Nat):Int):=by refine sr (fmod_eq_emod_of_nonneg _ (by lia)) ?_;lia
theorem Fz (n:Nat):(n:Int).fmod 3=((n % 3:Nat):Int):=by refine sr (fmod_eq_emod_of_nonneg _ (by lia)) ?_;lia
theorem FD (n:Nat):(n:Int).fmod 2=((n % 2:Nat):Int):=by refine sr (fmod_eq_emod_of_nonneg _ (by lia)) ?_;lia
theorem Ec (n:Nat):(n:Int)*7=((n*7:Nat):Int):=by lia
theorem xB {n:Nat}(h:n<10):aE false 10 n=[48+n]:=by dsimp only [aE];refine sr (bJ h) ?_;simp [sg,h]
theorem f9 {n:Nat}(h:n<100):(aE false 10 n).length<=2:=by dsimp only [aE];exact sr (length_map ..) (kU (by lia) 1 n (by simpa using h))
theorem Fd {k:Nat}(h:k<2):k=0\/k=1:=(by decide:∀ k<2,k=0\/k=1) k h
theorem Cq {k:Nat}(h:k<3):k=0\/k=1\/k=2:=(by decide:∀ k<3,k=0\/k=1\/k=2) k h
theorem CB {k:Nat}(h:k<4):k=0\/k=1\/k=2\/k=3:=(by decide:∀ k<4,k=0\/k=1\/k=2\/k=3) k h
theorem tX {k:Nat}(h:k<4):([.str [120],.str [37,37],.str [36,60,53,62],.str [97,59]]:List V)[k]?=some (.str (ng k)):=by
 have:=CB h
 rcases this with rfl|rfl|rfl|rfl<;>rfl
theorem tL {k:Nat}(h:k<4):([.str [120],.str [37],.str [36,60,53,62],.str [97,59]]:List V)[k]?=some (.str (dU k)):=by
 have:=CB h
 rcases this with rfl|rfl|rfl|rfl<;>rfl
theorem mC {k:Nat}(h:k<3):∃ w:Nat,(w=1\/w=3\/w=4)/\([.int 1,.int 3,.int 4]:List V)[k]?=some (.int w):=by
 have:=Cq h
 rcases this with rfl|rfl|rfl
 .exact ⟨1,.inl rfl,rfl⟩
 .exact ⟨3,.inr (.inl rfl),rfl⟩
 .exact ⟨4,.inr (.inr rfl),rfl⟩
theorem vX {k:Nat}(h:k<3):∃ c:Nat,(c=65\/c=90\/c=43)/\([65,90,43]:List Nat)[k]?=some c:=by
 have:=Cq h
 rcases this with rfl|rfl|rfl
 .exact ⟨65,.inl rfl,rfl⟩
 .exact ⟨90,.inr (.inl rfl),rfl⟩
 .exact ⟨43,.inr (.inr rfl),rfl⟩
theorem zv {k:Nat}(h:k<2):∃ c:Nat,(c=97\/c=65)/\([97,65]:List Nat)[k]?=some c:=by
 have:=Fd h
 rcases this with rfl|rfl
 .exact ⟨97,.inl rfl,rfl⟩
 .exact ⟨65,.inr rfl,rfl⟩
theorem ur {k:Nat}(h:k<4):∃ c:Nat,(c=97\/c=65\/c=98\/c=66)/\([97,65,98,66]:List Nat)[k]?=some c:=by
 have:=CB h
 rcases this with rfl|rfl|rfl|rfl
 .exact ⟨97,.inl rfl,rfl⟩
 .exact ⟨65,.inr (.inl rfl),rfl⟩
 .exact ⟨98,.inr (.inr (.inl rfl)),rfl⟩
 .exact ⟨66,.inr (.inr (.inr rfl)),rfl⟩
theorem uv {k:Nat}(h:k<3):([.str [37,112,50,37,115],.str [37,112,50,37,108,37,100],.str [37,112,49,37,115]]:List V)[k]?=some (.str (U.txt k).text):=by
 have:=Cq h
 rcases this with rfl|rfl|rfl<;>rfl
theorem uy {k:Nat}(h:k<3):([.str [115],.str [108],.str []]:List V)[k]?=some (.str (pG k)):=by
 have:=Cq h
 rcases this with rfl|rfl|rfl<;>rfl
theorem vM {k:Nat}(h:k<13):∃ s:Nat,s∈cX/\(cX.map λ s=>V.str [s])[k]?=some (.str [s]):=by
 have hl:k<cX.length:=h
 exact ⟨cX[k],getElem_mem hl,by refine sr getElem?_map (sr (getElem?_eq_getElem hl) ?_);rfl⟩
theorem i5 {H:AH}{c:Addr}{vs:List V}{k:Nat}{v:V}{Q:V->Prop}(e:H c=some (.list vs))(hl:vs.length<=16777216)(h:vs[k]?=some v)(q:Q v):iI (.ref c) (.int k) H Q:=.inl ⟨vs,v,.inr (.inl e),hl,h,q⟩
theorem Am {H:AH}{c:Addr}{vs:List V}{k:Nat}{v:V}{Q:V->Prop}(hl:vs.length<=16777216)(h:vs[k]?=some v)(q:Q v):iI (.ref c) (.int k) (H.set c (.list vs)) Q:=i5 (F3 _ _ _) hl h q
theorem Bp (d:Nat):40<=tb d:=by
 induction d with
 | zero=>exact le_refl _
 | succ d ih=>dsimp only [tb];lia
theorem t5 {u:U}(ok:u.ok):u.text.length<=40:=by
 induction u with
 | lit k=>exact (by decide:∀ k<4,(ng k).length<=40) k ok
 | n i =>
  have:=f9 (n:=i) (lt_of_le_of_lt ok (ac rfl))
  show ([37,123]++aE false 10 i++[125]).length<=40
  exact sr GO (sr GO (GK (add_le_add_right (add_le_add_left this 2) 1) (ac rfl)))
 | txt k=>exact (by decide:∀ k<3,((U.txt k).text).length<=40) k ok
 | out w=>exact (by decide:∀ k<12,(cj k).length<=40) w ok
 | bin w far s =>
  have:=f9 (n:=far) (lt_of_le_of_lt ok.2.1 (ac rfl))
  show ([37,112,48+w]++([37,123]++aE false 10 far++[125])++[37,s,37,100]).length<=40
  exact sr GO (sr GO (sr GO (sr GO (GK (add_le_add_right (add_le_add_left (add_le_add_right (add_le_add_left this 2) 1) 3) 4) (ac rfl)))))
 | _=>exact ac rfl
section
variable {S:Sx}{X:Int->Prop}{β:Bool}{H:AH}{Q:V->AH->Prop}{dk l:Addr}
inductive AM (H:AH) (t:Addr) (b:Bs):Prop
 | mk (row bl el:Addr) (bv ev:List V) (e1:H t=some (.tup [.str (Px.iff b).text,.ref row])) (e2:H row=some (.tup [.str [105,102],.ref bl,.ref el])) (e3:H bl=some (.flist bv)) (e4:H el=some (.flist ev)) (e5:BAt H bv ev b)
def B7 (S:Sx)(d k:Nat):Prop:=∀ (β:Bool) (X:Int->Prop) (dk l:Addr) (H:AH) (Q:V->AH->Prop),bK H dk l ->
  (∀ t H' (b:Bs),AM H' t b->b.ok->(Px.iff b).dep<=2*d->(Px.iff b).text.length<=tb d->(Px.iff b).cost<=cb d ->
   bK H' dk l->Mv H H' (DD dk l)->Q (.ref t) H')->af S k β X 39 [.ref dk,.int d] H Q
section
variable {C:Cw}{ls:Ls}{N:Ls->AH->Prop}
theorem nG {a i:E}(h:xe a C ls H λ u H1=>xe i C ls H1 λ v H2x=>iI u v H2x λ r=>Q r H2x):xe (.sub a i) C ls H Q:=h
theorem l8 {w:Nat}(hv:lget ls 2=some (.int w)):∀ {L:List (Nat×B)} {e:B} {N:Ls->AH->Prop},(∀ N,xs (DL w L e) C ls H N Q)->xs (Cn L e) C ls H N Q
 | [],e,N,p=>p N
 | (n,a)::r,e,N,p=>by
  have t:TV (.cmp .eq (.var 2) (.int n)) C ls H (decide (w=n)):=F7 (FY hv) FZ (fQ (x:=w) (y:=n) rfl rfl rfl)
  dsimp only [DL] at p
  induction h:decide (w=n) with
  | true=>rw [h] at t p;exact cU t (p _)
  | false=>rw [h] at t p;exact au t (l8 hv p)
noncomputable abbrev MV (e:E)(C:Cw)(ls:Ls)(H:AH)(v:V):Prop:=∀ K:V->AH->Prop,(∀ H',Mv H H' aQ->K v H')->xe e C ls H K
theorem MV.of {e:E}{v:V}(h:EV e C ls H v):MV e C ls H v:=λ K k=>h _ (k _ Mv.refl)
theorem GH {es:Es}{vs:List V}{j n m:Nat}{v:V}(h:AV es C ls H vs)(hz:vs.length<=100)(hj:lget ls j=some (.int n))(hm:m≠0)(hv:vs[n % m]?=some v):MV (.sub (.lst es) (.bin .mod (.var j) (.int m))) C ls H v:=λ K k=>h _ ⟨hz,λ c hc=>F6 (FY hj) FZ (vQ hm) _ (lC rfl (.inl (F3 _ _ _)) (GK hz (ac rfl)) hv _ (k _ (Ga hc)))⟩
theorem GI {l:List Nat}{j n m c:Nat}(hj:lget ls j=some (.int n))(hm:m≠0)(hl:l.length<=16777216)(hc:l[n % m]?=some c):EV (.sub (.str l) (.bin .mod (.var j) (.int m))) C ls H (.str [c]):=F5 F0 (F6 (FY hj) FZ (vQ hm)) (Be rfl hl hc)
theorem GJ {e:E}{n:Nat}(h:EV e C ls H (.int n))(hn:n<1073741824):EV (.bi .str (.cons e .nil)) C ls H (.str (aE false 10 n)):=EV.bi (.one h) λ Q q=>⟨i9 hn,(fF n).symm▸q⟩
noncomputable def uz:List (List Nat×E×V)->Es
 | []=>.nil
 | (w,e,v)::r=>.cons (.tup (.cons (.str w) (.cons e .nil))) (uz r)
noncomputable def qu (C:Cw)(ls:Ls):List (List Nat×E×V)->Prop
 | []=>True
 | (w,e,v)::r=>(∀ H,MV e C ls H v)/\qu C ls r
theorem rg:∀ (L:List (List Nat×E×V)) {H:AH} {K:List V->AH->Prop},qu C ls L->(∀ H' vs,Mv H H' aQ->fi H' vs (L.map λ x=>[.str x.1,x.2.2])->vs.length=L.length->K vs H')->xes (uz L) C ls H K
 | [],H,K,h,k=>k H [] Mv.refl .nil rfl
 | (w,e,v)::r,H,K,h,k=>nE (dF (jD F0 (bI (h.1 _ _ λ H1 m1x=>⟨ac rfl,λ c hc=>rg r h.2 λ H2x vs m2x g hl=>k H2x (.ref c::vs) ((m1x.newR hc).after m2x) (.cons ⟨c,rfl,m2x.keep _ _ (F3 _ _ _) id⟩ g) (congrArg (·+1) hl)⟩))))
theorem j4 {H0:AH}{d:Nat}{te:E}(u:U)(L:List (List Nat×E×V))(ok:u.ok)(hu:u.rows.map Rw.vals=L.map λ x=>[.str x.1,x.2.2])(hz:L.length<=100)(ht:MV te C ls H (.str u.text))(h:qu C ls L)(D:bK H dk l)(m:Mv H0 H (DD dk l))
  (q:∀ t H' tr,ka H' d t tr->bK H' dk l->Mv H0 H' (DD dk l)->Q (.ref t) H'):xs (.ret (.tup (.cons te (.cons (.lst (uz L)) .nil)))) C ls H N (λ v H'=>∃ H'',dI H' H''/\Q v H''):=by
 refine a6 (dF (nE (ht _ λ H1 m1x=>bI (j0 (rg L h λ H2x vs m2x g hl=>⟨hl▸hz,λ rl nr=>⟨ac rfl,λ t nt=>?_⟩⟩)))))
 have mv:=m1x.after m2x
 exact tU ok (GK (t5 ok) (Bp d)) (hu▸g) (D.other mv) (m.trans mv (λ _ h=>h) λ _ h=>h.elim) q rl nr t nt
end
theorem bK.apart {c:Addr}{o:AO}{H1 H2x:AH}(D:bK H dk l)(n:H c=none)(e:H1 c=some o)(m:Mv H1 H2x (DD dk l)):H2x c=some o:=m.keep _ _ e λ q=>by
 obtain ⟨⟨_,a1⟩,_,a2,_⟩:=D
 rcases q with rfl|rfl
 .rw [a1] at n;contradiction
 .rw [a2] at n;contradiction
theorem Ab {H0 H1 H2x:AH}(m:Mv H0 H1 (DD dk l))(m2x:Mv H1 H2x aQ):Mv H0 H2x (DD dk l):=m.trans m2x (λ _ h=>h) λ _ h=>h.elim
theorem sx {H0 H1 H2x:AH}(m:Mv H0 H1 (DD dk l))(m2x:Mv H1 H2x (DD dk l)):Mv H0 H2x (DD dk l):=m.trans m2x (λ _ h=>h) λ _ h=>.inl h
theorem qO (P:Pk S){k d way n:Nat}{H0:AH}{N:Ls->AH->Prop}(D:bK H dk l)(m:Mv H0 H (DD dk l))(q:∀ t H' tr,ka H' d t tr->bK H' dk l->Mv H0 H' (DD dk l)->Q (.ref t) H') :
  xs lX ⟨af S (k+2),β,X⟩ [some (.ref dk),some (.int d),some (.int way),some (.int n),none,none,none,none,none,none] H N (λ v H'=>∃ H'',dI H' H''/\Q v H''):=by
 have hk:n % 3<3:=mod_lt _ (ac rfl)
 refine aT (mC hk) λ wh hw1 hw2=>cL (dF (nE (nG (ax .nil (E8 P λ c1 n1=>ax (.two (FY rfl) FZ) (q7 P (many:=13) (D.other (Ga n1)) (ac rfl) λ w H2x hw D2 m2x=>aT (vM hw) λ sg hs1 hs2=>?_))))))
 have hl:=(D.other (Ga (o:=.list (cX.map λ s=>V.str [s])) n1)).d
 refine lC rfl (.inl (D.apart n1 (F3 _ _ _) m2x)) (ac rfl) hs2 _ (bI (GH (.cons FZ (.two FZ FZ)) (ac rfl) rfl (by decide) hw2 _ λ H3 m3x=>⟨ac rfl,λ c3 n3=>⟨_,F3 _ _ _,_,rfl,?_⟩⟩))
 have m4:=m3x.newR (o:=.tup [.str [sg],.int wh]) n3
 refine bj (ax (.two (FY rfl) FZ) (q7 P (many:=9) (D2.other m4) (ac rfl) λ far H4 hf D4 m5x=>?_))
 have whl:wh<10:=by rcases hw1 with rfl|rfl|rfl<;>exact ac rfl
 have fl2:(aE false 10 far).length<=2:=f9 (lt_of_lt_of_le hf (ac rfl))
 have ad:∀ {a b x y:Nat},a<=x->b<=y->ble (x+y) 16777216=true->a+b<=16777216:=λ h g z=>GK (add_le_add h g) (ac z)
 have la:∀ {a b:List Nat} {x y:Nat},a.length<=x->b.length<=y->(a++b).length<=x+y:=λ h g=>by exact sr GO (add_le_add h g)
 have l1:([37,112]++[48+wh]++[37,123]).length<=5:=ac rfl
 refine j4 (.bin wh far sg) [([112],.var 4,.int wh),([110],.var 9,.int far),([111,112],.var 8,.str [sg]),([111,117,116],.str [37,100],.str [37,100])] ⟨hw1,Nat.le_of_lt_succ hf,hs1⟩ rfl (ac rfl) (MV.of ?_)
  ⟨λ H=>.of (FY rfl),λ H=>.of (FY rfl),λ H=>.of (FY rfl),λ H=>.of F0,trivial⟩ D4 (sx (Ab (sx (Ab m (Ga n1)) m2x) m4) m5x) q
 have e4:EV (.bi .str (.cons (.var 4) .nil)) ⟨af S (k+2),β,X⟩ [some (.ref dk),some (.int d),some (.int way),some (.int n),some (.int wh),none,none,none,some (.str [sg]),some (.int far)] H4 (.str [48+wh]):=xB whl▸GJ (FY rfl) (lt_of_lt_of_le whl (ac rfl))
 have et:[37,112]++[48+wh]++[37,123]++aE false 10 far++[125,37]++[sg]++[37,100]=(U.bin wh far sg).text:=by
  show _=[37,112,48+wh]++([37,123]++aE false 10 far++[125])++[37,sg,37,100]
  simp
 exact sl et (F9 (F9 (F9 (F9 (F9 (F9 F0 e4 (ac rfl)) F0 (ac rfl)) (GJ (FY rfl) (lt_of_lt_of_le hf (ac rfl))) (ad l1 fl2 rfl)) F0 (ad (y:=2) (la l1 fl2) (ac rfl) rfl)) (FY rfl) (ad (y:=1) (la (y:=2) (la l1 fl2) (ac rfl)) (ac rfl) rfl)) F0 (ad (y:=2) (la (y:=1) (la (y:=2) (la l1 fl2) (ac rfl)) (ac rfl)) (ac rfl) rfl))
theorem Ev (P:Pk S){k d:Nat}(h39:0<d->B7 S d (k+2))(D:bK H dk l)(q:∀ t H' tr,ka H' d t tr->bK H' dk l->Mv H H' (DD dk l)->Q (.ref t) H'):af S (k+3) β X 40 [.ref dk,.int d] H Q:=by
 refine af.weak (P.enter 39 rfl (.inl rfl) rfl nofun ?_)
 walk_at "eI"
 refine sr wC (cL (dF (nE (ax (.two (FY rfl) FZ) (q7 P (many:=12) D (ac rfl) λ way H1 hway D1 m1x=>bI (ax (.two (FY rfl) FZ) (q7 P (many:=9) D1 (ac rfl) λ n H2x hn D2 m2x=>⟨ac rfl,λ c0 n0=>⟨_,F3 _ _ _,_,rfl,?_⟩⟩)))))))
 have m0:=Ga (D:=aQ) (o:=.tup [.int way,.int n]) n0
 have D:=D2.other m0
 have m:=Ab (sx m1x m2x) m0
 revert D m
 generalize H2x.set c0 (.tup [.int way,.int n])=H3
 intro D m
 clear m0 n0 m1x m2x D1 D2
 have n4:n % 4<4:=mod_lt _ (ac rfl)
 have n3:n % 3<3:=mod_lt _ (ac rfl)
 have n2:n % 2<2:=mod_lt _ (ac rfl)
 refine l8 (L:=tZ) (e:=wY) rfl λ N=>?_
 have big:∀ {t},(decide (way=8)&&decide (0<d))=t->TV (.and (.cmp .eq (.var 2) (.int 8)) (.cmp .gt (.var 1) (.int 0))) ⟨af S (k+2),β,X⟩ [some (.ref dk),some (.int d),some (.int way),some (.int n),none,none,none,none,none,none] H3 t:=λ e=>e▸TV.and (F7 (FY rfl) FZ (fQ (x:=way) (y:=8) rfl rfl rfl)) (F7 (FY rfl) FZ (fm (x:=d) (y:=0) rfl rfl rfl))
 have hw:way=0\/way=1\/way=2\/way=3\/way=4\/way=5\/way=6\/way=7\/way=8\/way=9\/way=10\/way=11:=by
  have h:∀ w<12,w=0\/w=1\/w=2\/w=3\/w=4\/w=5\/w=6\/w=7\/w=8\/w=9\/w=10\/w=11:=by decide
  exact h _ hway
 rcases hw with rfl|rfl|rfl|rfl|rfl|rfl|rfl|rfl|rfl|rfl|rfl|rfl
 .exact j4 (.lit (n % 4)) [([108,105,116],.sub (.lst (.cons (.str [120]) (.cons (.str [37]) (.cons (.str [36,60,53,62]) (.cons (.str [97,59]) .nil))))) (.bin .mod (.var 3) (.int 4)),.str (dU (n % 4)))] n4 rfl (ac rfl)
   (GH (m:=4) (.cons F0 (.cons F0 (.two F0 F0))) (ac rfl) rfl (by decide) (tX n4)) ⟨λ H=>GH (m:=4) (.cons F0 (.cons F0 (.two F0 F0))) (ac rfl) rfl (by decide) (tL n4),trivial⟩ D m q
 .refine aT (mC n3) λ w hw hw2=>?_
  have wl:w<10:=by rcases hw with rfl|rfl|rfl<;>exact ac rfl
  exact bj (GH (m:=3) (.cons FZ (.two FZ FZ)) (ac rfl) rfl (by decide) hw2 _ λ H4 m4x=>(j4 (.p w) [([112],.var 4,.int w)] hw rfl (ac rfl) (.of (F9 (x:=[37,112]) (y:=[48+w]) F0 (xB wl▸GJ (FY rfl) (lt_of_lt_of_le wl (ac rfl))) (ac rfl))) ⟨λ H=>.of (FY rfl),trivial⟩ (D.other m4x) (Ab m m4x) q))
 .have e7:∀ H,EV (.bin .mul (.var 3) (.int 7)) ⟨af S (k+2),β,X⟩ [some (.ref dk),some (.int d),some (.int (2:Nat)),some (.int n),none,none,none,none,none,none] H (.int (n*7:Nat)):=λ H=>F6 (u:=.int n) (w:=.int 7) (FY rfl) FZ λ Q q=>⟨⟨by decide,by decide⟩,Ec n▸q⟩
  have b7:n*7<=56:=mul_le_mul_right 7 (Nat.le_of_lt_succ hn)
  have fl2:(aE false 10 (n*7)).length<=2:=f9 (lt_of_le_of_lt b7 (ac rfl))
  exact j4 (.n (n*7)) [([110],.bin .mul (.var 3) (.int 7),.int (n*7:Nat))] b7 rfl (ac rfl) (.of (F9 (F9 F0 (GJ (e7 _) (lt_of_le_of_lt b7 (ac rfl))) (GK (add_le_add_left fl2 2) (ac rfl))) F0 (by refine sr GO ?_;exact GK (add_le_add_right (add_le_add_left fl2 2) 1) (ac rfl)))) ⟨λ H=>.of (e7 H),trivial⟩ D m q
 .exact aT (vX n3) λ c hc hc2=>(j4 (.q c) [([110],.bi .ord (.cons (.sub (.str [65,90,43]) (.bin .mod (.var 3) (.int 3))) .nil),.int c)] hc rfl (ac rfl) (.of (F9 (x:=[37,39]++[c]) (F9 F0 (GI (m:=3) rfl (by decide) (ac rfl) hc2) (ac rfl)) F0 (ac rfl))) ⟨λ H=>.of (EV.bi (.one (GI (m:=3) rfl (by decide) (ac rfl) hc2)) λ _ q=>q),trivial⟩ D m q)
 .refine aT (zv n2) λ c hc hc2=>?_
  have e:∀ H,EV (.sub (.str [97,65]) (.bin .mod (.var 3) (.int 2))) ⟨af S (k+2),β,X⟩ [some (.ref dk),some (.int d),some (.int (4:Nat)),some (.int n),none,none,none,none,none,none] H (.str [c]):=λ H=>GI (m:=2) rfl (by decide) (ac rfl) hc2
  exact j4 (.pg c) [([80],.sub (.str [97,65]) (.bin .mod (.var 3) (.int 2)),.str [c]),([103],.sub (.str [97,65]) (.bin .mod (.var 3) (.int 2)),.str [c])] hc rfl (ac rfl) (.of (F9 (x:=[37,80]++[c]++[37,103]) (F9 (F9 F0 (e _) (ac rfl)) F0 (ac rfl)) (e _) (ac rfl))) ⟨λ H=>.of (e H),λ H=>.of (e H),trivial⟩ D m q
 .refine aT (ur n4) λ c hc hc2=>?_
  have e:∀ H,EV (.sub (.str [97,65,98,66]) (.bin .mod (.var 3) (.int 4))) ⟨af S (k+2),β,X⟩ [some (.ref dk),some (.int d),some (.int (5:Nat)),some (.int n),none,none,none,none,none,none] H (.str [c]):=λ H=>GI (m:=4) rfl (by decide) (ac rfl) hc2
  exact j4 (.g c) [([103],.sub (.str [97,65,98,66]) (.bin .mod (.var 3) (.int 4)),.str [c])] hc rfl (ac rfl) (.of (F9 (x:=[37,103]) F0 (e _) (ac rfl))) ⟨λ H=>.of (e H),trivial⟩ D m q
 .exact j4 (.txt (n % 3)) [([116,101,120,116],.sub (.lst (.cons (.str [115]) (.cons (.str [108]) (.cons (.str []) .nil)))) (.bin .mod (.var 3) (.int 3)),.str (pG (n % 3)))] n3 rfl (ac rfl)
   (GH (m:=3) (.cons F0 (.two F0 F0)) (ac rfl) rfl (by decide) (uv n3)) ⟨λ H=>GH (m:=3) (.cons F0 (.two F0 F0)) (ac rfl) rfl (by decide) (uy n3),trivial⟩ D m q
 .exact j4 .inot [([105],.int 0,.int 0),([33],.int 0,.int 0)] trivial rfl (ac rfl) (.of F0) ⟨λ H=>.of FZ,λ H=>.of FZ,trivial⟩ D m q
 .by_cases hd:0<d
  .refine cU (big (by refine sr (GM hd) ?_;rfl)) (cL (ax (.two (FY rfl) (FY rfl)) ?_))
   refine h39 hd β X dk l H3 _ D λ t0 H4 b z ok hdep htx hcost D4 m4x=>?_
   obtain ⟨row,bl,el,bv,ev,e1,e2,e3,e4,e5⟩:=z
   refine ⟨_,e1,_,rfl,(a6 (dF (jD (FY rfl) (bI (gE (.one (FY rfl)) (ac rfl) λ rl nr=>⟨ac rfl,λ t nt=>?_⟩)))))⟩
   obtain ⟨h1,h2⟩:=aA nt
   have e1':((H4.set rl (.list [.ref row])).set t (.tup [.str (Px.iff b).text,.ref rl])) rl=some (.list [.ref row]):=by exact sr (F4 _ _ h2.symm) (F3 _ _ _)
   refine ⟨_,ct e1',?_⟩
   have mf:Mv H4 (((H4.set rl (.list [.ref row])).set t (.tup [.str (Px.iff b).text,.ref rl])).set rl (.flist [.ref row])) aQ:=((Ga nr).newR nt).putR' nr
   have fk:aH H4 (((H4.set rl (.list [.ref row])).set t (.tup [.str (Px.iff b).text,.ref rl])).set rl (.flist [.ref row])):=λ a ao _ e=>mf.keep _ _ e id
   refine q t _ (.iff b) ⟨⟨rl,[.ref row],?_,F3 _ _ _,?_⟩,ok,hdep,htx,hcost⟩ (D4.other mf) (Ab (sx m m4x) mf)
   .exact sr (F4 _ _ h2) (F3 _ _ _)
   .dsimp only [TAt]
    exact ⟨row,bl,el,bv,ev,rfl,fk.tup e2,fk.fl e3,fk.fl e4,BAt.keep fk b e5⟩
  .exact au (big (by refine sr (GN hd) ?_;rfl)) (l8 (w:=8) (L:=kG) (e:=lX) rfl λ N=>qO P D m q)
 .exact au (big rfl) (l8 (w:=9) (L:=kG) (e:=lX) rfl λ N=>j4 .inv [([126],.int 0,.int 0)] trivial rfl (ac rfl) (.of F0) ⟨λ H=>.of FZ,trivial⟩ D m q)
 .refine au (big rfl) (l8 (w:=10) (L:=kG) (e:=lX) rfl λ N=>bj (nG (ax .nil (EU P λ c1 n1=>ax (.two (FY rfl) FZ) (q7 P (many:=12) (D.other (Ga n1)) (ac rfl) λ w H2x hw D2 m2x=>?_)))))
  refine lC (v:=.str (cj w)) rfl (.inl (D.apart n1 (F3 _ _ _) m2x)) (ac rfl) (by refine sr getElem?_map (sr (List.getElem?_range hw) ?_);rfl) _ ?_
  exact j4 (.out w) [([111,117,116],.var 7,.str (cj w))] hw rfl (ac rfl) (.of (FY rfl)) ⟨λ H=>.of (FY rfl),trivial⟩ D2 (sx (Ab m (Ga n1)) m2x) q
 .exact au (big rfl) (l8 (w:=11) (L:=kG) (e:=lX) rfl λ N=>qO P D m q)
end
noncomputable def Ts.snoc:Ts->Px->Ts
 | .nil,t=>.cons t .nil
 | .cons x r,t=>.cons x (r.snoc t)
theorem lW (t:Px):∀ ts:Ts,(ts.snoc t).text=ts.text++t.text
 | .nil=>by simp [Ts.snoc,Ts.text]
 | .cons x r=>by simp only [Ts.snoc,Ts.text,lW t r,append_assoc]
theorem qQ (t:Px)(h:t.ok):∀ ts:Ts,ts.ok->(ts.snoc t).ok
 | .nil,_=>by exact ⟨h,trivial⟩
 | .cons x r,hr=>by dsimp only [Ts.ok] at hr ⊢;exact ⟨hr.1,qQ t h r hr.2⟩
theorem oy (t:Px)(n:Nat)(h:t.dep<=n):∀ ts:Ts,ts.dep<=n->(ts.snoc t).dep<=n
 | .nil,_=>by dsimp only [Ts.snoc,Ts.dep];have:(Ts.nil).dep=0:=rfl;lia
 | .cons x r,hr=>by
  dsimp only [Ts.snoc]
  dsimp only [Ts.dep] at hr ⊢
  have:=oy t n h r (by lia)
  lia
theorem ja (t:Px):∀ ts:Ts,(ts.snoc t).cost=ts.cost+t.cost
 | .nil=>by show t.cost+0=0+t.cost;lia
 | .cons x r=>by show x.cost+(r.snoc t).cost=x.cost+r.cost+t.cost;refine sr (ja t r) ?_;lia
theorem cw.snoc {H:AH}{t:Px}{b:List V}(hb:TAt H b t):∀ (ts:Ts) {vs:List V},cw H vs ts->cw H (vs++b) (ts.snoc t)
 | .nil,vs,h=>by
  subst h
  exact ⟨b,[],by simp,hb,by rfl⟩
 | .cons x r,vs,h=>by
  refine ln h λ p q e h1 h2=>?_
  exact ⟨p,q++b,by exact sr (e ..) (sr (append_assoc ..) rfl),h1,cw.snoc hb r h2⟩
section
variable {S:Sx}{X:Int->Prop}{β:Bool}{H:AH}{Q:V->AH->Prop}{dk l:Addr}
theorem bK.fk {H':AH}(D:bK H dk l)(m:Mv H H' (DD dk l)):aH H H':=λ a ao f e=>m.keep a ao e λ q=>by
 obtain ⟨⟨_,h1⟩,_,h2,_⟩:=D
 rcases q with rfl|rfl
 .rw [h1] at e;cases e;contradiction
 .rw [h2] at e;cases e;contradiction
structure dl (H:AH) (d most:Nat) (t:Addr) (ts:Ts):Prop where
 at_:Ax H t ts.text λ vs=>cw H vs ts
 ok:ts.ok
 dep:ts.dep<=2*d
 text:ts.text.length<=most*tb d
 cost:ts.cost<=most*cb d
def z8 (S:Sx)(d k:Nat):Prop:=∀ (β:Bool) (X:Int->Prop) (dk l:Addr) (most:Nat) (H:AH) (Q:V->AH->Prop),most<=5->bK H dk l ->
  (∀ t H' ts,dl H' d most t ts->bK H' dk l->Mv H H' (DD dk l)->Q (.ref t) H')->af S k β X 41 [.ref dk,.int most,.int d] H Q
def Ct (S:Sx)(d k:Nat):Prop:=∀ (β:Bool) (X:Int->Prop) (dk l:Addr) (H:AH) (Q:V->AH->Prop),bK H dk l ->
  (∀ t H' tr,ka H' d t tr->bK H' dk l->Mv H H' (DD dk l)->Q (.ref t) H')->af S k β X 40 [.ref dk,.int d] H Q
theorem jr {k d most:Nat}(h40:Ct S d (k+1))(hm:most<=5)(htb:most*tb d<=100000)(hcb:most*cb d<=100000){C:Cw}(hC:C=⟨af S (k+1),β,X⟩){u:V}{its:List It}{Rr:V->AH->Prop}{K:Ls->AH->Prop}(h0:bK H dk l) :
  ∀ (items:List It) (H1:AH) (c:Nat) (ts:Ts) (rl:Addr) (vs:List V) (x5 x6 x7:Option V),(∀ it∈items,∃ x,it=It.v x)->c+items.length<=most->bK H1 dk l->Mv H H1 (DD dk l)->H1 rl=some (.list vs)->rl≠l->H rl=none->cw H1 vs ts->ts.ok->ts.dep<=2*d->ts.text.length<=c*tb d->ts.cost<=c*cb d ->
  (∀ (ts':Ts) H' rl' vs' y5 y6 y7,bK H' dk l->Mv H H' (DD dk l)->H' rl'=some (.list vs')->rl'≠l->H rl'=none->cw H' vs' ts'->ts'.ok->ts'.dep<=2*d->ts'.text.length<=most*tb d->ts'.cost<=most*cb d->K [some (.ref dk),some (.int most),some (.int d),some (.str ts'.text),some (.ref rl'),y5,y6,y7] H') ->
  iL (ay .range u its) (.one 5) (λ ls' H' Kt=>xs w5 C.nox ls' H' Kt Rr) items [some (.ref dk),some (.int most),some (.int d),some (.str ts.text),some (.ref rl),x5,x6,x7] H1 K
 | [],H1,c,ts,rl,vs,x5,x6,x7,hi,hc,D,m,hrl,nl,hn0,hr,ok,dep,tx,cost,kk =>
  ⟨trivial,kk ts H1 rl vs x5 x6 x7 D m hrl nl hn0 hr ok dep (GK tx (mul_le_mul_right _ (by simp at hc;lia))) (GK cost (mul_le_mul_right _ (by simp at hc;lia)))⟩
 | it::items,H1,c,ts,rl,vs,x5,x6,x7,hi,hc,D,m,hrl,nl,hn0,hr,ok,dep,tx,cost,kk=>by
  obtain ⟨x,rfl⟩:=hi it (by simp)
  simp only [length_cons] at hc
  refine ⟨trivial,?_⟩
  subst hC
  refine cL (ax (.two (FY rfl) (FY rfl)) (h40 β _ dk l H1 _ D λ t H2x tr R D2 m2x=>?_))
  obtain ⟨rl2,vs2,e1,e2,e3⟩:=R.at_
  refine ⟨_,e1,_,rfl,?_⟩
  have m2':=m.trans m2x (D:=DD dk l) (λ _ h=>h) λ _ h=>.inl h
  have hrl2:H2x rl=some (.list vs):=m2x.keep _ _ hrl λ q=>by
   rcases q with rfl|rfl
   .obtain ⟨⟨_,h1⟩,_⟩:=D;rw [h1] at hrl;cases hrl
   .exact nl rfl
  have fk:=D.fk m2x
  have hr2:=cw.keep fk ts hr
  have lvs:=hr2.len ts
  have lvs2:vs2.length<=4*tr.cost:=by
   have:=(cw.snoc e3 .nil (vs:=[]) (by unfold cw;rfl)).len
   simp only [nil_append] at this
   have e:(Ts.snoc .nil tr).cost=tr.cost:=by refine sr (ja ..) ?_;show 0+_=_;lia
   rw [e] at this;exact this
  have c1:c*tb d<=most*tb d:=mul_le_mul_right _ (by lia)
  have c2:c*cb d<=most*cb d:=mul_le_mul_right _ (by lia)
  have c3:(c+1)*tb d=c*tb d+tb d:=by exact sr (add_mul ..) (sr (one_mul ..) rfl)
  have c4:(c+1)*cb d=c*cb d+cb d:=by exact sr (add_mul ..) (sr (one_mul ..) rfl)
  have c5:(c+1)*tb d<=most*tb d:=mul_le_mul_right _ (by lia)
  have c6:(c+1)*cb d<=most*cb d:=mul_le_mul_right _ (by lia)
  have t1:=R.text
  have t2:=R.cost
  refine cL (dF (jD (F9 (FY rfl) (FY rfl) (by lia)) (bI (fR (FY (v:=.ref rl) rfl _ (FY (v:=.ref rl2) rfl _ ⟨vs,vs2,.inl hrl2,.inr e2,by lia,λ rl3 n3=>⟨ac rfl,λ t3 nt3=>⟨_,F3 _ _ _,_,rfl,?_⟩⟩⟩))))))
  have mv:=(Ga (D:=aQ) (o:=.list (vs++vs2)) n3).newR (o:=.tup [.str (ts.text++tr.text),.ref rl3]) nt3
  have fk3:aH H2x ((H2x.set rl3 (.list (vs++vs2))).set t3 (.tup [.str (ts.text++tr.text),.ref rl3])):=λ a ao _ e=>mv.keep _ _ e id
  have hsn:=cw.keep fk3 _ (cw.snoc e3 ts hr2)
  have m3:=m2'.trans mv (D:=DD dk l) (λ _ h=>h) λ _ h=>h.elim
  have n3l:rl3≠l:=by
   obtain ⟨_,_,h2,_⟩:=D2
   rintro rfl;rw [h2] at n3;contradiction
  have n30:H rl3=none:=m2'.dom _ n3
  have et:ts.text++tr.text=(ts.snoc tr).text:=(lW tr ts).symm
  walk_at "eI"
  revert hsn m3
  have D3:=D2.other mv
  revert D3
  have hrl3:((H2x.set rl3 (.list (vs++vs2))).set t3 (.tup [.str (ts.text++tr.text),.ref rl3])) rl3=some (.list (vs++vs2)):=aq (F3 _ _ _) nt3
  revert hrl3
  generalize ((H2x.set rl3 (.list (vs++vs2))).set t3 (.tup [.str (ts.text++tr.text),.ref rl3]))=H3
  intro hrl3 D3 hsn m3
  refine sr et ?_
  exact jr (u:=u) (its:=its) (Rr:=Rr) h40 hm htb hcb rfl h0 items H3 (c+1) (ts.snoc tr) rl3 (vs++vs2) _ _ _ (λ it m=>hi it (by simp [m])) (by lia) D3 m3 hrl3 n3l n30 hsn (qQ tr R.ok ts ok) (oy tr _ R.dep ts dep) (by refine sl et (sr GO (sr c3 ?_));lia) (by refine sr (ja ..) (sr (c4 ..) ?_);lia) kk
theorem DB (P:Pk S){k d:Nat}(h40:Ct S d (k+1))(hd:d<=2):z8 S d (k+2):=by
 intro β X dk l most H Q hm D q
 have htb:tb d<=4220:=by
  have:d=0\/d=1\/d=2:=by lia
  rcases this with rfl|rfl|rfl<;>decide
 have hcb:cb d<=144:=by
  have:d=0\/d=1\/d=2:=by lia
  rcases this with rfl|rfl|rfl<;>decide
 have h1:most*tb d<=5*4220:=mul_le_mul hm htb
 have h2:most*cb d<=5*144:=mul_le_mul hm hcb
 refine af.weak (P.enter 40 rfl (.inl rfl) rfl nofun ?_)
 walk_at "eI"
 refine cL (dF (jD F0 (bI (gE .nil (ac rfl) λ rl nr=>⟨ac rfl,λ t0 n0=>⟨_,F3 _ _ _,_,rfl,?_⟩⟩))))
 have m0:=(Ga (D:=aQ) (o:=.list []) nr).newR (o:=.tup [.str [],.ref rl]) n0
 have D0:=D.other m0
 have hrl:((H.set rl (.list [])).set t0 (.tup [.str [],.ref rl])) rl=some (.list []):=aq (F3 _ _ _) n0
 have nl:rl≠l:=by
  obtain ⟨_,_,h2,_⟩:=D
  rintro rfl;rw [h2] at nr;contradiction
 refine pH (ax (vs:=[.ref dk,.int (most+1:Nat)]) (.two (FY rfl) (F6 (u:=.int most) (w:=.int 1) (FY rfl) FZ λ _ q=>q)) (q7 P (many:=most+1) D0 (succ_pos _) λ n H1 hn D1 m1x=>⟨_,⟨⟨by lia,by lia⟩,rfl⟩,?_⟩))
 have mm:=(m0.mono (D':=DD dk l) λ _ h=>h.elim).trans m1x (D:=DD dk l) (λ _ h=>h) λ _ h=>.inl h
 refine jr (H:=H) h40 hm (by lia) (by lia) rfl D _ H1 0 .nil rl [] none none none (λ it m=>?_) (by simp;lia) D1 mm (m1x.keep _ _ hrl λ q=>?_) nl nr (by rfl) (by trivial) (zero_le _) (by simp [Ts.text]) (zero_le _) λ ts H' rl' vs' y5 y6 y7 D' m' e1 e2 e20 e3 ok dep tx cost=>?_
 .refine aT (mem_map.mp m) λ j uz1 ez1=>?_;subst ez1;exact ⟨_,rfl⟩
 .rcases q with rfl|rfl
  .obtain ⟨⟨_,h1⟩,_⟩:=D;rw [h1] at nr;contradiction
  .exact nl rfl
 refine a6 (kJ (.two (FY rfl) (FY rfl)) (ac rfl) λ t nt=>?_)
 have e1':(H'.set t (.tup [.str ts.text,.ref rl'])) rl'=some (.list vs'):=aq e1 nt
 refine ⟨_,ct e1',?_⟩
 have fk:aH H' ((H'.set t (.tup [.str ts.text,.ref rl'])).set rl' (.flist vs')):=λ a ao f e=>by
  have na:a≠rl':=by rintro rfl;rw [e1] at e;cases e;contradiction
  exact sr (F4 _ _ na) (aq e nt)
 have ntr:t≠rl':=(aB e1 nt).symm
 have m2x:Mv H ((H'.set t (.tup [.str ts.text,.ref rl'])).set rl' (.flist vs')) (DD dk l):=(m'.newR nt).putR' e20
 have mD:Mv H' ((H'.set t (.tup [.str ts.text,.ref rl'])).set rl' (.flist vs')) (λ a=>a=rl'):=(Ga (D:=λ a=>a=rl') (o:=.tup [.str ts.text,.ref rl']) nt).putR rfl
 have ndk:dk≠rl':=by
  obtain ⟨⟨_,a1⟩,_⟩:=D'
  rintro rfl;rw [a1] at e1;cases e1
 exact q t _ ts ⟨⟨rl',vs',by refine sr (F4 _ _ ntr) ?_;exact F3 _ _ _,F3 _ _ _,cw.keep fk ts e3⟩,ok,dep,tx,cost⟩ (D'.keep mD ndk e2.symm) m2x
end
inductive dh (R:V->Ts×Ts->Prop):List V->List (Ts×Ts)->Prop where
 | nil:dh R [] []
 | cons {v p vs ps}:R v p->dh R vs ps->dh R (v::vs) (p::ps)
theorem dh.snoc {R:V->Ts×Ts->Prop}{v p}(h:R v p){vs ps}(a:dh R vs ps):dh R (vs++[v]) (ps++[p]):=by
 induction a with
 | nil=>exact .cons h .nil
 | cons a _ ih=>exact .cons a ih
theorem dh.imp {R R':V->Ts×Ts->Prop}(h:∀ v p,R v p->R' v p){vs ps}(a:dh R vs ps):dh R' vs ps:=by
 induction a with
 | nil=>exact .nil
 | cons a _ ih=>exact .cons (h _ _ a) ih
theorem dh.len {R:V->Ts×Ts->Prop}{vs ps}(a:dh R vs ps):vs.length=ps.length:=by
 induction a with
 | nil=>rfl
 | cons _ _ ih=>exact congrArg Nat.succ ih
theorem dh.all {R:V->Ts×Ts->Prop}{G:Ts×Ts->Prop}(h:∀ v p,R v p->G p){vs ps}(a:dh R vs ps):∀ p∈ps,G p:=by
 induction a with
 | nil=>exact λ _ m=>(not_mem_nil m).elim
 | cons a _ ih=>exact λ p m=>(mem_cons.mp m).elim (λ e=>e▸h _ _ a) (ih p)
noncomputable def iO:Ts×Ts->List (Ts×Ts)->Option Ts->Bs
 | p,[],none=>.last p.1 p.2
 | p,[],some e=>.lastE p.1 p.2 e
 | p,q::r,o=>.more p.1 p.2 (iO q r o)
noncomputable def iT:Nat->List (Ts×Ts)->List Nat
 | _,[]=>[]
 | k,p::r=>(if 0<k then [37,101] else [])++(p.1.text++([37,116]++(p.2.text++iT (k+1) r)))
noncomputable def kt:Option Ts->List Nat
 | none=>[]
 | some e=>[37,101]++e.text
theorem o4 (o:Option Ts):∀ (r:List (Ts×Ts)) (p:Ts×Ts) (k:Nat),(if 0<k then [37,101] else [])++(iO p r o).text=iT k (p::r)++kt o++[37,59]
 | [],p,k=>by cases o<;>simp [iO,Bs.text,iT,kt]
 | q::r,p,k=>by
  have:=o4 o r q (k+1)
  rw [if_pos (succ_pos k)] at this
  show _++(p.1.text++[37,116]++p.2.text++[37,101]++(iO q r o).text)=(_++(p.1.text++([37,116]++(p.2.text++iT (k+1) (q::r)))))++kt o++[37,59]
  simp only [append_assoc] at this ⊢
  exact sr this rfl
structure Gp (d:Nat) (ts:Ts):Prop where
 ok:ts.ok
 dep:ts.dep<=2*d
 text:ts.text.length<=2*tb d
 cost:ts.cost<=2*cb d
def AB (d:Nat)(p:Ts×Ts):Prop:=Gp d p.1/\Gp d p.2
theorem uk {d:Nat}(o:Option Ts)(ho:∀ e,o=some e->Gp d e):∀ (r:List (Ts×Ts)) (p:Ts×Ts),AB d p->(∀ q∈r,AB d q)->(iO p r o).ok/\(iO p r o).dep<=2*d/\(iO p r o).cost<=(r.length+1)*(4*cb d+1)+2*cb d
 | [],p,hp,hr=>by
  have:=hp.1.dep;have:=hp.2.dep;have:=hp.1.cost;have:=hp.2.cost
  induction o with
  | none =>
   refine ⟨?_,?_,?_⟩
   .exact ⟨hp.1.ok,hp.2.ok⟩
   .dsimp only [iO,Bs.dep];lia
   .dsimp only [iO,Bs.cost];simp;lia
  | some e =>
   have he:=ho e rfl
   have:=he.dep;have:=he.cost
   refine ⟨?_,?_,?_⟩
   .exact ⟨hp.1.ok,hp.2.ok,he.ok⟩
   .dsimp only [iO,Bs.dep];lia
   .dsimp only [iO,Bs.cost];simp;lia
 | q::r,p,hp,hr=>by
  have:=hp.1.dep;have:=hp.2.dep;have:=hp.1.cost;have:=hp.2.cost
  refine bc λ zz=>mL (uk o ho r q (hr q (by simp)) λ x m=>hr x (by simp [m])) λ h1 h2 h3=>zz ⟨?_,?_,?_⟩
  .exact ⟨hp.1.ok,hp.2.ok,h1⟩
  .dsimp only [iO,Bs.dep];lia
  .dsimp only [iO,Bs.cost]
   refine sr (add_mul (r.length+1) 1 ..) ?_
   lia
theorem oP {d:Nat}:∀ (r:List (Ts×Ts)) (k:Nat),(∀ q∈r,AB d q)->(iT k r).length<=r.length*(4*tb d+4)
 | [],k,_=>by simp [iT]
 | p::r,k,h=>by
  have h1:=h p (by simp)
  have h2:=oP r (k+1) λ x m=>h x (by simp [m])
  have:=h1.1.text;have:=h1.2.text
  simp only [iT,GO,length_cons,length_nil]
  refine sr (add_mul r.length 1 ..) ?_
  have:(if 0<k then [37,101] else []:List Nat).length<=2:=by split<;>simp
  lia
section
variable {S:Sx}{X:Int->Prop}{β:Bool}{H:AH}{Q:V->AH->Prop}{dk l:Addr}
inductive Br (H:AH) (d:Nat) (v:V) (p:Ts×Ts):Prop
 | mk (t a b:Addr) (e:v=.ref t) (f:H t=some (.tup [.ref a,.ref b])) (g:dl H d 2 a p.1) (h:dl H d 2 b p.2)
theorem dl.keep {H H':AH}{d m:Nat}{t:Addr}{ts:Ts}(R:dl H d m t ts)(fk:aH H H'):dl H' d m t ts:=by
 obtain ⟨rl,vs,e1,e2,e3⟩:=R.at_
 exact ⟨⟨rl,vs,fk.tup e1,fk.fl e2,cw.keep fk ts e3⟩,R.ok,R.dep,R.text,R.cost⟩
theorem dl.gp {H:AH}{d:Nat}{t:Addr}{ts:Ts}(R:dl H d 2 t ts):Gp d ts:=⟨R.ok,R.dep,R.text,R.cost⟩
theorem Br.keep {H H':AH}{d:Nat}{v:V}{p:Ts×Ts}(h:Br H d v p)(fk:aH H H'):Br H' d v p:=by
 obtain ⟨t,a,b,e,h1,h2,h3⟩:=h
 exact ⟨t,a,b,e,fk.tup h1,h2.keep fk,h3.keep fk⟩
theorem Br.gpp {H:AH}{d:Nat}{v:V}{p:Ts×Ts}(h:Br H d v p):AB d p:=by
 obtain ⟨t,a,b,e,h1,h2,h3⟩:=h
 exact ⟨h2.gp,h3.gp⟩
theorem oa (d:Nat):(((d+1:Nat):Int)-1)=(d:Int):=by lia
theorem tz {k d:Nat}(h41:z8 S d k){u:V}{its:List It}{K:List V->AH->Prop} :
  ∀ (items:List It) (H1:AH) (acc:List V) (ps:List (Ts×Ts)) (x0 x1 x2:Option V),(∀ it∈items,∃ x,it=It.v x)->bK H1 dk l->Mv H H1 (DD dk l)->dh (Br H1 d) acc ps ->
  (∀ H' vs ps',bK H' dk l->Mv H H' (DD dk l)->dh (Br H' d) vs ps'->vs.length=acc.length+items.length->K vs H') ->
  d6 (ay .range u its) (.one 1) (λ ls' H' K=>xe xG (Cw.low ⟨af S k,β,X⟩) ls' H' K) items [x0,x1,x2,some (.ref dk),some (.int ((d+1:Nat):Int))] acc H1 K
 | [],H1,acc,ps,x0,x1,x2,hi,D,m,ha,kk=>⟨trivial,kk H1 acc ps D m ha (by simp)⟩
 | it::items,H1,acc,ps,x0,x1,x2,hi,D,m,ha,kk=>by
  obtain ⟨x,rfl⟩:=hi it (by simp)
  refine ⟨trivial,?_⟩
  show xe _ _ [x0,some x,x2,some (.ref dk),some (.int ((d+1:Nat):Int))] H1 _
  have ar:∀ H,AV (.cons (.var 3) (.cons (.int 2) (.cons (.bin .sub (.var 4) (.int 1)) .nil))) (Cw.low ⟨af S k,β,X⟩) [x0,some x,x2,some (.ref dk),some (.int ((d+1:Nat):Int))] H [.ref dk,.int (2:Nat),.int d]:=λ H=>.cons (FY rfl) (.two FZ (F6 (u:=.int (d+1:Nat)) (w:=.int 1) (FY rfl) FZ λ Q q=>by show Q (.int (((d+1:Nat):Int)-1)) H;refine sr (oa ..) ?_;exact q))
  refine dF (nE (ax (ar _) (h41 _ _ dk l 2 H1 _ (ac rfl) D λ t1 H2x ts1 R1 D2 m2x=>bI (ax (ar _) (h41 _ _ dk l 2 H2x _ (ac rfl) D2 λ t2 H3 ts2 R2 D3 m3x=>⟨ac rfl,λ t nt=>?_⟩)))))
  have mm:=(m.trans m2x (D:=DD dk l) (λ _ h=>h) λ _ h=>.inl h).trans m3x (D:=DD dk l) (λ _ h=>h) λ _ h=>.inl h
  have mv:=Ga (D:=aQ) (o:=.tup [.ref t1,.ref t2]) nt
  have fk3:=D2.fk m3x
  have fkn:aH H3 (H3.set t (.tup [.ref t1,.ref t2])):=aH.new nt
  have fka:=((D.fk m2x).trans fk3).trans fkn
  refine tz h41 items _ (acc++[.ref t]) (ps++[(ts1,ts2)]) _ _ _ (λ it m=>hi it (by simp [m])) (D3.other mv) (mm.trans mv (λ _ h=>h) λ _ h=>h.elim) ?_ λ H' vs ps' a b c e=>kk H' vs ps' a b c (by refine sr e ?_;simp;lia)
  exact (ha.imp λ v p h=>h.keep fka).snoc ⟨t,t1,t2,rfl,F3 _ _ _,(R1.keep fk3).keep fkn,R2.keep fkn⟩
theorem tu {C:Cw}{d:Nat}{y0 y1 y3:Option V}{Lr:Addr}{all:List V}{its:List It}{Rr:V->AH->Prop}{K:Ls->AH->Prop}(hL:H Lr=some (.list all))(he:its=bM 0 all)(htb:tb d<=10000) :
  ∀ (vs:List V) (ps:List (Ts×Ts)) (k:Nat) (T:List Nat) (x5 x6 x7:Option V),dh (Br H d) vs ps->T.length+ps.length*(4*tb d+4)<=1000000 ->
  (∀ z5 z6 z7,K [y0,y1,some (.ref Lr),y3,some (.str (T++iT k ps)),z5,z6,z7] H) ->
  iL (ay .enum (.ref Lr) its) (.three 5 6 7) (λ ls' H' Kt=>xs rm C ls' H' Kt Rr) (bM k vs) [y0,y1,some (.ref Lr),y3,some (.str T),x5,x6,x7] H K:=by
 intro vs ps k T x5 x6 x7 hA hb kk
 induction hA generalizing k T x5 x6 x7 with
 | nil=>exact ⟨⟨all,.inl hL,he⟩,by simpa [iT] using kk x5 x6 x7⟩
 | @cons v p vs ps h hr ih =>
  have gp:=h.gpp
  obtain ⟨t,a,b,rfl,h1,h2,h3⟩:=h
  obtain ⟨rl1,vs1,e1,_⟩:=h2.at_
  obtain ⟨rl2,vs2,e2,_⟩:=h3.at_
  refine ⟨⟨all,.inl hL,he⟩,_,_,h1,?_⟩
  show xs rm _ [y0,y1,some (.ref Lr),y3,some (.str T),some (.int (k:Int)),some (.ref a),some (.ref b)] H _ _
  have:=gp.1.text;have:=gp.2.text
  simp only [length_cons,add_mul,one_mul] at hb
  have hl:(if 0<k then [37,101] else []:List Nat).length<=2:=by split<;>simp
  have ite:EV (.ite (.cmp .gt (.var 5) (.int 0)) (.str [37,101]) (.str [])) C [y0,y1,some (.ref Lr),y3,some (.str T),some (.int (k:Int)),some (.ref a),some (.ref b)] H (.str (if 0<k then [37,101] else [])):=by
   by_cases hk:0<k
   .exact sr (if_pos hk) (Gq (F7 (FY rfl) FZ (fm (x:=k) (y:=0) rfl rfl (GM hk))) F0)
   .exact sr (if_neg hk) (Gr (F7 (FY rfl) FZ (fm (x:=k) (y:=0) rfl rfl (GN hk))) F0)
  refine aM (v:=.str (T++(if 0<k then [37,101] else [])++p.1.text++[37,116]++p.2.text)) (F9 (F9 (F9 (F9 (FY rfl) ite (by lia)) (F5 (FY rfl) FZ (i1 (x:=0) rfl e1 (ac rfl) rfl)) (by refine sr GO ?_;lia)) F0 (by simp only [GO,length_cons,length_nil];lia)) (F5 (FY rfl) FZ (i1 (x:=0) rfl e2 (ac rfl) rfl)) (by simp only [GO,length_cons,length_nil];lia)) ?_
  refine ih (k+1) _ _ _ _ (by simp only [GO,length_cons,length_nil];lia) λ z5 z6 z7=>?_
  have:=kk z5 z6 z7
  simpa [iT] using this
end
inductive Bv (H:AH) (v:V) (p:Ts×Ts):Prop
 | mk (t a c:Addr) (na fa:List V) (e:v=.ref t) (f:H t=some (.tup [.ref a,.ref c])) (g:H a=some (.flist na)) (i:H c=some (.flist fa)) (j:cw H na p.1) (k:cw H fa p.2)
theorem Bv.keep {H H':AH}{v:V}{p:Ts×Ts}(h:Bv H v p)(fk:aH H H'):Bv H' v p:=by
 obtain ⟨t,a,c,na,fa,e,h1,h2,h3,h4,h5⟩:=h
 exact ⟨t,a,c,na,fa,e,fk.tup h1,fk.fl h2,fk.fl h3,cw.keep fk _ h4,cw.keep fk _ h5⟩
noncomputable def Al (H:AH)(ev:List V):Option Ts->Prop
 | none=>ev=[]
 | some e=>cw H ev e
theorem Al.keep {H H':AH}(fk:aH H H'){ev:List V}:∀ {o:Option Ts},Al H ev o->Al H' ev o
 | none,h=>h
 | some e,h=>cw.keep fk e h
theorem pC {H:AH}{ev:List V}{o:Option Ts}(ho:Al H ev o):∀ (ps:List (Ts×Ts)) (p:Ts×Ts) (v:V) (vs:List V),dh (Bv H) (v::vs) (p::ps)->BAt H (v::vs) ev (iO p ps o)
 | [],p,v,vs,h=>by
  cases h with
  | cons hb hr =>
  cases hr
  obtain ⟨t,a,c,na,fa,e,h1,h2,h3,h4,h5⟩:=hb
  subst e
  induction o with
  | none=>dsimp only [iO,BAt];exact ⟨t,a,c,na,fa,rfl,h1,h2,h3,h4,h5,ho⟩
  | some x=>dsimp only [iO,BAt];exact ⟨t,a,c,na,fa,rfl,h1,h2,h3,h4,h5,ho⟩
 | q::ps,p,v,vs,h=>by
  cases h with
  | cons hb hr =>
  obtain ⟨t,a,c,na,fa,e,h1,h2,h3,h4,h5⟩:=hb
  subst e
  cases hr with
  | cons hb' hr' =>
  exact ⟨_,t,a,c,na,fa,rfl,h1,h2,h3,h4,h5,pC ho ps q _ _ (.cons hb' hr')⟩
section
variable {S:Sx}{X:Int->Prop}{β:Bool}{H:AH}{Q:V->AH->Prop}{dk l:Addr}
theorem xy {k d:Nat}{Lr:Addr}{all:List V}{K:List V->AH->Prop} :
  ∀ (vs:List V) (ps qs:List (Ts×Ts)) (H1:AH) (acc:List V) (x0 x1 x2:Option V),H1 Lr=some (.list all)->Mv H H1 aQ->dh (Br H1 d) vs ps->dh (Bv H1) acc qs ->
  (∀ H' bs,Mv H H' aQ->dh (Bv H') bs (qs++ps)->K bs H') ->
  d6 (ay .list (.ref Lr) (all.map It.v)) (.two 1 2) (λ ls' H' K=>xe Aw (Cw.low ⟨af S k,β,X⟩) ls' H' K) (vs.map It.v) [x0,x1,x2] acc H1 K
 | _,_,qs,H1,acc,x0,x1,x2,hL,m,.nil,ha,kk=>⟨⟨all,.inl hL,rfl⟩,kk _ _ m (by simpa using ha)⟩
 | _,_,qs,H1,acc,x0,x1,x2,hL,m,.cons (v:=v) (p:=p) (vs:=vs) (ps:=ps) h hr,ha,kk=>by
  obtain ⟨t,a,b,rfl,h1,h2,h3⟩:=h
  obtain ⟨rl1,vs1,e1,e2,e3⟩:=h2.at_
  obtain ⟨rl2,vs2,f1,f2,f3⟩:=h3.at_
  refine ⟨⟨all,.inl hL,rfl⟩,_,_,h1,(kJ (.two (F5 (FY (v:=.ref a) rfl) FZ (i1 (x:=1) rfl e1 (ac rfl) rfl)) (F5 (FY (v:=.ref b) rfl) FZ (i1 (x:=1) rfl f1 (ac rfl) rfl))) (ac rfl) λ c nc=>?_)⟩
  have fk:aH H1 (H1.set c (.tup [.ref rl1,.ref rl2])):=aH.new nc
  refine xy (k:=k) vs ps (qs++[p]) _ _ _ _ _ (aq hL nc) (m.newR nc) (hr.imp λ v p h=>h.keep fk) ((ha.imp λ v p h=>h.keep fk).snoc ⟨c,rl1,rl2,vs1,vs2,rfl,F3 _ _ _,fk.fl e2,fk.fl f2,cw.keep fk _ e3,cw.keep fk _ f3⟩) λ H' bs m' hb=>kk H' bs m' (by simpa using hb)
theorem pO {H H1 H2x:AH}(x:dI H H1)(y:dI H1 H2x):dI H H2x:=λ b ao g=>by
 rcases y b ao g with h|⟨vs,rfl,h⟩
 .exact x b ao h
 .rcases x b _ h with h|⟨vs',e,h⟩
  .exact .inr ⟨vs,rfl,h⟩
  .contradiction
noncomputable def Cm (H:AH)(d:Nat)(v:V):Option Ts->Prop
 | none=>v=.none
 | some e=>∃ t,v=.ref t/\dl H d 2 t e
structure CI (d:Nat) (b:Bs):Prop where
 ok:b.ok
 dep:(Px.iff b).dep<=2*(d+1)
 text:(Px.iff b).text.length<=tb (d+1)
 cost:(Px.iff b).cost<=cb (d+1)
def EE (H:AH)(dk l:Addr)(d:Nat)(Q:V->AH->Prop)(b:Bs):Prop:=∀ t H',AM H' t b->CI d b->bK H' dk l->Mv H H' aQ->Q (.ref t) H'
theorem BW {d:Nat}(h:d<=1):tb d<=420/\tb (d+1)<=4220:=(by decide:∀ d<2,tb d<=420/\tb (d+1)<=4220) d (Nat.lt_succ_of_le h)
theorem rH {d:Nat}{o:Option Ts}(h:∀ e,o=some e->Gp d e):(kt o).length<=2*tb d+2:=by
 induction o with
 | none=>exact zero_le _
 | some e=>exact add_le_add_right (h e rfl).text 2
theorem nC {p:Ts×Ts}{ps:List (Ts×Ts)}{o:Option Ts}:(Px.iff (iO p ps o)).text=([37,63]++iT 0 (p::ps))++kt o++[37,59]:=congrArg (λ x=>37::63::x) (o4 o ps p 0)
theorem Fg {d:Nat}{p:Ts×Ts}{ps:List (Ts×Ts)}{o:Option Ts}(hG:∀ q∈p::ps,AB d q)(hO:∀ e,o=some e->Gp d e)(hps:ps.length<=1):CI d (iO p ps o):=by
 have g:=uk o hO ps p (hG p mem_cons_self) λ q m=>hG q (mem_cons_of_mem _ m)
 have h1:=GK (oP (p::ps) 0 hG) (mul_le_mul_right _ (succ_le_succ hps))
 have h2:=rH hO
 have h3:=GK g.2.2 (add_le_add_right (mul_le_mul_right _ (succ_le_succ hps)) _)
 refine ⟨g.1,add_le_add_right g.2.1 2,?_,?_⟩
 .refine sr nC (sr GO (sr GO ?_))
  show (iT 0 (p::ps)).length+2+(kt o).length+2<=10*tb d+20
  clear g h3 hG hO;lia
 .show (iO p ps o).cost+1<=10*cb d+4
  clear g h1 h2 hG hO;lia
theorem AQ {C:Cw}{ls:Ls}{e i j:E}{x y z:List Nat}(he:EV e C ls H (.str x))(hi:EV i C ls H (.str y))(hj:EV j C ls H (.str z))(h:(x++y++z).length<=16777216):EV (.bin .add (.bin .add e i) j) C ls H (.str (x++y++z)) :=
 F9 (F9 he hi (GO▸GK (le_add_right _ _) (GO▸h))) hj (GO▸h)
theorem wK {C:Cw}{ls:Ls}{d:Nat}{ov:V}{o:Option Ts}(h3:lget ls 3=some ov)(ho:Cm H d ov o)(htb:tb d<=420)(hO:∀ e,o=some e->Gp d e):EV (.ite (.notN (.var 3)) (.bin .add (.str [37,101]) (.sub (.var 3) (.int 0))) (.str [])) C ls H (.str (kt o)):=by
 induction o with
 | none=>subst ho;exact Gr (TV.notN (FY h3) rfl) F0
 | some e =>
  obtain ⟨t,rfl,h⟩:=ho
  obtain ⟨rl,vs1,e1,e2,e3⟩:=h.at_
  exact Gq (TV.notN (FY h3) rfl) (F9 F0 (F5 (FY h3) FZ (i1 (x:=0) rfl e1 (ac rfl) rfl)) (GK (add_le_add_left (GK (hO e rfl).text (mul_le_mul_left 2 htb)) 2) (ac rfl)))
theorem vc {C:Cw}{ls:Ls}{d:Nat}{ov:V}{o:Option Ts}{H1:AH}(h3:lget ls 3=some ov)(ho:Cm H d ov o)(m:Mv H H1 aQ)(q:∀ el ev H2x,Mv H1 H2x aQ->Al H2x ev o->(H2x el=some (.flist ev)/\H el=some (.flist ev))\/H1 el=none/\H2x el=some (.list ev)->Q (.ref el) H2x):xe (.ite (.notN (.var 3)) (.sub (.var 3) (.int 1)) (.lst .nil)) C ls H1 Q:=by
 induction o with
 | none=>subst ho;exact ix (TV.notN (FY h3) rfl) (gE .nil (ac rfl) λ el nel=>q el [] _ (Ga nel) rfl (.inr ⟨nel,F3 _ _ _⟩))
 | some e =>
  obtain ⟨t,rfl,h⟩:=ho
  obtain ⟨rl,vs1,e1,e2,e3⟩:=h.at_
  exact gb (TV.notN (FY h3) rfl) (F5 (FY h3) FZ (i1 (x:=1) rfl (m.keep _ _ e1 id) (ac rfl) rfl) _ (q rl vs1 H1 Mv.refl (cw.keep (λ a ao f g=>m.keep _ _ g id) e e3) (.inl ⟨m.keep _ _ e2 id,e2⟩)))
theorem BZ {H4:AH}{a:Addr}{x:List V}(e:H4 a=some (.list x)):aH H4 (H4.set a (.flist x)):=λ b ao f g=>by
 have:b≠a:=λ h=>by rw [h,e] at g;cases g;contradiction
 exact sr (F4 _ _ this) g
theorem Bw {d:Nat}{o:Option Ts}{p:Ts×Ts}{ps:List (Ts×Ts)}{b:V}{bs ev:List V}{bl el r t:Addr}{H3:AH}(gB:CI d (iO p ps o))(D:bK H dk l)(q:EE H dk l d Q (iO p ps o))(ma:Mv H H3 aQ)(nb:H bl=none)(k1:H3 bl=some (.list (b::bs)))
  (k2:H3 r=some (.tup [.str [105,102],.ref bl,.ref el])) (k3:H3 t=some (.tup [.str (Px.iff (iO p ps o)).text,.ref r])) (k4:(H3 el=some (.flist ev)/\H el=some (.flist ev))\/bl≠el/\H el=none/\H3 el=some (.list ev)) (hB:dh (Bv H3) (b::bs) (p::ps)) (hE:Al H3 ev o) :
  ∃ H'',dI H3 H''/\Q (.ref t) H'':=by
 have mb:=ma.putR' (o:=.flist (b::bs)) nb
 have fkb:=BZ k1
 have hB2:=hB.imp λ v p h=>h.keep fkb
 have hE2:=hE.keep fkb
 rcases k4 with k4|k4
 .exact ⟨_,ct k1,q t _ ⟨r,bl,el,_,ev,fkb.tup k3,fkb.tup k2,F3 _ _ _,fkb.fl k4.1,pC hE2 ps p b bs hB2⟩ gB (D.other mb) mb⟩
 .have k5:(H3.set bl (.flist (b::bs))) el=some (.list ev):=sr (F4 _ _ k4.1.symm) k4.2.2
  have mc:=mb.putR' (o:=.flist ev) k4.2.1
  have fkc:=BZ k5
  exact ⟨_,pO (ct k1) (ct k5),q t _ ⟨r,bl,el,_,ev,fkc.tup (fkb.tup k3),fkc.tup (fkb.tup k2),fkc.fl (F3 _ _ _),F3 _ _ _,pC (hE2.keep fkc) ps p b bs (hB2.imp λ v p h=>h.keep fkc)⟩ gB (D.other mc) mc⟩
theorem Bx {k d:Nat}(hd:d<=1){Lr:Addr}{vs:List V}{p:Ts×Ts}{ps:List (Ts×Ts)}{ov:V}{o:Option Ts}{z5 z6 z7:Option V}{y1:Option V}(D:bK H dk l)(hL:H Lr=some (.list vs))(hv:dh (Br H d) vs (p::ps))(hps:ps.length<=1)(ho:Cm H d ov o)(q:EE H dk l d Q (iO p ps o)) :
  xs uG ⟨af S k,β,X⟩ [some (.ref dk),y1,some (.ref Lr),some ov,some (.str ([37,63]++iT 0 (p::ps))),z5,z6,z7] H (λ _ H'=>∃ H'',dI H' H''/\Q .none H'') λ u H'=>∃ H'',dI H' H''/\Q u H'':=by
 have hO:∀ e,o=some e->Gp d e:=λ e he=>by
  subst he
  obtain ⟨t,_,h⟩:=ho
  exact h.gp
 have gB:=Fg (hv.all λ v p h=>h.gpp) hO hps
 have ht:=BW hd
 refine aM (v:=.str (Px.iff (iO p ps o)).text) (sr nC (AQ (FY rfl) (wK rfl ho ht.1 hO) F0 (nC▸GK gB.text (GK ht.2 (ac rfl))))) (a6 (dF (jD (FY rfl) (bI (dF (jD F0 (nE (iR (FY rfl) ⟨vs,.inl hL,?_,rfl⟩ ?_))))))))
 .exact sr hv.len (GK (succ_le_succ hps) (ac rfl))
 show d6 _ _ _ _ [none,none,none] [] H _
 refine xy vs (p::ps) [] H [] none none none hL Mv.refl hv .nil λ H1 bs m1x hb=>⟨sr hb.len (GK (succ_le_succ hps) (ac rfl)),λ bl nbl=>?_⟩
 have mbl:=m1x.newR (o:=.list bs) nbl
 refine bI (vc rfl ho mbl λ el ev H2x m2x hE he=>⟨ac rfl,λ r hr=>⟨ac rfl,λ t ht=>?_⟩⟩)
 have nb:H bl=none:=m1x.dom _ nbl
 have kb:H2x bl=some (.list bs):=m2x.keep _ _ (F3 _ _ _) id
 have ma:=(((mbl.trans m2x (λ _ h=>h) λ _ h=>.inl h).newR (o:=.tup [.str [105,102],.ref bl,.ref el]) hr).newR (o:=.tup [.str (Px.iff (iO p ps o)).text,.ref r]) ht)
 have fk:aH H1 ((H2x.set r (.tup [.str [105,102],.ref bl,.ref el])).set t (.tup [.str (Px.iff (iO p ps o)).text,.ref r])):=(((aH.new nbl).trans λ a ao f g=>m2x.keep _ _ g id).trans (aH.new hr)).trans (aH.new ht)
 have hB:dh (Bv ((H2x.set r (.tup [.str [105,102],.ref bl,.ref el])).set t (.tup [.str (Px.iff (iO p ps o)).text,.ref r]))) bs (p::ps):=hb.imp λ v p h=>h.keep fk
 cases bs with
 | nil=>contradiction
 | cons b bs =>
 refine Bw gB D q ma nb (aq (aq kb hr) ht) (aq (F3 _ _ _) ht) (F3 _ _ _) (he.imp (λ h=>⟨aq (aq h.1 hr) ht,h.2⟩) λ h=>⟨?_,mbl.dom _ h.1,aq (aq h.2 hr) ht⟩) hB (hE.keep ((aH.new hr).trans (aH.new ht)))
 rintro rfl
 have:=h.1
 rw [F3] at this;contradiction
end
section
variable {S:Sx}
theorem qJ {C:Cw}{ls:Ls}{H:AH}{Q:V->AH->Prop}{src:Src}{tg:Tg}{n:Nat}{caps:List (Nat×Nat)}{elt e:E}(h:xe e C.low ls H λ u H1=>∃ items,cF src u H1 items /\
  d6 (ay src u items) tg (λ ls' H' K=>xe elt C.low ls' H' K) items (dc ls caps (replicate n none)) [] H1 λ vs H2x=>vs.length<=16777216/\∀ c,H2x c=none->Q (.ref c) (H2x.set c (.list vs))):xe (.comp src tg n caps elt e) C ls H Q:=h
theorem zM {C:Cw}{ls:Ls}{H:AH}{Q:V->AH->Prop}{o:CO}{e a b:E}{m:Int}(h:xe e C ls H λ u H1=>cmp o u (.int m) H1 λ t=>(t=true->xe a C ls H1 Q)/\(t=false->xe b C ls H1 Q)):xe (.ite (.cmp o e (.int m)) a b) C ls H Q:=h
theorem EK (P:Pk S){k d:Nat}(h41:z8 S d (k+1))(hd:d<=1):B7 S (d+1) (k+2):=by
 intro β X dk l H Q D q
 have htb:tb d<=420:=by
  have:d=0\/d=1:=by lia
  rcases this with rfl|rfl<;>decide
 refine af.weak (P.enter 38 rfl (.inl rfl) rfl nofun ?_)
 walk_at "eI"
 delta Cb
 refine bj (qJ (fR (FZ _ (ax (.two (FY rfl) FZ) (q7 P (many:=2) D (ac rfl) λ n H1 hn D1 m1x=>⟨_,⟨⟨by lia,by lia⟩,rfl⟩,?_⟩)))))
 show d6 _ _ _ _ [none,none,none,some (.ref dk),some (.int ((d+1:Nat):Int))] [] H1 _
 refine tz (H:=H) (k:=k+1) (d:=d) h41 _ H1 [] [] none none none (λ it m=>?_) D1 m1x .nil λ H2x vs ps D2 m2x hv hl=>?_
 .refine aT (mem_map.mp m) λ j uz1 ez1=>?_;subst ez1;exact ⟨_,rfl⟩
 have hl':vs.length=n+1:=by refine sr hl ?_;simp;lia
 refine ⟨by lia,λ Lr nL=>?_⟩
 have hL:(H2x.set Lr (.list vs)) Lr=some (.list vs):=F3 _ _ _
 have mv:=Ga (D:=aQ) (o:=.list vs) nL
 have m3x:=m2x.trans mv (D:=DD dk l) (λ _ h=>h) λ _ h=>h.elim
 have D3:=D2.other mv
 have hv3:=hv.imp λ v p h=>h.keep (aH.new nL (o:=.list vs))
 have nD:¬ DD dk l Lr:=λ h=>by
  obtain ⟨⟨_,a1⟩,_,a2,_⟩:=D2
  rcases h with rfl|rfl
  .rw [a1] at nL;contradiction
  .rw [a2] at nL;contradiction
 revert hL m3x D3 hv3
 generalize (H2x.set Lr (.list vs))=H3
 intro hL m3x D3 hv3
 obtain ⟨p,ps',rfl⟩:∃ p ps',ps=p::ps':=by
  induction hv with
  | nil=>simp at hl'
  | cons a b=>exact ⟨_,_,rfl⟩
 have hvl:=hv.len
 simp only [length_cons] at hvl
 have tail:∀ (H4:AH) (ov:V) (o:Option Ts),bK H4 dk l->Mv H H4 (DD dk l)->H4 Lr=some (.list vs)->dh (Br H4 d) vs (p::ps')->Cm H4 d ov o ->
   xs (.set 4 (.str [37,63]) (.for .enum (.three 5 6 7) (.var 2) rm uG)) ⟨af S (k+1),β,X⟩ [some (.ref dk),some (.int ((d+1:Nat):Int)),some (.ref Lr),some ov,none,none,none,none] H4 (λ _ H'=>∃ H'',dI H' H''/\Q .none H'') λ u H'=>∃ H'',dI H' H''/\Q u H'':=by
  intro H4 ov o D4 m4x hL4 hv4 ho
  refine aM F0 (kf (FY rfl) ⟨vs,.inl hL4,by lia,rfl⟩ (tu (d:=d) hL4 rfl (by lia) vs (p::ps') 0 [37,63] _ _ _ hv4 ?_ λ z5 z6 z7=>?_))
  .have:(p::ps').length*(4*tb d+4)<=2*(4*tb d+4):=mul_le_mul_right _ (by simp;lia)
   simp only [length_cons,length_nil] at *;lia
  exact Bx hd D4 hL4 hv4 (by lia) ho λ t H' z g D' m'=>q t H' (iO p ps' o) z g.ok g.dep g.text g.cost D' (m4x.trans m' (λ _ h=>h) λ _ h=>h.elim)
 refine bj (zM (ax (.two (FY rfl) FZ) (q7 P (many:=2) D3 (ac rfl) λ n2 H4 hn2 D4 m4x=>?_)))
 have fk4:=D3.fk m4x
 have hL4:=m4x.keep _ _ hL nD
 have m4':=m3x.trans m4x (D:=DD dk l) (λ _ h=>h) λ _ h=>.inl h
 have hv4:=hv3.imp λ v p h=>h.keep fk4
 by_cases h0:n2=0
 .refine Fo (by simp [h0]) ?_
  refine ax (.cons (FY rfl) (.two FZ (F6 (v:=.int d) (u:=.int (d+1:Nat)) (w:=.int 1) (FY rfl) FZ λ Q q=>by show Q (.int (((d+1:Nat):Int)-1)) H4;refine sr (oa ..) ?_;exact q))) ?_
  exact h41 _ _ dk l 2 H4 _ (ac rfl) D4 λ t1 H5 ts1 R1 D5 m5x=>(tail H5 (.ref t1) (some ts1) D5 (m4'.trans m5x (λ _ h=>h) λ _ h=>.inl h) (m5x.keep _ _ hL4 nD) (hv4.imp λ v p h=>h.keep (D4.fk m5x)) ⟨t1,rfl,R1⟩)
 .exact DV (by simp [h0]) (tail H4 .none none D4 m4' hL4 hv4 rfl)
theorem AI (P:Pk S)(j:Nat):Ct S 0 (j+3):=λ β X dk l H Q D q=>Ev P (λ h=>absurd h (by omega)) D q
theorem xL (P:Pk S){d j:Nat}(h:B7 S (d+1) (j+2)):Ct S (d+1) (j+3):=λ β X dk l H Q D q=>Ev P (λ _=>h) D q
theorem B9 (P:Pk S)(j:Nat):z8 S 0 (j+4):=DB P (k:=j+2) (AI P j) (by lia)
theorem A5 (P:Pk S)(j:Nat):B7 S 1 (j+5):=EK P (k:=j+3) (B9 P j) (by lia)
theorem A3 (P:Pk S)(j:Nat):z8 S 1 (j+7):=DB P (k:=j+5) (xL P (j:=j+3) (A5 P j)) (by lia)
theorem AF (P:Pk S)(j:Nat):B7 S 2 (j+8):=EK P (k:=j+6) (A3 P j) (by lia)
theorem AW (P:Pk S)(j:Nat):z8 S 2 (j+10):=DB P (k:=j+8) (xL P (j:=j+6) (AF P j)) (by lia)
end
noncomputable def em:List (List Nat×Nat):=[([37],0),([37,81],0),([37,112,48],0),([37,112],0),([37,80,49],0),([37,39,120],0),([37,123,125],0),([37,123,49,50],0),([37,59],0),([37,116],0),([37,63,37,116,37,116,37,59],4),([37,63,37,101,37,59],2),([37,63,37,123,49,125,37,116,97],9)]
noncomputable def endV (p:List Nat×Nat):List V:=[.str p.1,.int p.2]
noncomputable def tf:List (List Nat×Nat)->Es
 | []=>.nil
 | p::r=>.cons (.tup (.cons (.str p.1) (.cons (.int p.2) .nil))) (tf r)
theorem wt:Bk=.ret (.lst (tf em)):=rfl
theorem ph {C:Cw}{ls:Ls}:∀ (l:List (List Nat×Nat)) (H:AH) (Q:List V->AH->Prop),(∀ vs H',Mv H H' aQ->fi H' vs (l.map endV)->Q vs H')->xes (tf l) C ls H Q
 | [],H,Q,q=>q [] H Mv.refl .nil
 | p::r,H,Q,q=>by
  refine nE (kJ (.two F0 FZ) (ac rfl) λ c nc=>?_)
  have m:=Ga (D:=aQ) (o:=.tup [.str p.1,.int p.2]) nc
  exact ph r _ _ λ vs H' m' hv=>(q _ H' (m.trans m' (λ _ h=>h) λ _ h=>h.elim) (.cons ⟨c,rfl,m'.keep _ _ (F3 _ _ _) id⟩ hv))
theorem fi.get {H:AH}{vs:List V}{l:List (List V)}(h:fi H vs l):∀ {i:Nat} {x:List V},l[i]?=some x->∃ t,vs[i]?=some (.ref t)/\H t=some (.tup x):=by
 induction h with
 | nil=>intro i x e;simp at e
 | cons a b ih =>
  intro i x e
  induction i with
  | zero=>simp at e;subst e;refine aT a λ t ez1 g=>?_;subst ez1;exact ⟨t,rfl,g⟩
  | succ i=>simp at e;simpa using ih e
section
variable {S:Sx}{X:Int->Prop}{β:Bool}{H:AH}{Q:V->AH->Prop}{dk l:Addr}
theorem FL (P:Pk S){k:Nat}(q:∀ c vs H',Mv H H' aQ->H c=none->H' c=some (.list vs)->fi H' vs (em.map endV)->Q (.ref c) H'):af S (k+1) β X 36 [] H Q:=by
 refine P.enter 35 rfl (.inl rfl) rfl nofun (sr wt (a6 (j0 (ph em H _ λ vs H' m hv=>?_))))
 have hl:=hv.length
 rw [length_map] at hl
 have h13:em.length=13:=rfl
 exact ⟨by lia,λ c nc=>(q c vs _ (m.newR nc) (m.dom _ nc) (F3 _ _ _) (hv.keep (aH.new nc)))⟩
theorem ut {C:Cw}{all:List Nat}{K:List V->AH->Prop}:∀ (t:List Nat) (acc:List V) (x0 x1 x2:Option V),K (acc++t.map λ (c:Nat)=>V.int c) H ->
  d6 (ay .str (.str all) (all.map λ c=>It.v (.str [c]))) (.one 1) (λ ls' H' K=>xe (.bi .ord (.cons (.var 1) .nil)) C ls' H' K) (t.map λ c=>It.v (.str [c])) [x0,x1,x2] acc H K
 | [],acc,x0,x1,x2,kk=>⟨trivial,by simpa using kk⟩
 | c::t,acc,x0,x1,x2,kk=>by
  refine ⟨trivial,?_⟩
  show xe _ _ [x0,some (.str [c]),x2] H _
  exact EV.bi (b:=.ord) (v:=.int c) (.one (FY (v:=.str [c]) rfl)) (λ _ q=>q) _ (ut (C:=C) t _ _ _ _ (by simpa using kk))
theorem oD:∀ (t:List Nat),bW (t.map λ (c:Nat)=>V.int c)=some (t.map λ (c:Nat)=>(c:Int))
 | []=>rfl
 | c::t=>by simp [bW,oD t]
theorem Du (P:Pk S){k:Nat}{t:List Nat}(ho:cR t)(hl:t.length<=16777216)(q:∀ H',Mv H H' aQ->Q (.bytes t) H'):af S (k+1) β X 49 [.str t] H Q:=by
 refine P.enter 48 rfl (.inl rfl) rfl nofun ?_
 walk_at "eI"
 refine a6 (uD (bI (iR (FY rfl) ⟨hl,rfl⟩ ?_)))
 show d6 _ _ _ _ [none,none,none] [] H _
 refine ut (C:=Cw.low ⟨af S k,β,X⟩) t [] none none none ⟨by simp;omega,λ c nc=>?_⟩
 refine ⟨_,t.map λ (c:Nat)=>(c:Int),.inl (F3 _ _ _),by simpa using oD t,?_,by simp;omega,?_⟩
 .rw [all_eq_true]
  intro x m
  refine aT (mem_map.mp m) λ c hc ez1=>?_;subst ez1
  have:=ho c hc
  unfold eW;simp;omega
 .refine sr map_map ?_
  have:(toNat ∘ λ (c:Nat)=>(c:Int))=id:=by funext c;simp
  exact sr (this ..) (sr (List.map_id ..) (q _ (Ga nc)))
theorem tj {C:Cw}{a:Addr}{all:List V}(ha:H a=some (.list all)){K:List V->AH->Prop}:∀ (t:List Int) (acc:List V) (x0 x1 x2:Option V),K (acc++t.map λ c=>V.int (c.fmod 1000003)) H ->
  d6 (ay .list (.ref a) (all.map It.v)) (.one 1) (λ ls' H' K=>xe (.bin .mod (.bi .int (.cons (.var 1) .nil)) (.int 1000003)) C ls' H' K) ((t.map V.int).map It.v) [x0,x1,x2] acc H K
 | [],acc,x0,x1,x2,kk=>⟨⟨all,.inl ha,rfl⟩,by simpa using kk⟩
 | c::t,acc,x0,x1,x2,kk=>by
  refine ⟨⟨all,.inl ha,rfl⟩,?_⟩
  show xe _ _ [x0,some (.int c),x2] H _
  exact F6 (op:=.mod) (u:=.int c) (w:=.int 1000003) (EV.bi (b:=.int) (.one (FY (v:=.int c) rfl)) λ _ q=>q) FZ (λ Q q=>⟨by decide,q⟩) _ (tj (C:=C) ha t _ _ _ _ (by simpa using kk))
noncomputable def Av:B:=(.set 3 (.bin .mod (.bin .add (.bin .add (.bin .mul (.var 3) (.int 31)) (.var 1)) (.int 1)) (.int 1000003))
 .done)
theorem oK {C:Cw}{a:Addr}{all:List V}(ha:H a=some (.list all)){Rr:V->AH->Prop}{K:Ls->AH->Prop}:∀ (t:List Int) (m:Int) (x0 x1 x2:Option V),(∀ m x1,K [x0,x1,x2,some (.int m)] H) ->
  iL (ay .list (.ref a) (all.map It.v)) (.one 1) (λ ls' H' Kt=>xs Av C ls' H' Kt Rr) ((t.map V.int).map It.v) [x0,x1,x2,some (.int m)] H K
 | [],m,x0,x1,x2,kk=>⟨⟨all,.inl ha,rfl⟩,kk m x1⟩
 | c::t,m,x0,x1,x2,kk=>by
  refine ⟨⟨all,.inl ha,rfl⟩,?_⟩
  show xs _ _ [x0,some (.int c),x2,some (.int m)] H _ _
  exact aM (F6 (op:=.mod) (EV.add (EV.add (EV.mul (FY (v:=.int m) rfl) FZ ⟨by decide,by decide⟩) (FY (v:=.int c) rfl)) FZ) FZ λ Q q=>⟨by decide,q⟩) (oK (C:=C) (Rr:=Rr) ha t _ _ _ _ kk)
theorem pZ {H:AH}{C:Cw}{ls:Ls}{ks:List (List Nat)}{es:Es}{Q:V->AH->Prop}(h:xes es C ls H λ vs H1=>(vs.length=ks.length/\ks.Nodup)/\∀ c,H1 c=none->Q (.ref c) (H1.set c (.sdict (ks.zip vs)))):xe (.dct ks es) C ls H Q:=h
theorem py {H:AH}{C:Cw}{ls:Ls}{a i:E}{Q:V->AH->Prop}(h:xe a C ls H λ u H1=>xe i C ls H1 λ h H3=>match h with
   | .int j=>slc u none (some j) H3 Q
   | _=>False):xe (.slcTo a i) C ls H Q:=h
theorem FA (P:Pk S){k:Nat}{sc:Addr}{is:List Int}(hs:listAt H sc (is.map V.int))(hl:is.length<=100)(q:∀ dk l H',bK H' dk l->Mv H H' aQ->H dk=none->H l=none->Q (.ref dk) H'):af S (k+1) β X 37 [.ref sc] H Q:=by
 refine P.enter 36 rfl (.inl rfl) rfl nofun ?_
 refine cL (dF (nE (qJ (py (FY (v:=.ref sc) rfl _ (FZ _ ⟨_,hs,⟨by decide,by simp;lia⟩,λ c nc=>?_⟩))))))
 have hc:(H.set c (.list ((is.map V.int).take (24:Int).toNat))) c=some (.list ((is.take 24).map V.int)):=by refine sr (F3 ..) (sr (map_take ..) ?_);rfl
 have m1:=Ga (D:=aQ) (o:=.list ((is.map V.int).take (24:Int).toNat)) nc
 revert hc m1
 generalize (H.set c (.list ((is.map V.int).take (24:Int).toNat)))=H1
 intro hc m1
 refine ⟨_,⟨_,.inl hc,by simp;lia,rfl⟩,?_⟩
 show d6 _ _ _ _ [none,none,none] [] H1 _
 refine tj (C:=Cw.low ⟨af S k,β,X⟩) hc (is.take 24) [] none none none ⟨by simp;lia,λ l nl=>⟨by simp,λ t nt=>⟨_,F3 _ _ _,_,rfl,?_⟩⟩⟩
 have el:([]++(is.take 24).map λ c=>V.int (c.fmod 1000003))=((is.take 24).map λ c=>c.fmod 1000003).map V.int:=by refine sr (nil_append ..) (sr (map_map ..) ?_);rfl
 rw [el] at nt ⊢
 have m2:=(m1.newR (o:=.list (((is.take 24).map λ c=>c.fmod 1000003).map V.int)) nl).newR (o:=.tup [.ref l,.int 4511]) nt
 have hl2:((H1.set l (.list (((is.take 24).map λ c=>c.fmod 1000003).map V.int))).set t (.tup [.ref l,.int 4511])) l=some (.list (((is.take 24).map λ c=>c.fmod 1000003).map V.int)):=aq (F3 _ _ _) nt
 have nl0:H l=none:=m1.dom _ nl
 refine kf (u:=.ref l) (FY rfl) ⟨_,.inl hl2,by simp;lia,rfl⟩ ?_
 refine oK hl2 _ _ _ _ _ λ m x1=>?_
 refine a6 (pZ (AV.two (FY rfl) (FY rfl) _ ⟨⟨rfl,by decide⟩,λ dk nd=>?_⟩))
 exact q dk l _ ⟨⟨m,F3 _ _ _⟩,((is.take 24).map λ c=>c.fmod 1000003),aq hl2 nd,by simp;lia⟩ (m2.newR nd) (m2.dom _ nd) nl0
end
theorem cR.app {a b:List Nat}(x:cR a)(y:cR b):cR (a++b):=λ c m=>by
 rcases mem_append.mp m with h|h
 .exact x c h
 .exact y c h
theorem cm:cR []:=λ c m=>by contradiction
theorem fH (g:Bool){b:Nat}(hb:2<=b)(h16:b<=16)(n:Nat):cR (aE g b n):=λ c m=>by
 refine aT (mem_map.mp m) λ d hd ez1=>?_;subst ez1
 have:=iA hb n d hd
 dsimp only [sg];split
 .lia
 .cases g<;>simp<;>lia
theorem hU (n:Int){c:Nat}(h:c<256):cR (dw n [c]):=λ x m=>by
 refine aT (List.mem_flatten.mp m) λ l hl hx=>?_
 have:=(List.mem_replicate.mp hl).2
 subst this
 exact sr (GP hx) h
theorem p5 {a b f:List Nat}{w:Int}{hp:Bool}(x:cR a)(y:cR b):cR (bH a b f w hp):=by
 dsimp only [bH]
 split
 .exact x.app y
 .split
  .exact (x.app y).app (hU _ (by lia))
  .split
   .exact (x.app (hU _ (by lia))).app y
   .exact ((hU _ (by lia)).app x).app y
theorem uV (l:Nat)(f:List Nat)(v:Int):cR (dP l f v):=by
 dsimp only [dP]
 split
 .split
  .intro c m;simp at m;lia
  .split
   .intro c m;simp at m;lia
   .split
    .intro c m;simp at m;lia
    .exact cm
 .exact cm
theorem uE (l:Nat)(v:Int):cR (gH l v):=by
 dsimp only [gH]
 split
 .exact fH _ (by lia) (by lia) _
 .split<;>exact fH _ (by lia) (by lia) _
theorem uA (p:Option Int)(v:Int){b:List Nat}(h:cR b):cR (gw p v b):=by
 dsimp only [gw]
 split
 .exact h
 .split
  .exact (hU _ (by lia)).app cm
  .exact (hU _ (by lia)).app h
theorem o3 (l:Nat)(f:List Nat)(w:Int)(p:Option Int)(v:Int):cR (bz l f w p v):=p5 (uV _ _ _) (uA _ _ (uE _ _))
theorem zN (n:Int):cR (uf n):=λ c m=>by
 dsimp only [uf] at m
 have e:n.fmod 256=n % 256:=fmod_eq_emod_of_nonneg _ (by lia)
 rw [e] at m
 have:=GP m
 split at this<;>lia
theorem wV (w:Nat)(n:Int):cR (iP w n):=by
 dsimp only [iP]
 generalize xO w=o
 induction o with
 | write=>exact o3 _ _ _ _ _
 | _=>exact zN n
structure OW (w:Wd):Prop where
 out:cR w.out
 ps:∀ v∈w.ps,cR (oct v)
theorem rX {ps:List V}(h:∀ v∈ps,cR (oct v))(n:Int):cR (oct (ak ps n)):=by
 dsimp only [ak]
 split
 .induction e:ps[(n-1).toNat]? with
  | none=>exact cm
  | some v=>exact h v (mem_of_getElem? e)
 .exact cm
theorem nS {v:V}(h:cR (oct v)):cR (oct (gJ v)):=by
 dsimp only [gJ]
 split
 .exact cm
 .exact h
theorem uT:∀ {ps:List V},(∀ v∈ps,cR (oct v))->∀ v∈cD ps,cR (oct v)
 | [],h,v,m=>by contradiction
 | [a],h,v,m=>by
  exact sr (GP m) (nS (h a (by simp)))
 | a::b::r,h,v,m=>by
  simp only [cD,mem_cons] at m
  rcases m with rfl|rfl|m
  .exact nS (h a (by simp))
  .exact nS (h b (by simp))
  .exact h v (by simp [m])
noncomputable def xM:Rw->Prop
 | .lit l=>cR l
 | _=>True
theorem OW.row {w:Wd}(h:OW w):∀ r:Rw,xM r->OW (cC r w)
 | .lit l,hr=>⟨h.out.app hr,h.ps⟩
 | .p k,_=>⟨h.out,h.ps⟩
 | .n i,_=>⟨h.out,h.ps⟩
 | .P c,_=>by delta cC;dsimp only;split<;>exact ⟨h.out,h.ps⟩
 | .g c,_=>⟨h.out,h.ps⟩
 | .text k,_=>by
  delta cC
  dsimp only
  split
  .exact h
  .refine ⟨h.out.app ?_,h.ps⟩
   split
   .exact rX h.ps 2
   .exact fH _ (by lia) (by lia) _
 | .ii,_=>⟨h.out,uT h.ps⟩
 | .nt,_=>⟨h.out,h.ps⟩
 | .iv,_=>⟨h.out,h.ps⟩
 | .out k,_=>⟨h.out.app (wV _ _),h.ps⟩
 | .op c,_=>⟨h.out,h.ps⟩
theorem OW.rows:∀ (l:List Rw) {w:Wd},OW w->(∀ r∈l,xM r)->OW (l.foldl (λ w r=>cC r w) w)
 | [],w,h,_=>h
 | r::l,w,h,q=>OW.rows l (h.row r (q r (by simp))) λ x m=>q x (by simp [m])
theorem OW.u {w:Wd}(h:OW w)(u:U):OW (kx u w):=by
 refine OW.rows _ h λ r m=>?_
 induction u with
 | lit k =>
  have:r=.lit (dU k):=GP m
  subst this
  show cR (dU k)
  intro c mc
  dsimp only [dU] at mc
  split at mc<;>simp at mc<;>lia
 | bin w far s =>
  simp only [U.rows,mem_cons,mem_singleton,not_mem_nil,or_false] at m
  rcases m with rfl|rfl|rfl|rfl<;>trivial
 | pg c =>
  simp only [U.rows,mem_cons,mem_singleton,not_mem_nil,or_false] at m
  rcases m with rfl|rfl<;>trivial
 | inot =>
  simp only [U.rows,mem_cons,mem_singleton,not_mem_nil,or_false] at m
  rcases m with rfl|rfl<;>trivial
 | p w=>refine sr (GP m) ?_;trivial
 | n w=>refine sr (GP m) ?_;trivial
 | q w=>refine sr (GP m) ?_;trivial
 | g w=>refine sr (GP m) ?_;trivial
 | txt w=>refine sr (GP m) ?_;trivial
 | inv=>refine sr (GP m) ?_;trivial
 | out w=>refine sr (GP m) ?_;trivial
theorem OW.popW {w:Wd}(h:OW w):OW (Internal.popW w):=⟨h.out,h.ps⟩
mutual
theorem OW.ts:∀ (ts:Ts) {w:Wd},OW w->OW (az ts w)
 | .nil,w,h=>by exact h
 | .cons t r,w,h=>by exact OW.ts r (OW.t t h)
theorem OW.t:∀ (t:Px) {w:Wd},OW w->OW (doneT t w)
 | .u u,w,h=>by exact h.u u
 | .iff b,w,h=>by exact OW.b b h
theorem OW.b:∀ (b:Bs) {w:Wd},OW w->OW (doneB b w)
 | .last n f,w,h=>by
  dsimp only [doneB]
  split
  .exact OW.ts f (OW.ts n h).popW
  .exact (OW.ts n h).popW
 | .lastE n f e,w,h=>by
  dsimp only [doneB]
  split
  .exact OW.ts f (OW.ts n h).popW
  .exact OW.ts e (OW.ts n h).popW
 | .more n f b,w,h=>by
  dsimp only [doneB]
  split
  .exact OW.ts f (OW.ts n h).popW
  .exact OW.b b (OW.ts n h).popW
end
theorem aV {l:List Nat}(h:l.all (λ c=>decide (c<256))=true):cR l:=λ c m=>by simpa using all_eq_true.mp h c m
theorem fJ {c:Nat}{l:List Nat}(h:c<256)(x:cR l):cR (c::l):=λ d m=>by
 cases m with
 | head=>exact h
 | tail _ m=>exact x d m
theorem pF {f:Nat->List Nat}{n:Nat}(h:∀ k<n,(f k).all (λ c=>decide (c<256))=true){k:Nat}(hk:k<n):cR (f k):=aV (h k hk)
theorem U.oct {u:U}(ok:u.ok):cR u.text:=by
 induction u with
 | lit k=>exact pF (f:=ng) (n:=4) (by decide) ok
 | p w=>rcases ok with rfl|rfl|rfl<;>exact aV rfl
 | n i=>exact ((aV rfl).app (fH _ (ac rfl) (ac rfl) _)).app (aV rfl)
 | q c=>rcases ok with rfl|rfl|rfl<;>exact aV rfl
 | pg c=>rcases ok with rfl|rfl<;>exact aV rfl
 | g c=>rcases ok with rfl|rfl|rfl|rfl<;>exact aV rfl
 | txt k=>exact pF (f:=λ k=>(U.txt k).text) (n:=3) (by decide) ok
 | inot=>exact aV rfl
 | inv=>exact aV rfl
 | out w=>exact pF (f:=cj) (n:=12) (by decide) ok
 | bin w far s =>
  have hw:w<208:=by rcases ok.1 with rfl|rfl|rfl<;>exact ac rfl
  have hs:s<256:=(by decide:∀ s∈cX,s<256) s ok.2.2
  exact ((fJ (ac rfl) (fJ (ac rfl) (fJ (Nat.add_lt_add_left hw 48) cm))).app (((aV rfl).app (fH _ (ac rfl) (ac rfl) _)).app (aV rfl))).app (fJ (ac rfl) (fJ hs (aV rfl)))
mutual
theorem Ts.oct:∀ ts:Ts,ts.ok->cR ts.text
 | .nil,_=>by exact cm
 | .cons t r,h=>by exact (Px.oct t h.1).app (Ts.oct r h.2)
theorem Px.oct:∀ t:Px,t.ok->cR t.text
 | .u u,h=>by exact U.oct h
 | .iff b,h=>by exact (aV rfl).app (Bs.oct b h)
theorem Bs.oct:∀ b:Bs,b.ok->cR b.text
 | .last n f,h=>by exact (((Ts.oct n h.1).app (aV rfl)).app (Ts.oct f h.2)).app (aV rfl)
 | .lastE n f e,h=>by exact (((((Ts.oct n h.1).app (aV rfl)).app (Ts.oct f h.2.1)).app (aV rfl)).app (Ts.oct e h.2.2)).app (aV rfl)
 | .more n f b,h=>by exact ((((Ts.oct n h.1).app (aV rfl)).app (Ts.oct f h.2.1)).app (aV rfl)).app (Bs.oct b h.2.2)
end
theorem dO {x:List Op×List Nat}{n:Nat}(h:x.1.length<=n):(cK x).length<=n+1:=by
 dsimp only [cK]
 have:(fl x.2).length<=1:=by dsimp only [fl];split<;>simp
 refine sr GO ?_;lia
theorem Eo (p:List Nat):(fl p).length<=1:=by dsimp only [fl];split<;>simp
mutual
theorem cz:∀ (ts:Ts) (base:Nat) (p:List Nat),(aD base p ts).1.length<=8*ts.cost
 | .nil,base,p=>by dsimp only [aD];simp
 | .cons t r,base,p=>by
  dsimp only [aD,Ts.cost]
  have h1:=cpT_len t base p
  have h2:=cz r (base+(cpT base p t).1.length) (cpT base p t).2
  simp only [GO];lia
theorem cpT_len:∀ (t:Px) (base:Nat) (p:List Nat),(cpT base p t).1.length<=8*t.cost
 | .u u,base,p=>by
  dsimp only [cpT,Px.cost]
  have:=Eo p
  have:=oS u
  induction u with
  | txt k=>dsimp only [db,U.ops];simp only [GO];split<;>simp<;>lia
  | lit k=>simp [db]
  | _=>simp [db,U.ops,U.rows];lia
 | .iff b,base,p=>by
  dsimp only [cpT,Px.cost]
  have:=Eo p
  have h:=cpB_len8 b (base+(fl p).length) (base+(fl p).length+(cpB (base+(fl p).length) 0 b).length)
  simp only [GO];lia
theorem cpB_len8:∀ (b:Bs) (base E:Nat),(cpB base E b).length<=8*b.cost
 | .last n f,base,E=>by
  dsimp only [cpB,Bs.cost]
  have h1:=dO (cz n base [])
  have h2:=dO (cz f (base+(cK (aD base [] n)).length+1) [])
  simp only [GO,length_cons,length_nil];lia
 | .lastE n f e,base,E=>by
  dsimp only [cpB,Bs.cost]
  have h1:=dO (cz n base [])
  have h2:=dO (cz f (base+(cK (aD base [] n)).length+1) [])
  have h3:=dO (cz e (base+(cK (aD base [] n)).length+(cK (aD (base+(cK (aD base [] n)).length+1) [] f)).length+2) [])
  simp only [GO,cg];lia
 | .more n f b,base,E=>by
  dsimp only [cpB,Bs.cost]
  have h1:=dO (cz n base [])
  have h2:=dO (cz f (base+(cK (aD base [] n)).length+1) [])
  have h3:=cpB_len8 b (base+(cK (aD base [] n)).length+(cK (aD (base+(cK (aD base [] n)).length+1) [] f)).length+2) E
  simp only [GO,cg];lia
end
theorem xS (ts:Ts)(ok:ts.ok):aO ts.text 0 [] [] [] (.ok (cK (aD 0 [] ts))):=by
 refine dS ts (rest:=[]) ok (by simp) ?_
 have:=aO.done (o:=ts.text) (i:=0+ts.text.length) (ops:=[]++(aD 0 [] ts).1) (p:=(aD 0 [] ts).2) (by lia)
 simpa [cK] using this
theorem u4:mM []:=λ l' e=>by contradiction
theorem vR {ts:Ts}(ok:ts.ok){e:List Nat×Nat}(he:e∈em):aO (ts.text++e.1) 0 [] [] [] (.bad ((ts.text.length+e.2:Nat):Int)):=by
 refine dS ts (rest:=e.1) ok (by simp) (sr (zero_add ..) ?_)
 have hd:(ts.text++e.1).drop ts.text.length=e.1:=by simp
 have hl:(ts.text++e.1).length=ts.text.length+e.1.length:=GO
 generalize (ts.text++e.1)=o at hd hl ⊢
 generalize ts.text.length=n at hd hl ⊢
 generalize ([]++(aD ([]:List Op).length [] ts).1)=ops
 generalize (aD ([]:List Op).length [] ts).2=p
 simp only [em,mem_cons,not_mem_nil,or_false] at he
 have dr:∀ {l:List Nat} (k:Nat),o.drop n=l->o.drop (n+k)=l.drop k:=λ k h=>by exact sl drop_drop (sr h rfl)
 rcases he with rfl|rfl|rfl|rfl|rfl|rfl|rfl|rfl|rfl|rfl|rfl|rfl|rfl
 .exact .bad (l:=[]) hd u4 rfl
 .exact .bad (l:=[81]) hd (aK (by decide)) rfl
 .exact .bad (l:=[112,48]) hd (aK (by decide)) rfl
 .exact .bad (l:=[112]) hd (aK (by decide)) rfl
 .exact .bad (l:=[80,49]) hd (aK (by decide)) rfl
 .exact .bad (l:=[39,120]) hd (aK (by decide)) rfl
 .refine .bad (l:=[123,125]) hd (λ l' e=>?_) rfl
  cases e
  exact ⟨rfl,by decide,by decide⟩
 .refine .bad (l:=[123,49,50]) hd (λ l' e=>?_) rfl
  cases e
  exact ⟨rfl,by decide,by decide⟩
 .exact .nb (l:=[59]) (n:=2) hd (aK (by decide)) zt (by decide)
 .exact .nb (l:=[116]) (n:=2) hd (aK (by decide)) pN (by decide)
 .exact .q (l:=[63,37,116,37,116,37,59]) (n:=2) hd (aK (by decide)) wL (.t (l:=[116,37,116,37,59]) (n:=2) (dr 2 hd) (aK (by decide)) pN (.tb (l:=[116,37,59]) (n:=2) (dr 4 hd) (aK (by decide)) pN))
 .exact .q (l:=[63,37,101,37,59]) (n:=2) hd (aK (by decide)) wL (.eb (l:=[101,37,59]) (n:=2) (dr 2 hd) (aK (by decide)) yZ)
 .refine .q (l:=[63,37,123,49,125,37,116,97]) (n:=2) hd (aK (by decide)) wL (.op (l:=[123,49,125,37,116,97]) (op:=.push 1) (n:=4) (dr 2 hd) (λ l' e=>?_) rfl ?_)
  .cases e
   exact ⟨rfl,by decide,by decide⟩
  refine .t (l:=[116,97]) (n:=2) (dr 6 hd) (aK (by decide)) pN (.plain (c:=97) (l:=[]) (dr 8 hd) (by decide) ?_)
  have:=aO.left (o:=o) (i:=n+9) (ops:=ops++fl p++[]++fl []++[Op.unless 0]) (p:=[]) (f:=(none,[])) (fs:=[]) (by simp at hl;lia)
  have e9:o.length=n+9:=by simpa using hl
  exact sl e9 (.left (by lia))
theorem oO:Slot "Exception" "__getattribute__" "BaseException.__getattribute__":=.of (owner:="BaseException") (n:="__getattribute__") (by refine sr (typeLookup_type ..) (sr (builtinLookup_eq_fast ..) ?_);kernel_rfl) (by decide +kernel) (by decide +kernel) (by decide +kernel)
  (by first|exact .inl (by decide +kernel)|exact .inr (by decide +kernel)) (by refine sr (isSubtype_type ..) ?_;kernel_rfl)
theorem rM:entryFor table "BaseException.__getattribute__"=some Builtin.«object.__getattribute__» :=
 entryFor_alias (id':="object.__getattribute__") (by kernel_rfl) (by first|rfl|decide +kernel) (by decide +kernel) (by kernel_rfl)
theorem sM (a b:Value):argsOk "BaseException.__getattribute__" ⟨[a,b],[]⟩:=by kernel_rfl
structure kQ (K:Frag) (C:Addr):Prop where
 ga:findIn K (.ref C) "__getattribute__"=some (some (.builtin "BaseException.__getattribute__"))
 gg:findIn K (.ref C) "__getattr__"=some none
 hd:hasDictIn K C=true
 at_:findIn K (.ref C) (nm 0)=some none
 mro:mroIn K C (.type "BaseException")=some true
section
variable {prog:Program}{w:World}{A:Around}{E:Value->Shared->Prop}{s:Shared}{K:Frag}{x C d:Addr}{ox od:Obj}{Q:Value->Shared->Prop}{v:Value}
theorem tv (G:kQ K C)(X:K.In s.heap)(I:InstAt s.heap x ox C (some od))(hl:lookIn (nm 0) od=some (some v))(hh:handedIn v=true)(q:Q v {s with toks:=s.toks+1}):wpAny (model prog w) A (getAttr (.ref x) (nm 0) true) Q E s:=by
 have L0:=I.type (M:=model prog w)
 have L1:=looks_findIn (M:=model prog w) X G.ga
 have L2:=looks_findIn (M:=model prog w) X G.gg
 have ne:(Value.builtin "BaseException.__getattribute__"==Value.builtin "object.__getattribute__")=false:=by decide +kernel
 refine wpAny_bind (wpAny_mkText (wpAny_holding (wpAny_bind (L0 _ _ _ _ (λ _ _ e=>e) (wpAny_bind (L1 _ _ _ _ (λ _ _ e=>e) ?_))))))
 dsimp only
 refine sr (show (onTheHeap (.ref C)&&Value.builtin "BaseException.__getattribute__"==Value.builtin "object.__getattribute__")=false from by rw [ne,Bool.and_false]) (sr (if_neg (by decide)) ?_)
 have LH:Looks (model prog w) s.heap (hookBefore (.ref C)) none:=by
  dsimp only [hookBefore]
  exact sr (if_pos (show onTheHeap (.ref C)=true from rfl)) L2
 refine wpAny_bind (LH _ _ _ _ (λ _ _ e=>e) (wpAny_bind (wpAny_attempt (wpAny_holding ?_))))
 dsimp only [callGetattribute]
 refine sr (show (true&&onTheHeap (Value.builtin "BaseException.__getattribute__"))=false from rfl) (sr (if_neg (by decide)) ?_)
 dsimp only [boundAndCalled]
 refine sr (oO.bind ..) (wpAny_bind (wpAny_pure ?_))
 show wpAny _ _ (call (.builtin "BaseException.__getattribute__") [.ref x,.str (nm 0) s.toks]) _ _ _
 refine wpAny_call (codeAny_call_builtin oO.plain rM (@check_slot (model prog w) _ _ {s with toks:=s.toks+1} "BaseException.__getattribute__" "BaseException" "__getattribute__" (.ref x) [.str (nm 0) s.toks] [] _ (by decide +kernel) (by decide +kernel) (L0.andThen (looks_mroIn X G.mro)) (sM (.ref x) (.str (nm 0) s.toks)) ?_))
 have LF:=looks_find (M:=model prog w) X I (findObj_own G.hd G.at_ rfl hl)
 refine wpAny_bind (wpAny_pure (wpAny_bind (wpAny_pure (wpAny_bind (L0 _ _ _ _ (λ _ _ e=>e) (wpAny_bind (LF _ _ _ _ (λ _ _ e=>e) (wpAny_pure ?_))))))))
 show wpAny _ _ (handedOut v) _ _ _
 exact sr (handedOut_of hh) (wpAny_pure q)
end
noncomputable abbrev Hn:AH:=λ _=>none
theorem BD {S:Sx}{fs:List Env}{s:Shared}(b:S.h0x.StaysIn s.heap)(f:s.heap.FunFrames S.h0x fs)(g:s.gens=#[])(o:s.os=S.os):aI S fs Hn s :=
 ⟨b,λ _ _ e=>(by contradiction),f,λ _ _ _ _=>rfl,g,o⟩
theorem qb {H':AH}{h h':Heap}(T:Tr Hn h H' h'):∀ b o,h.get? b=some o->h'.get? b=some o:=λ b o e=>(T.keep b o e rfl).1
theorem kO {h h':Heap}{a:Addr}{m:Str->Option Value}(n:h.Ns a m)(u:Heap.UpToSlots h h'):h'.Ns a m:=by
 refine ug n λ o es ep ho hd r=>?_
 obtain ⟨sl,g⟩:=u a o ho (λ vs q=>by rw [hd] at q;contradiction)
 exact ⟨_,es,ep,g,hd,r⟩
theorem pL {α:Type}{M:Model}{A:Around}{t:Sem α}{Q:α->Shared->Prop}{E:Value->Shared->Prop}{s:Shared}(h:aF false M A t Q E s):wpAny M A t Q E s:=λ Γ p hΓ=>h Γ p hΓ nofun
section
variable {K:Kt}{A:Around}{ls:Ls}{X:Int->Prop}
noncomputable abbrev Kt.at (K:Kt)(A:Around):Kt:={K with A:=A}
theorem i7 (O:a7 K){nm:Str}{k:Nat}{pos}(e:K.slots[k]?=some nm):an (K.at A) false X (eval (.Name nm pos) K.env) ls λ H Q=>match lget ls k with|some v=>Q v H|none=>False:=λ s H Q R L p=>by
 induction hv:lget ls k with
 | none=>rw [hv] at p;exact p.elim
 | some v =>
  rw [hv] at p
  refine bc λ zz=>?_
  obtain ⟨a,m,b,c⟩:=L
  refine ln (c k v hv) λ nm' x e1 r e3=>zz ?_
  obtain rfl:nm'=nm:=Option.some.inj (e1.symm.trans e)
  refine ah (wpAny_Name ?_ (O.nodbg _ (mem_of_getElem? e)))
  rcases e3 with ⟨f1,f2⟩|⟨f1,cc,o,f2,f3,f4,f5⟩
  .exact wpAny_loadName_local O.kind f1 b f2 (PV.same' R (Tr.refl _ _) r p)
  .exact wpAny_loadName_cell O.kind f1 f2 ⟨o,f4,f5⟩ (PV.same' R (Tr.refl _ _) r p)
theorem r8 (O:a7 K) {n id:Str} {k:Nat} {p0 p1 pos:Pos} (e:K.slots[k]?=some n) (hx:K.env.kindOf id=some .globalImplicit) (hd:(id==("__debug__" : Str))=false) (hm:K.S.mg id=none) (hm':K.S.mb id=some (.builtin "len")) {l:List Nat} (hl:lget ls k=some (.str l)) (hz:l.length<=16777216) :
  an (K.at A) false X (eval (.Call (.Name id p0) [.Name n p1] [] pos) K.env) ls λ H Q=>Q (.int l.length) H:=λ s H Q R L p=>by
 have h:=gi (K:=K.at A) (β:=false) (X:=X) (ls:=ls) (args:=[.Name n p1]) (id:=id) (p0:=p0) (pos:=pos) (f:=.builtin "len") (G:=uZ .len) (cJ (by rfl))
  (λ s H Q E R q=>Name_function_global O.kind hx (loadGlobal_builtin (by show s.heap.Ns K.env.globals _;refine sr O.glob ?_;exact R.mainG) hm (by show s.heap.Ns K.env.builtins _;refine sr O.blt ?_;exact R.bltG) hm' q) hd)
  (λ h hb=>⟨_,.inr rfl,kq (by nofun)⟩) (nH (cS (by rfl)) (i7 O e) pR)
  (λ xs vs s H Q r R c=>by
   rcases r with _ | @⟨v,x,vs,xs,rv,_ | @⟨_,_,_,_,_,_⟩⟩
   .exact c.elim
   .induction rv with
    | bytes b t=>exact ah (PySem.W.len_bytes (by have:=c.1;simp at this;lia) (PV.same R (Tr.refl _ _) (by have:=c.2;exact (by simpa using VR.int (b.size:Int) _)) (by simpa using c.2) _))
    | str l t=>exact ah (PyProof.Rows.len_str (by have:=c.1;simp [PySem.Str.length];lia) (PV.same R (Tr.refl _ _) (.int _ _) (by simpa [PySem.Str.length] using c.2) _))
    | _=>exact c.elim
   .contradiction<;>exact c.elim)
 refine h s H Q R L ?_
 simp only [hl]
 exact ⟨hz,p⟩
theorem uB (O:a7 K)(G:kQ K.S.K (K.S.ca 0)){s:Shared}{x d:Addr}{od:Obj}{told pl:Int}{tk:Tok}{vs:Array Value}{l:List Nat}{ie it ip:Nat}{en tn pn id:Str}{q0 q1 p0 p1 p2 pb pc rp pos:Pos}
  (R:aI K.S K.fs Hn s) (L:bh K.env K.slots ls Hn s.heap)
  (he:s.heap.get? x=some {cls:=.ref (K.S.ca 0),dict:=some d,data:=.fields vs}) (hdd:s.heap.get? d=some od) (hlk:lookIn (nm 0) od=some (some (.int told tk)))
  (e1:K.slots[ie]?=some en) (g1:lget ls ie=some (.ref x)) (e2:K.slots[it]?=some tn) (g2:lget ls it=some (.str l)) (hz:l.length<=16777216) (e3:K.slots[ip]?=some pn) (g3:lget ls ip=some (.int pl))
  (hx:K.env.kindOf id=some .globalImplicit) (hd:(id==("__debug__" : Str))=false) (hm:K.S.mg id=none) (hm':K.S.mb id=some (.builtin "len"))
  (rp1:behindInMarks .Eq (.BinOp (.Call (.Name id p0) [.Name tn p1] [] pc) .Add (.Name pn p2) pb)=false) :
  aF false K.M A (execs [.Return (some (.Compare (.Attribute (.Name en q0) (nm 0) q1) [.Eq] [.BinOp (.Call (.Name id p0) [.Name tn p1] [] pc) .Add (.Name pn p2) pb] pos)) rp] K.env)
   (λ f s'=>f=.ret (.bool (decide (told=l.length+pl)))/\∃ H',aI K.S K.fs H' s'/\Tr Hn s.heap H' s'.heap) (λ _ _=>False) s:=by
 refine aL (sr (exec_Return_some ..) (aa (ag (aa (sr (eval_Compare1 ..) (sr (markedBehindIn_of_false rp1 ..) ?_))))))
 have noE:∀ {H0 h0x e s'},PX K.S K.fs H0 h0x (λ _=>False) e s'->False:=λ ⟨_,_,z⟩=>z
 refine aa ?_
 show aF _ _ _ (do
  let o <- eval (.Name en q0) K.env
  standAt q1.atName
  let r <- holding [o] (getAttr o (nm 0) true)
  letTemporaryGo (.Name en q0) o r
  pure r) _ _ s
 refine an.bind (K:=K.at A) (i7 (X:=λ _=>False) O e1) R L (Q:=λ v H'=>v=.ref x) (by exact sr g1 rfl) (λ y u s1x H1 r1x R1x L1x T1 p1x=>?_) λ _ _ z=>noE z
 subst p1x
 cases r1x
 have he1:=qb T1 _ _ he
 have hd1x:=qb T1 _ _ hdd
 refine aa (ag (aa (ai (ah (tv G (K.S.X.keeps R1x.base) (⟨he1,rfl,rfl,hd1x⟩:InstAt s1x.heap x _ (K.S.ca 0) (some od)) hlk (by rfl) (aa (ae (ae ?_))))))))
 have R2x:=R1x.toks (s1x.toks+1)
 have hb:=uo (K:=K.at A) (β:=false) (X:=λ _=>False) (op:=.add) (pos:=pb) (r8 (ls:=ls) (pos:=pc) (p0:=p0) (p1:=p1) O e2 hx hd hm hm' g2 hz) (i7 (ls:=ls) (pos:=p2) O e3)
 refine hb.hold.bind R2x L1x (Q:=λ v _=>v=.int (l.length+pl)) ?_ (λ y v s2x H2x r2x R3x L2x T2 p2x=>?_) λ _ _ z=>noE z
 .refine sr g3 ?_
  rfl
 subst p2x
 have hc:=j8 (A:=A) (E:=λ _ _=>False) (op:=.eq) (a:=.int told) (b:=.int (l.length+pl)) (Q:=λ t=>t=decide (told=l.length+pl)) R3x (T1.trans T2) (.inr nofun) (.int told tk) r2x rfl
 refine aa (ag (aU (aj (ah hc) (λ v s3x z=>?_) λ _ _ z=>z)))
 refine lT z λ b ez1 R4x T4 ez2=>?_;subst ez1;subst ez2
 exact ae ⟨rfl,H2x,R4x,T4⟩
end
theorem iz:∀ {ls:Ls} {k:Nat} {v:V},k<ls.length->lget (lput ls k v) k=some v
 | _::_,0,_,_=>rfl
 | _::r,k+1,v,h=>by
  show lget (lput r k v) k=some v
  exact iz (by simpa using h)
theorem wm {env:Env}{slots:List Str}{ls:Ls}{H:AH}{h h':Heap}(L:bh env slots ls H h)(k:∀ m,h.Ns env.locals m->h'.Ns env.locals m)(hc:∀ nm∈slots,env.kindOf nm≠some .cell):bh env slots ls Hn h':=by
 obtain ⟨a,m,b,c⟩:=L
 refine ⟨rfl,m,k m b,λ j v e=>(ln (c j v e) λ nm x e1 e2 e3=>⟨nm,x,e1,e2,.inl ?_⟩)⟩
 rcases e3 with e3|⟨e3,_⟩
 .exact e3
 .exact absurd e3 (hc nm (mem_of_getElem? e1))
theorem wD {h:Heap}{a d:Addr}{m:Str->Option Value}{hs told:Int}{t t':Tok}{n:Nat}{tn:Str}{sl:Array (Option Value)}(hn:h.Ns a m)(hd:h.get? d=some {dictOf [⟨hs,.str (nm 0) t,.int told t'⟩] n with slots:=sl})(hm:(m tn).isSome=true)(ht:(nm 0==tn)=false):d≠a:=by
 rintro rfl
 refine Cv hn λ o es ep ho hdt uz1 r=>?_
 rw [hd] at ho
 (injection ho with ho;subst ho)
 (injection hdt with hdt;subst hdt)
 rw [<- r tn] at hm
 have hi:(Value.str (nm 0) t).isStr tn=false:=ht
 simp [nsFind,findBy,hi] at hm
section
variable {K:Kt}{ls:Ls}
theorem tS (O:a7 K)(F:j5 K)(RO:jO K.S)(G:kQ K.S.K (K.S.ca 0)){s:Shared}{h0x:Heap}{H:AH}{e:Value}{told pl:Int}{l:List Nat}{ie it ip:Nat}{en tn pn id bn:Str}{q0 q1 p0 p1 p2 pb pc rp pos bp hp:Pos}
  (x:XP K.S K.fs H h0x told e s) (L:bh K.env K.slots ls H h0x) (hc:∀ nm∈K.slots,K.env.kindOf nm≠some .cell) (hie:ie<ls.length) (hte:it≠ie) (hpe:ip≠ie) (hnt:(nm 0==tn)=false)
  (e1:K.slots[ie]?=some en) (hk:K.env.kindOf en=some .local) (e2:K.slots[it]?=some tn) (g2:lget ls it=some (.str l)) (hz:l.length<=16777216) (e3:K.slots[ip]?=some pn) (g3:lget ls ip=some (.int pl))
  (hx:K.env.kindOf id=some .globalImplicit) (hd:(id==("__debug__" : Str))=false) (hm:K.S.mg id=none) (hm':K.S.mb id=some (.builtin "len"))
  (bx:K.env.kindOf bn=some .globalImplicit) (bd:(bn==("__debug__" : Str))=false) (bm:K.S.mg bn=some (.ref (K.S.ca 0)))
  (rp1:behindInMarks .Eq (.BinOp (.Call (.Name id p0) [.Name tn p1] [] pc) .Add (.Name pn p2) pb)=false) {E:Value->Shared->Prop} {Q:Flow->Shared->Prop}
  (q:∀ s',K.S.h0x.StaysIn s'.heap->s'.gens=#[]->s'.os=K.S.os->Q (.ret (.bool (decide (told=l.length+pl)))) s') :
  wpAny K.M K.A (noteFrame e K.env) (λ _ s2x=>wpAny K.M K.A (setFlight e none) (λ _ s3x=>wpAny K.M K.A (handleBy e K.env
   [.ExceptHandler (some (.Name bn bp)) (some en) [.Return (some (.Compare (.Attribute (.Name en q0) (nm 0) q1) [.Eq] [.BinOp (.Call (.Name id p0) [.Name tn p1] [] pc) .Add (.Name pn p2) pb] pos)) rp] hp]) Q E s3x) E s2x) E s:=by
 obtain ⟨⟨a,rfl,ex⟩,hb,hf,hns,hg,ho⟩:=x
 refine k9 F λ outer Lf hfs hfr=>aT L.2 λ mm hmm uz1=>?_
 have N0:s.heap.Ns K.env.locals mm:=hns _ _ L.1 hmm
 have hA:K.A.frames=some (K.env::outer):=by exact sl hfs O.frames
 rw [hfs] at hf
 refine nP hA hf hfr hb ex (.inr (.inl rfl)) λ h1x b1x f1x x1x u1=>?_
 have N1:=kO N0 u1
 refine gf (fr:=none) f1x b1x x1x λ h2x b2x f2x x2x u2=>?_
 have N2:=kO N1 u2
 have x2':=x2x
 obtain ⟨d,vs,hs,t,t',n,he,hen,hsz,hde,hdd,tr⟩:=x2'
 have XX:=K.S.X.keeps b2x
 obtain ⟨nmx,qx,N',bs,bmx,sn,sub,ab,col,dd,k0,k1,k2,k3,k5,hK,hbm⟩:=eD RO.cls
 have hmg:∀ {hh:Heap},K.S.h0x.StaysIn hh->hh.Ns K.env.globals K.S.mg:=λ b=>by exact sr O.glob (K.S.T.g.keeps b)
 refine wpAny_handleBy_cons (codeAny_handlers_test (Name_function_global O.kind bx (loadGlobal_global (hmg b2x) bm (wpAny_excMatches_sub_self (XX _ _ hK) he rfl (er hbm).2.1 ?_)) bd)) (by nofun)
 show codeAny _ _ _ _ _
 refine codeAny_handlers_suite_as (gf (fr:=none) (S:=K.S) (l:=K.env::outer) f2x b2x x2x λ h3x b3x f3x x3x u3=>?_)
 have N3:=kO N2 u3
 have x3':=x3x
 obtain ⟨d,vs,hs,t,t',n,he,hen,hsz,hde,⟨sl,hdd⟩,tr⟩:=x3'
 have hmt:(mm tn).isSome=true:=by
  refine aT L.2 λ m' hm' c=>?_
  have:m'=mm:=hm'.eq_nsMap.trans hmm.eq_nsMap.symm
  subst this
  refine ln (c it _ g2) λ nm' y e4 r e5=>?_
  obtain rfl:nm'=tn:=Option.some.inj (e4.symm.trans e2)
  rcases e5 with ⟨_,e5⟩|⟨e5,_⟩
  .refine sr e5 ?_;rfl
  .exact absurd e5 (hc _ (mem_of_getElem? e2))
 have hdL:=wD N3 hdd hmt hnt
 have haL:a≠K.env.locals:=by
  rintro rfl
  refine ug N3 λ o es ep ho hdt uz1=>?_
  rw [he] at ho;cases ho;contradiction
 refine wpAny_storeName_local hk N3 (λ h4x N4 s4x=>?_) (by refine sr O.kind ?_;rfl)
 have L3:bh K.env K.slots ls Hn h3x:=wm L (λ m hm=>by
  have:m=mm:=hm.eq_nsMap.trans hmm.eq_nsMap.symm
  subst this;exact N3) hc
 have L4:=L3.store O.nodup e1 hk (.ref a) N3 N4 s4x
 have kw:=Gi s4x
 have R3:aI K.S K.fs Hn {s with heap:=h3x}:=BD b3x (by refine sr hfs ?_;exact f3x) hg ho
 have R4:=R3.local_step (W:=[K.env.locals]) (λ b hb'=>by refine sr (GP hb') ?_;exact ⟨rfl,O.lb⟩) kw (λ b hb' o g d=>by
  refine sr (GP hb') (ug N4 λ o' es ep g' d' uz1=>?_)
  exact ⟨o',g',λ vs q=>by rw [d'] at q;contradiction⟩) (s.toks+1)
 have hS:=uB (A:=K.A.mark (some (.ref a))) (ls:=lput ls ie (.ref a)) (rp:=rp) (q0:=q0) (q1:=q1) (pos:=pos) O G R4 L4 ((s4x.2 a haL).trans he) ((s4x.2 d hdL).trans hdd) (told:=told) (tk:=t') (by
   show lookIn (nm 0) (dictOf [⟨hs,.str (nm 0) t,.int told t'⟩] n)=_
   refine sr (lookIn_dict ..) ?_
   have hi:(Value.str (nm 0) t).isStr (nm 0)=true:=by
    show (nm 0==nm 0)=true
    refine sr (qn 0 (by decide) 0 (by decide)) ?_;rfl
   simp [getL,hi]) e1 (iz hie) e2 ((dm _ _ hte).trans g2) hz e3 ((dm _ _ hpe).trans g3) hx hd hm hm' rp1
 refine wpAny_mono (pL hS) (λ f s5 z=>?_) λ _ _ z=>z.elim
 obtain ⟨rfl,H',R5,T5⟩:=z
 refine DR N4 λ o5 es5 ep5 g5 r5=>?_
 have N5:s5.heap.Ns K.env.locals _:=⟨o5,es5,ep5,qb T5 _ _ g5,r5⟩
 refine wpAny_nameGoes hk N5 (by refine sr O.kind ?_;rfl) λ h6x m6x N6 s6=>?_
 refine q _ (λ b o hbo=>?_) R5.gens R5.os
 exact (s6.2 b λ q=>by rw [q,O.lb] at hbo;contradiction).trans (R5.base b o hbo)
end
theorem mh {env:Env}{B:List Stmt}:∀ A:List Stmt,execs (A++B) env=execs A env >>= λ f=>match f with | .next=>execs B env|f=>pure f
 | []=>by
  refine sr (execs_nil ..) (sr (pure_bind ..) ?_);rfl
 | st::A=>by
  show execs (st::(A++B)) env=_
  refine sr (execs_cons ..) (sr (execs_cons ..) (sr (bind_assoc ..) ?_))
  congr 1
  funext f
  induction f with
  | next=>exact mh A
  | _=>exact sr (pure_bind ..) rfl
section
variable {prog:Program}{w:World}{β:Bool}{A:Around}{env:Env}{s:Shared}{E:Value->Shared->Prop}
theorem qK {M:Model}{S T:List Stmt}{Q:Flow->Shared->Prop}(h:aF β M A (execs S env) (λ f s'=>match f with | .next=>aF β M A (execs T env) Q E s' | f=>Q f s') E s):aF β M A (execs (S++T) env) Q E s:=by
 refine sr (mh ..) (aa (aj h (λ f s' z=>?_) λ _ _ z=>z))
 cases f<;>first|exact z|exact ae z
theorem vY {body orelse:List Stmt}{h0x:ExceptHandler}{hs:List ExceptHandler}{pos:Pos}{Q:Flow->Shared->Prop}
  (h:aF β (model prog w) A (execs body env) (λ f s1x=>match f with | .next=>aF β (model prog w) A (execs orelse env) Q E s1x|f=>Q f s1x)
   (λ e s1x=>wpAny (model prog w) A (noteFrame e env) (λ _ s2x=>wpAny (model prog w) A (setFlight e none) (λ _ s3x=>wpAny (model prog w) A (handleBy e env (h0x::hs)) Q E s3x) E s2x) E s1x) s) :
  aF β (model prog w) A (exec (.Try body (h0x::hs) orelse [] pos) env) Q E s:=by
 refine aa (ag (aa (nY (aj h (λ f s1x h1x=>?_) λ e s1x h1x=>?_))))
 .cases f<;>first|exact h1x|exact ae h1x
 .exact ah (wpAny_bind (wpAny_mono h1x (λ _ _ h2x=>wpAny_bind h2x) λ _ _ x=>x))
end
theorem OR.words {S:Sx}{o:Obj}(h:OR S (.idict []) o):OR S (.sdict []) o:=by
 cases h with
 | idict p d =>
  cases p
  refine .sdict .nil (Bo d λ es ep d1 d2 d3 d4 d5=>?_)
  obtain ⟨el⟩:=es
  induction el with
  | nil=>exact ⟨#[],ep,d1,d2,(by intro x m;simp at m),.nil,by simp⟩
  | cons y r=>contradiction
section
variable {K:Kt}{ls:Ls}{s:Shared}{H H0:AH}{h0x:Heap}
theorem At.words {c:Addr}(a:At K H0 h0x ls H s)(hc:H c=some (.idict [])):At K H0 h0x ls (H.set c (.sdict [])) s:=by
 have dom:∀ b,H b=none->(H.set c (.sdict [])) b=none:=λ b e=>by
  refine sr (F4 _ _ (λ q=>by rw [q,hc] at e;contradiction)) ?_;exact e
 refine ⟨⟨a.R.base,λ b ao e=>?_,a.R.frames,λ env m L e=>dom _ (a.R.hid env m L e),a.R.gens,a.R.os⟩,?_,⟨λ b o e n=>⟨a.T.get e n,dom _ (a.T.hid e n)⟩,a.T.dom⟩⟩
 .by_cases hb:b=c
  .subst hb
   rw [F3] at e;(injection e with e;subst e)
   obtain ⟨n,o,g,r⟩:=a.R.objs _ _ hc
   refine ⟨n.imp id λ f=>(by contradiction),o,g,r.words⟩
  .rw [F4 _ _ hb] at e
   exact a.R.objs b ao e
 .obtain ⟨n,m,hm,c'⟩:=a.L
  exact ⟨dom _ n,m,hm,λ k v e=>(ln (c' k v e) λ nm x e1 e2 e3=>⟨nm,x,e1,e2,e3.imp id λ ⟨f1,cc,o,f2,f3,f4,f5⟩=>⟨f1,cc,o,f2,dom _ f3,f4,f5⟩⟩)⟩
end
theorem rU {K:Frag}{C:Addr}(h:nJ K C=true):kQ K C:=⟨GL (al (al (al (al h)))),GL (ar (al (al (al h)))),ar (al (al h)),GL (ar (al h)),GL (ar h)⟩
structure xz (S:Sx):Prop where
 ex:∃ fd body names,nW S 50 fd body names/\C6 (bu fd.scope.names) names 1 12 /\
  (∀ nm∈bu fd.scope.names,fd.scope.names.lookup nm≠some .cell)/\cB ⟨bu fd.scope.names,fd.scope.names,true⟩ tO (body.take 5)=true/\cB ⟨bu fd.scope.names,fd.scope.names,true⟩ uU ((body.drop 5).take 3)=true/\sQ ⟨bu fd.scope.names,fd.scope.names,true⟩ ((body.drop 5).drop 3)=true
theorem zW {S:Sx}(h:zE S.K (S.fa 50)=true):xz S:=by
 exact k9 (qr h) λ fd body F h=>⟨fd,body,_,F,td (al (al (al (al h)))),λ nm m=>GL (all_eq_true.mp (ar (al (al (al h)))) nm m),ar (al (al h)),ar (al h),ar h⟩
structure yL (c:Cx) (cx:Expr) (bn en id tn pn:Str) (m en':Str):Prop where
 h1:cE c BN cx=true
 h2:eE cx=true
 h3:en'=en/\m=nm 0
 h4:c.slots[11]?=some en/\c.slots[2]?=some tn/\c.slots[10]?=some pn
 h5:c.kd en=some .local
 h6:c.gl id=true/\id=Str.ofString "len"
 h7:c.gl bn=true/\bn=Str.ofString "BadParam"
 h8:(nm 0==tn)=false
theorem vF {C:List Stmt->Prop}{c:Cx}{ss:List Stmt}(h:sQ c ss=true)(f:∀ cx pe bn bp en en' q0 m q1 id p0 tn p1 pc pn p2 pb pos rp hp pt k i pr,yL c cx bn en id tn pn m en' ->
  C [.Try [.Expr cx pe] [.ExceptHandler (some (.Name bn bp)) (some en) [.Return (some (.Compare (.Attribute (.Name en' q0) m q1) [.Eq] [.BinOp (.Call (.Name id p0) [.Name tn p1] [] pc) .Add (.Name pn p2) pb] pos)) rp] hp] [] [] pt,.Return (some (.Constant (.bool false) k i)) pr]):C ss :=
 g7 h λ s1 s2 h=>zu (C:=λ s1=>C [s1,s2]) h λ tb hs oe fb pt h=>bw (C:=λ oe=>C [.Try tb hs oe fb pt,s2]) (al (al h)) (bw (C:=λ fb=>C [.Try tb hs _ fb pt,s2]) (ar (al h)) (cP (C:=λ tb=>C [.Try tb hs _ _ pt,s2]) (ar h) λ st h =>
  xv (C:=λ st=>C [.Try [st] hs _ _ pt,s2]) h λ cx pe h=>cP (C:=λ hs=>C [.Try _ hs _ _ pt,s2]) h λ hd h=>by
  obtain ⟨ty,nmo,hb,hp⟩:=hd
  exact fP (C:=λ ty=>C [.Try _ [.ExceptHandler ty nmo hb hp] _ _ pt,s2]) h λ ty h=>bk (C:=λ ty=>C [.Try _ [.ExceptHandler (some ty) nmo hb hp] _ _ pt,s2]) h λ bn bp h =>
   fP (C:=λ nmo=>C [.Try _ [.ExceptHandler _ nmo hb hp] _ _ pt,s2]) h λ en h=>cP (C:=λ hb=>C [.Try _ [.ExceptHandler _ _ hb hp] _ _ pt,s2]) h λ r h=>mV (C:=λ r=>C [.Try _ [.ExceptHandler _ _ [r] hp] _ _ pt,s2]) h λ x rp h =>
   fP (C:=λ x=>C [.Try _ [.ExceptHandler _ _ [.Return x rp] hp] _ _ pt,s2]) h λ x h=>dG (C:=λ x=>C [.Try _ [.ExceptHandler _ _ [.Return (some x) rp] hp] _ _ pt,s2]) h λ l ops rs pos h =>
   bG (C:=λ ops=>C [.Try _ [.ExceptHandler _ _ [.Return (some (.Compare l ops rs pos)) rp] hp] _ _ pt,s2]) (al h) (eN (C:=λ l=>C [.Try _ [.ExceptHandler _ _ [.Return (some (.Compare l _ rs pos)) rp] hp] _ _ pt,s2]) (ar h) λ y m q1 h =>
   bk (C:=λ y=>C [.Try _ [.ExceptHandler _ _ [.Return (some (.Compare (.Attribute y m q1) _ rs pos)) rp] hp] _ _ pt,s2]) h λ en' q0 h=>cP (C:=λ rs=>C [.Try _ [.ExceptHandler _ _ [.Return (some (.Compare _ _ rs pos)) rp] hp] _ _ pt,s2]) h λ rr h =>
   uc (C:=λ rr=>C [.Try _ [.ExceptHandler _ _ [.Return (some (.Compare _ _ [rr] pos)) rp] hp] _ _ pt,s2]) h λ a op b pb h=>bG (C:=λ op=>C [.Try _ [.ExceptHandler _ _ [.Return (some (.Compare _ _ [.BinOp a op b pb] pos)) rp] hp] _ _ pt,s2]) (al h)
   (ij (C:=λ a=>C [.Try _ [.ExceptHandler _ _ [.Return (some (.Compare _ _ [.BinOp a _ b pb] pos)) rp] hp] _ _ pt,s2]) (ar h) λ f' as kw pc h=>bw (C:=λ kw=>C [.Try _ [.ExceptHandler _ _ [.Return (some (.Compare _ _ [.BinOp (.Call f' as kw pc) _ b pb] pos)) rp] hp] _ _ pt,s2]) (al h)
   (bk (C:=λ f'=>C [.Try _ [.ExceptHandler _ _ [.Return (some (.Compare _ _ [.BinOp (.Call f' as _ pc) _ b pb] pos)) rp] hp] _ _ pt,s2]) (ar h) λ id p0 h=>cP (C:=λ as=>C [.Try _ [.ExceptHandler _ _ [.Return (some (.Compare _ _ [.BinOp (.Call _ as _ pc) _ b pb] pos)) rp] hp] _ _ pt,s2]) h λ t h =>
   bk (C:=λ t=>C [.Try _ [.ExceptHandler _ _ [.Return (some (.Compare _ _ [.BinOp (.Call _ [t] _ pc) _ b pb] pos)) rp] hp] _ _ pt,s2]) h λ tn p1 h=>bk (C:=λ b=>C [.Try _ [.ExceptHandler _ _ [.Return (some (.Compare _ _ [.BinOp _ _ b pb] pos)) rp] hp] _ _ pt,s2]) h λ pn p2 h =>
   mV (C:=λ s2=>C [_,s2]) h λ x pr h=>fP (C:=λ x=>C [_,.Return x pr]) h λ x h=>bN (C:=λ x=>C [_,.Return (some x) pr]) h λ k j i h=>bG (C:=λ k=>C [_,.Return (some (.Constant k j i)) pr]) (al h) (by
    have h:=ar h
    exact f _ _ _ _ _ _ _ _ _ _ _ _ _ _ _ _ _ _ _ _ _ _ _ _ ⟨al (al (al (al (al (al (al h)))))),ar (al (al (al (al (al (al h)))))),⟨GL (al (ar (al (al (al (al (al h))))))),GL (ar (ar (al (al (al (al (al h)))))))⟩,
     ⟨GL (al (al (ar (al (al (al (al h))))))),GL (ar (al (ar (al (al (al (al h))))))),GL (ar (ar (al (al (al (al h))))))⟩,GL (ar (al (al (al h)))),⟨al (ar (al (al h))),GL (ar (ar (al (al h))))⟩,⟨al (ar (al h)),GL (ar (ar (al h)))⟩,by have:=ar h;simpa using this⟩))))))
noncomputable abbrev tQ:Int->Prop:=λ _=>False
def wx (S:Sx)(k:Nat)(ls:Ls)(H:AH):Prop:=∃ (t:List Nat) (pl:Int),ls.length=12/\lget ls 2=some (.str t)/\lget ls 10=some (.int pl)/\t.length<=16777216/\xe BN ⟨af S k,true,λ told=>told=t.length+pl⟩ ls H (λ _ _=>False)
def za (S:Sx)(k:Nat)(ls:Ls)(H:AH):Prop:=∃ c,H c=some (.idict [])/\xs uU ⟨af S k,true,tQ⟩ ls (H.set c (.sdict [])) (wx S k) (λ _ _=>False)
theorem ly {α:Type}(l:List α):l=l.take 5++((l.drop 5).take 3++(l.drop 5).drop 3):=by
 exact sr (List.take_append_drop ..) (sr (List.take_append_drop ..) rfl)
theorem uh {S:Sx} (G:B0 S) (LO:xz S) (GE:kQ S.K (S.ca 0)) (hl1:S.mg (Str.ofString "len")=none) (hl2:S.mb (Str.ofString "len")=some (.builtin "len")) {k:Nat} (hk:0<k) {A:Around} {fs:List Env} {s:Shared} {x:Value} {u:V} {H:AH}
  (hroom:lu (k+1) A) (hfs:A.frames=some fs) (R:aI S fs H s) (rv:VR u x) (p:xs tO ⟨af S k,true,tQ⟩ [some u,none,none,none,none,none,none,none,none,none,none,none] H (za S k) (λ _ _=>False)) :
  aF true (model S.prog S.w) A (call (.ref (S.fa 50)) [x]) (λ v s'=>v=.bool true/\S.h0x.StaysIn s'.heap/\s'.gens=#[]/\s'.os=S.os) (λ _ _=>False) s:=by
 refine bc λ zz=>?_
 obtain ⟨fd,body,names,F,⟨h1,h2,h3,h4,h5⟩,hcell,c1,c2,c3⟩:=LO
 refine zz ?_
 refine fW (k:=k) (vs:=[u]) F h1 h2 h3 (by refine sr h4 ?_;rfl) hroom hfs R (.cons rv .nil) λ K eS ek esl esc efs OK FE CE hA hfr hb s1x at_ keep=>?_
 subst eS
 have o:Ok ⟨bu fd.scope.names,fd.scope.names,true⟩ K true:=⟨OK,G.SO,G.TO,esl,λ n=>(by show K.env.scope.names.lookup n=_;refine sr esc ?_;rfl),CE,λ _=>rfl⟩
 have rz:zg K:=⟨G.RO,by refine sr ek ?_;exact hk,G.bad⟩
 have B1:=sB tO _ _ _ _ tQ c1 o FE (.inr rz)
 have B2:=sB uU _ _ _ _ tQ c2 o FE (.inr rz)
 have noX:∀ {e s'},kz K H s.heap tQ e s'->False:=λ ⟨_,_,z⟩=>z
 have els:[u].map some++replicate ((bu fd.scope.names).length-names.length) none=[some u,none,none,none,none,none,none,none,none,none,none,none]:=by refine sr h5 (sr h4 ?_);rfl
 rw [els] at at_
 have hcc:iF K true tQ=⟨af K.S k,true,tQ⟩:=by exact sl ek rfl
 refine sr (ly body) ?_
 refine qK (aj (B1 H s.heap _ s1x H (za K.S k) (λ _ _=>False) hb at_ (by refine sr hcc ?_;exact p)) (λ fl s2x z=>?_) λ e s' z=>(noX z).elim)
 induction fl with
 | next =>
  refine bc λ zz=>?_
  obtain ⟨ls2,H2x,a2x,cc,e2,p2x⟩:=z
  refine zz ?_
  have a2x:=a2x.words e2
  refine qK (aj (B2 H s.heap _ s2x _ (wx K.S k) (λ _ _=>False) hb a2x (by refine sr hcc ?_;exact p2x)) (λ fl s3x z=>?_) λ e s' z=>(noX z).elim)
  induction fl with
  | next =>
   refine bc λ zz=>?_
   obtain ⟨ls3,H3,a3,t,pl,hll,g2,g10,hz,p3x⟩:=z
   refine zz (vF (C:=λ tl=>aF true K.M K.A (execs tl K.env) _ _ s3x) c3 λ cx pe bn bp en en' q0 m q1 id p0 tn p1 pc pn p2 pb pos rp hp pt k0 i0 pr t9=>bc λ zz=>?_)
   obtain ⟨c3,c4,⟨rfl,rfl⟩,⟨s11,s2,s10⟩,k11,⟨gl1,rfl⟩,⟨gl2,rfl⟩,hnt⟩:=t9
   refine zz ?_
   have bm:behindInMarks .Eq (.BinOp (.Call (.Name (Str.ofString "len") p0) [.Name tn p1] [] pc) .Add (.Name pn p2) pb)=false:=rfl
   .have hE:=sE BN _ _ _ true (λ told=>told=t.length+pl) ls3 c3 o
    have hcx:iF K true (λ told=>told=t.length+pl)=⟨af K.S k,true,λ told=>told=t.length+pl⟩:=by exact sl ek rfl
    refine aL (vY (aL (sr (exec_Expr K.env cx pe OK.inter (kI c4)) ?_)))
    refine aa (ag (an.bind hE a3.R a3.L (Q:=λ _ _=>False) (by refine sr hcx ?_;exact p3x) (λ _ _ _ _ _ _ _ _ q=>q.elim) λ e s' z=>?_))
    refine bc λ zz=>?_
    refine aT z λ told xp ez1=>?_;subst ez1
    refine zz ?_
    refine tS (ls:=ls3) OK FE G.RO GE xp a3.L (λ nm m=>?_) (by refine sr hll ?_;decide) (ie:=11) (it:=2) (ip:=10) (by decide) (by decide) hnt (by refine sr esl ?_;exact s11) ((o.kd _).trans k11) (by refine sr esl ?_;exact s2) g2 hz (by refine sr esl ?_;exact s10) g10
     (o.gl gl1).1 (o.gl gl1).2 hl1 hl2 (o.gl gl2).1 (o.gl gl2).2 G.bad bm λ s' b g os=>?_
    .rw [esl] at m
     exact λ q=>hcell nm m ((o.kd nm).symm.trans q)
    .simp only [decide_true]
     exact ⟨trivial,b,g,os⟩
  | ret v=>obtain ⟨_,_,_,_,_,q⟩:=z;exact q.elim
  | _=>exact z.elim
 | ret v=>obtain ⟨_,_,_,_,_,q⟩:=z;exact q.elim
 | _=>exact z.elim
def z9 (sv:List (Int×V))(A B:Int):Prop:=B=0/\(sv=[]/\A=0\/sv=[(65,.int A)])
section
variable {S:Sx}{X:Int->Prop}{β:Bool}{H:AH}{Q:V->AH->Prop}
theorem yN (P:Pk S){k n:Nat}{pa st:Addr}{ps:List V}{sv:List (Int×V)}{A B:Int}{ts:Ts}(ok:ts.ok)(hp:listAt H pa ps)(hs:H st=some (.idict sv))(hl:ts.text.length<=4000000)(W:WB n ⟨[],ps,[],A,B,none⟩)(hn:n+ts.cost<=50000)(hsv:z9 sv A B)
  (q:∀ sv' H',H' st=some (.idict sv')->z9 sv' (az ts ⟨[],ps,[],A,B,none⟩).A (az ts ⟨[],ps,[],A,B,none⟩).B->Mv H H' (λ a=>a=st)->Q (.bytes (az ts ⟨[],ps,[],A,B,none⟩).out) H'):af S (k+7) true X 33 [.bytes ts.text,.ref pa,.ref st] H Q:=by
 have R:gu ⟨[],ps,[],A,B,none⟩ ⟨ps,[],sv,[],[]⟩ []:=⟨rfl,rfl,rfl,rfl,hsv⟩
 have hops:dM (cK (aD 0 [] ts)) 0 (cK (aD 0 [] ts)):=λ j op e=>by exact sr (zero_add ..) e
 obtain ⟨g1,g2⟩:=dM.app (a:=(aD 0 [] ts).1) (b:=fl (aD 0 [] ts).2) hops
 refine aT (ib ts R W hn ok g1) λ s1 R1 x1=>?_
 have F1:=(WB.ts ts W ok hn).fine (by lia)
 refine aT (fy R1 F1 g2) λ s2 R2 x2=>?_
 have hlen:=dO (cz ts 0 [])
 have psl:=W.psl
 have e2:s2.out=(az ts ⟨[],ps,[],A,B,none⟩).out:=by have:=R2.out;simpa using this.symm
 refine Ew P hp (by simp at psl;lia) hs hl (Ts.oct ts ok) (xS ts ok) ⟨by lia,s2,x1 _ (x2 _ (.done (by unfold cK;simp) (R2.fine F1))),λ H' e m=>?_⟩
 exact sr e2 (q _ H' e R2.A m)
end
structure LS (H:AH) (dk l rl pa st:Addr) (vs ps:List V) (ts:Ts) (sv:List (Int×V)) (ke:Addr) (kes:List (List Nat×V)):Prop where
 D:bK H dk l
 rows:H rl=some (.flist vs)
 rat:cw H vs ts
 hpa:H pa=some (.list ps)
 npa:pa≠l
 hst:H st=some (.idict sv)
 hke:H ke=some (.sdict kes)
section
variable {S:Sx}{X:Int->Prop}{H:AH}{dk l rl pa st ke:Addr}{vs ps:List V}{ts:Ts}{sv:List (Int×V)}{kes:List (List Nat×V)}
theorem LS.keep {H':AH}(L:LS H dk l rl pa st vs ps ts sv ke kes)(m:Mv H H' aQ):LS H' dk l rl pa st vs ps ts sv ke kes :=
 ⟨L.D.other m,m.keep _ _ L.rows id,cw.keep (λ a ao _ e=>m.keep _ _ e id) ts L.rat,m.keep _ _ L.hpa id,L.npa,m.keep _ _ L.hst id,m.keep _ _ L.hke id⟩
theorem LS.stat {H':AH}{sv':List (Int×V)}(L:LS H dk l rl pa st vs ps ts sv ke kes)(m:Mv H H' (λ a=>a=st))(e:H' st=some (.idict sv')):LS H' dk l rl pa st vs ps ts sv' ke kes:=by
 obtain ⟨⟨_,h1⟩,⟨_,h2,_⟩⟩:=id L.D
 refine ⟨L.D.keep m ?_ ?_,m.keep _ _ L.rows ?_,cw.keep (λ a ao f g=>m.keep _ _ g ?_) ts L.rat,m.keep _ _ L.hpa ?_,L.npa,e,m.keep _ _ L.hke ?_⟩
 .rintro rfl;rw [L.hst] at h1;cases h1
 .rintro rfl;rw [L.hst] at h2;cases h2
 .intro q;have:=L.rows;rw [q,L.hst] at this;cases this
 .rintro rfl;rw [L.hst] at g;cases g;contradiction
 .intro q;have:=L.hpa;rw [q,L.hst] at this;cases this
 .intro q;have:=L.hke;rw [q,L.hst] at this;cases this
theorem FC {H H1 H2x:AH}{D:Addr->Prop}(x:Mv H H1 aQ)(y:Mv H1 H2x D)(h:∀ a,D a->H a=none):Mv H H2x aQ:=x.trans y (λ _ h=>h) λ a d=>.inr (h a d)
noncomputable def jy (w:Wd):List (List Nat×V):=[([65],.int w.A),([66],.int w.B)]
theorem qZ {C:Cw}{ls:Ls}{N:Ls->AH->Prop}{Rr:V->AH->Prop}{c:T}{a b r:B}(h:xt c C ls H λ t H1=>(t=true->xs a C ls H1 (λ ls' H'=>xs r C ls' H' N Rr) Rr)/\(t=false->xs b C ls H1 (λ ls' H'=>xs r C ls' H' N Rr) Rr)):xs (.cond c a b r) C ls H N Rr:=h
theorem uH {C:Cw}{ls:Ls}{e i:E}{G:Bool->AH->Prop}(h:xe e C ls H λ u H1=>xe i C ls H1 λ v H2x=>match u,v with
   | .ref a,.ref c=>∃ vs ws ns ms,listAt H2x a vs/\listAt H2x c ws/\bW vs=some ns/\bW ws=some ms/\G (!decide (ns=ms)) H2x
   | _,_=>False):xt (.neInts e i) C ls H G:=h
theorem AE {C:Cw}{ls:Ls}{o:CO}{e i:E}{G:Bool->AH->Prop}(h:xe e C ls H λ u H1=>xe i C ls H1 λ v H2x=>cmp o u v H2x λ t=>G t H2x):xt (.cmp o e i) C ls H G:=h
theorem xJ (P:Pk S){A B:Int}{n:Nat}(ok:ts.ok)(hdep:ts.dep<=4)(htl:ts.text.length<=4000000)(W:WB n ⟨[],ps,[],A,B,none⟩)(hn:n+ts.cost<=50000)(hsv:z9 sv A B)
  (hA:(bV kes [65]).getD (.int 0)=.int A) (hB:(bV kes [66]).getD (.int 0)=.int B) (L:LS H dk l rl pa st vs ps ts sv ke kes) {x0 x7 x8 x9 x10 x11:Option V} {N:Ls->AH->Prop} {Rr:V->AH->Prop}
  (q:∀ H' ke' sv' wd,LS H' dk l rl pa st vs ps ts sv' ke' (jy (az ts ⟨[],ps,[],A,B,none⟩))->z9 sv' (az ts ⟨[],ps,[],A,B,none⟩).A (az ts ⟨[],ps,[],A,B,none⟩).B ->
   N [x0,some (.ref dk),some (.str ts.text),some (.ref rl),some (.ref pa),some (.ref st),some (.ref ke'),x7,some (.ref wd),x9,x10,x11] H') :
  xs Ek ⟨af S 20,true,X⟩ [x0,some (.ref dk),some (.str ts.text),some (.ref rl),some (.ref pa),some (.ref st),some (.ref ke),x7,x8,x9,x10,x11] H N Rr:=by
 have psl:ps.length<=3:=W.psl
 have psl':ps.length<=16777216:=GK psl (ac rfl)
 refine bj (pZ (nE (gE .nil (ac rfl) λ sk nsk=>?_)))
 have m1:=Ga (D:=aQ) (o:=.list []) nsk
 have L1:=L.keep m1
 refine nE (rA (b:=.list) (.one (FY rfl)) ⟨ps,.inl L1.hpa,psl',λ pm npm=>?_⟩)
 have m2:=m1.newR (o:=.list ps) npm
 have L2:=L.keep m2
 have hsk2:((H.set sk (.list [])).set pm (.list ps)) sk=some (.list []):=aq (F3 _ _ _) npm
 have hpm2:((H.set sk (.list [])).set pm (.list ps)) pm=some (.list ps):=F3 _ _ _
 have npmsk:pm≠sk:=(aA npm).2
 have nsk0:H sk=none:=nsk
 revert m2 L2 hsk2 hpm2
 generalize ((H.set sk (.list [])).set pm (.list ps))=H2x
 intro m2 L2 hsk2 hpm2
 have gS {C:Cw} {ls:Ls} {j:Nat} {z:List Nat} {v:V} (hv:lget ls j=some (.ref ke)) (g:(bV kes z).getD (.int 0)=v):EV (.bm .getS (.var j) (.cons (.str z) (.cons (.int 0) .nil))) C ls H2x v:=EV.bm (FY hv) ⟨_,L2.hke⟩ (.two F0 FZ) λ _ q=>⟨_,L2.hke,g▸q⟩
 refine jD F0 (AV.two (gS rfl hA) (gS rfl hB) _ ⟨⟨rfl,by decide⟩,λ wd nwd=>?_⟩)
 have m3:=m2.newR (o:=.sdict ((⟨[],ps,[],A,B,none⟩:Wd).es sk pm)) nwd
 have nwd0:H wd=none:=m2.dom _ nwd
 have L3:=L.keep m3
 have W3:gn (H2x.set wd (.sdict ((⟨[],ps,[],A,B,none⟩:Wd).es sk pm))) wd sk ⟨[],ps,[],A,B,none⟩:=⟨⟨pm,F3 _ _ _,.inl (aq hpm2 nwd),npmsk⟩,aq hsk2 nwd⟩
 show xs _ _ _ (H2x.set wd (.sdict ((⟨[],ps,[],A,B,none⟩:Wd).es sk pm))) _ _
 revert m3 L3 W3
 generalize (H2x.set wd (.sdict ((⟨[],ps,[],A,B,none⟩:Wd).es sk pm)))=H3
 intro m3 L3 W3
 refine aG (ax (.two (FY rfl) (FY rfl)) (FF P ts 20 true X wd sk rl _ n vs H3 _ (by lia) ok W3 W hn L3.rat L3.rows λ H4 x4=>?_))
 have W4:=WB.ts ts W ok hn
 obtain ⟨pm4,hd4,_⟩:=x4.1.d
 have m4:Mv H H4 aQ:=FC m3 x4.2 λ a h=>by rcases h with rfl|rfl<;>assumption
 have L4:=L.keep m4
 refine bj (pZ (AV.two (F5 (FY rfl) F0 (lf hd4 rfl)) (F5 (FY rfl) F0 (lf hd4 rfl)) _ ⟨⟨rfl,by decide⟩,λ ke' nke=>?_⟩))
 have m5:=m4.newR (o:=.sdict (jy (az ts ⟨[],ps,[],A,B,none⟩))) nke
 have L5:=L.keep m5
 have hke5:(H4.set ke' (.sdict (jy (az ts ⟨[],ps,[],A,B,none⟩)))) ke'=some (.sdict (jy (az ts ⟨[],ps,[],A,B,none⟩))):=F3 _ _ _
 have hd5:=aq (ao:=.sdict (jy (az ts ⟨[],ps,[],A,B,none⟩))) hd4 nke
 show xs _ _ _ (H4.set ke' (.sdict (jy (az ts ⟨[],ps,[],A,B,none⟩)))) _ _
 revert m5 L5 hke5 hd5
 generalize (H4.set ke' (.sdict (jy (az ts ⟨[],ps,[],A,B,none⟩))))=H5
 intro m5 L5 hke5 hd5
 refine qZ (AE (hN (nE (ax (.one (FY rfl)) (Du P (Ts.oct ts ok) (GK htl (ac rfl)) λ H6 m6=>?_)))))
 have L6:=L5.keep m6
 refine nE (rA (b:=.list) (.one (FY rfl)) ⟨ps,.inl L6.hpa,psl',λ pa2 npa2=>jD (FY rfl) ?_⟩)
 have m7:=Ga (D:=aQ) (o:=.list ps) npa2
 have L7:=L6.keep m7
 refine yN P (k:=13) ok (.inl (F3 _ _ _)) L7.hst htl W hn hsv λ sv' H8 h8 s8 m8=>?_
 have L8:=L7.stat m8 h8
 have m58:Mv H5 H8 (λ a=>a=st):=(m6.trans m7 (D:=aQ) (λ _ h=>h) λ _ h=>.inl h).trans m8 (D:=λ a=>a=st) (λ _ h=>h.elim) λ _ h=>.inl h
 have hd8:=m58.keep _ _ hd5 (λ q=>by rw [q,L5.hst] at hd5;cases hd5)
 have hke8:=m58.keep _ _ hke5 (λ q=>by rw [q,L5.hst] at hke5;cases hke5)
 have OWw:=OW.ts ts (w:=⟨[],ps,[],A,B,none⟩) ⟨cm,λ v m=>(W.pv v m).2.2.2⟩
 refine ax (.one (F5 (FY rfl) F0 (lf hd8 rfl))) (Du P OWw.out (by have:=W4.out;lia) λ H9 m9=>?_)
 have L9:=L8.keep m9
 exact DV (congrArg not (GM rfl)) (q H9 ke' sv' wd ⟨L9.D,L9.rows,L9.rat,L9.hpa,L9.npa,L9.hst,m9.keep _ _ hke8 id⟩ s8)
end
structure P0 (ps:List V):Prop where
 psl:ps.length<=3
 pv:∀ v∈ps,eL v/\(num v).natAbs<=1000/\(oct v).length<=60/\cR (oct v)
 i0:∀ v,ps[0]?=some v->v=.int (num v)
 i2:∀ v,ps[2]?=some v->v=.int (num v)
theorem P0.wb {ps:List V}(h:P0 ps){n:Nat}{A B:Int}(hA:A.natAbs<=1000+n)(hB:B.natAbs<=1000+n):WB n ⟨[],ps,[],A,B,none⟩ :=
 ⟨h.psl,λ v m=>by obtain ⟨a,b,c⟩:=h.pv v m;exact ⟨a,by lia,c⟩,h.i0,h.i2,zero_le _,(λ i m=>by cases m),zero_le _,hA,hB,λ i m=>by contradiction⟩
theorem P0.three {a b:Int}{v:V}(ha:a.natAbs<=1000)(hb:b.natAbs<=1000)(hv:(∃ i:Int,v=.int i/\i.natAbs<=1000)\/v=.bytes [97,98,37])(n:Nat):P0 (([.int a,v,.int b]:List V).take n):=by
 refine ⟨by simp;lia,λ x m=>?_,λ x e=>?_,λ x e=>?_⟩
 .have m:=List.mem_of_mem_take m
  simp only [mem_cons,not_mem_nil,or_false] at m
  rcases m with rfl|rfl|rfl
  .exact ⟨.int _,ha,zero_le _,cm⟩
  .rcases hv with ⟨i,rfl,hi⟩|rfl
   .exact ⟨.int _,hi,zero_le _,cm⟩
   .exact ⟨.bytes _,zero_le _,by decide,aV rfl⟩
  .exact ⟨.int _,hb,zero_le _,cm⟩
 .rw [List.getElem?_take] at e
  split at e
  .simp at e;subst e;rfl
  .contradiction
 .rw [List.getElem?_take] at e
  split at e
  .simp at e;subst e;rfl
  .contradiction
section
variable {S:Sx}{X:Int->Prop}{H:AH}{dk l rl pa st ke:Addr}{vs ps:List V}{ts:Ts}{sv:List (Int×V)}{kes:List (List Nat×V)}
theorem sU {e:List Nat×Nat}(he:e∈em):cR e.1/\e.1.length<=20:=by
 have:(em.all λ e=>e.1.all (λ c=>decide (c<256))&&decide (e.1.length<=20))=true:=by decide
 have:=all_eq_true.mp this e he
 simp only [Bool.and_eq_true,decide_eq_true_eq] at this
 exact ⟨aV this.1,this.2⟩
theorem Dg (P:Pk S)(ok:ts.ok)(htl:ts.text.length<=1000000)(hps:ps.length<=3){e:List Nat×Nat}(he:e∈em){ls:Ls}(g2:lget ls 2=some (.str ts.text))(g4:lget ls 4=some (.ref pa))(g9:lget ls 9=some (.str e.1))(hp:H pa=some (.list ps)) :
  xe BN ⟨af S 20,true,λ told=>told=(ts.text.length:Int)+(e.2:Int)⟩ ls H (λ _ _=>False):=by
 obtain ⟨eo,el⟩:=sU he
 have tl:ts.text.length+e.1.length<=1000020:=add_le_add htl el
 refine hN (nE (ax (.one (F9 (FY g2) (FY g9) (GK tl (ac rfl)))) (Du P ((Ts.oct ts ok).app eo) (by refine sr GO ?_;exact GK tl (ac rfl)) λ H1 m1=>?_)))
 refine nE (qU (.one (FY g4)) (.inl (m1.keep _ _ hp id)) (GK hps (ac rfl)) λ c H2x mc nc gc=>bI (uL λ d H3 md nd gd=>?_))
 refine Ew P (k:=13) (o:=ts.text++e.1) (ps:=ps) (sv:=[]) (.inl (md.keep _ _ gc id)) (GK hps (ac rfl)) gd (by refine sr GO ?_;exact GK tl (ac rfl)) ((Ts.oct ts ok).app eo) (vR ok he) ?_
 exact Int.natCast_add _ _
theorem vw {sv:List (Int×V)}{A B:Int}(h:z9 sv A B):(bV sv (65:Int)).getD (.int 0)=.int A/\(bV sv (66:Int)).getD (.int 0)=.int B:=by
 obtain ⟨rfl,⟨rfl,rfl⟩|rfl⟩:=h
 .exact ⟨rfl,rfl⟩
 .exact ⟨rfl,rfl⟩
theorem Cf (P:Pk S){w:Wd}(ok:ts.ok)(htl:ts.text.length<=1000000)(hps:ps.length<=3)(hsv:z9 sv w.A w.B)(L:LS H dk l rl pa st vs ps ts sv ke (jy w)){x0 x7 x8 x9 x10 x11:Option V} :
  xs A8 ⟨af S 20,true,tQ⟩ [x0,some (.ref dk),some (.str ts.text),some (.ref rl),some (.ref pa),some (.ref st),some (.ref ke),x7,x8,x9,x10,x11] H (wx S 20) (λ _ _=>False):=by
 obtain ⟨g1,g2⟩:=vw hsv
 have gI {C:Cw} {ls:Ls} {j:Nat} {z:Int} {v:V} (hv:lget ls j=some (.ref st)) (g:(bV sv z).getD (.int 0)=v):EV (.bm .getI (.var j) (.cons (.int z) (.cons (.int 0) .nil))) C ls H v:=EV.bm (FY hv) ⟨_,L.hst⟩ (.two FZ FZ) λ _ q=>⟨_,L.hst,g▸q⟩
 refine qZ (uH (gE (.two (gI rfl g1) (gI rfl g2)) (ac rfl) λ c1 n1=>?_))
 have m1:=Ga (D:=aQ) (o:=.list [.int w.A,.int w.B]) n1
 have L1:=L.keep m1
 refine gE (.two (F5 (FY rfl) F0 (lf L1.hke rfl)) (F5 (FY rfl) F0 (lf L1.hke rfl))) (ac rfl) λ c2 n2=>?_
 have m2:=m1.newR (o:=.list [.int w.A,.int w.B]) n2
 have L2:=L.keep m2
 refine ⟨_,_,[w.A,w.B],[w.A,w.B],.inl (aq (F3 _ _ _) n2),.inl (F3 _ _ _),rfl,rfl,DV (congrArg not (GM rfl)) ?_⟩
 show xs _ _ _ ((H.set c1 (.list [.int w.A,.int w.B])).set c2 (.list [.int w.A,.int w.B])) _ _
 revert m2 L2
 generalize ((H.set c1 (.list [.int w.A,.int w.B])).set c2 (.list [.int w.A,.int w.B]))=H2x
 intro m2 L2
 refine cL (nG (ax .nil (FL P λ c vs' H3 m3 n3 hc hv=>?_)))
 have L3:=L2.keep m3
 refine ax (.two (FY rfl) FZ) (q7 P (many:=13) L3.D (by decide) λ d H4 hd D4 m4=>?_)
 have ncD:¬ DD dk l c:=λ q=>by
  obtain ⟨⟨_,a1⟩,_,a2,_⟩:=L2.D
  rcases q with rfl|rfl
  .rw [a1] at n3;contradiction
  .rw [a2] at n3;contradiction
 have hc4:=m4.keep _ _ hc ncD
 have hl:=hv.length
 rw [length_map] at hl
 have h13:em.length=13:=rfl
 obtain ⟨e,he⟩:∃ e,em[d]?=some e:=⟨em[d],getElem?_eq_getElem (by lia)⟩
 have he':(em.map endV)[d]?=some (endV e):=by refine sr getElem?_map (sr he ?_);rfl
 refine aT (hv.get he') λ t ht hte=>i5 hc4 (by lia) ht ?_
 have npD:¬ DD dk l pa:=λ q=>by
  obtain ⟨⟨_,a1⟩,_⟩:=L3.D
  rcases q with q|q
  .have:=L3.hpa;rw [q,a1] at this;cases this
  .exact L3.npa q
 refine ⟨_,(L3.D.fk m4).tup hte,_,rfl,?_⟩
 exact ⟨ts.text,e.2,rfl,rfl,rfl,by lia,Dg P ok htl hps (mem_of_getElem? he) rfl rfl rfl (m4.keep _ _ L3.hpa npD)⟩
end
section
variable {S:Sx}{X:Int->Prop}{H:AH}{dk l rl pa st ke:Addr}{vs ps:List V}{ts:Ts}{sv:List (Int×V)}{kes:List (List Nat×V)}
theorem Ca (P:Pk S)(ok:ts.ok)(hdep:ts.dep<=4)(htl:ts.text.length<=1000000)(hcost:ts.cost<=20000)(p0:P0 ps)(L:LS H dk l rl pa st vs ps ts [] ke []){x0 x7 x8 x9 x10 x11:Option V} :
  xs uU ⟨af S 20,true,tQ⟩ [x0,some (.ref dk),some (.str ts.text),some (.ref rl),some (.ref pa),some (.ref st),some (.ref ke),x7,x8,x9,x10,x11] H (wx S 20) (λ _ _=>False):=by
 have W0:WB 0 ⟨[],ps,[],0,0,none⟩:=p0.wb (by lia) (by lia)
 have W1:=WB.ts ts W0 ok (by lia)
 refine kf FZ ⟨⟨by decide,by decide⟩,rfl⟩ ⟨trivial,(xJ P (n:=0) ok hdep (by lia) W0 (by lia) ⟨rfl,.inl ⟨rfl,rfl⟩⟩ rfl rfl L λ H1 ke1 sv1 wd1 L1 s1=>⟨trivial,?_⟩)⟩
 have W2:WB (0+ts.cost) ⟨[],ps,[],(az ts ⟨[],ps,[],0,0,none⟩).A,(az ts ⟨[],ps,[],0,0,none⟩).B,none⟩:=p0.wb W1.A W1.B
 exact xJ P ok hdep (by lia) W2 (by lia) s1 rfl rfl L1 λ H2x ke2 sv2 wd2 L2 s2=>⟨trivial,(Cf P ok htl p0.psl s2 L2)⟩
theorem BV (P:Pk S){sc:Addr}{is:List Int}(hs:listAt H sc (is.map V.int))(hl:is.length<=100) :
  xs tO ⟨af S 20,true,tQ⟩ [some (.ref sc),none,none,none,none,none,none,none,none,none,none,none] H (za S 20) (λ _ _=>False):=by
 refine bj (ax (.one (FY rfl)) (FA P hs hl λ dk l H1 D1 m1 _ _=>cL (ax (.cons (FY rfl) (.two FZ FZ)) (AW P 10 true tQ dk l 5 H1 _ (by lia) D1 λ t H2x ts R D2 m2=>?_))))
 obtain ⟨rl,vs,e1,e2,e3⟩:=R.at_
 refine ⟨_,e1,_,rfl,?_⟩
 have htl:ts.text.length<=5*4220:=R.text
 have hco:ts.cost<=5*144:=R.cost
 have hdep:ts.dep<=2*2:=R.dep
 refine bj (j0 (nE (fR (ax (.two (FY rfl) FZ) (q7 P (many:=19) D2 (by decide) λ a H3 ha D3 m3=>(show xes _ _ _ _ _ from (nE (nG (j0 (nE (ax (.two (FY rfl) FZ) (q7 P (many:=40) D3 (by decide) λ b H4 hb D4 m4=>AV.one F8 _ ⟨ac rfl,λ c1 n1=>?_⟩))))))))))))
 have m5:=Ga (D:=aQ) (o:=.list [.int b,.bytes [97,98,37]]) n1
 have D5:=D4.other m5
 have ncD:∀ {H':AH} {c:Addr},bK H' dk l->H' c=none->¬ DD dk l c:=λ D n q=>by
  obtain ⟨⟨_,a1⟩,_,a2,_⟩:=D
  rcases q with rfl|rfl
  .rw [a1] at n;contradiction
  .rw [a2] at n;contradiction
 refine ax (.two (FY rfl) FZ) (q7 P (many:=2) D5 (by decide) λ i H6 hi D6 m6=>?_)
 have hc6:=m6.keep _ _ (F3 _ _ _) (ncD D4 n1)
 have hv:∃ v,([.int b,.bytes [97,98,37]]:List V)[i]?=some v/\((∃ i:Int,v=.int i/\i.natAbs<=1000)\/v=.bytes [97,98,37]):=by
  have:i=0\/i=1:=by lia
  rcases this with rfl|rfl
  .exact ⟨_,rfl,.inl ⟨_,rfl,by lia⟩⟩
  .exact ⟨_,rfl,.inr rfl⟩
 obtain ⟨v,hv1,hv2⟩:=hv
 refine i5 hc6 (by simp) hv1 (bI (fR (ax (.two (FY rfl) FZ) (q7 P (many:=300) D6 (by decide) λ e H7 he D7 m7=>⟨ac rfl,λ c2 n2=>?_⟩))))
 have m8:=Ga (D:=aQ) (o:=.list [.int ((a:Int)-9),v,.int ((e:Int)-20)]) n2
 have D8:=D7.other m8
 have h28:(H7.set c2 (.list [.int ((a:Int)-9),v,.int ((e:Int)-20)])) c2=some (.list [.int ((a:Int)-9),v,.int ((e:Int)-20)]):=F3 _ _ _
 have n2D:=ncD D7 n2
 have fk:aH H2x (H7.set c2 (.list [.int ((a:Int)-9),v,.int ((e:Int)-20)])):=((((D2.fk m3).trans (D3.fk m4)).trans (aH.new n1)).trans (D5.fk m6)).trans ((D6.fk m7).trans (aH.new n2))
 revert D8 h28 fk
 generalize (H7.set c2 (.list [.int ((a:Int)-9),v,.int ((e:Int)-20)]))=H8
 intro D8 h28 fk
 refine bj (py (FY (v:=.ref c2) rfl _ (ax (.two (FY rfl) FZ) (q7 P (many:=4) D8 (by decide) λ n H9 hn D9 m9=>⟨_,.inl (m9.keep _ _ h28 n2D),⟨natCast_nonneg _,ac rfl⟩,λ pa np=>?_⟩))))
 have p0:P0 (([.int ((a:Int)-9),v,.int ((e:Int)-20)]:List V).take n):=P0.three (by lia) (by lia) hv2 n
 have nlp:pa≠l:=λ q=>ncD D9 np (.inr q)
 have m10:=Ga (D:=aQ) (o:=.list (([.int ((a:Int)-9),v,.int ((e:Int)-20)]:List V).take n)) np
 have D10:=D9.other m10
 have hp10:(H9.set pa (.list (([.int ((a:Int)-9),v,.int ((e:Int)-20)]:List V).take n))) pa=some (.list (([.int ((a:Int)-9),v,.int ((e:Int)-20)]:List V).take n)):=F3 _ _ _
 have fk10:aH H2x (H9.set pa (.list (([.int ((a:Int)-9),v,.int ((e:Int)-20)]:List V).take n))):=(fk.trans (D8.fk m9)).trans (aH.new np)
 show xs _ _ _ (H9.set pa (.list (([.int ((a:Int)-9),v,.int ((e:Int)-20)]:List V).take n))) _ _
 revert D10 hp10 fk10
 generalize (H9.set pa (.list (([.int ((a:Int)-9),v,.int ((e:Int)-20)]:List V).take n)))=H10
 revert p0
 generalize ([.int ((a:Int)-9),v,.int ((e:Int)-20)]:List V).take n=ps
 intro p0 D10 hp10 fk10
 refine cL λ st nst ke nke=>⟨ac rfl,λ tt ntt=>⟨_,F3 _ _ _,_,rfl,?_⟩⟩
 have mst:=Ga (D:=aQ) (o:=.idict []) nst
 have mke:=(mst.newR (o:=.idict []) nke).newR (o:=.tup [.ref st,.ref ke]) ntt
 have hke:(((H10.set st (.idict [])).set ke (.idict [])).set tt (.tup [.ref st,.ref ke])) ke=some (.idict []):=aq (F3 _ _ _) ntt
 have hst:(((H10.set st (.idict [])).set ke (.idict [])).set tt (.tup [.ref st,.ref ke])) st=some (.idict []):=aq (aq (F3 _ _ _) nke) ntt
 have nek:st≠ke:=(aA nke).2.symm
 refine ⟨ke,hke,?_⟩
 have nke0:H10 ke=none:=mst.dom _ nke
 have mF:=mke.putR' (o:=.sdict []) nke0
 have fkF:aH H10 ((((H10.set st (.idict [])).set ke (.idict [])).set tt (.tup [.ref st,.ref ke])).set ke (.sdict [])):=λ a ao _ e=>mF.keep _ _ e id
 have fkA:=fk10.trans fkF
 exact Ca P R.ok hdep (by lia) (by lia) p0 ⟨D10.other mF,fkA.fl e2,cw.keep fkA ts e3,mF.keep _ _ hp10 id,nlp,(sr (F4 _ _ nek) hst),F3 _ _ _⟩
end
theorem mB {P:Params}{h:Heap}:∀ {xs:List WData} {vs:List Value},WShape.hasItems [] xs .int=true->WellAll P h vs xs->∃ is:List Int,is.length=xs.length/\cO (is.map V.int) vs
 | [],_,_,w=>by cases w;exact ⟨[],rfl,.nil⟩
 | x::xs,_,hh,w=>by
  cases w with
  | cons a b =>
   have hh':WShape.has [] x .int=true/\WShape.hasItems [] xs .int=true:=by
    simpa [WShape.hasItems] using hh
   obtain ⟨i,rfl⟩:=hasW_int hh'.1
   refine aT (mB hh'.2 b) λ is e r=>?_
   cases a with
   | int _ t=>exact ⟨i::is,by simp [e],.cons (.int i t) r⟩
theorem wu {xs:List WData}(h:(Challenge.rw_og0270_01.row.toRowW).pre.holds [] {args:=[.list xs]}=true):xs.length<=63:=by
 have e:(Challenge.rw_og0270_01.row.toRowW).pre=.and (.not (.lt (.lit (.int 63)) (.len (.arg 0)))) (.lit (.bool true)):=rfl
 rw [e] at h
 have hl:less? (.int 63) (.int xs.length)=some (decide ((63:Int)<xs.length)):=rfl
 induction hd:decide ((63:Int)<xs.length) with
 | false=>simp at hd;lia
 | true=>simp [WTm.holds,WTm.value,hl,hd] at h
theorem Dc {s0 s1x s':Shared}{args:List WData}(hb:s1x.heap.StaysIn s'.heap)(hg:s'.gens=#[])(ho:s'.os=s1x.os):GoodWG (Challenge.rw_og0270_01.row.toRowW).claim (classAt s0.heap) (ExcName.means s0.heap) args s1x (.ok (.ret (.bool true))) s':=by
 refine ⟨.inl ⟨_,.bool true,[],rfl,λ cls=>rfl,.bool true,(postW_of (X:=true) rfl ?_ rfl),λ _=>⟨.nil,nofun⟩⟩,.of_keep hb,ho,.of_eq hg⟩
 show WTm.value [] (.eq .res (.lit (.bool true))) _=_
 simp only [WTm.value]
 simp [same]
theorem zC:lu (20+1) callerA:=by
 refine ⟨rfl,rfl,?_,?_⟩
 .show 1+claimMargin+3*(20+1)<=900;decide
 .show 4+20*(20+1)+100<=9000;decide
noncomputable def Cu (l:Addr)(is:List Int):AH:=λ b=>if b=l then some (.flist (is.map V.int)) else none
theorem y8 (l:Addr)(is:List Int):listAt (Cu l is) l (is.map V.int):=.inr (if_pos rfl)
theorem t8 {S:Sx}(hK:kn S.K S.fa S.ca=true){l:Addr}{is:List Int}{s:Shared}(hl:is.length<=63)(R:aI S [] (Cu l is) s) :
  aF true (model S.prog S.w) callerA (call (.ref (S.fa 50)) [.ref l]) (λ v s'=>v=.bool true/\S.h0x.StaysIn s'.heap/\s'.gens=#[]/\s'.os=S.os) (λ _ _=>False) s :=
 have SO:B0 S:=Eu hK
 have P:Pk S:=⟨SO,λ h=>Dt hK h⟩
 have lenb:=SO.TO.bi .len
 uh (k:=20) (A:=callerA) (fs:=[]) (u:=.ref l) SO (zW (cq hK).2.2.2.2.1) (rU (cq hK).2.2.2.2.2) lenb.1 lenb.2 (by decide) zC rfl R (.ref l) (BV P (y8 l is) (GK hl (by decide)))
theorem wH {S:Sx} (hK:kn S.K S.fa S.ca=true):S.mg (Str.ofString "law")=some (.ref (S.fa 50)):=((Eu hK).TO.fn 50 _ (by decide +kernel)).1
set_option tactic.hygienic true in
theorem holds:Challenge.rw_og0270_01.Holds:=by
 refine Co λ d kwd hdn=>?_
 intro w s0 s1x mg mb G Y a o pm cd doc dV kV ha hdata hcode hdf hmg hgens args vals as hpre hlay hreads hwell hsys
 obtain ⟨hall,hp2⟩:=pre_splitW hpre
 refine ln (hasAllW_cons hall) λ d r ez1 hd hr=>?_;subst ez1
 obtain rfl:=hasAllW_nil hr
 refine aT (hasW_list hd) λ xs ez1 hit=>?_;subst ez1
 have hlen:=wu hp2
 cases hwell with
 | cons wa wb =>
 cases wb
 cases wa with
 | list g wi =>
 rename_i l ys
 refine aT (mB hit wi) λ is hil hv=>aT Y λ KK hKin hKok=>?_
 let S:Sx:={prog:=(Challenge.rw_og0270_01.row.toRowW).prog,w:=w,h0x:=s1x.heap,os:=s1x.os,K:=KK,p:=qw,loose:=_,mg:=mg,mb:=mb,X:=hKin,T:=topRead_of G.T,fa:=w6,ca:=Ag}
 have hn:S.mg (Str.ofString "law")=some (.ref (S.fa 50)):=wH (S:=S) hKok
 have ea:a=w6 50:=by
  have h1:mg (Str.ofString "law")=some (.ref a):=hdn▸hmg
  have h2:mg (Str.ofString "law")=some (.ref (w6 50)):=hn
  rw [h1] at h2;cases h2;rfl
 subst ea
 have R:aI S [] (Cu l is) s1x:=by
  refine ⟨λ _ _ e=>e,λ b ao e=>?_,trivial,λ _ m=>(by contradiction),hgens,rfl⟩
  unfold Cu at e
  split at e
  .rename_i hb;subst hb;(injection e with e;subst e)
   exact ⟨.inr rfl,_,g,.flist (by simpa using hv)⟩
  .contradiction
 refine aj (t8 (S:=S) hKok (l:=l) (is:=is) (by refine sr hil ?_;exact hlen) R) (λ v s' z=>?_) λ _ _ z=>z.elim
 refine Ai z λ ez1 b gg oo=>?_;subst ez1
 exact Dc b gg oo
end Internal
end
set_option maxRecDepth 100000 in
set_option maxHeartbeats 8000000 in
theorem PySem.Challenge.cw_og0270_01_holds : PySem.Challenge.rw_og0270_01.Holds :=
  Internal.holds
