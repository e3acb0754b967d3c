import PyProof.Rows.All
import Wide.All
import OpenK.AllK
import Wide.FinOn
import HandS.ForMost
import HandS.WordsExc
import HandS.Wide
import HandS.Defaults
import HandS.SortInts
import HandS.IsInst
import HandS.EndBits
import PyProof.ReprRoads
import HandS.Conv
import HandS.Style
import HandS.NoneIn
import HandS.TupAny
import HandS.SetFor
import HandS.Text
import PyProof.Rows.ChunkEnd
import HandS.Zip
import HandS.Property
import HandS.DictComp
import HandS.More
import KE.GoesMore
import KE.KDictZip
import KE.KRevIter
import HandS.ListItems
import KE.GoesEnum
import PyProof.StrOps2
import HandS.Comp
import HandS.ExcInit
import HandS.ExcField
import HandS.ExcOwn
import HandS.Strs
import PySem.Challenge.RW_leftreturn_k11_results_of_patterns
set_option Elab.async false
set_option linter.all false
set_option maxRecDepth 100000
set_option maxHeartbeats 4000000
namespace Lx
open PySem PySem.Spec PyProof.Rows L2

/-! ### a def's promise where no repr runs around it -/
structure FnG (P : Program) (w : World) (K : PySem.W.Frag) (mg : Str → Option Value) (base : Heap) (k : Nat) (f : Addr) (fd : FuncData) (ps : List Str) (sp : Sp) : Prop where
  ln : ∀ us H Q E, sp us H Q E → us.length = ps.length
  go : ∀ (A : Around) (fs : List Env) (s : Shared) (H : Hp) (ar : Args) (us : List Value) (vs : List V) (Q : VK) (E : XK), A.guards = some [] → Room k A → Env0 P w K mg base A fs s H →
    BindsTo s fd ar (ps.zip us) → Vals vs us → sp vs H Q E → codeAny (model P w) A (.call (.ref f) ar) (CR (L2.CX P w) fs P w H s Q E) s
section
variable {P : Program} {w : World} {K : PySem.W.Frag} {mg : Str → Option Value} {base : Heap}
theorem FnG.up {j k : Nat} {f : Addr} {fd : FuncData} {ps : List Str} {sp : Sp} (F : FnG P w K mg base j f fd ps sp) (h : j ≤ k) : FnG P w K mg base k f fd ps sp :=
  ⟨F.ln, fun A fs s H ar us vs Q E hg hr => F.go A fs s H ar us vs Q E hg (hr.mono h)⟩
theorem FnG.imp {k : Nat} {f : Addr} {fd : FuncData} {ps : List Str} {sp sp' : Sp} (F : FnG P w K mg base k f fd ps sp) (h : ∀ vs H Q E, sp' vs H Q E → sp vs H Q E) : FnG P w K mg base k f fd ps sp' :=
  ⟨fun vs H Q E z => F.ln vs H Q E (h _ _ _ _ z), fun A fs s H ar us vs Q E hg hr e b v z => F.go A fs s H ar us vs Q E hg hr e b v (h _ _ _ _ z)⟩
theorem FnG.of {k : Nat} {f : Addr} {fd : FuncData} {ps : List Str} {sp : Sp} (F : FnOk P w K mg base (L2.CX P w) k f fd ps sp) : FnG P w K mg base k f fd ps sp :=
  ⟨F.len, fun A fs s H ar us vs Q E _ hr => F.run A fs s H ar us vs Q E hr⟩

/-- the rule for a def: its body's term, read where no repr runs -/
theorem graw {x qual : Str} {st : Stmt} {f : Addr} {dV kV doc pm cdv ct oc : Value} {an od : Option Addr} {osl : Array (Option Value)} {N ps : List Str} {k : Nat} {sp : Sp}
    (lk : K.lookup f = some ⟨oc, od, .func (PySem.W.fnOf x qual (defArgs st) (defBody st) (defScope st) dV kV doc pm an cdv ct), osl⟩) (hcd : PySem.W.codeIn K cdv qual = true) (S : FnScope N ps (defScope st)) (ln : ∀ vs H Q E, sp vs H Q E → vs.length = ps.length)
    (hb : ∀ (A : Around) (fs : List Env) (s : Shared) (H : Hp) (vs : List V) (Q : VK) (E : XK), (A.deeper (envOfC qual (defScope st) s.heap.objs.size f cdv)).guards = some [] → Room k (A.deeper (envOfC qual (defScope st) s.heap.objs.size f cdv)) → sp vs H Q E →
      ∃ t, PSs (cxOf (L2.CX P w) P w K mg base N qual (defScope st) f cdv A fs s H E) (defBody st) t ∧ t { nx := fun _ H' => Q .non H', rt := Q } (start N vs) H) : FnG P w K mg base (k + 1) f (PySem.W.fnOf x qual (defArgs st) (defBody st) (defScope st) dV kV doc pm an cdv ct) ps sp := by
  refine ⟨ln, fun A fs s H ar us vs Q E hg hr e0 hbd rv hs => ?_⟩
  have hl := ln _ _ _ _ hs
  have inK : K.In s.heap := e0.mod.kin.keeps (fun b o z => (e0.bs b o z).1)
  have nl : s.heap.NoLimit := e0.mod.nolimit.keeps (fun b o z => (e0.bs b o z).1)
  have kinds : ∀ y ∈ ps.zip us, (defScope st).names.lookup y.1 = some .local ∨ ((defScope st).names.lookup y.1 = some .cell ∧ ((cellsFrom (s.heap.objs.size + 1) (defScope st).names []).lookup y.1).isSome = true) := by
    rintro ⟨n, v⟩ hy
    have hm := S.par n (List.of_mem_zip hy).1
    cases hm with
    | inl q => exact Or.inl q
    | inr q => exact Or.inr ⟨q, PySem.W.cellsFrom_some _ _ _ (Or.inl q)⟩
  apply codeAny_call_function hr.depth (inK _ _ lk) rfl S.co S.gen rfl (PySem.W.codeRec_of inK hcd)
  apply hbd
  apply wpAny_newFunctionEnv_cells S.kind kinds
  intro env he s1 x
  subst he
  refine ⟨nl.keeps x.toInCall.keep, codeAny_func ?_⟩
  obtain ⟨t, ht, hq⟩ := hb A fs s H vs Q E hg (hr.deeper _) hs
  have I := inv_start (CX := L2.CX P w) (P := P) (w := w) (K := K) (mg := mg) (base := base) (f := f) (cd := cdv) (qual := qual) (E := E) S hr.hd e0 hl rv x
  apply wpAny_mono (ht.run [] s1 (start N vs) H _ I hq)
  · intro fl s' z
    have done : ∀ {σ' : L2.St} {H' : Hp} {v : V} {u : Value}, Inv (cxOf (L2.CX P w) P w K mg base N qual (defScope st) f cdv A fs s H E) [] σ' H' s' → RelV v u → Q v H' → CE fs P w H s Q u s' := by
      intro σ' H' v u J r q
      exact ⟨v, H', J.os, J.bare, J.base, J.hok, r, q⟩
    cases fl with
    | next => exact let ⟨_, _, J, q⟩ := z; done (v := V.non) (u := Value.none) J rfl q
    | brk => exact let ⟨_, _, _, q⟩ := z; q.elim
    | cont => exact let ⟨_, _, _, q⟩ := z; q.elim
    | ret u => exact let ⟨_, _, _, J, r, q⟩ := z; done J r q
  · exact fun _ _ z => z
theorem gok {x qual : Str} {st : Stmt} {f : Addr} {fd : FuncData} {N ps : List Str} {k : Nat} {sp : Sp} (F : Fun K x qual st f fd) (S : FnScope N ps (defScope st)) (ln : ∀ vs H Q E, sp vs H Q E → vs.length = ps.length)
    (hb : ∀ (cdv : Value) (A : Around) (fs : List Env) (s : Shared) (H : Hp) (vs : List V) (Q : VK) (E : XK), (A.deeper (envOfC qual (defScope st) s.heap.objs.size f cdv)).guards = some [] → Room k (A.deeper (envOfC qual (defScope st) s.heap.objs.size f cdv)) → sp vs H Q E →
      ∃ t, PSs (cxOf (L2.CX P w) P w K mg base N qual (defScope st) f cdv A fs s H E) (defBody st) t ∧ t { nx := fun _ H' => Q .non H', rt := Q } (start N vs) H) : FnG P w K mg base (k + 1) f fd ps sp := by
  obtain ⟨oc, od, kV, doc, pm, an, cdv, ct, osl, rfl, lk, hcd⟩ := F.ex
  exact graw lk hcd S ln (hb cdv)
theorem gokD {x qual : Str} {st : Stmt} {f : Addr} {fd : FuncData} {N ps : List Str} {k : Nat} {sp : Sp} {dvs : List V} {kws : List (Str × V)} (F : FunD K x qual (defArgs st) (defBody st) (defScope st) dvs kws f fd) (S : FnScope N ps (defScope st)) (ln : ∀ vs H Q E, sp vs H Q E → vs.length = ps.length)
    (hb : ∀ (cdv : Value) (A : Around) (fs : List Env) (s : Shared) (H : Hp) (vs : List V) (Q : VK) (E : XK), (A.deeper (envOfC qual (defScope st) s.heap.objs.size f cdv)).guards = some [] → Room k (A.deeper (envOfC qual (defScope st) s.heap.objs.size f cdv)) → sp vs H Q E →
      ∃ t, PSs (cxOf (L2.CX P w) P w K mg base N qual (defScope st) f cdv A fs s H E) (defBody st) t ∧ t { nx := fun _ H' => Q .non H', rt := Q } (start N vs) H) : FnG P w K mg base (k + 1) f fd ps sp := by
  obtain ⟨oc, od, dV, kV, doc, pm, an, cdv, ct, osl, rfl, lk, hcd, _, _⟩ := F.ex
  exact graw lk hcd S ln (hb cdv)

/-- a def as callers see it: n values written, the defaults dvs fill up -/
structure Df (P : Program) (w : World) (K : PySem.W.Frag) (mg : Str → Option Value) (base : Heap) (k : Nat) (x : Str) (dvs : List V) (sp : Sp) : Prop where
  ex : ∃ (f : Addr) (fd : FuncData) (ps : List Str) (ds : List Value), FnG P w K mg base k f fd ps sp ∧ mg x = some (.ref f) ∧ PySem.W.keepIn K (.ref f) = true ∧ Binds K fd ps ds ∧ Vals dvs ds
theorem Df.up {j k : Nat} {x : Str} {dvs : List V} {sp : Sp} (D : Df P w K mg base j x dvs sp) (h : j ≤ k) : Df P w K mg base k x dvs sp :=
  let ⟨f, fd, ps, ds, F, r⟩ := D.ex; ⟨f, fd, ps, ds, F.up h, r⟩
theorem Df.imp {k : Nat} {x : Str} {dvs : List V} {sp sp' : Sp} (D : Df P w K mg base k x dvs sp) (h : ∀ vs H Q E, sp' vs H Q E → sp vs H Q E) : Df P w K mg base k x dvs sp' :=
  let ⟨f, fd, ps, ds, F, r⟩ := D.ex; ⟨f, fd, ps, ds, F.imp h, r⟩
end

/-! ### calls -/
section
variable {X : Cx} {k : Nat} {f C : Addr} {fd : FuncData} {ps : List Str} {sp : Sp} {dvs : List V} {ds : List Value} {E : XK} {x m : Str} {p pos apos : Pos} {e o : Expr} {es : List Expr} {ta : TE} {t : TA}
theorem grun {pins : List (Addr × Obj)} {σ : L2.St} {H : Hp} {s : Shared} {Q : VK} {us : List Value} {vs : List V} (F : FnG X.prog X.w X.K X.mg X.base k f fd ps sp) (hG : X.A.guards = some []) (hr : Room k X.A) (hb : Binds X.K fd ps ds) (hd : Vals dvs ds)
    (hx : Passes (L2.CX X.prog X.w) X E) (I : Inv X pins σ H s) (r : Vals vs us) (h : sp (vs ++ dvs) H Q E) : wpAny (model X.prog X.w) X.A (call (.ref f) us) (EP X pins σ Q) X.xe s := by
  have rv := r.append hd
  have z := F.go X.A X.stack s H ⟨us, []⟩ (us ++ ds) (vs ++ dvs) Q E hG hr I.env0 (hb s us I.kIn (rv.length.symm.trans (F.ln _ _ _ _ h))) rv h
  refine wpAny_call (codeAny_mono z ?_)
  intro r s' hq
  cases r with
  | error e => exact hx pins σ H s e s' I hq
  | ok fl => cases fl with
    | ret u => exact I.after hq
    | next => exact hq.elim
    | brk => exact hq.elim
    | cont => exact hq.elim
theorem gcall (F : FnG X.prog X.w X.K X.mg X.base k f fd ps sp) (hG : X.A.guards = some []) (hr : Room k X.A) (hg : Gl X x) (hm : X.mg x = some (.ref f)) (hk : PySem.W.keepIn X.K (.ref f) = true) (hb : Binds X.K fd ps ds) (hd : Vals dvs ds) (hx : Passes (L2.CX X.prog X.w) X E)
    (ha : PA X (e :: es) t) (hdb : (x == ("__debug__" : Str)) = false := by decide) (he : starEach (e :: es) X.env = (false, eval e X.env) :: starEach es X.env := by rfl) (hpl : (backTo pos (starEach es X.env)).any (·.1) = false := by rfl) :
    PE X (.Call (.Name x p) (e :: es) [] pos) (tCall sp dvs E t) := by
  constructor
  intro pins s σ H Q I h
  apply wpAny_Call_Name_kw
  refine ld_glob I hg hm ?_ hdb
  have z := ha.run pos pins s σ H _ I h
  exact PySem.W.callWith_K (h₀ := X.base) I.ok.mod.kin hk (thn z (fun us s1 y => let ⟨_, _, I1, r, q⟩ := y; ⟨I1.kIn, grun F hG hr hb hd hx I1 r q⟩)) he hpl
theorem gcall0 (F : FnG X.prog X.w X.K X.mg X.base k f fd ps sp) (hG : X.A.guards = some []) (hr : Room k X.A) (hg : Gl X x) (hm : X.mg x = some (.ref f)) (hk : PySem.W.keepIn X.K (.ref f) = true) (hb : Binds X.K fd ps ds) (hd : Vals dvs ds) (hx : Passes (L2.CX X.prog X.w) X E)
    (hdb : (x == ("__debug__" : Str)) = false := by decide) : PE X (.Call (.Name x p) [] [] pos) (tCall sp dvs E tNil) := by
  constructor
  intro pins s σ H Q I h
  apply wpAny_Call_Name_kw
  refine ld_glob I hg hm ?_ hdb
  exact PySem.W.callWith_K0 I.kIn hk (grun (us := []) F hG hr hb hd hx I .nil h)
/-- f(..), f a def of the text -/
theorem pe_df (D : Df X.prog X.w X.K X.mg X.base k x dvs sp) (hG : X.A.guards = some []) (hr : Room k X.A) (hx : Passes (L2.CX X.prog X.w) X E) (hg : Gl X x) (ha : PA X (e :: es) t)
    (hdb : (x == ("__debug__" : Str)) = false := by decide) (he : starEach (e :: es) X.env = (false, eval e X.env) :: starEach es X.env := by rfl) (hpl : (backTo pos (starEach es X.env)).any (·.1) = false := by rfl) :
    PE X (.Call (.Name x p) (e :: es) [] pos) (tCall sp dvs E t) :=
  let ⟨_, _, _, _, F, hm, hk, hb, hd⟩ := D.ex; gcall F hG hr hg hm hk hb hd hx ha hdb he hpl
theorem pe_df0 (D : Df X.prog X.w X.K X.mg X.base k x dvs sp) (hG : X.A.guards = some []) (hr : Room k X.A) (hx : Passes (L2.CX X.prog X.w) X E) (hg : Gl X x) (hdb : (x == ("__debug__" : Str)) = false := by decide) : PE X (.Call (.Name x p) [] [] pos) (tCall sp dvs E tNil) :=
  let ⟨_, _, _, _, F, hm, hk, hb, hd⟩ := D.ex; gcall0 F hG hr hg hm hk hb hd hx hdb
/-- a constant of the module -/
def Gc (mg : Str → Option Value) (x : Str) (v : V) : Prop := ∃ u, mg x = some u ∧ RelV v u
theorem pe_gc {v : V} (h : Gc X.mg x v) (hg : Gl X x) (hd : (x == ("__debug__" : Str)) = false := by decide) : PE X (.Name x pos) (tC v) :=
  ⟨fun pins s σ H Q I q => let ⟨_, hm, r⟩ := h; (pe_glob hg hm r hd).run pins s σ H Q I q⟩
end
end Lx

namespace Lx
open PySem PySem.Spec PyProof.Rows L2

/-- what the end wants of the heap told: at most the script -/
structure Told (K : PySem.W.Frag) (a : Addr) (H : Hp) : Prop where
  only : Only H
  one : ∀ b u, H b = some u → b = a ∧ K.lookup a = none
section
variable {P : Program} {w : World} {K : PySem.W.Frag} {mg mb : Str → Option Value} {k : Nat} {fa a : Addr} {fd : FuncData} {x : Str} {sp : Sp} {s : Shared} {vs : List Value} {ns : List Int}
theorem Told.low (T : Told K a H) {b : Addr} {o : Obj} (hb : s.heap.get? b = some o) (n : b ≠ a) : (hidT s.heap H).get? b = some o := by
  apply hidT_get hb
  cases q : H b with
  | none => rfl
  | some u => exact (n (T.one b u q).1).elim
theorem Told.lowK (T : Told K a H) (KX : K.In s.heap) : K.In (hidT s.heap H) := by
  intro b o e
  apply hidT_get (KX b o e)
  cases q : H b with
  | none => rfl
  | some u =>
    have z := T.one b u q
    rw [z.1, z.2] at e
    cases e
theorem Told.nsp (T : Told K a H) (hl : s.heap.get? a = some { cls := .type "list", data := .seq vs.toArray }) {b : Addr} {m : Str → Option Value} (h : s.heap.Ns b m) : (hidT s.heap H).Ns b m := by
  obtain ⟨o, es, ep, h1, h2, h3⟩ := h
  refine ⟨o, es, ep, T.low h1 ?_, h2, h3⟩
  rintro rfl
  rw [hl] at h1
  cases h1
  cases h2
theorem glaw1 {H : Hp} (T : Told K a H) (KX : K.In s.heap) (hm : s.heap.Ns mainGlobals mg) (hb : s.heap.Ns builtinsNs mb) (hbb : ∀ x : Str, x ≠ "__name__" → mb x = bootBuiltins x) (lim : s.heap.NoLimit) (hg : s.gens = #[])
    (hl : s.heap.get? a = some { cls := .type "list", data := .seq vs.toArray }) (hr : Room k callerA)
    (F : ∀ base : Heap, K.In base → base.Ns mainGlobals mg → FnG P w K mg base k fa fd [x] sp) (bind : ∀ (s : Shared) (u : Value), BindsTo s fd ⟨[u], []⟩ [(x, u)])
    (ok : HOk P w H s.heap) (hsp : sp [.ref a] H (fun v _ => v = .bl true) fun _ _ _ => False) :
    codeAny (model P w) callerA (.call (.ref fa) ⟨[.ref a], []⟩) (fun r s' => r = .ok (.ret (.bool true)) ∧ OldK s.heap s'.heap ∧ s'.os = s.os ∧ AllBare s'.gens) s := by
  have KB := T.lowK KX
  have md : Mod K mg (hidT s.heap H) := ⟨KB, T.nsp hl hm, ⟨mb, T.nsp hl hb, hbb⟩, by
    obtain ⟨m, h1, h2⟩ := lim
    exact ⟨m, T.nsp hl h1, h2⟩⟩
  have noFr : ∀ b ∈ frs ([] : List Env), H b = none := by
    intro b z
    cases z
  have e0 : Env0 P w K mg (hidT s.heap H) callerA [] s H := { frames := rfl, mod := md, bs := fun b o e => of_hidT e, bsz := Nat.le_of_eq (hidT_size _ _), funs := trivial, frf := noFr, hok := ok, bare := .of_eq hg }
  have run := (F _ KB md.glob).go callerA [] s H ⟨[.ref a], []⟩ [.ref a] [.ref a] (fun v _ => v = .bl true) (fun _ _ _ => False) rfl hr e0 (bind s (.ref a)) (.cons rfl .nil) hsp
  refine codeAny_mono run ?_
  intro r s' q
  match r, q with
  | .error e, q => exact (by obtain ⟨_, _, _, _, _, _, _, _, _, _, _, _, z⟩ := q; exact z.elim)
  | .ok .next, q => exact q.elim
  | .ok .brk, q => exact q.elim
  | .ok .cont, q => exact q.elim
  | .ok (.ret u), q =>
    obtain ⟨v, H', os, bare, un, ok', rv, e⟩ := q
    have e' : v = V.bl true := e
    subst e'
    have eu : u = Value.bool true := rv
    refine ⟨by rw [eu], OldK.of_keep ?_, os, bare⟩
    intro b o hb
    cases z : H b with
    | none => exact un.keep b o hb z (fun y => by cases y) (fun y => by cases y)
    | some u =>
      cases T.only b with
      | inl y => rw [z] at y; cases y
      | inr y =>
        obtain ⟨ob, xs, y⟩ := y
        have w1 := (ok b _ y).1
        have w2 := (ok' b _ (un.frzs b ob _ y)).1
        rw [hb] at w1
        rw [Option.some.inj w1]
        exact w2
theorem glaw (KX : K.In s.heap) (hm : s.heap.Ns mainGlobals mg) (hb : s.heap.Ns builtinsNs mb) (hbb : ∀ x : Str, x ≠ "__name__" → mb x = bootBuiltins x) (lim : s.heap.NoLimit) (hg : s.gens = #[])
    (hl : s.heap.get? a = some { cls := .type "list", data := .seq vs.toArray }) (hi : IntsAre vs ns) (hz : ns.length ≤ sizeLine) (hr : Room k callerA)
    (F : ∀ base : Heap, K.In base → base.Ns mainGlobals mg → FnG P w K mg base k fa fd [x] sp) (bind : ∀ (s : Shared) (u : Value), BindsTo s fd ⟨[u], []⟩ [(x, u)])
    (hsp : ∀ H : Hp, SqL K H a (ns.map V.int) → sp [.ref a] H (fun v _ => v = .bl true) fun _ _ _ => False) :
    codeAny (model P w) callerA (.call (.ref fa) ⟨[.ref a], []⟩) (fun r s' => r = .ok (.ret (.bool true)) ∧ OldK s.heap s'.heap ∧ s'.os = s.os ∧ AllBare s'.gens) s := by
  have rv := vals_ints hi
  have lv : vs.length = ns.length := hi.length
  by_cases hk : K.lookup a = none
  · have tell : ∀ b, (fun b => if b = a then some (HO.frz { cls := .type "list", data := .seq vs.toArray } (.lst (ns.map V.int))) else none : Hp) b = none ∨ b = a := by
      intro b
      by_cases e : b = a
      · exact .inr e
      · exact .inl (if_neg e)
    refine glaw1 (H := fun b => if b = a then some (.frz { cls := .type "list", data := .seq vs.toArray } (.lst (ns.map V.int))) else none) ⟨?_, ?_⟩ KX hm hb hbb lim hg hl hr F bind ?_ (hsp _ (.inl (.inr ⟨_, if_pos rfl⟩)))
    · intro b
      cases tell b with
      | inl e => exact .inl e
      | inr e => exact .inr ⟨_, _, if_pos e⟩
    · intro b u e
      cases tell b with
      | inl z => exact absurd (z.symm.trans e) (by simp)
      | inr z => exact ⟨z, hk⟩
    · intro b u e
      cases tell b with
      | inl z => exact absurd (z.symm.trans e) (by simp)
      | inr z =>
        subst z
        have eu := Option.some.inj ((if_pos rfl).symm.trans e)
        subst eu
        exact ⟨hl, (by rw [List.length_map]; exact hz), vs, 0, rv, hl⟩
  · obtain ⟨o, ho⟩ := Option.ne_none_iff_exists'.mp hk
    have e := KX a o ho
    rw [hl] at e
    have eo := Option.some.inj e
    subst eo
    have noH : ∀ (b : Addr) (u : HO), ((fun _ => none : Hp) b = some u) → False := by
      intro b u z
      cases z
    refine glaw1 (H := fun _ => none) ⟨fun b => .inl rfl, fun b u z => (noH b u z).elim⟩ KX hm hb hbb lim hg hl hr F bind (fun b u z => (noH b u z).elim) (hsp _ (.inr ?_))
    exact ⟨_, vs.toArray, _, ho, rfl, rfl, rfl, by rw [List.size_toArray, lv]; exact hz, by simpa using rv⟩
end
theorem gwalk {l : PySem.W.OpenLaw} {n k : Nat} {q : Program} {loose : List Str} {XP : (Str → Option Value) → Heap → Prop} {YP : World → Heap → Prop} {d : DefRec} {K : Params → PySem.W.Frag} {sp : World → Sp} {x : Str}
    (hn : l.most = some n) (hn2 : n ≤ sizeLine) (hdf : d.params.defaults = []) (hr : Room k callerA) (hY : ∀ (w : World) (h : Heap), YP w h → (K w.params).In h)
    (F : ∀ (w : World) (mg : Str → Option Value) (fa : Addr) (h : Heap), (K w.params).In h → h.Ns mainGlobals mg → mg d.name = some (.ref fa) →
      ∃ fd : FuncData, (∀ (s : Shared) (u : Value), BindsTo s fd ⟨[u], []⟩ [(x, u)]) ∧ ∀ base : Heap, (K w.params).In base → base.Ns mainGlobals mg → FnG l.prog w (K w.params) mg base k fa fd [x] (sp w))
    (hsp : ∀ (w : World) (H : Hp) (a : Addr) (ns : List Int), ns.length ≤ n → (∀ z ∈ ns, Builtin.Int.intBits z ≤ 1048576) → SqL (K w.params) H a (ns.map V.int) → sp w [.ref a] H (fun v _ => v = .bl true) fun _ _ _ => False) :
    PySem.W.WalkO q loose XP YP l.row.toRowW d [] (fun f vs => PySem.call f vs) := by
  apply Att.attach_callB hn hdf
  intro w s₀ s₁ mg mb fa o pm cd doc a vs ns G Y ho hd hcd hmg hobj hints hlen hbits hg
  obtain ⟨fd, b, hF⟩ := F w mg fa _ (hY w _ Y) G.T.g hmg
  exact glaw (hY w _ Y) G.T.g G.T.b G.T.builtins G.T.nolimit hg hobj hints (Nat.le_trans hlen hn2) hr hF b (fun H hS => hsp w H a ns hlen hbits hS)
end Lx

namespace Lx
open PySem PySem.Spec PyProof.Rows L2

/-! ### built-in names -/
theorem Blen : bootBuiltins "len" = some (.builtin "len") := by decide +kernel
theorem Bisinstance : bootBuiltins "isinstance" = some (.builtin "isinstance") := by decide +kernel
theorem Babs : bootBuiltins "abs" = some (.builtin "abs") := by decide +kernel
theorem Bmin : bootBuiltins "min" = some (.builtin "min") := by decide +kernel
theorem Bmax : bootBuiltins "max" = some (.builtin "max") := by decide +kernel
theorem Bsorted : bootBuiltins "sorted" = some (.builtin "sorted") := by decide +kernel
theorem Bsum : bootBuiltins "sum" = some (.builtin "sum") := by decide +kernel
theorem Ball : bootBuiltins "all" = some (.builtin "all") := by decide +kernel
theorem Bany : bootBuiltins "any" = some (.builtin "any") := by decide +kernel
theorem Brepr : bootBuiltins "repr" = some (.builtin "repr") := by decide +kernel
theorem Tint : bootBuiltins "int" = some (.type "int") := by decide +kernel
theorem Tbool : bootBuiltins "bool" = some (.type "bool") := by decide +kernel
theorem Tstr : bootBuiltins "str" = some (.type "str") := by decide +kernel
theorem Tlist : bootBuiltins "list" = some (.type "list") := by decide +kernel
theorem Ttuple : bootBuiltins "tuple" = some (.type "tuple") := by decide +kernel
theorem Tset : bootBuiltins "set" = some (.type "set") := by decide +kernel
theorem Tdict : bootBuiltins "dict" = some (.type "dict") := by decide +kernel
/-- the module gives none of these names a meaning of its own -/
structure Bn (mg : Str → Option Value) : Prop where
  len : mg "len" = none
  range : mg "range" = none
  isinstance : mg "isinstance" = none
  int : mg "int" = none
  bool : mg "bool" = none
  str : mg "str" = none
  list : mg "list" = none
  tuple : mg "tuple" = none
  set : mg "set" = none
  sorted : mg "sorted" = none
  min : mg "min" = none
  max : mg "max" = none
  sum : mg "sum" = none
  all : mg "all" = none
  any : mg "any" = none
  abs : mg "abs" = none
  repr : mg "repr" = none
  enumerate : mg "enumerate" = none
  zip : mg "zip" = none
  reversed : mg "reversed" = none
  dict : mg "dict" = none

/-! ### repr of data -/
def rRepr (K : PySem.W.Frag) : List V → Hp → VK → Prop := fun xs H Q => ∃ x d, xs = [x] ∧ Dp K H x d ∧ d.showable = true ∧ d.hasDict = false ∧ d.depth ≤ 32 ∧ d.shown.length ≤ sizeLine ∧ Q (.str d.shown) H
theorem call_reprD {X : Cx} (hG : X.A.guards = some []) (hu : X.A.units + 64 < cLine) : CallR X (.builtin "repr") (rRepr X.K) := by
  intro pins s σ H xs us Q I r h
  obtain ⟨x, d, rfl, hd, hs, hn, hp, hz, q⟩ := h
  cases r with
  | cons r rr =>
    cases rr
    rename_i u
    obtain ⟨as, rd⟩ := Dp.reads I d x u hd r
    cases hd with
    | non => cases r; exact P.repr_of_none ⟨.str _, H, I.tok _, ⟨_, rfl⟩, q⟩
    | bl b => cases r; exact P.repr_of_bool ⟨.str _, H, I.tok _, ⟨_, rfl⟩, q⟩
    | int i =>
      obtain ⟨t, rfl⟩ := r
      exact P.repr_of_int (of_decide_eq_true hs) ⟨.str _, H, I.tok _, ⟨_, rfl⟩, q⟩
    | str y =>
      obtain ⟨t, rfl⟩ := r
      exact P.repr_of_str ⟨.str _, H, I.tok _, ⟨_, rfl⟩, q⟩ hz
    | lst h1 h2 =>
      cases r
      exact repr_of_reads' rd hs (fun e => by rw [hn] at e; cases e) hG (by omega) (fun _ _ e => e) (fun h' v tk k => ⟨.str _, H, I.kept (t' := tk) k, ⟨_, rfl⟩, q⟩) hz
    | tup h1 h2 =>
      cases r
      exact repr_of_reads' rd hs (fun e => by rw [hn] at e; cases e) hG (by omega) (fun _ _ e => e) (fun h' v tk k => ⟨.str _, H, I.kept (t' := tk) k, ⟨_, rfl⟩, q⟩) hz
/-! ### how long a shown datum is -/
theorem textFrom_le (m : Nat) : ∀ (ts : List Str) (k : Nat) (acc : Str), (∀ t ∈ ts, t.length ≤ m) → (textFrom k acc ts).length ≤ acc.length + ts.length * (m + 2)
  | [], k, acc, _ => Nat.le_add_right _ _
  | t :: r, k, acc, h => by
    have ih := textFrom_le m r (k + 1) (acc ++ (if k > 0 then ", " else "" : String) ++ t) fun u hu => h u (List.mem_cons_of_mem _ hu)
    have ht := h t List.mem_cons_self
    have e : (acc ++ (if k > 0 then ", " else "" : String) ++ t).length ≤ acc.length + 2 + t.length := by
      rw [strLen_append, strLen_append]
      split <;> exact Nat.add_le_add_right (Nat.add_le_add_left (by decide) _) _
    rw [List.length_cons, Nat.succ_mul]
    show (textFrom (k + 1) _ r).length ≤ _
    omega
theorem shownAll_mem : ∀ {ds : List PyData} {t : Str}, t ∈ PyData.shownAll ds → ∃ d ∈ ds, t = d.shown
  | [], t, h => by cases h
  | d :: ds, t, h => by
    rcases List.mem_cons.mp (show t ∈ d.shown :: PyData.shownAll ds from h) with e | h
    · exact ⟨d, List.mem_cons_self, e⟩
    · obtain ⟨x, hx, e⟩ := shownAll_mem h
      exact ⟨x, List.mem_cons_of_mem _ hx, e⟩
theorem shownAll_len : ∀ ds : List PyData, (PyData.shownAll ds).length = ds.length
  | [] => rfl
  | _ :: ds => congrArg Nat.succ (shownAll_len ds)
theorem piled_le (m : Nat) : ∀ ts : List Str, (∀ t ∈ ts, t.length ≤ m) → piled ts ≤ ts.length * (m + 2)
  | [], _ => by rw [piled_nil]; exact Nat.zero_le _
  | t :: r, h => by
    have ih := piled_le m r fun u hu => h u (List.mem_cons_of_mem _ hu)
    have ht := h t List.mem_cons_self
    rw [piled_cons, List.length_cons, Nat.succ_mul]
    omega
theorem list_shown {ds : List PyData} {m : Nat} (h : ∀ d ∈ ds, d.shown.length ≤ m) : (PyData.list ds).shown.length ≤ ds.length * (m + 2) + 2 := by
  have z := textFrom_le m (PyData.shownAll ds) 0 "[" fun t ht => by
    obtain ⟨d, hd, e⟩ := shownAll_mem ht
    rw [e]
    exact h d hd
  rw [shownAll_len] at z
  show (textFrom 0 "[" (PyData.shownAll ds) ++ "]" : Str).length ≤ _
  rw [strLen_append]
  have e1 : (("[" : String) : Str).length = 1 := rfl
  have e2 : (("]" : String) : Str).length = 1 := rfl
  omega
theorem tuple_shown {ds : List PyData} {m : Nat} (h : ∀ d ∈ ds, d.shown.length ≤ m) : (PyData.tuple ds).shown.length ≤ ds.length * (m + 2) + 3 := by
  have hm : ∀ t ∈ PyData.shownAll ds, t.length ≤ m := fun t ht => by
    obtain ⟨d, hd, e⟩ := shownAll_mem ht
    rw [e]
    exact h d hd
  have z := piled_le m (PyData.shownAll ds) hm
  rw [shownAll_len] at z
  show (("(" : Str) ++ Str.join ", " (PyData.shownAll ds) ++ (if (PyData.shownAll ds).length == 1 then ",)" else ")" : String)).length ≤ _
  rw [strLen_append, strLen_append]
  have e1 : (("(" : String) : Str).length = 1 := rfl
  have e3 : (((if (PyData.shownAll ds).length == 1 then ",)" else ")" : String) : Str)).length ≤ 2 := by split <;> decide
  by_cases e : PyData.shownAll ds = []
  · rw [e] at e3 ⊢
    have e4 : (Str.join ", " ([] : List Str)).length = 0 := rfl
    rw [e4]
    omega
  · have j := join_length_add _ e
    omega
theorem int_shown {i : Int} {k : Nat} (hk : 0 < k) (h0 : 0 ≤ i) (h : i < 10 ^ k) : (PyData.int i).shown.length ≤ k := toString_length_le h0 hk h

/-! ### heaps -/
theorem _root_.L2.Same.get {H H' : Hp} {a : Addr} {o : HO} (s : Same H H') (h : H a = some o) : H' a = some o := s a o h
theorem same_new {H : Hp} {p : Addr} {o : HO} (n : H p = none) : Same H (upd H p o) := by
  intro b u e
  rw [upd_ne (ne_of_none e n)]
  exact e
theorem same_set {H H' : Hp} {p : Addr} {o : HO} (s : Same H H') (n : H p = none) : Same H (upd H' p o) := by
  intro b u e
  rw [upd_ne (ne_of_none e n)]
  exact s b u e
theorem ne_new {H : Hp} {a b : Addr} {o : HO} (n : H b = none) (h : H a = some o) : a ≠ b := ne_of_none h n
/-- all but what stands at r is as it was -/
def Kp (r : Addr) (H H' : Hp) : Prop := ∀ b o, b ≠ r → H b = some o → H' b = some o
theorem Kp.refl (r : Addr) (H : Hp) : Kp r H H := fun _ _ _ h => h
theorem Kp.of {r : Addr} {H H' : Hp} (s : Same H H') : Kp r H H' := fun b o _ h => s b o h
theorem Kp.trans {r : Addr} {H H1 H2 : Hp} (a : Kp r H H1) (b : Kp r H1 H2) : Kp r H H2 := fun c o n h => b c o n (a c o n h)
theorem Kp.set {r : Addr} {H : Hp} {o : HO} : Kp r H (upd H r o) := fun b u n e => by rw [upd_ne n]; exact e
theorem Kp.put {r p : Addr} {H H' : Hp} {o : HO} (k : Kp r H H') (n : H p = none) : Kp r H (upd H' p o) := fun b u m e => by
  rw [upd_ne (ne_of_none e n)]
  exact k b u m e
theorem Kp.free {r p : Addr} {H H' : Hp} (k : Kp r H H') (n : H' p = none) (m : p ≠ r) : H p = none := by
  cases q : H p with
  | none => rfl
  | some o => rw [k p o m q] at n; cases n
theorem Kp.get {r a : Addr} {H H' : Hp} {o : HO} (k : Kp r H H') (n : a ≠ r) (h : H a = some o) : H' a = some o := k a o n h
theorem lst_of {K : PySem.W.Frag} {H : Hp} {a : Addr} {xs : List V} (h : H a = some (.lst xs)) : SqL K H a xs := .inl (.inl h)
theorem tup_of {K : PySem.W.Frag} {H : Hp} {a : Addr} {xs : List V} (h : H a = some (.tup xs)) : SqT K H a xs := .inl (.inl h)
theorem Kp.seq {K : PySem.W.Frag} {r : Addr} {H H' : Hp} {a : Addr} {xs : List V} (k : Kp r H H') (n : a ≠ r) (h : SqL K H a xs) : SqL K H' a xs := by
  rcases h with (h | ⟨o, h⟩) | h
  · exact .inl (.inl (k _ _ n h))
  · exact .inl (.inr ⟨o, k _ _ n h⟩)
  · exact .inr h
theorem Kp.seqT {K : PySem.W.Frag} {r : Addr} {H H' : Hp} {a : Addr} {xs : List V} (k : Kp r H H') (n : a ≠ r) (h : SqT K H a xs) : SqT K H' a xs := by
  rcases h with (h | ⟨o, h⟩) | h
  · exact .inl (.inl (k _ _ n h))
  · exact .inl (.inr ⟨o, k _ _ n h⟩)
  · exact .inr h
theorem _root_.L2.Same.seqT {K : PySem.W.Frag} {H H' : Hp} {a : Addr} {xs : List V} (k : Same H H') (h : SqT K H a xs) : SqT K H' a xs := by
  rcases h with (h | ⟨o, h⟩) | h
  · exact .inl (.inl (k _ _ h))
  · exact .inl (.inr ⟨o, k _ _ h⟩)
  · exact .inr h

/-! ### the layer's rules whose readings have no name, named -/
def rIsN' : R2 := fun x y H Q => y = .non ∧ Q (.bl (decide (x = .non))) H
def rNotN' : R2 := fun x y H Q => y = .non ∧ Q (.bl (!decide (x = .non))) H
def rLen (K : PySem.W.Frag) : List V → Hp → VK → Prop := fun xs H Q => ∃ p ys, xs = [.ref p] ∧ (SqL K H p ys ∨ SqT K H p ys) ∧ Q (.int ys.length) H
def rLenS : List V → Hp → VK → Prop := fun xs H Q => ∃ z, xs = [.str z] ∧ z.length ≤ sizeLine ∧ Q (.int z.length) H
def rAbs : List V → Hp → VK → Prop := fun xs H Q => ∃ i, xs = [.int i] ∧ Q (.int (if i < 0 then -i else i)) H
def rMax2 : List V → Hp → VK → Prop := fun xs H Q => ∃ i j, xs = [.int i, .int j] ∧ Q (.int (if j > i then j else i)) H
def rMin2 : List V → Hp → VK → Prop := fun xs H Q => ∃ i j, xs = [.int i, .int j] ∧ Q (.int (if j < i then j else i)) H
def rInt1 : List V → Hp → VK → Prop := fun xs H Q => (∃ i, xs = [.int i] ∧ Q (.int i) H) ∨ ∃ k, xs = [.bl k] ∧ Q (.int (if k then 1 else 0)) H
def rStrI : List V → Hp → VK → Prop := fun xs H Q => ∃ i, xs = [.int i] ∧ i.natAbs.log2 < 1920 ∧ Q (.str (toString i)) H
def rListOf (K : PySem.W.Frag) : List V → Hp → VK → Prop := fun xs H Q => ∃ p ys, xs = [.ref p] ∧ (SqL K H p ys ∨ SqT K H p ys) ∧ ∀ l, H l = none → Q (.ref l) (upd H l (.lst ys))
def rTupleOf (K : PySem.W.Frag) : List V → Hp → VK → Prop := fun xs H Q => ∃ p ys, xs = [.ref p] ∧ ((SqL K H p ys ∧ ∀ l, H l = none → Q (.ref l) (upd H l (.tup ys))) ∨ (SqT K H p ys ∧ Q (.ref p) H))
section
variable {X : Cx}
theorem op_isN' : OpR X (compareOp .Is) rIsN' := op_isN
theorem op_notN' : OpR X (compareOp .IsNot) rNotN' := op_notN
theorem call_len' : CallR X (.builtin "len") (rLen X.K) := call_len_seq
theorem call_lenS' : CallR X (.builtin "len") rLenS := call_len_str
theorem call_abs' : CallR X (.builtin "abs") rAbs := call_abs
theorem call_max2' (hc : X.calm = true) : CallR X (.builtin "max") rMax2 := call_max2 hc
theorem call_min2' (hc : X.calm = true) : CallR X (.builtin "min") rMin2 := call_min2 hc
theorem call_int1' : CallR X (.type "int") rInt1 := call_int1
theorem call_str' : CallR X (.type "str") rStrI := call_str_int
theorem call_list' : CallR X (.type "list") (rListOf X.K) := call_list_of
theorem call_tuple' : CallR X (.type "tuple") (rTupleOf X.K) := call_tuple_of
end
/-! ### readings, one rule a word -/
section
variable {σ : L2.St} {H : Hp} {Q : VK} {D : Ends} {ta tb tc te : TE} {t u : TT} {ts tu : TS} {tA tB' : TA} {i j : Nat} {x y v : V} {R : L2.St → Hp → Prop} {B : Bool → Hp → Prop} {L : List V → Hp → Prop}
theorem r_seq (h : ts { D with nx := tu D } σ H) : tSeq ts tu D σ H := h
theorem r_next (h : D.nx σ H) : tNext D σ H := h
theorem r_nx {n b c : L2.St → Hp → Prop} {r : VK} (h : n σ H) : Ends.nx ⟨n, r, b, c⟩ σ H := h
theorem r_rt {n b c : L2.St → Hp → Prop} {r : VK} (h : r v H) : Ends.rt ⟨n, r, b, c⟩ v H := h
theorem r_bk {n b c : L2.St → Hp → Prop} {r : VK} (h : b σ H) : Ends.bk ⟨n, r, b, c⟩ σ H := h
theorem r_ct {n b c : L2.St → Hp → Prop} {r : VK} (h : c σ H) : Ends.ct ⟨n, r, b, c⟩ σ H := h
theorem r_brk (h : D.bk σ H) : tBreak D σ H := h
theorem r_cont (h : D.ct σ H) : tCont D σ H := h
theorem r_ret (h : te σ H D.rt) : tRet te D σ H := h
theorem r_retN (h : D.rt .non H) : tRetN D σ H := h
theorem r_drop (h : te σ H fun _ H1 => D.nx σ H1) : tDrop te D σ H := h
theorem r_if (h : t σ H fun b H1 => if b = true then ts D σ H1 else tu D σ H1) : tIfS t ts tu D σ H := h
theorem r_asg {g : TG} (h : te σ H fun x H1 => g x σ H1 D.nx) : tAsg te g D σ H := h
theorem r_par (h : tA σ H fun vs H1 => ∃ v w, vs = [v, w] ∧ D.nx ((σ.set i (some v)).set j (some w)) H1) : tPar i j tA D σ H := h
theorem r_par3 {l : Nat} (h : tA σ H fun vs H1 => ∃ u v w, vs = [u, v, w] ∧ D.nx (((σ.set i (some u)).set j (some v)).set l (some w)) H1) : tPar3 i j l tA D σ H := h
theorem r_two {P : V → V → Prop} (h : P x y) : ∃ v w, [x, y] = [v, w] ∧ P v w := ⟨x, y, rfl, h⟩
theorem r_three {z : V} {P : V → V → V → Prop} (h : P x y z) : ∃ u v w, [x, y, z] = [u, v, w] ∧ P u v w := ⟨x, y, z, rfl, h⟩
theorem r_name (h : R (σ.set i (some v)) H) : gName i v σ H R := h
theorem r_sub {ti to : TE} {s : TSet} (h : to σ H fun o H1 => ti σ H1 fun i H2 => s o i v H2 fun H3 => R σ H3) : gSub to ti s v σ H R := h
theorem r_setL {p : Addr} {xs : List V} {k : Int} {n : Nat} {R : Hp → Prop} (h : H p = some (.lst xs)) (e : ixN xs.length k = some n) (q : R (upd H p (.lst (xs.set n v)))) : rSetL (.ref p) (.int k) v H R := ⟨p, xs, k, n, rfl, rfl, h, e, q⟩
theorem r_gtup {K : PySem.W.Frag} {n : Nat} {g : TGs} {a : Addr} {xs : List V} (h : SqT K H a xs) (e : xs.length = n) (q : g xs σ H R) : gTup K n g (.ref a) σ H R := ⟨a, xs, rfl, h, e, q⟩
theorem r_gunl {K : PySem.W.Frag} {n : Nat} {g : TGs} {a : Addr} {xs : List V} (h : SqL K H a xs) (e : xs.length = n) (q : g xs σ H R) : gUnl K n g (.ref a) σ H R := ⟨a, xs, rfl, h, e, q⟩
theorem r_gcons {g : TG} {gs : TGs} {xs : List V} (h : g x σ H fun σ' H' => gs xs σ' H' R) : gCons g gs (x :: xs) σ H R := ⟨x, xs, rfl, h⟩
theorem r_gnil (h : R σ H) : gNil [] σ H R := ⟨rfl, h⟩
theorem r_var (h : σ[i]? = some (some v)) (q : Q v H) : tVar i σ H Q := ⟨v, h, q⟩
theorem r_c (q : Q v H) : tC v σ H Q := q
theorem r_op {r : R2} (h : ta σ H fun x H1 => tb σ H1 fun y H2 => r x y H2 Q) : tOp r ta tb σ H Q := h
theorem r_un {r : V → Hp → VK → Prop} (h : ta σ H fun x H1 => r x H1 Q) : tUn r ta σ H Q := h
theorem r_test (h : te σ H fun x H' => ∃ k, x = .bl k ∧ B k H') : tTest te σ H B := h
theorem r_B (h : te σ H fun x H' => ∃ k, x = .bl k ∧ B k H') : tB te σ H B := h
theorem r_bl {k : Bool} {P : Bool → Prop} (h : P k) : ∃ k', V.bl k = .bl k' ∧ P k' := ⟨k, rfl, h⟩
theorem r_and (h : t σ H fun c H1 => if c = true then u σ H1 B else B false H1) : tAnd t u σ H B := h
theorem r_or (h : t σ H fun c H1 => if c = true then B true H1 else u σ H1 B) : tOr t u σ H B := h
theorem r_not (h : t σ H fun c H1 => B (!c) H1) : tNot t σ H B := h
theorem r_andV (h : ta σ H fun x H1 => ∃ c, x = .bl c ∧ if c = true then tb σ H1 Q else Q (.bl false) H1) : tAndV ta tb σ H Q := h
theorem r_orV (h : ta σ H fun x H1 => ∃ c, x = .bl c ∧ if c = true then Q (.bl true) H1 else tb σ H1 Q) : tOrV ta tb σ H Q := h
theorem r_notV (h : ta σ H fun x H1 => ∃ c, x = .bl c ∧ Q (.bl (!c)) H1) : tNotV ta σ H Q := h
theorem r_ifE (h : t σ H fun c H1 => if c = true then ta σ H1 Q else tb σ H1 Q) : tIf t ta tb σ H Q := h
theorem r_chain {r r' : R2} (h : ta σ H fun x H1 => tb σ H1 fun y H2 => r x y H2 fun z H3 => ∃ k, z = .bl k ∧ (if k = true then tc σ H3 fun w' H4 => r' y w' H4 Q else Q (.bl false) H3)) : tChain r r' ta tb tc σ H Q := h
theorem r_nil (h : L [] H) : tNil σ H L := h
theorem r_cons (h : ta σ H fun x H1 => tA σ H1 fun xs H2 => L (x :: xs) H2) : tCons ta tA σ H L := h
theorem r_CB {r : List V → Hp → VK → Prop} (h : tA σ H fun vs H1 => r vs H1 Q) : tCB r tA σ H Q := h
theorem r_call {sp : Sp} {dvs : List V} {E : XK} (h : tA σ H fun vs H1 => sp (vs ++ dvs) H1 Q E) : tCall sp dvs E tA σ H Q := h
theorem r_tup (h : tA σ H fun xs H1 => xs.length ≤ sizeLine ∧ ∀ p, H1 p = none → Q (.ref p) (upd H1 p (.tup xs))) : tTup tA σ H Q := h
theorem r_lst (h : tA σ H fun xs H1 => xs.length ≤ sizeLine ∧ ∀ p, H1 p = none → Q (.ref p) (upd H1 p (.lst xs))) : tLst tA σ H Q := h
theorem r_new {n : Nat} {P : Prop} (hn : n ≤ 1000) (h : P) : n ≤ sizeLine ∧ P := ⟨Nat.le_trans hn (by decide), h⟩
theorem r_BM {K : PySem.W.Frag} {T : String} {r : V → List V → Hp → VK → Prop} (h : te σ H fun x H1 => tyV K T x H1 ∧ tA σ H1 fun xs H2 => r x xs H2 Q) : tBM K T r te tA σ H Q := h
theorem r_BM0 {K : PySem.W.Frag} {T : String} {r : V → List V → Hp → VK → Prop} (h : te σ H fun x H1 => tyV K T x H1 ∧ r x [] H1 Q) : tBM0 K T r te σ H Q := h
theorem r_ty {K : PySem.W.Frag} {p : Addr} {xs : List V} {P : Prop} (h : H p = some (.lst xs)) (q : P) : tyV K "list" (.ref p) H ∧ P := ⟨.inl ⟨rfl, xs, .inl (.inl h)⟩, q⟩
theorem r_tyS {K : PySem.W.Frag} {z : Str} {P : Prop} (q : P) : tyV K "str" (.str z) H ∧ P := ⟨rfl, q⟩
theorem r_I0 {g : Int → Int → V} {a b : Int} (q : Q (g a b) H) : rI0 g (.int a) (.int b) H Q := ⟨a, b, rfl, rfl, q⟩
theorem r_I {C : Int → Int → Prop} {g : Int → Int → V} {a b : Int} (c : C a b) (q : Q (g a b) H) : rI C g (.int a) (.int b) H Q := ⟨a, b, rfl, rfl, c, q⟩
theorem r_U {g : Int → V} {a : Int} (q : Q (g a) H) : rU g (.int a) H Q := ⟨a, rfl, q⟩
theorem r_eqI {a b : Int} (q : Q (.bl (decide (a = b))) H) : rEq (.int a) (.int b) H Q := by
  refine ⟨rfl, ?_⟩
  rw [show decide (V.int a = V.int b) = decide (a = b) by simp]
  exact q
theorem r_neI {a b : Int} (q : Q (.bl (!decide (a = b))) H) : rNe (.int a) (.int b) H Q := by
  refine ⟨rfl, ?_⟩
  rw [show decide (V.int a = V.int b) = decide (a = b) by simp]
  exact q
theorem r_eqS {a b : Str} (q : Q (.bl (decide (a = b))) H) : rEq (.str a) (.str b) H Q := by
  refine ⟨rfl, ?_⟩
  rw [show decide (V.str a = V.str b) = decide (a = b) by simp]
  exact q
theorem r_neS {a b : Str} (q : Q (.bl (!decide (a = b))) H) : rNe (.str a) (.str b) H Q := by
  refine ⟨rfl, ?_⟩
  rw [show decide (V.str a = V.str b) = decide (a = b) by simp]
  exact q
theorem r_eqB {a b : Bool} (q : Q (.bl (decide (a = b))) H) : rEq (.bl a) (.bl b) H Q := by
  refine ⟨rfl, ?_⟩
  rw [show decide (V.bl a = V.bl b) = decide (a = b) by simp]
  exact q
theorem r_neB {a b : Bool} (q : Q (.bl (!decide (a = b))) H) : rNe (.bl a) (.bl b) H Q := by
  refine ⟨rfl, ?_⟩
  rw [show decide (V.bl a = V.bl b) = decide (a = b) by simp]
  exact q
theorem r_ixL {K : PySem.W.Frag} {p : Addr} {xs : List V} {a : Int} (h : SqL K H p xs) (e : atI xs a = some v) (q : Q v H) : rIxL K (.ref p) (.int a) H Q := ⟨p, xs, a, v, rfl, rfl, h, e, q⟩
theorem r_ixT {K : PySem.W.Frag} {p : Addr} {xs : List V} {a : Int} (h : SqT K H p xs) (e : atI xs a = some v) (q : Q v H) : rIxT K (.ref p) (.int a) H Q := ⟨p, xs, a, v, rfl, rfl, h, e, q⟩
theorem r_app {p : Addr} {xs : List V} (h : H p = some (.lst xs)) (z : xs.length < sizeLine) (q : Q .non (upd H p (.lst (xs ++ [v])))) : rAppend (.ref p) [v] H Q := ⟨p, xs, v, rfl, rfl, h, z, q⟩
theorem r_sl {r : V → Option Int → Option Int → Hp → VK → Prop} {tl th : TO} (h : te σ H fun x H1 => tl σ H1 fun l H2 => th σ H2 fun u H3 => r x l u H3 Q) : tSl r te tl th σ H Q := h
theorem r_nop {O : Option Int → Hp → Prop} (h : O none H) : tNoPart σ H O := h
theorem r_part {O : Option Int → Hp → Prop} (h : te σ H fun x H1 => ∃ i, x = .int i ∧ O (some i) H1) : tPart te σ H O := h
theorem r_int {a : Int} {P : Int → Prop} (h : P a) : ∃ i, V.int a = .int i ∧ P i := ⟨a, rfl, h⟩
theorem r_slL {K : PySem.W.Frag} {p : Addr} {xs : List V} {lo hi : Option Int} (h : SqL K H p xs) (q : ∀ n, H n = none → Q (.ref n) (upd H n (.lst (cutV xs lo hi)))) : rSlL K (.ref p) lo hi H Q := ⟨p, xs, rfl, h, q⟩
theorem r_cat {a b : Addr} {xs zs : List V} (h : H a = some (.lst xs)) (h' : H b = some (.lst zs)) (z : xs.length + zs.length ≤ sizeLine) (q : ∀ p, H p = none → Q (.ref p) (upd H p (.lst (xs ++ zs)))) : rCat (.ref a) (.ref b) H Q := ⟨a, b, xs, zs, rfl, rfl, h, h', z, q⟩
theorem r_revL {K : PySem.W.Frag} (h : te σ H fun x H1 => ∃ a xs, x = .ref a ∧ SqL K H1 a xs ∧ ∀ p, H1 p = none → Q (.ref p) (upd H1 p (.lst xs.reverse))) : tRevL K te σ H Q := h
theorem r_lstRg {tr : L2.St → Hp → (Int → Int → Hp → Prop) → Prop} (h : tr σ H fun a b H1 => RgOk a b ∧ ∀ q, H1 q = none → Q (.ref q) (upd H1 q (.lst (rgV a b)))) : tLstRg tr σ H Q := h
theorem r_rg1 {P : Int → Int → Hp → Prop} (h : te σ H fun x H1 => ∃ n, x = .int n ∧ P 0 n H1) : tRg1 te σ H P := h
theorem r_aug {ti : TIp} (h : σ[i]? = some (some x)) (q : te σ H fun y H1 => ti x y H1 fun z H2 => D.nx (σ.set i (some z)) H2) : tAug i te ti D σ H := ⟨x, h, q⟩
theorem r_ip {f : Int → Int → Int} {a b : Int} (q : Q (.int (f a b)) H) : ipI f (.int a) (.int b) H Q := ⟨a, b, rfl, rfl, q⟩
theorem r_isN0 (q : Q (.bl true) H) : rIsN' .non .non H Q := ⟨rfl, q⟩
theorem r_isNi {a : Int} (q : Q (.bl false) H) : rIsN' (.int a) .non H Q := ⟨rfl, q⟩
theorem r_isNr {a : Addr} (q : Q (.bl false) H) : rIsN' (.ref a) .non H Q := ⟨rfl, q⟩
theorem r_isNb {a : Bool} (q : Q (.bl false) H) : rIsN' (.bl a) .non H Q := ⟨rfl, q⟩
theorem r_isNs {a : Str} (q : Q (.bl false) H) : rIsN' (.str a) .non H Q := ⟨rfl, q⟩
theorem r_isN {a : V} (q : Q (.bl (decide (a = .non))) H) : rIsN' a .non H Q := ⟨rfl, q⟩
theorem r_notN0 (q : Q (.bl false) H) : rNotN' .non .non H Q := ⟨rfl, q⟩
theorem r_notNi {a : Int} (q : Q (.bl true) H) : rNotN' (.int a) .non H Q := ⟨rfl, q⟩
theorem r_notNr {a : Addr} (q : Q (.bl true) H) : rNotN' (.ref a) .non H Q := ⟨rfl, q⟩
theorem r_notN {a : V} (q : Q (.bl (!decide (a = .non))) H) : rNotN' a .non H Q := ⟨rfl, q⟩
theorem r_len {K : PySem.W.Frag} {p : Addr} {xs : List V} (h : SqL K H p xs ∨ SqT K H p xs) (q : Q (.int xs.length) H) : rLen K [.ref p] H Q := ⟨p, xs, rfl, h, q⟩
theorem r_lenS {z : Str} (h : z.length ≤ sizeLine) (q : Q (.int z.length) H) : rLenS [.str z] H Q := ⟨z, rfl, h, q⟩
theorem r_abs {a : Int} (q : Q (.int (if a < 0 then -a else a)) H) : rAbs [.int a] H Q := ⟨a, rfl, q⟩
theorem r_max2 {a b : Int} (q : Q (.int (if b > a then b else a)) H) : rMax2 [.int a, .int b] H Q := ⟨a, b, rfl, q⟩
theorem r_min2 {a b : Int} (q : Q (.int (if b < a then b else a)) H) : rMin2 [.int a, .int b] H Q := ⟨a, b, rfl, q⟩
theorem r_inti {a : Int} (q : Q (.int a) H) : rInt1 [.int a] H Q := .inl ⟨a, rfl, q⟩
theorem r_intb {b : Bool} (q : Q (.int (if b then 1 else 0)) H) : rInt1 [.bl b] H Q := .inr ⟨b, rfl, q⟩
theorem r_listOf {K : PySem.W.Frag} {p : Addr} {xs : List V} (h : SqL K H p xs ∨ SqT K H p xs) (q : ∀ l, H l = none → Q (.ref l) (upd H l (.lst xs))) : rListOf K [.ref p] H Q := ⟨p, xs, rfl, h, q⟩
theorem r_tupleL {K : PySem.W.Frag} {p : Addr} {xs : List V} (h : SqL K H p xs) (q : ∀ l, H l = none → Q (.ref l) (upd H l (.tup xs))) : rTupleOf K [.ref p] H Q := ⟨p, xs, rfl, .inl ⟨h, q⟩⟩
theorem r_tupleT {K : PySem.W.Frag} {p : Addr} {xs : List V} (h : SqT K H p xs) (q : Q (.ref p) H) : rTupleOf K [.ref p] H Q := ⟨p, xs, rfl, .inr ⟨h, q⟩⟩
/-- an if whose test is a decided proposition -/
theorem ifD {c A B : Prop} [Decidable c] (h1 : c → A) (h2 : ¬ c → B) : if decide c = true then A else B := by
  by_cases h : c
  · rw [decide_eq_true h]; exact iteT (h1 h)
  · rw [decide_eq_false h]; exact iteF (h2 h)
theorem ifN {c A B : Prop} [Decidable c] (h1 : ¬ c → A) (h2 : c → B) : if (!decide c) = true then A else B := by
  by_cases h : c
  · rw [decide_eq_true h]; exact iteF (h2 h)
  · rw [decide_eq_false h]; exact iteT (h1 h)
theorem ifB {b : Bool} {A B : Prop} (h1 : b = true → A) (h2 : b = false → B) : if b = true then A else B := by
  cases b with
  | true => exact iteT (h1 rfl)
  | false => exact iteF (h2 rfl)
theorem ifNB {b : Bool} {A B : Prop} (h1 : b = false → A) (h2 : b = true → B) : if (!b) = true then A else B := by
  cases b with
  | true => exact iteF (h2 rfl)
  | false => exact iteT (h1 rfl)
theorem ifDT {c A B : Prop} [Decidable c] (hc : c) (h : A) : if decide c = true then A else B := ifD (fun _ => h) fun n => (n hc).elim
theorem ifDF {c A B : Prop} [Decidable c] (hc : ¬ c) (h : B) : if decide c = true then A else B := ifD (fun n => (hc n).elim) fun _ => h
theorem ifNT {c A B : Prop} [Decidable c] (hc : ¬ c) (h : A) : if (!decide c) = true then A else B := ifN (fun _ => h) fun n => (hc n).elim
theorem ifNF {c A B : Prop} [Decidable c] (hc : c) (h : B) : if (!decide c) = true then A else B := ifN (fun n => (n hc).elim) fun _ => h
end
theorem sz {n : Nat} (h : n ≤ 100000) : n ≤ sizeLine := Nat.le_trans h (by decide)
theorem szl {n : Nat} (h : n ≤ 100000) : n < sizeLine := Nat.lt_of_le_of_lt h (by decide)
end Lx

namespace Lx
open PySem PySem.Spec PyProof.Rows L2
section
variable {prog : Program} {w : World} {A : Around} {E : Value → Shared → Prop} {s : Shared}
/-- the items of a tuple, gathered into a new list -/
theorem gather_tup {t : Addr} {o : Obj} {vs : List Value} {n : Nat} {Q : List Value → Shared → Prop} (ho : s.heap.get? t = some o) (hc : o.cls = .type "tuple") (hd : o.data = .seq vs.toArray n) (hz : vs.length ≤ sizeLine)
    (h : Q vs { s with heap := (s.heap.push (seqObj "list" #[] 0)).update s.heap.objs.size (Obj.mapSeq (· ++ vs.toArray)) }) : wpAny (model prog w) A (collect (.ref t)) Q E s := by
  have old : (s.heap.push (seqObj "list" #[] 0)).get? t = some o := Heap.get?_push_of_some _ ho
  have new : (s.heap.push (seqObj "list" #[] 0)).get? s.heap.objs.size = some (seqObj "list" #[] 0) := Heap.get?_push_size _ rfl
  have et : (Value.type "tuple" == Value.type "tuple") = true := by rfl
  unfold collect
  apply wpAny_bind
  apply wpAny_runValue
  apply codeAny_builtin entry_proto_collect'
  show wpAny _ _ (do again (.builtin "list.__iadd__" ⟨[← newList [], .ref t], []⟩)) _ _ s
  apply wpAny_bind
  refine wpAny_newList ?_
  refine wpAny_pure ⟨Code.quiet_builtin _ (by decide +kernel), codeAny_builtin entry_list_iadd' ?_⟩
  show wpAny _ _ (Builtin.List.listExtendWith (.ref s.heap.objs.size) (.ref t) (.ref s.heap.objs.size)) _ _ { s with heap := s.heap.push (seqObj "list" #[] 0) }
  unfold Builtin.List.listExtendWith
  refine wpAny_bind (wpAny_typeOf (T := "tuple") ⟨o, old, hc⟩ ?_)
  rw [if_pos (by rw [et]; simp)]
  apply wpAny_bind
  refine listItems_at old hd ?_
  apply wpAny_bind
  refine listItems_at (xs := #[]) (n := 0) new rfl ?_
  rw [if_neg (by simp)]
  apply wpAny_bind
  refine listUpdate_at (xs := #[]) (n := 0) new rfl ?_ (Nat.zero_le _) (by simp only [Array.size_append, List.size_toArray, List.length_nil]; show 0 + vs.length ≤ sizeLine + 1; omega)
  apply wpAny_pure
  show wpAny (model prog w) A (do
    let o' ← load s.heap.objs.size
    match o'.data with
    | .seq xs _ => pure xs.toList
    | _ => unsupported "internal:collect") Q E _
  refine wpAny_bind (wpAny_load (get?_update_seq new _) ?_)
  have e : ((#[] : Array Value) ++ vs.toArray).toList = vs := by simp
  show wpAny _ _ (pure ((#[] : Array Value) ++ vs.toArray).toList) Q E _
  rw [e]
  exact wpAny_pure h
/-- sorted of a tuple of ints -/
theorem sorted_tupI {t : Addr} {o : Obj} {vs : List Value} {ns : List Int} {n : Nat} {Q : Value → Shared → Prop} (ho : s.heap.get? t = some o) (hc : o.cls = .type "tuple") (hd : o.data = .seq vs.toArray n) (hz : vs.length ≤ sizeLine) (hi : IntsAre vs ns)
    (h : ∀ out : List Value, SrtO.Srtd SrtO.ltIv out → SrtO.Stb SrtO.ltIv out vs → Q (.ref (s.heap.objs.size + 1)) { s with heap := sortedAll s.heap vs out.toArray }) : wpAny (model prog w) A (call (.builtin "sorted") [.ref t]) Q E s := by
  have size1 : ((s.heap.push (seqObj "list" #[] 0)).update s.heap.objs.size (Obj.mapSeq (· ++ vs.toArray))).objs.size = s.heap.objs.size + 1 := by rw [Heap.size_update, size_push']
  have made : (((s.heap.push (seqObj "list" #[] 0)).update s.heap.objs.size (Obj.mapSeq (· ++ vs.toArray))).push (seqObj "list" vs.toArray 0)).get? (s.heap.objs.size + 1) = some (seqObj "list" vs.toArray 0) := by
    rw [← size1]
    exact Heap.get?_push_size _ rfl
  apply Calls.call_function_entry kind_sorted plain_sorted entry_sorted (args_sorted1 _)
  unfold Builtin.«sorted»
  refine wpAny_bind (m := checkCount "sorted" 1 1 _) (wpAny_pure ?_)
  apply wpAny_bind
  apply gather_tup ho hc hd hz
  apply wpAny_bind
  refine wpAny_newList ?_ hz
  show wpAny _ _ _ _ _ { s with heap := ((s.heap.push (seqObj "list" #[] 0)).update s.heap.objs.size (Obj.mapSeq (· ++ vs.toArray))).push (seqObj "list" vs.toArray 0) }
  rw [size1]
  apply wpAny_bind
  apply wpAny_holding
  refine wpAny_call_entry slot_list_sort ⟨_, made, rfl⟩ entry_list_sort (SrtO.list_sort_ord SrtO.swo_int made hz (fun h2 => SrtO.ints_sortable hi h2) ?_) (args_list_sort _)
  intro out h1 h2
  exact ⟨_, rfl, wpAny_pure ⟨_, rfl, h out h1 h2⟩⟩
end
/-- sorted(t), t a tuple of ints of any length -/
def rSortedU (K : PySem.W.Frag) : List V → Hp → VK → Prop := fun vs H Q => ∃ (a : Addr) (ns : List Int), vs = [V.ref a] ∧ SqT K H a (ns.map V.int) ∧ ∀ (ns' : List Int) (p : Addr), ns'.Perm ns → ns'.Pairwise (· ≤ ·) → H p = none → Q (.ref p) (upd H p (.lst (ns'.map V.int)))
theorem cr_sortedU {X : Cx} : CallR X (.builtin "sorted") (rSortedU X.K) := by
  intro pins s σ H vs us Q I r h
  obtain ⟨a, ns, rfl, hs, q⟩ := h
  obtain ⟨its, rv, ⟨o, ho, hc, n, hd⟩, hz⟩ := I.tuple hs
  have hi := rv.ints
  rw [Vals.ref1 r]
  refine sorted_tupI ho hc hd (by rw [← rv.length]; exact hz) hi ?_
  intro out h1 h2
  have k := SrtO.ints_out hi h1 h2
  obtain ⟨ep, he⟩ := sortedAll_at s.heap its out.toArray
  refine ⟨.ref _, upd H (s.heap.objs.size + 1) (.lst ((out.map SrtO.iv).map V.int)), ?_, rfl, q _ _ k.2.1 k.2.2 (I.hok.fresh (Nat.le_succ _))⟩
  refine I.laid (t' := s.toks) (fun _ _ => sortedAll_old) (Nat.le_succ _) ⟨?_, out, ep, vals_of_ints k.1, he⟩
  rw [List.length_map, k.2.1.length_eq]
  rw [List.length_map] at hz
  exact hz

/-! ### one of two -/
def iOr (w1 w2 : TI) : TI := fun σ H R => w1 σ H R ∨ w2 σ H R
theorem pi_or {X : Cx} {tg l : Expr} {w1 w2 : TI} (h1 : PI X tg l w1) (h2 : PI X tg l w2) : PI X tg l (iOr w1 w2) :=
  ⟨fun pins s σ H R I h => h.elim (h1.run pins s σ H R I) (h2.run pins s σ H R I)⟩
def cOr (r1 r2 : List V → Hp → VK → Prop) : List V → Hp → VK → Prop := fun xs H Q => r1 xs H Q ∨ r2 xs H Q
theorem call_or {X : Cx} {f : Value} {r1 r2 : List V → Hp → VK → Prop} (h1 : CallR X f r1) (h2 : CallR X f r2) : CallR X f (cOr r1 r2) :=
  fun pins s σ H vs us Q I r h => h.elim (h1 pins s σ H vs us Q I r) (h2 pins s σ H vs us Q I r)
def oOr (r1 r2 : R2) : R2 := fun x y H Q => r1 x y H Q ∨ r2 x y H Q
theorem op_or {X : Cx} {f : Value → Value → Sem Value} {r1 r2 : R2} (h1 : OpR X f r1) (h2 : OpR X f r2) : OpR X f (oOr r1 r2) :=
  fun pins s σ H x y v u Q I rx ry h => h.elim (h1 pins s σ H x y v u Q I rx ry) (h2 pins s σ H x y v u Q I rx ry)
theorem ix_or {X : Cx} {r1 r2 : R2} (h1 : IxR X r1) (h2 : IxR X r2) : IxR X (oOr r1 r2) := IxR.or h1 h2
end Lx

namespace Lx
open PySem PySem.Spec PyProof.Rows L2
/-- a list or a tuple that stands at a -/
def Sq (H : Hp) (a : Addr) (xs : List V) : Prop := H a = some (.lst xs) ∨ H a = some (.tup xs)
theorem _root_.L2.Same.sq {H H' : Hp} {a : Addr} {xs : List V} (s : Same H H') (h : Sq H a xs) : Sq H' a xs := h.elim (fun h => .inl (s _ _ h)) fun h => .inr (s _ _ h)
theorem Kp.sq {r : Addr} {H H' : Hp} {a : Addr} {xs : List V} (k : Kp r H H') (n : a ≠ r) (h : Sq H a xs) : Sq H' a xs := h.elim (fun h => .inl (k _ _ n h)) fun h => .inr (k _ _ n h)
theorem Sq.or {K : PySem.W.Frag} {H : Hp} {a : Addr} {xs : List V} (h : Sq H a xs) : SqL K H a xs ∨ SqT K H a xs := h.elim (fun h => .inl (lst_of h)) fun h => .inr (tup_of h)
/-! ### data of ints -/
def dI (ns : List Int) : List PyData := ns.map PyData.int
def vI (ns : List Int) : List V := ns.map V.int
theorem vI_len (ns : List Int) : (vI ns).length = ns.length := List.length_map ..
theorem dpAll_ints {K : PySem.W.Frag} {H : Hp} : ∀ ns : List Int, DpAll K H (vI ns) (dI ns)
  | [] => .nil
  | n :: ns => .cons (.int n) (dpAll_ints ns)
theorem dp_listI {K : PySem.W.Frag} {H : Hp} {a : Addr} {ns : List Int} (h : SqL K H a (vI ns)) : Dp K H (.ref a) (.list (dI ns)) := .lst h (dpAll_ints ns)
theorem dp_tupI {K : PySem.W.Frag} {H : Hp} {a : Addr} {ns : List Int} (h : SqT K H a (vI ns)) : Dp K H (.ref a) (.tuple (dI ns)) := .tup h (dpAll_ints ns)
theorem eqv_int (a b : Int) : PyData.eqv (.int a) (.int b) = decide (a = b) := by
  unfold PyData.eqv
  by_cases h : a = b
  · subst h; simp
  · simp [h]
theorem eqvAll_ints : ∀ xs ys : List Int, PyData.eqvAll (dI xs) (dI ys) = decide (xs = ys)
  | [], [] => by simp [dI, PyData.eqvAll]
  | [], _ :: _ => by simp [dI, PyData.eqvAll]
  | _ :: _, [] => by simp [dI, PyData.eqvAll]
  | x :: xs, y :: ys => by
    have ih := eqvAll_ints xs ys
    show (PyData.eqv (.int x) (.int y) && PyData.eqvAll (dI xs) (dI ys)) = _
    rw [ih, eqv_int]
    by_cases h : x = y <;> by_cases h2 : xs = ys <;> simp [h, h2]
theorem eqv_listI (xs ys : List Int) : PyData.eqv (.list (dI xs)) (.list (dI ys)) = decide (xs = ys) := by
  unfold PyData.eqv
  exact eqvAll_ints xs ys
theorem depthAll_ints : ∀ ns : List Int, PyData.depthAll (dI ns) = 0
  | [] => rfl
  | n :: ns => by show max 0 (PyData.depthAll (dI ns)) = 0; rw [depthAll_ints ns]; rfl
theorem canLay_ints : ∀ ns : List Int, PyData.canLayAll0 (dI ns) = true
  | [] => rfl
  | n :: ns => by
    have ih := canLay_ints ns
    simp only [dI, List.map_cons, PyData.canLayAll0, PyData.canLay0, Bool.true_and] at ih ⊢
    exact ih
theorem shaped_listI (ns : List Int) : SeqAt.shaped (.list (dI ns)) = true := by
  unfold SeqAt.shaped
  have h1 : PyData.canLay0 (.list (dI ns)) = true := by unfold PyData.canLay0; exact canLay_ints ns
  have h2 : PyData.depth (.list (dI ns)) ≤ 64 := by show PyData.depthAll (dI ns) + 1 ≤ 64; rw [depthAll_ints]; decide
  rw [h1, decide_eq_true h2]
  rfl
theorem dI_mem {ns : List Int} {d : PyData} (h : d ∈ dI ns) : ∃ n ∈ ns, d = .int n := by
  obtain ⟨n, hn, e⟩ := List.mem_map.mp h
  exact ⟨n, hn, e.symm⟩
theorem showableAll_of {ds : List PyData} (h : ∀ d ∈ ds, d.showable = true) : PyData.showableAll ds = true := by
  induction ds with
  | nil => rfl
  | cons d ds ih =>
    show (d.showable && PyData.showableAll ds) = true
    rw [h d List.mem_cons_self, ih fun x hx => h x (List.mem_cons_of_mem _ hx)]
    rfl
theorem hasDictAll_of {ds : List PyData} (h : ∀ d ∈ ds, d.hasDict = false) : PyData.hasDictAll ds = false := by
  induction ds with
  | nil => rfl
  | cons d ds ih =>
    show (d.hasDict || PyData.hasDictAll ds) = false
    rw [h d List.mem_cons_self, ih fun x hx => h x (List.mem_cons_of_mem _ hx)]
    rfl
theorem depthAll_le {ds : List PyData} {m : Nat} (h : ∀ d ∈ ds, d.depth ≤ m) : PyData.depthAll ds ≤ m := by
  induction ds with
  | nil => exact Nat.zero_le _
  | cons d ds ih =>
    show max d.depth (PyData.depthAll ds) ≤ m
    exact Nat.max_le.mpr ⟨h d List.mem_cons_self, ih fun x hx => h x (List.mem_cons_of_mem _ hx)⟩
/-- what repr asks of a datum: to show it takes at most m signs, depth at most k -/
structure Shows (d : PyData) (k m : Nat) : Prop where
  s : d.showable = true
  n : d.hasDict = false
  k : d.depth ≤ k
  z : d.shown.length ≤ m
theorem shows_int {i : Int} {k : Nat} (hk : 0 < k) (hk2 : k ≤ 250) (h0 : 0 ≤ i) (h : i < 10 ^ k) : Shows (.int i) 0 k := by
  refine ⟨?_, rfl, Nat.le_refl _, int_shown hk h0 h⟩
  show decide (i.natAbs.log2 < 1920) = true
  have h1 : i.natAbs < 10 ^ k := by
    have e : ((i.natAbs : Nat) : Int) < ((10 ^ k : Nat) : Int) := by
      rw [Int.natAbs_of_nonneg h0, Int.natCast_pow]
      exact h
    exact Int.ofNat_lt.mp e
  have h2 : (10 : Nat) ^ k ≤ 10 ^ 250 := Nat.pow_le_pow_right (by decide) hk2
  have h3 : i.natAbs < 2 ^ 1920 := Nat.lt_of_lt_of_le (Nat.lt_of_lt_of_le h1 h2) (by decide)
  exact decide_eq_true (PySem.Flt.log2_lt_of (by decide) h3)
theorem shows_none : Shows .none 0 4 := ⟨rfl, rfl, Nat.le_refl _, by decide⟩
theorem shows_list {ds : List PyData} {k m n : Nat} (h : ∀ d ∈ ds, Shows d k m) (hl : ds.length ≤ n) : Shows (.list ds) (k + 1) (n * (m + 2) + 2) := by
  refine ⟨showableAll_of fun d hd => (h d hd).s, hasDictAll_of fun d hd => (h d hd).n, Nat.succ_le_succ (depthAll_le fun d hd => (h d hd).k), ?_⟩
  exact Nat.le_trans (list_shown fun d hd => (h d hd).z) (Nat.add_le_add_right (Nat.mul_le_mul_right _ hl) _)
theorem shows_tup {ds : List PyData} {k m n : Nat} (h : ∀ d ∈ ds, Shows d k m) (hl : ds.length ≤ n) : Shows (.tuple ds) (k + 1) (n * (m + 2) + 3) := by
  refine ⟨showableAll_of fun d hd => (h d hd).s, hasDictAll_of fun d hd => (h d hd).n, Nat.succ_le_succ (depthAll_le fun d hd => (h d hd).k), ?_⟩
  exact Nat.le_trans (tuple_shown fun d hd => (h d hd).z) (Nat.add_le_add_right (Nat.mul_le_mul_right _ hl) _)
theorem r_repr {K : PySem.W.Frag} {H : Hp} {Q : VK} {x : V} {d : PyData} {k m : Nat} (h : Dp K H x d) (s : Shows d k m) (hk : k ≤ 32) (hm : m ≤ 1000000) (q : Q (.str d.shown) H) : rRepr K [x] H Q :=
  ⟨x, d, rfl, h, s.s, s.n, Nat.le_trans s.k hk, Nat.le_trans s.z (Nat.le_trans hm (by decide)), q⟩
theorem r_sortSq {K : PySem.W.Frag} {H : Hp} {Q : VK} {a : Addr} {ns : List Int} (h : Sq H a (vI ns)) (q : ∀ (ns' : List Int) (p : Addr), ns'.Perm ns → ns'.Pairwise (· ≤ ·) → H p = none → Q (.ref p) (upd H p (.lst (vI ns')))) :
    cOr (rSortedI K) (rSortedU K) [.ref a] H Q := h.elim (fun h => .inl ⟨a, ns, rfl, lst_of h, q⟩) fun h => .inr ⟨a, ns, rfl, tup_of h, q⟩
theorem r_neLI {K : PySem.W.Frag} {H : Hp} {Q : VK} {a b : Addr} {xs ys : List Int} (h : SqL K H a (vI xs)) (h' : SqL K H b (vI ys)) (q : Q (.bl (!decide (xs = ys))) H) : rNeD K (.ref a) (.ref b) H Q := by
  refine ⟨_, _, dp_listI h, dp_listI h', shaped_listI xs, shaped_listI ys, ?_⟩
  rw [eqv_listI]
  exact q
theorem r_eqLI {K : PySem.W.Frag} {H : Hp} {Q : VK} {a b : Addr} {xs ys : List Int} (h : SqL K H a (vI xs)) (h' : SqL K H b (vI ys)) (q : Q (.bl (decide (xs = ys))) H) : rEqD K (.ref a) (.ref b) H Q := by
  refine ⟨_, _, dp_listI h, dp_listI h', shaped_listI xs, shaped_listI ys, ?_⟩
  rw [eqv_listI]
  exact q
theorem r_rep {H : Hp} {Q : VK} {l : Addr} {xs : List V} {n : Nat} (h : H l = some (.lst xs)) (h1 : xs.length * n ≤ 100000) (h2 : n ≤ 100000) (q : ∀ p, H p = none → Q (.ref p) (upd H p (.lst (List.replicate n xs).flatten))) : rRep (.ref l) (.int ((n : Nat) : Int)) H Q := by
  refine ⟨l, _, xs, rfl, rfl, h, by omega, by omega, ?_, ?_⟩
  · rw [Int.toNat_natCast]; exact sz h1
  · rw [Int.toNat_natCast]; exact q
/-! ### in a list of ints -/
theorem inV_ints (p : Int) (ns : List Int) : inV (.int p) (vI ns) = decide (p ∈ ns) := by
  unfold inV vI
  rw [List.any_map]
  induction ns with
  | nil => simp
  | cons n ns ih =>
    rw [List.any_cons, ih]
    have e : ((fun y => eqV y (V.int p)) ∘ V.int) n = decide (n = p) := by
      show eqV (.int n) (.int p) = _
      by_cases h : n = p <;> simp [eqV, h]
    rw [e]
    by_cases h : n = p
    · subst h; simp
    · have h' : ¬ p = n := fun z => h z.symm
      simp [h, h']
theorem flat_ints (ns : List Int) : (vI ns).all flatV = true := by
  unfold vI
  rw [List.all_map]
  exact List.all_eq_true.mpr fun x _ => rfl
theorem ixN_ok {n : Nat} {i : Int} (h0 : 0 ≤ i) (h1 : i < n) : ixN n i = some i.toNat := by
  unfold ixN
  rw [if_pos h0, if_pos h1]
theorem atI_ok {α : Type} {xs : List α} {i : Int} {v : α} (h0 : 0 ≤ i) (h : xs[i.toNat]? = some v) : atI xs i = some v := by
  have e : i = ((i.toNat : Nat) : Int) := (Int.toNat_of_nonneg h0).symm
  rw [e]
  exact atI_nat h
theorem vI_at {ns : List Int} {j : Nat} (h : j < ns.length) : (vI ns)[j]? = some (.int ns[j]) := by
  unfold vI
  rw [List.getElem?_map, List.getElem?_eq_getElem h]
  rfl
theorem atI_ints {ns : List Int} {i : Int} (h0 : 0 ≤ i) (h1 : i < ns.length) : atI (vI ns) i = some (.int (ns.getD i.toNat 0)) := by
  have hj : i.toNat < ns.length := by omega
  refine atI_ok h0 ?_
  rw [vI_at hj, List.getD_eq_getElem?_getD, List.getElem?_eq_getElem hj]
  rfl
end Lx

namespace Lx
open PySem PySem.Spec PyProof.Rows L2
/-! ### isinstance -/
section
variable {K : PySem.W.Frag} {H : Hp} {Q : VK} {a tp : Addr} {xs : List V} {i : Int} {z : Str} {b : Bool}
theorem isi_of {x : V} {t T : String} {b : Bool} (ty : TyX K H x (.type t)) (e : kitB t T = some b) (q : Q (.bl b) H) : rIsi K [x, .ty T] H Q := ⟨x, .ty T, .type t, .type T, b, rfl, .ty T, ty, kit_ty e, q⟩
theorem k_ii : kitB "int" "int" = some true := by decide +kernel
theorem k_ib : kitB "int" "bool" = some false := by decide +kernel
theorem k_is : kitB "int" "str" = some false := by decide +kernel
theorem k_il : kitB "int" "list" = some false := by decide +kernel
theorem k_it : kitB "int" "tuple" = some false := by decide +kernel
theorem k_bi : kitB "bool" "int" = some true := by decide +kernel
theorem k_bb : kitB "bool" "bool" = some true := by decide +kernel
theorem k_bs : kitB "bool" "str" = some false := by decide +kernel
theorem k_bl : kitB "bool" "list" = some false := by decide +kernel
theorem k_bt : kitB "bool" "tuple" = some false := by decide +kernel
theorem k_si : kitB "str" "int" = some false := by decide +kernel
theorem k_sb : kitB "str" "bool" = some false := by decide +kernel
theorem k_ss : kitB "str" "str" = some true := by decide +kernel
theorem k_sl : kitB "str" "list" = some false := by decide +kernel
theorem k_st : kitB "str" "tuple" = some false := by decide +kernel
theorem k_ni : kitB "NoneType" "int" = some false := by decide +kernel
theorem k_nb : kitB "NoneType" "bool" = some false := by decide +kernel
theorem k_ns : kitB "NoneType" "str" = some false := by decide +kernel
theorem k_nl : kitB "NoneType" "list" = some false := by decide +kernel
theorem k_nt : kitB "NoneType" "tuple" = some false := by decide +kernel
theorem k_li : kitB "list" "int" = some false := by decide +kernel
theorem k_lb : kitB "list" "bool" = some false := by decide +kernel
theorem k_ls : kitB "list" "str" = some false := by decide +kernel
theorem k_ll : kitB "list" "list" = some true := by decide +kernel
theorem k_lt : kitB "list" "tuple" = some false := by decide +kernel
theorem k_ti : kitB "tuple" "int" = some false := by decide +kernel
theorem k_tb : kitB "tuple" "bool" = some false := by decide +kernel
theorem k_ts : kitB "tuple" "str" = some false := by decide +kernel
theorem k_tl : kitB "tuple" "list" = some false := by decide +kernel
theorem k_tt : kitB "tuple" "tuple" = some true := by decide +kernel
theorem ty_int : TyX K H (.int i) (.type "int") := .base (.int i)
theorem ty_bl : TyX K H (.bl b) (.type "bool") := .base (.bl b)
theorem ty_str : TyX K H (.str z) (.type "str") := .base (.str z)
theorem ty_non : TyX K H .non (.type "NoneType") := .base .non
theorem ty_lst (h : H a = some (.lst xs)) : TyX K H (.ref a) (.type "list") := .base (.lst h)
theorem ty_tup (h : H a = some (.tup xs)) : TyX K H (.ref a) (.type "tuple") := .base (.tup h)
/-- isinstance(x, (list, tuple)), the pair just laid -/
theorem isiLT {x : V} {t : String} {b1 b2 : Bool} (hT : H tp = some (.tup [.ty "list", .ty "tuple"])) (ty : TyX K H x (.type t)) (e1 : kitB t "list" = some b1) (e2 : kitB t "tuple" = some b2) (q : Q (.bl (b1 || b2)) H) : rIsiT K [x, .ref tp] H Q := by
  refine ⟨x, tp, _, .type t, [.type "list", .type "tuple"], b1 || b2, rfl, hT, .cons (.ty _) (.cons (.ty _) .nil), ty, kitAny_cons (kit_ty e1) (fun h1 => ?_) (fun h1 => by rw [h1]; rfl), q⟩
  refine kitAny_cons (kit_ty e2) (fun h2 => ?_) (fun h2 => by rw [h1, h2]; rfl)
  rw [h1, h2]
  exact kitAny_nil
theorem isiLT_l {x : V} {t : String} (hT : H tp = some (.tup [.ty "list", .ty "tuple"])) (ty : TyX K H x (.type t)) (e1 : kitB t "list" = some true) (e2 : kitB t "tuple" = some false) (q : Q (.bl true) H) : rIsiT K [x, .ref tp] H Q := isiLT hT ty e1 e2 q
theorem isiLT_t {x : V} {t : String} (hT : H tp = some (.tup [.ty "list", .ty "tuple"])) (ty : TyX K H x (.type t)) (e1 : kitB t "list" = some false) (e2 : kitB t "tuple" = some true) (q : Q (.bl true) H) : rIsiT K [x, .ref tp] H Q := isiLT hT ty e1 e2 q
theorem isiLT_o {x : V} {t : String} (hT : H tp = some (.tup [.ty "list", .ty "tuple"])) (ty : TyX K H x (.type t)) (e1 : kitB t "list" = some false) (e2 : kitB t "tuple" = some false) (q : Q (.bl false) H) : rIsiT K [x, .ref tp] H Q := isiLT hT ty e1 e2 q
end
theorem ifnT {A B : Prop} (h : B) : if (!true) = true then A else B := iteF h
theorem ifnF {A B : Prop} (h : A) : if (!false) = true then A else B := iteT h
end Lx

namespace Lx
open PySem PySem.Spec PyProof.Rows L2
/-- what an iterator gives: n turns while OK holds; item says what a turn yields -/
structure Src (J : It) (n : Nat) (OK : Hp → Prop) (item : Nat → V → Hp → Hp → Prop) : Prop where
  go : ∀ i H, OK H → i < n → J.go i H
  stop : ∀ H, OK H → J.stop n H
  yld : ∀ i H v H', OK H → i < n → J.yld i H v H' → item i v H H'
section
variable {K : PySem.W.Frag} {a b : Addr} {xs ys : List V}
theorem src_list : Src (Itl K a) xs.length (fun H => SqL K H a xs) (fun i v H H' => H' = H ∧ xs[i]? = some v) where
  go := fun i H h hi => ⟨xs, xs[i], h, by simp [hi]⟩
  stop := fun H h => ⟨xs, h, Nat.le_refl _⟩
  yld := fun i H v H' h _ y => ⟨y.1, y.2 xs h⟩
theorem src_tup : Src (Itt K a) xs.length (fun H => SqT K H a xs) (fun i v H H' => H' = H ∧ xs[i]? = some v) where
  go := fun i H h hi => ⟨xs, xs[i], h, by simp [hi]⟩
  stop := fun H h => ⟨xs, h, Nat.le_refl _⟩
  yld := fun i H v H' h _ y => ⟨y.1, y.2 xs h⟩
theorem src_range {lo : Int} {n : Nat} : Src (Itr lo n) n (fun _ => True) (fun i v H H' => H' = H ∧ v = .int (lo + i)) where
  go := fun i H _ hi => hi
  stop := fun H _ => Nat.le_refl n
  yld := fun i H v H' _ _ y => y
theorem src_step {lo c : Int} {n : Nat} : Src (Itc lo c n) n (fun _ => True) (fun i v H H' => H' = H ∧ v = .int (lo + (i : Nat) * c)) where
  go := fun i H _ hi => hi
  stop := fun H _ => Nat.le_refl n
  yld := fun i H v H' _ _ y => y
theorem src_enum : Src (Ite K a) xs.length (fun H => SqL K H a xs) (fun i v H H' => ∃ T x, v = .ref T ∧ H T = none ∧ H' = upd H T (.tup [.int (i : Nat), x]) ∧ xs[i]? = some x) where
  go := fun i H h hi => ⟨xs, xs[i], h, by simp [hi]⟩
  stop := fun H h => ⟨xs, h, Nat.le_refl _⟩
  yld := fun i H v H' h _ y => by
    obtain ⟨T, x, e, n, u, f⟩ := y
    exact ⟨T, x, e, n, u, f xs h⟩
theorem src_zip (hl : xs.length = ys.length) : Src (Itz K a b) xs.length (fun H => SqL K H a xs ∧ SqL K H b ys) (fun i v H H' => ∃ T x y, v = .ref T ∧ H T = none ∧ H' = upd H T (.tup [x, y]) ∧ xs[i]? = some x ∧ ys[i]? = some y) where
  go := fun i H h hi => ⟨xs, ys, xs[i], ys[i]'(by omega), h.1, h.2, by simp [hi], List.getElem?_eq_getElem (by omega)⟩
  stop := fun H h => ⟨xs, ys, h.1, h.2, .inl (Nat.le_refl _)⟩
  yld := fun i H v H' h _ y => by
    obtain ⟨T, x, z, e, n, u, f, g⟩ := y
    exact ⟨T, x, z, e, n, u, f xs h.1, g ys h.2⟩
theorem src_rev : Src (Itv K a xs.length) xs.length (fun H => SqL K H a xs) (fun i v H H' => H' = H ∧ xs[xs.length - 1 - i]? = some v) where
  go := fun i H h hi => ⟨hi, xs, xs[xs.length - 1 - i]'(by omega), h, List.getElem?_eq_getElem (by omega)⟩
  stop := fun H h => Nat.le_refl xs.length
  yld := fun i H v H' h _ y => ⟨y.1, y.2 xs h⟩
theorem src_str {x : Str} : Src (Its x) x.cps.size (fun _ => True) (fun i v H H' => H' = H ∧ ∃ c, x.cps[i]? = some c ∧ v = .str ⟨#[c]⟩) where
  go := fun i H _ hi => hi
  stop := fun H _ => Nat.le_refl x.cps.size
  yld := fun i H v H' _ _ y => y
end
section
variable {J : It} {n : Nat} {OK : Hp → Prop} {item : Nat → V → Hp → Hp → Prop} {g : TG} {tb : TS} {D : Ends} {σ : L2.St} {H : Hp}
/-- for, by a word over the turn, the slots, the heap -/
theorem for_src (S : Src J n OK item) (Pv : Nat → L2.St → Hp → Prop) (ok : ∀ i σ H, Pv i σ H → OK H) (h0 : Pv 0 σ H)
    (hs : ∀ i v σ H H', i < n → Pv i σ H → item i v H H' → g v σ H' fun σ2 H2 => tb { D with nx := Pv (i + 1), ct := Pv (i + 1), bk := D.nx } σ2 H2) (hd : ∀ σ H, Pv n σ H → D.nx σ H) :
    ∃ W : Nat → Nat → L2.St → Hp → Prop, (∃ m, W 0 m σ H) ∧ ∀ i m σ H, W i m σ H →
      (J.stop i H ∧ D.nx σ H) ∨ (J.go i H ∧ ∃ N : L2.St → Hp → Prop, (∀ σ' H', N σ' H' → ∃ m', m' < m ∧ W (i + 1) m' σ' H') ∧ ∀ x H', J.yld i H x H' → g x σ H' fun σ2 H2 => tb { D with nx := N, ct := N, bk := D.nx } σ2 H2) := by
  refine ⟨fun i m σ H => i + m = n ∧ Pv i σ H, ⟨n, Nat.zero_add n, h0⟩, ?_⟩
  rintro i m σ H ⟨e, p⟩
  have o := ok i σ H p
  by_cases hi : i < n
  · refine .inr ⟨S.go i H o hi, Pv (i + 1), ?_, ?_⟩
    · intro σ' H' p'
      exact ⟨m - 1, by omega, by omega, p'⟩
    · intro x H' y
      exact hs i x σ H H' hi p (S.yld i H x H' o hi y)
  · have ei : i = n := by omega
    subst ei
    exact .inl ⟨S.stop H o, hd σ H p⟩
variable {tt : TT} {te : TE} {vs : List Nat} {H1 : Hp} {Dl : Addr} {Qd : Hp → Prop}
/-- a comprehension, by a word over the turn and the heap -/
theorem lc_src (S : Src J n OK item) (Pv : Nat → Hp → Prop) (ok : ∀ i H, Pv i H → OK H) (h0 : Pv 0 (upd H1 Dl (.lst [])))
    (hs : ∀ i v H H', i < n → Pv i H → item i v H H' → g v (wipe σ vs) H' fun σ2 H2 => wipe σ2 vs = wipe σ vs ∧ tt σ2 H2 fun b H3 =>
      if b = true then te σ2 H3 fun y H4 => ∃ acc, H4 Dl = some (.lst acc) ∧ acc.length < sizeLine ∧ Pv (i + 1) (upd H4 Dl (.lst (acc ++ [y]))) else Pv (i + 1) H3) (hd : ∀ H, Pv n H → Qd H) :
    ∃ W : Nat → Nat → Hp → Prop, (∃ m, W 0 m (upd H1 Dl (.lst []))) ∧ ∀ i m H, W i m H →
      (J.stop i H ∧ Qd H) ∨ (J.go i H ∧ ∃ Nx : Hp → Prop, (∀ H', Nx H' → ∃ m', m' < m ∧ W (i + 1) m' H') ∧ ∀ x H', J.yld i H x H' → g x (wipe σ vs) H' fun σ2 H2 => wipe σ2 vs = wipe σ vs ∧ tt σ2 H2 fun b H3 =>
        if b = true then te σ2 H3 fun y H4 => ∃ acc, H4 Dl = some (.lst acc) ∧ acc.length < sizeLine ∧ Nx (upd H4 Dl (.lst (acc ++ [y]))) else Nx H3) := by
  refine ⟨fun i m H => i + m = n ∧ Pv i H, ⟨n, Nat.zero_add n, h0⟩, ?_⟩
  rintro i m H ⟨e, p⟩
  have o := ok i H p
  by_cases hi : i < n
  · refine .inr ⟨S.go i H o hi, Pv (i + 1), ?_, ?_⟩
    · intro H' p'
      exact ⟨m - 1, by omega, by omega, p'⟩
    · intro x H' y
      exact hs i x H H' hi p (S.yld i H x H' o hi y)
  · have ei : i = n := by omega
    subst ei
    exact .inl ⟨S.stop H o, hd H p⟩
/-- what the turns give: those of f, each v -/
def giv (n : Nat) (f : Nat → Bool) (v : Nat → V) : List V := ((List.range n).filter f).map v
theorem giv_yes {n : Nat} {f : Nat → Bool} {v : Nat → V} (h : f n = true) : giv (n + 1) f v = giv n f v ++ [v n] := by
  unfold giv
  rw [List.range_succ, List.filter_append, List.map_append]
  simp [h]
theorem giv_no {n : Nat} {f : Nat → Bool} {v : Nat → V} (h : f n = false) : giv (n + 1) f v = giv n f v := by
  unfold giv
  rw [List.range_succ, List.filter_append, List.map_append]
  simp [h]
theorem giv_len (n : Nat) (f : Nat → Bool) (v : Nat → V) : (giv n f v).length ≤ n := by
  unfold giv
  rw [List.length_map]
  exact Nat.le_trans (List.length_filter_le f (List.range n)) (by simp)
theorem giv_all (n : Nat) (v : Nat → V) : giv n (fun _ => true) v = (List.range n).map v := by
  unfold giv
  rw [List.filter_eq_self.mpr fun _ _ => rfl]
theorem giv_const (n : Nat) (x : V) : giv n (fun _ => true) (fun _ => x) = List.replicate n x := by
  rw [giv_all, List.map_const', List.length_range]
/-- a comprehension whose turns leave what stood as it was -/
theorem lc_pure (S : Src J n OK item) (p : Nat → Bool) (v : Nat → V) (hn : n ≤ 100000) (hok : ∀ H', Same H1 H' → OK H')
    (hs : ∀ i x H' H'' (Yes : V → Hp → Prop) (No : Hp → Prop), i < n → Same H1 H' → item i x H' H'' → (p i = true → ∀ H4, Same H' H4 → Yes (v i) H4) → (p i = false → ∀ H3, Same H' H3 → No H3) →
      g x (wipe σ vs) H'' fun σ2 H2 => wipe σ2 vs = wipe σ vs ∧ tt σ2 H2 fun b H3 => if b = true then te σ2 H3 Yes else No H3)
    (hD : H1 Dl = none) (q : ∀ H', Same H1 H' → H' Dl = some (.lst (giv n p v)) → Qd H') :
    ∃ W : Nat → Nat → Hp → Prop, (∃ m, W 0 m (upd H1 Dl (.lst []))) ∧ ∀ i m H, W i m H →
      (J.stop i H ∧ Qd H) ∨ (J.go i H ∧ ∃ Nx : Hp → Prop, (∀ H', Nx H' → ∃ m', m' < m ∧ W (i + 1) m' H') ∧ ∀ x H', J.yld i H x H' → g x (wipe σ vs) H' fun σ2 H2 => wipe σ2 vs = wipe σ vs ∧ tt σ2 H2 fun b H3 =>
        if b = true then te σ2 H3 fun y H4 => ∃ acc, H4 Dl = some (.lst acc) ∧ acc.length < sizeLine ∧ Nx (upd H4 Dl (.lst (acc ++ [y]))) else Nx H3) := by
  refine lc_src S (fun i H' => Same H1 H' ∧ H' Dl = some (.lst (giv i p v))) (fun i H' h => hok H' h.1) ⟨same_new hD, upd_same⟩ ?_ (fun H' h => q H' h.1 h.2)
  rintro i x H' H'' hi ⟨s, hl⟩ hit
  refine hs i x H' H'' _ _ hi s hit ?_ ?_
  · intro hp H4 s4
    refine ⟨giv i p v, s4 _ _ hl, ?_, same_set (s.trans s4) hD, ?_⟩
    · exact Nat.lt_of_le_of_lt (Nat.le_trans (giv_len i p v) (Nat.le_of_lt (Nat.lt_of_lt_of_le hi hn))) (by decide)
    · rw [giv_yes hp]; exact upd_same
  · intro hp H3 s3
    refine ⟨s.trans s3, ?_⟩
    rw [giv_no hp]
    exact s3 _ _ hl
end
/-! ### the shapes of loops' readings -/
section
variable {σ : L2.St} {H : Hp} {D : Ends} {K : PySem.W.Frag} {R : It → Hp → Prop} {tl : TE} {ta : TA}
theorem r_for {wi : TI} {g : TG} {tb : TS} (h : wi σ H fun J H1 => ∃ W : Nat → Nat → L2.St → Hp → Prop, (∃ m, W 0 m σ H1) ∧ ∀ i m σ H, W i m σ H →
  (J.stop i H ∧ D.nx σ H) ∨ (J.go i H ∧ ∃ N : L2.St → Hp → Prop, (∀ σ' H', N σ' H' → ∃ m', m' < m ∧ W (i + 1) m' σ' H') ∧ ∀ x H', J.yld i H x H' → g x σ H' fun σ2 H2 => tb { D with nx := N, ct := N, bk := D.nx } σ2 H2)) : tFor wi g tb D σ H := h
theorem r_lc {wi : TI} {g : TG} {tt : TT} {te : TE} {vs : List Nat} {Q : VK} (h : wi σ H fun J H1 => ∀ D, H1 D = none → ∃ W : Nat → Nat → Hp → Prop, (∃ m, W 0 m (upd H1 D (.lst []))) ∧ ∀ i m H, W i m H →
  (J.stop i H ∧ Q (.ref D) H) ∨ (J.go i H ∧ ∃ Nx : Hp → Prop, (∀ H', Nx H' → ∃ m', m' < m ∧ W (i + 1) m' H') ∧ ∀ x H', J.yld i H x H' → g x (wipe σ vs) H' fun σ2 H2 => wipe σ2 vs = wipe σ vs ∧ tt σ2 H2 fun b H3 =>
    if b = true then te σ2 H3 fun y H4 => ∃ acc, H4 D = some (.lst acc) ∧ acc.length < sizeLine ∧ Nx (upd H4 D (.lst (acc ++ [y]))) else Nx H3)) : tLc wi g tt te vs σ H Q := h
theorem r_yes {B : Bool → Hp → Prop} (h : B true H) : tYes σ H B := h
theorem r_iList (h : tl σ H fun x H1 => ∃ a, x = .ref a ∧ (∃ xs, SqL K H1 a xs) ∧ R (Itl K a) H1) : iList K tl σ H R := h
theorem r_iTup (h : tl σ H fun x H1 => ∃ a, x = .ref a ∧ (∃ xs, SqT K H1 a xs) ∧ R (Itt K a) H1) : iTup K tl σ H R := h
theorem r_iRng1 (h : ta σ H fun vs H1 => ∃ j : Int, vs = [.int j] ∧ -(2 ^ 62) ≤ j ∧ j < 2 ^ 62 ∧ R (Itr 0 j.toNat) H1) : iRng1 ta σ H R := h
theorem r_iRng2 (h : ta σ H fun vs H1 => ∃ i j : Int, vs = [.int i, .int j] ∧ (-(2 ^ 62) ≤ i ∧ i < 2 ^ 62 ∧ -(2 ^ 62) ≤ j ∧ j < 2 ^ 62) ∧ R (Itr i (j - i).toNat) H1) : iRng2 ta σ H R := h
theorem r_iRng3 (h : ta σ H fun vs H1 => ∃ (i j c : Int) (n : Nat), vs = [.int i, .int j, .int c] ∧ RgC i j c n ∧ R (Itc i c n) H1) : iRng3 ta σ H R := h
theorem r_iEnum (h : ta σ H fun vs H1 => ∃ a xs, vs = [.ref a] ∧ SqL K H1 a xs ∧ R (Ite K a) H1) : iEnum K ta σ H R := h
theorem r_iZip (h : ta σ H fun vs H1 => ∃ a b xs ys, vs = [.ref a, .ref b] ∧ SqL K H1 a xs ∧ SqL K H1 b ys ∧ R (Itz K a b) H1) : iZip K ta σ H R := h
theorem r_iStr (h : tl σ H fun v H1 => ∃ x, v = .str x ∧ R (Its x) H1) : iStr tl σ H R := h
theorem i_list {a : Addr} {xs : List V} {P : It → Prop} (h : SqL K H a xs) (q : P (Itl K a)) : ∃ a', V.ref a = .ref a' ∧ (∃ xs, SqL K H a' xs) ∧ P (Itl K a') := ⟨a, rfl, ⟨xs, h⟩, q⟩
theorem i_tup {a : Addr} {xs : List V} {P : It → Prop} (h : SqT K H a xs) (q : P (Itt K a)) : ∃ a', V.ref a = .ref a' ∧ (∃ xs, SqT K H a' xs) ∧ P (Itt K a') := ⟨a, rfl, ⟨xs, h⟩, q⟩
theorem i_rng1 {j : Int} {P : It → Prop} (h0 : -(2 ^ 62) ≤ j) (h1 : j < 2 ^ 62) (q : P (Itr 0 j.toNat)) : ∃ j' : Int, [V.int j] = [.int j'] ∧ -(2 ^ 62) ≤ j' ∧ j' < 2 ^ 62 ∧ P (Itr 0 j'.toNat) := ⟨j, rfl, h0, h1, q⟩
theorem r_wN {tb : TS} {I : Nat → L2.St → Hp → Prop} {m : Nat} (h : tb { D with nx := fun σ' H' => ∃ m', m' < m ∧ I m' σ' H', ct := fun σ' H' => ∃ m', m' < m ∧ I m' σ' H', bk := D.nx } σ H) :
    ∃ N : L2.St → Hp → Prop, (∀ σ' H', N σ' H' → ∃ m', m' < m ∧ I m' σ' H') ∧ tb { D with nx := N, ct := N, bk := D.nx } σ H := ⟨_, fun _ _ h => h, h⟩
end
end Lx

/-! the layer's rules with the written part named (within a comprehension's block a reading must not hang on the block) -/
namespace Lx
open PySem PySem.Spec PyProof.Rows L2
section
variable (K : PySem.W.Frag) {X : Cx}
theorem k_len (h : X.K = K := by rfl) : CallR X (.builtin "len") (rLen K) := h ▸ call_len'
theorem k_list (h : X.K = K := by rfl) : CallR X (.type "list") (rListOf K) := h ▸ call_list'
theorem k_tuple (h : X.K = K := by rfl) : CallR X (.type "tuple") (rTupleOf K) := h ▸ call_tuple'
theorem k_isi (h : X.K = K := by rfl) : CallR X (.builtin "isinstance") (rIsi K) := h ▸ call_isi
theorem k_isiT (h : X.K = K := by rfl) : CallR X (.builtin "isinstance") (rIsiT K) := h ▸ call_isiT
theorem k_all (h : X.K = K := by rfl) (hc : X.calm = true := by rfl) : CallR X (.builtin "all") (rAll K) := h ▸ cr_all hc
theorem k_any (h : X.K = K := by rfl) (hc : X.calm = true := by rfl) : CallR X (.builtin "any") (rAny K) := h ▸ cr_any hc
theorem k_sum (h : X.K = K := by rfl) (hc : X.calm = true := by rfl) : CallR X (.builtin "sum") (rSum K) := h ▸ cr_sum hc
theorem k_min (h : X.K = K := by rfl) (hc : X.calm = true := by rfl) : CallR X (.builtin "min") (rMin K) := h ▸ cr_min hc
theorem k_max (h : X.K = K := by rfl) (hc : X.calm = true := by rfl) : CallR X (.builtin "max") (rMax K) := h ▸ cr_max hc
theorem k_sorted (h : X.K = K := by rfl) : CallR X (.builtin "sorted") (rSortedI K) := h ▸ cr_sortedI
theorem k_sortedU (h : X.K = K := by rfl) : CallR X (.builtin "sorted") (rSortedU K) := h ▸ cr_sortedU
theorem k_repr (hG : X.A.guards = some []) (hu : X.A.units + 64 < cLine) (h : X.K = K := by rfl) : CallR X (.builtin "repr") (rRepr K) := h ▸ call_reprD hG hu
theorem k_ixL (h : X.K = K := by rfl) : IxR X (rIxL K) := h ▸ ix_list
theorem k_ixT (h : X.K = K := by rfl) : IxR X (rIxT K) := h ▸ ix_tup
theorem k_slL (h : X.K = K := by rfl) : SlR X (rSlL K) := h ▸ sl_list
theorem k_slT (h : X.K = K := by rfl) : SlR X (rSlA K) := h ▸ sl_tupA
theorem k_in (h : X.K = K := by rfl) : OpR X (compareOp .In) (rIn K false) := h ▸ op_in_seq
theorem k_notIn (h : X.K = K := by rfl) : OpR X (compareOp .NotIn) (rIn K true) := h ▸ op_notIn_seq
theorem k_eqD (hu : X.A.units + 64 < cLine) (h : X.K = K := by rfl) : OpR X (compareOp .Eq) (rEqD K) := h ▸ op_eqD hu
theorem k_neD (hu : X.A.units + 64 < cLine) (h : X.K = K := by rfl) : OpR X (compareOp .NotEq) (rNeD K) := h ▸ op_neD hu
theorem k_catT (h : X.K = K := by rfl) : OpR X (binaryOp .Add) (rCatT K) := h ▸ op_catT
theorem k_piL {tg l : Expr} {tl : TE} (hl : PE X l tl) (h : X.K = K := by rfl) : PI X tg l (iList K tl) := h ▸ pi_list hl
theorem k_piT {tg l : Expr} {tl : TE} (hl : PE X l tl) (h : X.K = K := by rfl) : PI X tg l (iTup K tl) := h ▸ pi_tup hl
theorem k_enum {e : Expr} {ta : TA} {p pos tpos : Pos} {elts : List Expr} {kk : Nat} (hg : Gl X "enumerate") (hm : X.mg "enumerate" = none) (ha : PA X [e] ta) (hs : starEach [e] X.env = [(false, eval e X.env)] := by rfl) (h : X.K = K := by rfl) :
    PI X (.Tuple elts kk tpos) (.Call (.Name "enumerate" p) [e] [] pos) (iEnum K ta) := h ▸ pi_enum hg hm ha hs
theorem k_zip {e e2 : Expr} {ta : TA} {p pos tpos : Pos} {elts : List Expr} {kk : Nat} (hg : Gl X "zip") (hm : X.mg "zip" = none) (ha : PA X [e, e2] ta)
    (hs : starEach [e, e2] X.env = (false, eval e X.env) :: starEach [e2] X.env := by rfl) (hpl : (backTo pos (starEach [e2] X.env)).any (·.1) = false := by rfl) (h : X.K = K := by rfl) :
    PI X (.Tuple elts kk tpos) (.Call (.Name "zip" p) [e, e2] [] pos) (iZip K ta) := h ▸ pi_zip hg hm ha hs hpl
theorem k_gtup {es : List Expr} {k : Nat} {t : TGs} {n : Nat} {pos : Pos} (hc : X.calm = true) (ht : PGs X es t) (hn : (assignEach es X.env).length = n := by rfl) (hst : (assignEach es X.env).findIdx? (·.1) = none := by rfl) (h : X.K = K := by rfl) :
    PG X (.Tuple es k pos) (gTup K n t) := h ▸ pg_tup hc ht hn hst
theorem k_gunl {es : List Expr} {k : Nat} {t : TGs} {n : Nat} {pos : Pos} (hc : X.calm = true) (ht : PGs X es t) (hn : (assignEach es X.env).length = n := by rfl) (hst : (assignEach es X.env).findIdx? (·.1) = none := by rfl) (h : X.K = K := by rfl) :
    PG X (.Tuple es k pos) (gUnl K n t) := h ▸ pg_unl hc ht hn hst
theorem k_rev {e : Expr} {te : TE} {k : Nat} {p1 p2 p3 pos : Pos} (he : PE X e te) (h : X.K = K := by rfl) : PE X (.Subscript e (.Slice none none (some (.UnaryOp .USub (.Constant (.int 1) k p1) p2)) p3) pos) (tRevL K te) := h ▸ pe_revL he
theorem k_fld {e : Expr} {ta : TE} {f : Str} {pos : Pos} (he : PE X e ta) (hb : attributeBase e f X.env (eval e X.env) = eval e X.env := by rfl) (h : X.K = K := by rfl) : PE X (.Attribute e f pos) (tFld K ta f) := h ▸ pe_fld he hb
theorem k_bm {T : String} {name : Str} {id : String} {r : V → List V → Hp → VK → Prop} {o e : Expr} {es : List Expr} {to : TE} {t : TA} {apos cpos : Pos} (pa : PlainAttrs T) (slot : Slot T name id) (hty : typeOf (.builtin id) = pure (.type "method_descriptor")) (hm : MtR X id r) (ho : PE X o to) (ha : PA X (e :: es) t)
    (p : PE X (.Call (.Attribute o name apos) (e :: es) [] cpos) (tBM X.K T r to t)) (h : X.K = K := by rfl) : PE X (.Call (.Attribute o name apos) (e :: es) [] cpos) (tBM K T r to t) := h ▸ p
theorem k_bmP {T : String} {r : V → List V → Hp → VK → Prop} {o : Expr} {to : TE} {t : TA} (p : PE X o (tBM X.K T r to t)) (h : X.K = K := by rfl) : PE X o (tBM K T r to t) := h ▸ p
theorem k_bm0P {T : String} {r : V → List V → Hp → VK → Prop} {o : Expr} {to : TE} (p : PE X o (tBM0 X.K T r to)) (h : X.K = K := by rfl) : PE X o (tBM0 K T r to) := h ▸ p
end
end Lx

namespace Lx
open PySem PySem.Spec PyProof.Rows L2
/-! ### data that stand told, each of their lists and tuples where G holds -/
mutual
inductive Tr (G : Addr → Prop) (H : Hp) : V → PyData → Prop
  | non : Tr G H .non .none
  | bl (b : Bool) : Tr G H (.bl b) (.bool b)
  | int (i : Int) : Tr G H (.int i) (.int i)
  | str (x : Str) : Tr G H (.str x) (.str x)
  | lst {a : Addr} {xs : List V} {ds : List PyData} : H a = some (.lst xs) → G a → xs.length ≤ 100000 → TrAll G H xs ds → Tr G H (.ref a) (.list ds)
  | tup {a : Addr} {xs : List V} {ds : List PyData} : H a = some (.tup xs) → G a → xs.length ≤ 100000 → TrAll G H xs ds → Tr G H (.ref a) (.tuple ds)
inductive TrAll (G : Addr → Prop) (H : Hp) : List V → List PyData → Prop
  | nil : TrAll G H [] []
  | cons {v : V} {vs : List V} {d : PyData} {ds : List PyData} : Tr G H v d → TrAll G H vs ds → TrAll G H (v :: vs) (d :: ds)
end
section
variable {K : PySem.W.Frag} {G G' : Addr → Prop} {H H' : Hp}
mutual
theorem Tr.dp : ∀ {v : V} {d : PyData}, Tr G H v d → Dp K H v d
  | _, _, .non => .non
  | _, _, .bl b => .bl b
  | _, _, .int i => .int i
  | _, _, .str x => .str x
  | _, _, .lst h _ _ t => .lst (lst_of h) t.dp
  | _, _, .tup h _ _ t => .tup (tup_of h) t.dp
theorem TrAll.dp : ∀ {v : List V} {d : List PyData}, TrAll G H v d → DpAll K H v d
  | _, _, .nil => .nil
  | _, _, .cons h t => .cons h.dp t.dp
end
mutual
theorem Tr.move (m : ∀ a o, G a → H a = some o → H' a = some o ∧ G' a) : ∀ {v : V} {d : PyData}, Tr G H v d → Tr G' H' v d
  | _, _, .non => .non
  | _, _, .bl b => .bl b
  | _, _, .int i => .int i
  | _, _, .str x => .str x
  | _, _, .lst h g l t => .lst (m _ _ g h).1 (m _ _ g h).2 l (t.move m)
  | _, _, .tup h g l t => .tup (m _ _ g h).1 (m _ _ g h).2 l (t.move m)
theorem TrAll.move (m : ∀ a o, G a → H a = some o → H' a = some o ∧ G' a) : ∀ {v : List V} {d : List PyData}, TrAll G H v d → TrAll G' H' v d
  | _, _, .nil => .nil
  | _, _, .cons h t => .cons (h.move m) (t.move m)
end
theorem Tr.same {v : V} {d : PyData} (h : Tr G H v d) (s : Same H H') : Tr G H' v d := h.move fun a o g e => ⟨s _ _ e, g⟩
theorem Tr.any {v : V} {d : PyData} (h : Tr G H v d) : Tr (fun _ => True) H v d := h.move fun a o g e => ⟨e, trivial⟩
theorem TrAll.same {v : List V} {d : List PyData} (h : TrAll G H v d) (s : Same H H') : TrAll G H' v d := h.move fun a o g e => ⟨s _ _ e, g⟩
theorem TrAll.len : ∀ {v : List V} {d : List PyData}, TrAll G H v d → v.length = d.length
  | _, _, .nil => rfl
  | _, _, .cons _ t => congrArg Nat.succ t.len
theorem TrAll.at : ∀ {vs : List V} {ds : List PyData}, TrAll G H vs ds → ∀ {i : Nat} {v : V}, vs[i]? = some v → ∃ d, ds[i]? = some d ∧ Tr G H v d
  | _, _, .nil, i, v, e => by simp at e
  | _, _, .cons h t, 0, v, e => by
    rw [List.getElem?_cons_zero] at e
    cases e
    exact ⟨_, rfl, h⟩
  | _, _, .cons h t, i + 1, v, e => by
    rw [List.getElem?_cons_succ] at e
    obtain ⟨d, e', z⟩ := t.at e
    exact ⟨d, by rw [List.getElem?_cons_succ]; exact e', z⟩
theorem TrAll.of : ∀ {vs : List V} {ds : List PyData}, vs.length = ds.length → (∀ (i : Nat) (v : V) (d : PyData), vs[i]? = some v → ds[i]? = some d → Tr G H v d) → TrAll G H vs ds
  | [], [], _, _ => .nil
  | v :: vs, d :: ds, e, h => .cons (h 0 v d rfl rfl) (TrAll.of (Nat.succ.inj e) fun i v d a b => h (i + 1) v d a b)
  | [], _ :: _, e, _ => by cases e
  | _ :: _, [], e, _ => by cases e
theorem TrAll.ints (ns : List Int) : TrAll G H (vI ns) (dI ns) := by
  induction ns with
  | nil => exact .nil
  | cons n ns ih => exact .cons (.int n) ih
end
theorem depth_mem {ds : List PyData} {d : PyData} (h : d ∈ ds) : d.depth ≤ PyData.depthAll ds := by
  induction ds with
  | nil => cases h
  | cons e ds ih =>
    show d.depth ≤ max e.depth (PyData.depthAll ds)
    rcases List.mem_cons.mp h with rfl | h
    · exact Nat.le_max_left _ _
    · exact Nat.le_trans (ih h) (Nat.le_max_right _ _)
/-! ### slices -/
theorem cut_lo {xs : List V} {k : Nat} : cutV xs (some ((k : Nat) : Int)) none = xs.drop k := by
  unfold cutV
  rw [HT.sIx_nat, HT.sIx_none]
  by_cases h : k ≤ xs.length
  · rw [Nat.min_eq_left h]
    exact List.take_of_length_le (by rw [List.length_drop]; exact Nat.le_refl _)
  · rw [Nat.min_eq_right (by omega), Nat.sub_self, List.take_zero, List.drop_eq_nil_of_le (by omega)]
theorem cut_hi {xs : List V} {k : Nat} : cutV xs none (some ((k : Nat) : Int)) = xs.take k := by
  unfold cutV
  rw [HT.sIx_nat, HT.sIx_none, List.drop_zero, Nat.sub_zero]
  by_cases h : k ≤ xs.length
  · rw [Nat.min_eq_left h]
  · rw [Nat.min_eq_right (by omega), List.take_length, List.take_of_length_le (by omega)]
theorem vI_drop (ns : List Int) (k : Nat) : (vI ns).drop k = vI (ns.drop k) := List.map_drop.symm
theorem vI_take (ns : List Int) (k : Nat) : (vI ns).take k = vI (ns.take k) := List.map_take.symm
theorem vI_app (a b : List Int) : vI a ++ vI b = vI (a ++ b) := List.map_append.symm
theorem vI_rev (a : List Int) : (vI a).reverse = vI a.reverse := List.map_reverse.symm
theorem vI_set (a : List Int) (n : Nat) (x : Int) : (vI a).set n (.int x) = vI (a.set n x) := List.map_set.symm
/-- a list of values that is a rearranged list of ints -/
theorem perm_vI {xs : List V} {ns : List Int} (h : xs.Perm (vI ns)) : ∃ ms : List Int, xs = vI ms ∧ ms.Perm ns := by
  have un : ∀ zs : List V, (∀ z ∈ zs, ∃ n : Int, z = .int n) → vI (zs.map fun z => match z with | .int n => n | _ => 0) = zs := by
    intro zs
    induction zs with
    | nil => intro _; rfl
    | cons z zs ih =>
      intro hz
      obtain ⟨n, rfl⟩ := hz z List.mem_cons_self
      have e := ih fun y hy => hz y (List.mem_cons_of_mem _ hy)
      show V.int n :: vI (zs.map _) = _
      rw [e]
  refine ⟨xs.map fun z => match z with | .int n => n | _ => 0, (un xs fun z hz => ?_).symm, ?_⟩
  · obtain ⟨n, _, e⟩ := List.mem_map.mp (h.mem_iff.mp hz)
    exact ⟨n, e.symm⟩
  · have p := h.map fun z : V => match z with | .int n => n | _ => 0
    have e : (vI ns).map (fun z : V => match z with | .int n => n | _ => 0) = ns := by
      unfold vI
      rw [List.map_map]
      exact List.map_id ns
    rw [e] at p
    exact p
theorem seq_ix {i : Int} {n : Nat} (h0 : 0 ≤ i) (h1 : i < n) : seqIndex? i n = some i.toNat := (ixN_seq (ixN_ok h0 h1)).1
theorem rgc_pos {j c : Int} (h0 : 0 ≤ j) (h1 : j < 2 ^ 40) (c0 : 1 ≤ c) (c1 : c < 1000000) : RgC 0 j c ((j + c - 1) / c).toNat := by
  have e := rangeSize_pos (len := j) (c := c) c0 h0
  have g0 : 0 ≤ (j + c - 1) / c := Int.ediv_nonneg (by omega) (by omega)
  have g2 : (j + c - 1) / c * c ≤ j + c - 1 := Int.ediv_mul_le _ (by omega)
  have g1 : (j + c - 1) / c ≤ j + c - 1 := by
    refine Int.le_trans ?_ g2
    have := Int.mul_le_mul_of_nonneg_left c0 g0
    rw [Int.mul_one] at this
    exact this
  refine ⟨by omega, by omega, ?_, by rw [e, Int.toNat_of_nonneg g0]⟩
  unfold Builtin.Range.small
  rw [e]
  simp only [Builtin.Range.rangeFitsLong, Bool.and_eq_true, Bool.or_eq_true, decide_eq_true_eq, beq_iff_eq, show c > 0 by omega, if_true]
  refine ⟨⟨⟨⟨by decide, by omega, by omega⟩, by omega, by omega⟩, by omega, by omega⟩, .inr ⟨by omega, by omega⟩⟩
/-! ### where ways join -/
section
variable {ts tu : TS} {R bk ct : L2.St → Hp → Prop} {rt : VK} {σ : L2.St} {H : Hp} {D : Ends}
theorem ifJ {c : Prop} [Decidable c] (J : L2.St → Hp → Prop) (h1 : ∀ R' : L2.St → Hp → Prop, (∀ σ H, J σ H → R' σ H) → c → ts ⟨R', rt, bk, ct⟩ σ H) (h2 : ∀ R' : L2.St → Hp → Prop, (∀ σ H, J σ H → R' σ H) → ¬ c → tu ⟨R', rt, bk, ct⟩ σ H) (hR : ∀ σ H, J σ H → R σ H) :
    if decide c = true then ts ⟨R, rt, bk, ct⟩ σ H else tu ⟨R, rt, bk, ct⟩ σ H := ifD (h1 R hR) (h2 R hR)
theorem seqJ (J : L2.St → Hp → Prop) (h1 : ∀ R' : L2.St → Hp → Prop, (∀ σ H, J σ H → R' σ H) → ts ⟨R', D.rt, D.bk, D.ct⟩ σ H) (hR : ∀ σ H, J σ H → tu D σ H) : tSeq ts tu D σ H := h1 _ hR
end
theorem r_ixLT {K : PySem.W.Frag} {H : Hp} {Q : VK} {v : V} {p : Addr} {xs : List V} {a : Int} (h : Sq H p xs) (e : atI xs a = some v) (q : Q v H) : oOr (rIxL K) (rIxT K) (.ref p) (.int a) H Q :=
  h.elim (fun h => .inl (r_ixL (lst_of h) e q)) fun h => .inr (r_ixT (tup_of h) e q)
/-! ### the same data, its lists and tuples dressed anew -/
mutual
inductive Drs : PyData → PyData → Prop
  | non : Drs .none .none
  | bl (b : Bool) : Drs (.bool b) (.bool b)
  | int (i : Int) : Drs (.int i) (.int i)
  | str (x : Str) : Drs (.str x) (.str x)
  | ll {ds es : List PyData} : DrsAll ds es → Drs (.list ds) (.list es)
  | lt {ds es : List PyData} : DrsAll ds es → Drs (.list ds) (.tuple es)
  | tl {ds es : List PyData} : DrsAll ds es → Drs (.tuple ds) (.list es)
  | tt {ds es : List PyData} : DrsAll ds es → Drs (.tuple ds) (.tuple es)
inductive DrsAll : List PyData → List PyData → Prop
  | nil : DrsAll [] []
  | cons {d e : PyData} {ds es : List PyData} : Drs d e → DrsAll ds es → DrsAll (d :: ds) (e :: es)
end
theorem DrsAll.snoc : ∀ {ds es : List PyData} {d e : PyData}, DrsAll ds es → Drs d e → DrsAll (ds ++ [d]) (es ++ [e])
  | _, _, _, _, .nil, h => .cons h .nil
  | _, _, _, _, .cons g t, h => .cons g (t.snoc h)
theorem DrsAll.len : ∀ {ds es : List PyData}, DrsAll ds es → ds.length = es.length
  | _, _, .nil => rfl
  | _, _, .cons _ t => congrArg Nat.succ t.len
theorem DrsAll.ints : ∀ {ns : List Int} {es : List PyData}, DrsAll (dI ns) es → es = dI ns
  | [], _, .nil => rfl
  | n :: ns, _, .cons h t => by
    cases h
    rw [t.ints]
    rfl
theorem Drs.ints {ns : List Int} {e : PyData} (h : Drs (.list (dI ns)) e) : e = .list (dI ns) ∨ e = .tuple (dI ns) := by
  cases h with
  | ll h => exact .inl (by rw [h.ints])
  | lt h => exact .inr (by rw [h.ints])
theorem TrAll.snoc {G : Addr → Prop} {H : Hp} : ∀ {vs : List V} {ds : List PyData} {v : V} {d : PyData}, TrAll G H vs ds → Tr G H v d → TrAll G H (vs ++ [v]) (ds ++ [d])
  | _, _, _, _, .nil, h => .cons h .nil
  | _, _, _, _, .cons g t, h => .cons g (t.snoc h)
theorem TrAll.val {G : Addr → Prop} {H : Hp} : ∀ {vs : List V} {ns : List Int}, TrAll G H vs (dI ns) → vs = vI ns
  | _, [], .nil => rfl
  | _, n :: ns, .cons h t => by
    cases h
    rw [t.val]
    rfl
theorem Tr.sq {G : Addr → Prop} {H : Hp} {v : V} {ns : List Int} {e : PyData} (h : Tr G H v e) (he : e = .list (dI ns) ∨ e = .tuple (dI ns)) : ∃ a, v = .ref a ∧ G a ∧ Sq H a (vI ns) := by
  rcases he with rfl | rfl
  · cases h with
    | lst h g _ t => rw [t.val] at h; exact ⟨_, rfl, g, .inl h⟩
  · cases h with
    | tup h g _ t => rw [t.val] at h; exact ⟨_, rfl, g, .inr h⟩
/-! ### texts -/
def rAddS : R2 := fun x y H Q => ∃ i j, x = .str i ∧ y = .str j ∧ i.length + j.length ≤ sizeLine ∧ Q (.str (i ++ j)) H
theorem op_addS {X : Cx} : OpR X (binaryOp .Add) rAddS := op_add_str
theorem r_addS {H : Hp} {Q : VK} {a b : Str} (h : a.length + b.length ≤ sizeLine) (q : Q (.str (a ++ b)) H) : rAddS (.str a) (.str b) H Q := ⟨a, b, rfl, rfl, h, q⟩
def rCountS : V → List V → Hp → VK → Prop := fun x xs H Q => ∃ a b, x = .str a ∧ xs = [.str b] ∧ Q (.int (Txt.count a b)) H
theorem mt_countS {X : Cx} : MtR X "str.count" rCountS := mt_count
theorem r_countS {H : Hp} {Q : VK} {a b : Str} (q : Q (.int (Txt.count a b)) H) : rCountS (.str a) [.str b] H Q := ⟨a, b, rfl, rfl, q⟩
theorem r_sortI {K : PySem.W.Frag} {H : Hp} {Q : VK} {a : Addr} {ns : List Int} (h : SqL K H a (vI ns)) (q : ∀ (ns' : List Int) (p : Addr), ns'.Perm ns → ns'.Pairwise (· ≤ ·) → H p = none → Q (.ref p) (upd H p (.lst (vI ns')))) : rSortedI K [.ref a] H Q := ⟨a, ns, rfl, h, q⟩
theorem r_popAt {H : Hp} {Q : VK} {l : Addr} {xs : List V} {i : Int} {y : V} (h : H l = some (.lst xs)) (i0 : 0 ≤ i) (i1 : i < xs.length) (hz : xs.length ≤ 100000) (hy : xs[i.toNat]? = some y) (q : Q y (upd H l (.lst (xs.eraseIdx i.toNat)))) : rPopAt (.ref l) [.int i] H Q :=
  ⟨l, xs, i, i.toNat, y, rfl, rfl, h, by omega, by omega, seq_ix i0 i1, hy, q⟩
theorem r_rev {H : Hp} {Q : VK} {l : Addr} {xs : List V} (h : H l = some (.lst xs)) (q : Q .non (upd H l (.lst xs.reverse))) : rReverse (.ref l) [] H Q := ⟨l, xs, rfl, rfl, h, q⟩
theorem r_in {K : PySem.W.Frag} {H : Hp} {Q : VK} {p : Addr} {x : V} {xs : List V} (h : SqL K H p xs ∨ SqT K H p xs) (f : flatV x = true) (g : xs.all flatV = true) (q : Q (.bl (inV x xs)) H) : rIn K false x (.ref p) H Q := ⟨p, xs, rfl, h, f, g, q⟩
theorem r_notIn {K : PySem.W.Frag} {H : Hp} {Q : VK} {p : Addr} {x : V} {xs : List V} (h : SqL K H p xs ∨ SqT K H p xs) (f : flatV x = true) (g : xs.all flatV = true) (q : Q (.bl (!inV x xs)) H) : rIn K true x (.ref p) H Q := ⟨p, xs, rfl, h, f, g, q⟩
/-! ### the least of ints -/
def minI : List Int → Int
  | [] => 0
  | a :: r => if r = [] then a else if a ≤ minI r then a else minI r
theorem minI_mem : ∀ {ns : List Int}, ns ≠ [] → minI ns ∈ ns
  | [], h => absurd rfl h
  | a :: r, _ => by
    unfold minI
    split
    · exact List.mem_cons_self
    · rename_i hr
      split
      · exact List.mem_cons_self
      · exact List.mem_cons_of_mem _ (minI_mem hr)
theorem minI_le : ∀ {ns : List Int} {y : Int}, y ∈ ns → minI ns ≤ y
  | a :: r, y, h => by
    unfold minI
    split
    · rename_i hr
      subst hr
      rw [List.mem_singleton] at h
      omega
    · rename_i hr
      rcases List.mem_cons.mp h with e | h
      · split <;> omega
      · have ih := minI_le h
        split <;> omega
theorem minI_eq {ns : List Int} {m : Int} (h : m ∈ ns) (l : ∀ y ∈ ns, m ≤ y) : m = minI ns := by
  have h1 := minI_le h
  have h2 := l _ (minI_mem fun e => by rw [e] at h; cases h)
  omega
theorem minI_perm {a b : List Int} (h : a.Perm b) : minI a = minI b := by
  by_cases e : a = []
  · rw [e] at h ⊢
    rw [h.symm.eq_nil]
  · exact minI_eq (h.mem_iff.mp (minI_mem e)) fun y hy => minI_le (h.mem_iff.mpr hy)
theorem r_min {K : PySem.W.Frag} {H : Hp} {Q : VK} {a : Addr} {ns : List Int} (h : SqL K H a (vI ns)) (hn : 0 < ns.length) (q : Q (.int (minI ns)) H) : rMin K [.ref a] H Q :=
  ⟨a, ns, rfl, h, hn, fun m hm hl => by rw [minI_eq hm hl]; exact q⟩
theorem erase_at : ∀ {ns : List Int} {k : Int}, k ∈ ns → ∃ j : Nat, ns[j]? = some k ∧ (∀ m : Nat, m < j → ns[m]? ≠ some k) ∧ ns.eraseIdx j = ns.erase k
  | a :: r, k, h => by
    by_cases e : a = k
    · subst e
      exact ⟨0, rfl, fun m hm => absurd hm (Nat.not_lt_zero _), by rw [List.erase_cons_head]; rfl⟩
    · have hr : k ∈ r := (List.mem_cons.mp h).resolve_left fun z => e z.symm
      obtain ⟨j, h1, h2, h3⟩ := erase_at hr
      refine ⟨j + 1, h1, fun m hm => ?_, ?_⟩
      · cases m with
        | zero => intro z; exact e (Option.some.inj z)
        | succ m => exact h2 m (by omega)
      · rw [List.erase_cons_tail (by simpa using e), List.eraseIdx_cons_succ, h3]
theorem r_remove {H : Hp} {Q : VK} {l : Addr} {ns : List Int} {k : Int} (h : H l = some (.lst (vI ns))) (hk : k ∈ ns) (q : Q .non (upd H l (.lst (vI (ns.erase k))))) : rRemI (.ref l) [.int k] H Q := by
  obtain ⟨j, h1, h2, h3⟩ := erase_at hk
  refine ⟨l, ns, k, j, rfl, rfl, h, h1, h2, ?_⟩
  rw [h3]
  exact q
end Lx

namespace Lx
open PySem PySem.Spec PyProof.Rows L2
/-! ### len(set(xs)) of a list or a tuple of ints, each once -/
theorem nodup_same_len : ∀ {a b : List Int}, a.Nodup → b.Nodup → (∀ x, x ∈ a ↔ x ∈ b) → a.length = b.length
  | [], [], _, _, _ => rfl
  | [], y :: b, _, _, h => absurd ((h y).mpr List.mem_cons_self) (by simp)
  | x :: a, b, ha, hb, h => by
    have hx : x ∈ b := (h x).mp List.mem_cons_self
    rw [List.nodup_cons] at ha
    have ih := nodup_same_len ha.2 (hb.erase x) fun y => by
      rw [hb.mem_erase_iff]
      constructor
      · intro hy
        exact ⟨fun e => ha.1 (e ▸ hy), (h y).mp (List.mem_cons_of_mem _ hy)⟩
      · rintro ⟨hne, hy⟩
        rcases List.mem_cons.mp ((h y).mpr hy) with e | hy
        · exact absurd e hne
        · exact hy
    rw [List.length_erase_of_mem hx] at ih
    have : 0 < b.length := List.length_pos_of_mem hx
    rw [List.length_cons]
    omega
def tLenSet (K : PySem.W.Frag) (ta : TE) : TE := fun σ H Q => ta σ H fun x H1 => ∃ (l : Addr) (ns : List Int), x = .ref l ∧ (SqL K H1 l (vI ns) ∨ SqT K H1 l (vI ns)) ∧ ns.Nodup ∧ ns.length ≤ 4000 ∧ Q (.int (ns.length : Nat)) H1
theorem pe_lenSet (K : PySem.W.Frag) {X : Cx} {a : Expr} {ta : TE} {p p2 q pos : Pos} (hg : Gl X "len") (hm : X.mg "len" = none) (hg2 : Gl X "set") (hm2 : X.mg "set" = none) (ha : PE X a ta) (hc : X.calm = true := by rfl) (hK : X.K = K := by rfl)
    (na : starEach [a] X.env = (false, eval a X.env) :: starEach [] X.env := by rfl) : PE X (.Call (.Name "len" p) [.Call (.Name "set" p2) [a] [] q] [] pos) (tLenSet K ta) := by
  subst hK
  refine ⟨fun pins s σ H Q I h => ?_⟩
  refine Call_ (ld_blt I hg hm boot_len ?_)
  refine PyProof.Rows.callWith_builtin1 (PyProof.Rows.args_cons ?_ rfl) rfl rfl
  refine Call_ (ld_blt I hg2 hm2 boot_set ?_)
  refine PyProof.Rows.callWith_type1 (PyProof.Rows.args_cons (thn (ha.run pins s σ H _ I h) fun v s1 ⟨x, H1, I1, r1, q1⟩ => PyProof.Rows.args_nil ?_) na) na rfl
  obtain ⟨l, ns, rfl, hq, hnd, hl, q1⟩ := q1
  cases r1
  rcases hq with hq | hq
  · obtain ⟨its, r, pl, hz⟩ := I1.list hq
    have hlen : its.toArray.size = ns.length := by rw [List.size_toArray, ← r.length, vI_len]
    refine call_set_list (I1.ok.hd hc) pl.isList (by simpa using RZ.intsAre_vals r) (by rw [hlen]; unfold scanBound; omega) fun h' tk hS hk => ?_
    refine PyProof.Rows.args_nil ?_
    rw [hlen, RZ.firstMet_nodup hnd ns.length (Nat.le_refl _), List.take_length] at hS
    obtain ⟨o, es, ep, t, ho, hex, hd, _, _, _, hf, hn⟩ := hS
    have I2 : Inv X pins σ H1 { s1 with heap := h', toks := tk } := I1.kept fun b o e => hk b o (Heap.lt_size e) e
    exact call_len_set ho hex hd hf (by rw [hn] <;> omega) ⟨.int ns.length, H1, I2.tok _, ⟨_, by rw [hn]⟩, q1⟩
  · obtain ⟨its, r, pl, hz⟩ := I1.tuple hq
    refine call_set_tupI ns (I1.ok.hd hc) pl (by simpa using RZ.intsAre_vals r) (by unfold scanBound; omega) fun h' tk c hS _ hk => ?_
    refine PyProof.Rows.args_nil ?_
    obtain ⟨o, es, ep, t, ho, hex, hd, _, hnd2, hmem, _, hf, hn, _⟩ := hS
    have hn2 : es.size = ns.length := by
      have z := nodup_same_len hnd hnd2 fun x => by rw [← hmem x]; simp
      rw [z, List.length_map, Array.length_toList]
    have I2 : Inv X pins σ H1 { s1 with heap := h', toks := tk } := I1.kept fun b o e => hk b o e
    exact call_len_set ho hex hd hf (by rw [hn2] <;> omega) ⟨.int ns.length, H1, I2.tok _, ⟨_, by rw [hn2]⟩, q1⟩
theorem r_lenSet {K : PySem.W.Frag} {σ : L2.St} {H : Hp} {Q : VK} {ta : TE} (h : ta σ H fun x H1 => ∃ (l : Addr) (ns : List Int), x = .ref l ∧ (SqL K H1 l (vI ns) ∨ SqT K H1 l (vI ns)) ∧ ns.Nodup ∧ ns.length ≤ 4000 ∧ Q (.int (ns.length : Nat)) H1) : tLenSet K ta σ H Q := h
end Lx

namespace Lx
open PySem PySem.Spec PyProof.Rows L2
/-! ### methods, makings, properties where no repr runs around -/
/-- a method as callers see it -/
structure Mt (P : Program) (w : World) (K : PySem.W.Frag) (mg : Str → Option Value) (base : Heap) (k : Nat) (C : Addr) (m : Str) (dvs : List V) (sp : Sp) : Prop where
  ex : ∃ (f : Addr) (fd : FuncData) (ps : List Str) (ds : List Value), FnG P w K mg base k f fd ps sp ∧ Cls K C ∧ Meth K C m f ∧ Binds K fd ps ds ∧ Vals dvs ds
/-- a class as its makers see it -/
structure Cn (P : Program) (w : World) (K : PySem.W.Frag) (mg : Str → Option Value) (base : Heap) (k : Nat) (x : Str) (C : Addr) (dvs : List V) (sp : Sp) : Prop where
  ex : ∃ (f : Addr) (fd : FuncData) (ps : List Str) (ds : List Value), FnG P w K mg base k f fd ps sp ∧ mg x = some (.ref C) ∧ Mk K C f ∧ Binds K fd ps ds ∧ Vals dvs ds
/-- a property as its readers see it -/
structure Pr (P : Program) (w : World) (K : PySem.W.Frag) (mg : Str → Option Value) (base : Heap) (k : Nat) (C : Addr) (m : Str) (sp : Sp) : Prop where
  ex : ∃ (p g : Addr) (fd : FuncData) (ps : List Str), FnG P w K mg base k g fd ps sp ∧ Cls K C ∧ PropOf K C m p g ∧ Binds K fd ps []
section
variable {X : Cx} {k : Nat} {f C : Addr} {fd : FuncData} {ps : List Str} {sp : Sp} {dvs : List V} {ds : List Value} {E : XK} {x m : Str} {p pos apos : Pos} {e o : Expr} {es : List Expr} {ta : TE} {t : TA}
theorem pe_mt {pl : Sem Bool} (M : Mt X.prog X.w X.K X.mg X.base k C m dvs sp) (hG : X.A.guards = some []) (hr : Room k X.A) (hx : Passes (L2.CX X.prog X.w) X E) (he : PE X o ta) (ha : PA X (e :: es) t)
    (hst : starEach (e :: es) X.env = (false, eval e X.env) :: starEach es X.env := by rfl) (hpl : (backTo pos (starEach es X.env)).any (·.1) = false := by rfl)
    (ht : eval (.Call (.Attribute o m apos) (e :: es) [] pos) X.env = (do
      let ov ← eval o X.env
      standAt apos.atName
      let (f, first) ← holding [ov] (getMethod ov m pl)
      callWith pos f first (backTo pos (starEach (e :: es) X.env)) (backToKw pos (keywordEach [] X.env))) := by rfl) :
    PE X (.Call (.Attribute o m apos) (e :: es) [] pos) (tMeth C m sp dvs E ta t) := by
  obtain ⟨f, fd, ps, ds, F, c, hm, hb, hd⟩ := M.ex
  refine ⟨fun pins s σ H Q I h => ?_⟩
  refine PySem.W.methodCall_KW (pl := pl) (thn (he.run pins s σ H _ I h) fun u s1 ⟨x, H1, I1, rx, a, dx, fs, ex, ea, l, q⟩ => ?_) ht
  subst ex
  obtain rfl : u = Value.ref a := rx
  refine getmeth_ok I1 ea c hm l ?_
  refine PySem.W.callWith_K (first := [.ref a]) (h₀ := X.base) I.ok.mod.kin hm.kp (thn (ha.run pos pins s1 σ H1 _ I1 q) fun us s2 ⟨vs, H2, I2, r, q2⟩ => ⟨I2.kIn, ?_⟩) hst hpl
  exact grun (us := .ref a :: us) (vs := .ref a :: vs) F hG hr hb hd hx I2 (.cons rfl r) q2
theorem pe_mt0 {pl : Sem Bool} (M : Mt X.prog X.w X.K X.mg X.base k C m dvs sp) (hG : X.A.guards = some []) (hr : Room k X.A) (hx : Passes (L2.CX X.prog X.w) X E) (he : PE X o ta)
    (ht : eval (.Call (.Attribute o m apos) [] [] pos) X.env = (do
      let ov ← eval o X.env
      standAt apos.atName
      let (f, first) ← holding [ov] (getMethod ov m pl)
      callWith pos f first (backTo pos (starEach [] X.env)) (backToKw pos (keywordEach [] X.env))) := by rfl) :
    PE X (.Call (.Attribute o m apos) [] [] pos) (tMeth C m sp dvs E ta tNil) := by
  obtain ⟨f, fd, ps, ds, F, c, hm, hb, hd⟩ := M.ex
  refine ⟨fun pins s σ H Q I h => ?_⟩
  refine PySem.W.methodCall_KW (pl := pl) (thn (he.run pins s σ H _ I h) fun u s1 ⟨x, H1, I1, rx, a, dx, fs, ex, ea, l, q⟩ => ?_) ht
  subst ex
  obtain rfl : u = Value.ref a := rx
  refine getmeth_ok I1 ea c hm l ?_
  exact PySem.W.callWith_K0 (first := [.ref a]) I1.kIn hm.kp (grun (us := [.ref a]) (vs := [.ref a]) F hG hr hb hd hx I1 (.cons rfl .nil) q)
theorem gmakes {pins : List (Addr × Obj)} {σ : L2.St} {H : Hp} {s : Shared} {Q : VK} {us : List Value} {vs : List V} (M : Mk X.K C f) (F : FnG X.prog X.w X.K X.mg X.base k f fd ps sp) (hG : X.A.guards = some []) (hr : Room (k + 1) X.A) (hb : Binds X.K fd ps ds) (hd : Vals dvs ds)
    (hx : Passes (L2.CX X.prog X.w) X E) (I : Inv X pins σ H s) (r : Vals vs us)
    (h : ∀ x dx, H x = none → H dx = none → dx ≠ x → sp (.ref x :: (vs ++ dvs)) (upd (upd H dx (.own x)) x (.ins C dx [])) (fun v H2 => v = .non ∧ Q (.ref x) H2) E) :
    wpAny (model X.prog X.w) X.A (call (.ref C) us) (EP X pins σ Q) X.xe s := by
  have hq := h (s.heap.objs.size + 1) s.heap.objs.size (I.hok.fresh (Nat.le_succ _)) (I.hok.fresh (Nat.le_refl _)) (Nat.ne_of_lt (Nat.lt_succ_self _))
  have I2 := Inv.made (C := C) I
  have r2 : Vals (V.ref (s.heap.objs.size + 1) :: (vs ++ dvs)) (Value.ref (s.heap.objs.size + 1) :: (us ++ ds)) := .cons rfl (r.append hd)
  have hl : (Value.ref (s.heap.objs.size + 1) :: us ++ ds).length = ps.length := r2.length.symm.trans (F.ln _ _ _ _ hq)
  refine wpAny_call (make_map (f := f) I.kIn M.makes M.init (beq_iff_eq.mp M.fn) (codeAny_mono (F.go _ X.stack _ _ ⟨Value.ref (s.heap.objs.size + 1) :: us, []⟩ (Value.ref (s.heap.objs.size + 1) :: (us ++ ds)) _ _ E hG (hr.make C us [])
    (I2.env0.make C us []) (hb _ (Value.ref (s.heap.objs.size + 1) :: us) I2.kIn hl) r2 hq) fun r s' hq' => ?_))
  cases r with
  | error e => exact hx pins σ _ _ e s' I2 hq'
  | ok fl => cases fl with
    | ret u =>
      obtain ⟨v, H', I3, rv, ev, q3⟩ := I2.after hq'
      subst ev
      exact ⟨rv, ⟨V.ref (s.heap.objs.size + 1), H', I3, rfl, q3⟩⟩
    | next => exact hq'.elim
    | brk => exact hq'.elim
    | cont => exact hq'.elim
theorem pe_cn (D : Cn X.prog X.w X.K X.mg X.base k x C dvs sp) (hG : X.A.guards = some []) (hr : Room (k + 1) X.A) (hx : Passes (L2.CX X.prog X.w) X E) (hg : Gl X x) (ha : PA X (e :: es) t)
    (hdb : (x == ("__debug__" : Str)) = false := by decide) (he : starEach (e :: es) X.env = (false, eval e X.env) :: starEach es X.env := by rfl) (hpl : (backTo pos (starEach es X.env)).any (·.1) = false := by rfl) :
    PE X (.Call (.Name x p) (e :: es) [] pos) (tMake C sp dvs E t) := by
  obtain ⟨f, fd, ps, ds, F, hm, M, hb, hd⟩ := D.ex
  refine ⟨fun pins s σ H Q I h => ?_⟩
  refine wpAny_Call_Name_kw (ld_glob I hg hm ?_ hdb)
  refine PySem.W.callWith_K (h₀ := X.base) I.ok.mod.kin M.kp (thn (ha.run pos pins s σ H _ I h) fun us s1 ⟨vs, H1, I1, r, q⟩ => ⟨I1.kIn, ?_⟩) he hpl
  exact gmakes M F hG hr hb hd hx I1 r q
theorem pe_pr (M : Pr X.prog X.w X.K X.mg X.base k C m sp) (hG : X.A.guards = some []) (hr : Room (k + 1) X.A) (hx : Passes (L2.CX X.prog X.w) X.nox E) (he : PE X e ta)
    (hab : attributeBase e m X.env (eval e X.env) = eval e X.env := by rfl) : PE X (.Attribute e m pos) (tProp C sp [] E ta) := by
  obtain ⟨pa, g, fd, ps, F, c, hp, hb⟩ := M.ex
  refine ⟨fun pins s σ H Q I h => ?_⟩
  refine attr_of hab (thn (he.run pins s σ H _ I h) fun u s1 ⟨x, H1, I1, rx, a, dx, fs, ex, ea, q⟩ => ?_)
  subst ex
  obtain rfl : u = Value.ref a := rx
  obtain ⟨mA, O, _, _, _, _⟩ := ins_get I1.hok ea
  obtain ⟨od, J, _⟩ := O.look
  obtain ⟨rest, hrec⟩ := hp.rec_
  have I2 := I1.tok (s1.toks + 1)
  have hl : ([Value.ref a] ++ []).length = ps.length := (F.ln _ _ _ _ q)
  have hc : (PySem.W.clsIn X.K C).isSome = true := by
    obtain ⟨cd, hc, _⟩ := PySem.W.any_some c.hd
    rw [hc]
    rfl
  refine PySem.W.get_bind I1.kIn J (PySem.W.plainGet_of (c.get m)).1 (PySem.W.findObj_data hc hp.at_ hp.get hp.tak) (PySem.W.plainGet_of (c.get m)).2 (wpAny_call (PySem.W.prop_get (s := { s1 with toks := s1.toks + 1 }) I1.kIn hrec ?_))
  refine codeAny_mono (F.go X.A.in1 X.stack { s1 with toks := s1.toks + 1 } H1 ⟨[.ref a], []⟩ [.ref a] [.ref a] Q E hG hr.in1 I2.env0.in1 (hb _ [.ref a] I2.kIn hl) (.cons rfl .nil) q) fun r s' hq => ?_
  cases r with
  | error er => exact False.elim (hx pins σ H1 { s1 with toks := s1.toks + 1 } er s' (I2.wish _) hq)
  | ok fl => cases fl with
    | ret u =>
      obtain ⟨v, H', I3, rv, q3⟩ := I2.after hq
      show wpAny _ _ (handedOut u) _ _ _
      rw [PySem.W.handedOut_of (handed_of rv)]
      exact wpAny_pure ⟨v, H', I3, rv, q3⟩
    | next => exact hq.elim
    | brk => exact hq.elim
    | cont => exact hq.elim
end
/-- len of an object whose class has its own __len__ -/
structure Ln (P : Program) (w : World) (K : PySem.W.Frag) (mg : Str → Option Value) (base : Heap) (k : Nat) (C : Addr) (sp : Sp) : Prop where
  ex : ∃ (f : Addr) (fd : FuncData) (ps : List Str), FnG P w K mg base k f fd ps sp ∧ PySem.W.findIn K (.ref C) "__len__" = some (some (.ref f)) ∧ PySem.W.isFn K (.ref f) = true ∧ Binds K fd ps []
def rLenOwn (C : Addr) (sp : Sp) (E : XK) : List V → Hp → VK → Prop := fun xs H Q => ∃ a dx fs, xs = [V.ref a] ∧ H a = some (.ins C dx fs) ∧ sp [.ref a] H (fun z H' => ∃ n : Nat, z = .int (n : Int) ∧ n < 2 ^ 62 ∧ Q (.int (n : Int)) H') E
theorem call_lenOwn {X : Cx} {k : Nat} {C : Addr} {sp : Sp} {E : XK} (L : Ln X.prog X.w X.K X.mg X.base k C sp) (hG : X.A.guards = some []) (hr : Room (k + 1) X.A) (hx : Passes (L2.CX X.prog X.w) X E) : CallR X (.builtin "len") (rLenOwn C sp E) := by
  obtain ⟨f, fd, ps, F, hs, hf, hb⟩ := L.ex
  intro pins s σ H xs us Q I r h
  obtain ⟨a, dx, fs, rfl, ea, q⟩ := h
  obtain ⟨u, rfl, ru⟩ := r.one
  cases (show u = Value.ref a from ru)
  obtain ⟨mA, O, _, _, _, _⟩ := ins_get I.hok ea
  obtain ⟨od, J, _⟩ := O.look
  obtain ⟨m, hF⟩ := I.fr
  have hl : ([Value.ref a] ++ []).length = ps.length := (F.ln _ _ _ _ q)
  refine PySem.W.len_K hF I.ok.mod.kin J hs hf (wpAny_call (codeAny_mono (F.go X.A.in1 X.stack s H ⟨[.ref a], []⟩ [.ref a] [.ref a] _ E hG hr.in1 I.env0.in1 (hb _ [.ref a] I.kIn hl) (.cons rfl .nil) q) fun r s' hq => ?_))
  cases r with
  | error er => exact hx pins σ H s er s' I hq
  | ok fl => cases fl with
    | ret u =>
      obtain ⟨v, H', I3, rv, n, rfl, hn, q3⟩ := I.after hq
      obtain ⟨t, rfl⟩ := (show ∃ t, u = Value.int (n : Int) t from rv)
      exact ⟨⟨Int.natCast_nonneg _, by omega⟩, ⟨.int (n : Int), H', I3.tok _, ⟨_, rfl⟩, q3⟩⟩
    | next => exact hq.elim
    | brk => exact hq.elim
    | cont => exact hq.elim
/-! ### readings -/
section
variable {K : PySem.W.Frag} {σ : L2.St} {H : Hp} {Q : VK} {D : Ends} {te ta tv : TE} {tA : TA} {C a dx : Addr} {fs : List (Str × V)} {m f : Str} {v y : V} {sp : Sp} {dvs : List V} {E : XK}
theorem r_fld (h : te σ H fun x H1 => ∃ a C dx fs v, x = .ref a ∧ H1 a = some (.ins C dx fs) ∧ Cls K C ∧ NoAttr K C f ∧ fs.lookup f = some v ∧ Q v H1) : tFld K te f σ H Q := h
theorem r_fldAt {R : V → Prop} (h : H a = some (.ins C dx fs)) (c : Cls K C) (n : NoAttr K C f) (l : fs.lookup f = some v) (q : R v) : ∃ a' C dx fs v, V.ref a = .ref a' ∧ H a' = some (.ins C dx fs) ∧ Cls K C ∧ NoAttr K C f ∧ fs.lookup f = some v ∧ R v := ⟨a, C, dx, fs, v, rfl, h, c, n, l, q⟩
theorem r_sfld (h : tv σ H fun y H1 => te σ H1 fun x H2 => ∃ a C dx fs, x = .ref a ∧ H2 a = some (.ins C dx fs) ∧ Cls K C ∧ NoAttr K C f ∧ fs.length < 1000 ∧ D.nx σ (upd H2 a (.ins C dx (putF f y fs)))) : sFld K te tv f D σ H := h
theorem r_sfldAt {R : Addr → Addr → Addr → List (Str × V) → Prop} (h : H a = some (.ins C dx fs)) (c : Cls K C) (n : NoAttr K C f) (l : fs.length < 1000) (q : R a C dx fs) : ∃ a' C dx fs, V.ref a = .ref a' ∧ H a' = some (.ins C dx fs) ∧ Cls K C ∧ NoAttr K C f ∧ fs.length < 1000 ∧ R a' C dx fs := ⟨a, C, dx, fs, rfl, h, c, n, l, q⟩
theorem r_meth (h : te σ H fun x H1 => ∃ a dx fs, x = .ref a ∧ H1 a = some (.ins C dx fs) ∧ fs.lookup m = none ∧ tA σ H1 fun vs H2 => sp (x :: (vs ++ dvs)) H2 Q E) : tMeth C m sp dvs E te tA σ H Q := h
theorem r_methAt {R : Prop} (h : H a = some (.ins C dx fs)) (l : fs.lookup m = none) (q : R) : ∃ a' dx fs, V.ref a = .ref a' ∧ H a' = some (.ins C dx fs) ∧ fs.lookup m = none ∧ R := ⟨a, dx, fs, rfl, h, l, q⟩
theorem r_make (h : tA σ H fun vs H1 => ∀ x dx, H1 x = none → H1 dx = none → dx ≠ x → sp (.ref x :: (vs ++ dvs)) (upd (upd H1 dx (.own x)) x (.ins C dx [])) (fun v H2 => v = .non ∧ Q (.ref x) H2) E) : tMake C sp dvs E tA σ H Q := h
theorem r_prop (h : te σ H fun x H1 => ∃ a dx fs, x = .ref a ∧ H1 a = some (.ins C dx fs) ∧ sp (.ref a :: dvs) H1 Q E) : tProp C sp dvs E te σ H Q := h
end
/-! ### all kept but what stands at some places -/
def KpL (L : List Addr) (H H' : Hp) : Prop := ∀ b o, b ∉ L → H b = some o → H' b = some o
theorem KpL.refl (L : List Addr) (H : Hp) : KpL L H H := fun _ _ _ h => h
theorem KpL.of {L : List Addr} {H H' : Hp} (s : Same H H') : KpL L H H' := fun b o _ h => s b o h
theorem KpL.same {H H' : Hp} (k : KpL [] H H') : Same H H' := fun b o h => k b o (by simp) h
theorem KpL.trans {L : List Addr} {H H1 H2 : Hp} (a : KpL L H H1) (b : KpL L H1 H2) : KpL L H H2 := fun c o n h => b c o n (a c o n h)
theorem KpL.more {L L' : List Addr} {H H' : Hp} (a : KpL L H H') (s : ∀ x ∈ L, x ∈ L') : KpL L' H H' := fun c o n h => a c o (fun z => n (s _ z)) h
theorem KpL.set {L : List Addr} {p : Addr} {H H' : Hp} {o : HO} (k : KpL L H H') (hp : p ∈ L) : KpL L H (upd H' p o) := fun b u n e => by
  rw [upd_ne (fun z : b = p => n (by rw [z]; exact hp))]
  exact k b u n e
theorem KpL.put {L : List Addr} {p : Addr} {H H' : Hp} {o : HO} (k : KpL L H H') (n : H' p = none) : KpL L H (upd H' p o) := fun b u m e => by
  have := k b u m e
  rw [upd_ne (ne_of_none this n)]
  exact this
theorem KpL.free {L : List Addr} {p : Addr} {H H' : Hp} (k : KpL L H H') (n : H' p = none) (m : p ∉ L) : H p = none := by
  cases q : H p with
  | none => rfl
  | some o =>
    have := k p o m q
    rw [n] at this
    cases this
theorem KpL.kp {r : Addr} {H H' : Hp} (k : KpL [r] H H') : Kp r H H' := fun b o n h => k b o (by simpa using n) h
theorem Kp.kpl {r : Addr} {L : List Addr} {H H' : Hp} (k : Kp r H H') (h : r ∈ L) : KpL L H H' := fun b o n e => k b o (fun z : b = r => n (by rw [z]; exact h)) e
theorem KpL.drop {p : Addr} {L : List Addr} {H H' : Hp} (k : KpL (p :: L) H H') (h : H p = none) : KpL L H H' := fun b o n e => k b o (fun z => by
  rcases List.mem_cons.mp z with z | z
  · rw [z, h] at e; cases e
  · exact n z) e
/-! ### two and three fields -/
theorem lk2_1 {a b : Str} {x y : V} : ([(a, x), (b, y)] : List (Str × V)).lookup a = some x := by simp [List.lookup]
theorem lk2_2 {a b : Str} {x y : V} (h : ¬ b = a) : ([(a, x), (b, y)] : List (Str × V)).lookup b = some y := by
  have : (b == a) = false := by simpa using h
  simp [List.lookup, this]
theorem lk2_0 {a b m : Str} {x y : V} (h1 : ¬ m = a) (h2 : ¬ m = b) : ([(a, x), (b, y)] : List (Str × V)).lookup m = none := by
  have e1 : (m == a) = false := by simpa using h1
  have e2 : (m == b) = false := by simpa using h2
  simp [List.lookup, e1, e2]
theorem lk3_1 {a b c : Str} {x y z : V} : ([(a, x), (b, y), (c, z)] : List (Str × V)).lookup a = some x := by simp [List.lookup]
theorem lk3_2 {a b c : Str} {x y z : V} (h : ¬ b = a) : ([(a, x), (b, y), (c, z)] : List (Str × V)).lookup b = some y := by
  have : (b == a) = false := by simpa using h
  simp [List.lookup, this]
theorem lk3_3 {a b c : Str} {x y z : V} (h : ¬ c = a) (h2 : ¬ c = b) : ([(a, x), (b, y), (c, z)] : List (Str × V)).lookup c = some z := by
  have e1 : (c == a) = false := by simpa using h
  have e2 : (c == b) = false := by simpa using h2
  simp [List.lookup, e1, e2]
theorem lk3_0 {a b c m : Str} {x y z : V} (h1 : ¬ m = a) (h2 : ¬ m = b) (h3 : ¬ m = c) : ([(a, x), (b, y), (c, z)] : List (Str × V)).lookup m = none := by
  have e1 : (m == a) = false := by simpa using h1
  have e2 : (m == b) = false := by simpa using h2
  have e3 : (m == c) = false := by simpa using h3
  simp [List.lookup, e1, e2, e3]
theorem put1 {a : Str} {x : V} : putF a x [] = [(a, x)] := rfl
theorem put2 {a b : Str} {x y : V} (h : ¬ a = b) : putF b y [(a, x)] = [(a, x), (b, y)] := by
  show (if a = b then [(a, y)] else (a, x) :: putF b y []) = _
  rw [if_neg h]
  rfl
theorem put3 {a b c : Str} {x y z : V} (h : ¬ a = c) (h2 : ¬ b = c) : putF c z [(a, x), (b, y)] = [(a, x), (b, y), (c, z)] := by
  show (if a = c then [(a, z), (b, y)] else (a, x) :: putF c z [(b, y)]) = _
  rw [if_neg h, put2 h2]
theorem k_index (K : PySem.W.Frag) {X : Cx} (h : X.K = K := by rfl) : MtR X "list.index" (rIndex K) := h ▸ mt_index
theorem r_index {K : PySem.W.Frag} {H : Hp} {Q : VK} {a : Addr} {ys : List V} {y z : V} {j : Nat} (h : SqL K H a ys) (f : flatV y = true) (g : ys.all flatV = true) (e : ys[j]? = some z) (e2 : eqV z y = true) (no : ∀ (m : Nat) (z' : V), m < j → ys[m]? = some z' → eqV z' y = false) (q : Q (.int (j : Nat)) H) : rIndex K (.ref a) [y] H Q :=
  ⟨a, ys, y, j, z, rfl, rfl, h, f, g, e, e2, no, q⟩
theorem put2_1 {a b : Str} {x y z : V} : putF a y [(a, x), (b, z)] = [(a, y), (b, z)] := by
  show (if a = a then _ else _) = _
  rw [if_pos rfl]
theorem put2_2 {a b : Str} {x y z : V} (h : ¬ a = b) : putF b y [(a, x), (b, z)] = [(a, x), (b, y)] := by
  show (if a = b then _ else (a, x) :: (if b = b then _ else _)) = _
  rw [if_neg h, if_pos rfl]
theorem put3_3 {a b c : Str} {x y z u : V} (h : ¬ a = c) (h2 : ¬ b = c) : putF c u [(a, x), (b, y), (c, z)] = [(a, x), (b, y), (c, u)] := by
  show (if a = c then _ else (a, x) :: (if b = c then _ else (b, y) :: (if c = c then _ else _))) = _
  rw [if_neg h, if_neg h2, if_pos rfl]
def rInsertV : V → List V → Hp → VK → Prop := fun x vs H Q => ∃ (l : Addr) (xs : List V) (i : Int) (y : V), x = .ref l ∧ vs = [.int i, y] ∧ H l = some (.lst xs) ∧ xs.length < sizeLine ∧ 0 ≤ i ∧ i < 2 ^ 63 ∧ Q .non (upd H l (.lst (xs.take i.toNat ++ [y] ++ xs.drop i.toNat)))
theorem mt_insertV {X : Cx} : MtR X "list.insert" rInsertV := mt_insert
theorem r_insert {H : Hp} {Q : VK} {l : Addr} {xs : List V} {i : Nat} {y : V} (h : H l = some (.lst xs)) (z : xs.length ≤ 100000) (iz : i ≤ 100000) (q : Q .non (upd H l (.lst (xs.take i ++ [y] ++ xs.drop i)))) : rInsertV (.ref l) [.int ((i : Nat) : Int), y] H Q :=
  ⟨l, xs, _, y, rfl, rfl, h, szl z, by omega, by omega, by rw [Int.toNat_natCast]; exact q⟩
theorem r_pop {H : Hp} {Q : VK} {l : Addr} {xs : List V} {y : V} (h : H l = some (.lst (xs ++ [y]))) (q : Q y (upd H l (.lst xs))) : rPop (.ref l) [] H Q := by
  refine ⟨l, xs ++ [y], y, rfl, rfl, h, ?_, ?_⟩
  · rw [List.length_append, List.length_singleton, Nat.add_sub_cancel, List.getElem?_append_right (Nat.le_refl _), Nat.sub_self]; rfl
  · rw [List.dropLast_concat]; exact q
end Lx

namespace Lz
open PySem PySem.Spec PyProof.Rows PySem.Calls
theorem gne {a lo b : Nat} (h : a < lo) (h2 : lo ≤ b) : b ≠ a := by omega
/-! ### the iterator of reversed(list), drawn by zip -/
section
variable {prog : Program} {w : World} {A : Around} {E : Value → Shared → Prop} {s : Shared}
theorem nextOf_rev_item {it l : Addr} {i : Nat} {items : Array Value} {x : Value} {Q : Value → Shared → Prop} (hit : s.heap.IsRevIter it l (i : Int)) (hl : s.heap.IsList l items) (hx : items[i]? = some x)
    (hQ : ∀ h', h'.IsRevIter it l ((i : Int) - 1) → Heap.SameBut it s.heap h' → Q x { s with heap := h' }) : wpAny (model prog w) A (Builtin.SmallTypes.nextOf (.ref it)) Q E s := by
  obtain ⟨o, ho, hc, hd⟩ := id hit
  obtain ⟨ol, hol, _, nl, hdl⟩ := hl
  unfold Builtin.SmallTypes.nextOf
  refine wpAny_bind (wpAny_callSpecial?_slot (name := Str.ofString "__next__") hit.typeIs F.slot_lri_next
    (wpAny_call_entry F.slot_lri_next hit.typeIs F.entry_lri_next ?_ (F.args_lri_next_1 _)))
  unfold Builtin.«list_reverseiterator.__next__»
  refine wpAny_bind (wpAny_of_eq (a := (Value.ref it, [])) rfl ?_)
  try dsimp only
  refine wpAny_bind (wpAny_field ho hd (x := rawInt (i : Int)) rfl ?_)
  show wpAny _ _ (if (i : Int) < 0 then _ else _) _ _ s
  rw [if_neg (by omega)]
  show wpAny _ _ (field (.ref it) 0 >>= _) _ _ s
  refine wpAny_bind (wpAny_field ho hd (x := .ref l) rfl ?_)
  show wpAny _ _ (seqItems? (.ref l) >>= _) _ _ s
  refine wpAny_bind (wpAny_seqItems hol hdl ?_)
  simp only [Int.toNat_natCast, hx]
  refine wpAny_bind (wpAny_setField ho hd (by simp) ?_)
  first
  | refine wpAny_pure ⟨x, rfl, wpAny_pure (hQ _ ?_ (Heap.SameBut.update ..))⟩
  | refine wpAny_bind (wpAny_pure (wpAny_pure ⟨x, rfl, wpAny_pure (hQ _ ?_ (Heap.SameBut.update ..))⟩))
  exact ⟨_, Heap.get?_update_self _ ho (Obj.isFreed_of_fields (Obj.data_mapFields hd _)), (Obj.cls_mapFields ..).trans hc, by
    rw [Obj.data_mapFields hd]; simp⟩
theorem nextOf_rev_end {it l : Addr} {Q : Value → Shared → Prop} (hh : A.handled = none) (hit : s.heap.IsRevIter it l (-1))
    (hE : ∀ h' e, Heap.ExtBut it s.heap h' → (∃ o, h'.get? e = some o ∧ o.cls = .type "StopIteration") → E (.ref e) { s with heap := h' }) : wpAny (model prog w) A (Builtin.SmallTypes.nextOf (.ref it)) Q E s := by
  obtain ⟨o, ho, hc, hd⟩ := id hit
  unfold Builtin.SmallTypes.nextOf
  refine wpAny_bind (wpAny_callSpecial?_slot (name := Str.ofString "__next__") hit.typeIs F.slot_lri_next
    (wpAny_call_entry F.slot_lri_next hit.typeIs F.entry_lri_next ?_ (F.args_lri_next_1 _)))
  unfold Builtin.«list_reverseiterator.__next__»
  refine wpAny_bind (wpAny_of_eq (a := (Value.ref it, [])) rfl ?_)
  try dsimp only
  refine wpAny_bind (wpAny_field ho hd (x := rawInt (-1)) rfl ?_)
  show wpAny _ _ (if (-1 : Int) < 0 then _ else _) _ _ s
  rw [if_pos (by decide)]
  refine wpAny_bind (wpAny_rule ?_)
  first
  | show wpAny _ _ (newExc (.type "StopIteration") [] >>= _) _ _ _
  | (refine wpAny_bind ?_; show wpAny _ _ (newExc (.type "StopIteration") [] >>= _) _ _ _)
  refine wpAny_bind ?_
  simp only [newExc, newTuple]
  refine wpAny_bind (wpAny_newObj_type ?_ (by size_fits))
  refine wpAny_bind (m := firstArgMember _ _) (wpAny_of_eq (a := Value.none) (by first | rfl | (simp only [firstArgMember]; rfl)) ?_)
  refine wpAny_newObj_type ?_ (by size_fits)
  simp only [raiseNew]
  refine wpAny_bind (wpAny_handled ?_)
  first | rw [show A.in1.handled = none from hh] | rw [hh]
  refine wpAny_bind (wpAny_pure (wpAny_throw ?_))
  exact hE _ _ (((Heap.ExtBut.refl _ _).push _).push _) ⟨_, Heap.get?_push_size _ rfl, rfl⟩
end
theorem drawsRev {prog : Program} {w : World} {A : Around} (hh : A.handled = none) (it l : Addr) (hne : l ≠ it) (items : Array Value) :
    Draws prog w A it [it, l] items.size (fun i v => items[items.size - 1 - i]? = some v) (fun i h => i ≤ items.size ∧ h.IsRevIter it l ((items.size : Int) - 1 - (i : Int)) ∧ h.IsList l items) where
  live := fun _ _ st => let ⟨o, ho, _⟩ := st.2.1; ⟨o, ho⟩
  frame := fun _ _ _ st hk => ⟨st.1, st.2.1.at fun o e => hk it (by simp) o e, st.2.2.at fun o e => hk l (by simp) o e⟩
  item := fun i s Q E hi x hQ => by
    have e : (items.size : Int) - 1 - (i : Int) = ((items.size - 1 - i : Nat) : Int) := by omega
    have hit := x.2.1
    rw [e] at hit
    have hx : items[items.size - 1 - i]? = some (items[items.size - 1 - i]'(by omega)) := Array.getElem?_eq_getElem (by omega)
    refine nextOf_rev_item hit x.2.2 hx fun h' hit' hs' => ?_
    have e2 : ((items.size - 1 - i : Nat) : Int) - 1 = (items.size : Int) - 1 - ((i + 1 : Nat) : Int) := by omega
    rw [e2] at hit'
    exact hQ _ h' s.toks hx ⟨hi, hit', x.2.2.at fun o eo => (hs'.2 l hne).trans eo⟩ hs'
  done := fun s Q E x hE => by
    have e : (items.size : Int) - 1 - (items.size : Int) = -1 := by omega
    have hit := x.2.1
    rw [e] at hit
    exact nextOf_rev_end hh hit hE
/-! ### zip's next while its last tuple is held -/
section
variable {prog : Program} {w : World} {A : Around} {E : Value → Shared → Prop} {s : Shared} {z TI TO T i1 i2 : Addr} {fp1 fp2 : List Addr} {n1 n2 i : Nat} {P1 P2 : Nat → Value → Prop} {St1 St2 : Nat → Heap → Prop} {f : Bool} {oT : Obj}
theorem heldD_item {Q : Value → Shared → Prop} (S : ZipSep2 z TI TO i1 i2 fp1 fp2) (D1 : Draws prog w A i1 fp1 n1 P1 St1) (D2 : Draws prog w A i2 fp2 n2 P2 St2)
    (hz : IsZipHeld s.heap z TI TO T f) (hT : s.heap.get? T = some oT) (hTI : IsTupOf2 s.heap TI (.ref i1) (.ref i2)) (st1 : St1 i s.heap) (st2 : St2 i s.heap) (hlt1 : i < n1) (hlt2 : i < n2)
    (hQ : ∀ x1 x2 h' tk, P1 i x1 → P2 i x2 → IsZipHeld h' z TI TO T true → St1 (i + 1) h' → St2 (i + 1) h' → IsTupOf2 h' s.heap.objs.size x1 x2 → h'.objs.size = s.heap.objs.size + 1 →
      (∀ c o, c ≠ z → c ≠ i1 → c ≠ i2 → s.heap.get? c = some o → h'.get? c = some o) → Q (.ref s.heap.objs.size) { s with heap := h', toks := tk }) :
    wpAny (model prog w) A (Builtin.«zip.__next__» ⟨[.ref z], []⟩) (fun fin s' => ∃ v, fin = .done (.ret v) ∧ Q v s') E s := by
  obtain ⟨hp, g, d, tk0, os⟩ := s
  show wpAny _ _ (field (.ref z) 2 >>= _) _ _ _
  refine wpAny_bind (wpAny_field hz rfl (x := .bool false) rfl ?_)
  show wpAny _ _ (field (.ref z) 3 >>= _) _ _ _
  refine wpAny_bind (wpAny_field hz rfl (x := .ref TI) rfl ?_)
  refine wpAny_bind (wpAny_seqItems hTI rfl ?_)
  show wpAny _ _ (Builtin.SmallTypes.ownedTupleIsFree (.ref z) >>= _) _ _ _
  refine wpAny_bind (wpAny_tupleHeld_zip hz hT fun g0 hz0 hs0 => ?_)
  replace hs0 : Heap.SameBut z hp g0 := hs0
  simp only [Bool.false_eq_true, if_false]
  refine wpAny_bind ?_
  rw [← Array.forIn_toList]
  simp only [List.forIn_cons, List.forIn_nil]
  refine wpAny_bind (wpAny_bind (wpAny_holding ?_))
  show wpAny _ _ (Builtin.SmallTypes.nextOf (.ref i1) >>= _) _ _ ⟨g0, g, d, tk0, os⟩
  refine wpAny_bind (D1.item i _ _ _ hlt1 (D1.over st1 hs0 S.zf1) fun x1 p1 tk1 hx1 sn1 hp1 => wpAny_pure ?_)
  replace hp1 : Heap.SameBut i1 g0 p1 := hp1
  refine wpAny_pure ?_
  refine wpAny_bind (wpAny_bind (wpAny_holding ?_))
  show wpAny _ _ (Builtin.SmallTypes.nextOf (.ref i2) >>= _) _ _ ⟨p1, g, d, tk1, os⟩
  refine wpAny_bind (D2.item i _ _ _ hlt2 (D2.over (D2.over st2 hs0 S.zf2) hp1 S.sep1_2) fun x2 p2 tk2 hx2 sn2 hp2 => wpAny_pure ?_)
  replace hp2 : Heap.SameBut i2 p1 p2 := hp2
  refine wpAny_pure (wpAny_pure ?_)
  show wpAny _ _ (newTuple [x1, x2] >>= _) _ _ _
  refine wpAny_bind (wpAny_newTuple ?_)
  have hsz : p2.objs.size = hp.objs.size := by rw [hp2.1, hp1.1, hs0.1]
  have hz3 : IsZipHeld p2 z TI TO T true := hp2.extBut _ _ S.zi2 (hp1.extBut _ _ S.zi1 hz0)
  have hk : ∀ c o, c ≠ z → c ≠ i1 → c ≠ i2 → hp.get? c = some o → p2.get? c = some o := fun c o c1 c2 c3 e => hp2.extBut _ _ c3 (hp1.extBut _ _ c2 (hs0.extBut _ _ c1 e))
  have j1 : St1 (i + 1) p2 := D1.over sn1 hp2 S.sep2_1
  have up : ∀ c o, p2.get? c = some o → (p2.push { cls := .type "tuple", data := .seq #[x1, x2] }).get? c = some o := fun c o e => Heap.get?_push_of_some _ e
  refine wpAny_pure ⟨_, rfl, ?_⟩
  show Q (.ref p2.objs.size) _
  have hp4 : IsTupOf2 (p2.push { cls := .type "tuple", data := .seq #[x1, x2] }) p2.objs.size x1 x2 := Heap.get?_push_size _ rfl
  have hz4 : (p2.push { cls := .type "tuple", data := .seq #[x1, x2] }).objs.size = p2.objs.size + 1 := Heap.size_push ..
  rw [hsz] at hp4 hz4 ⊢
  exact hQ x1 x2 _ tk2 hx1 hx2 (up _ _ hz3) (D1.frame _ _ _ j1 fun b _ o e => up b o e) (D2.frame _ _ _ sn2 fun b _ o e => up b o e) hp4 hz4 fun c o c1 c2 c3 e => up c o (hk c o c1 c2 c3 e)
theorem heldD_end {Q : Fin → Shared → Prop} (S : ZipSep2 z TI TO i1 i2 fp1 fp2) (D1 : Draws prog w A i1 fp1 n1 P1 St1)
    (hz : IsZipHeld s.heap z TI TO T f) (hT : s.heap.get? T = some oT) (hTI : IsTupOf2 s.heap TI (.ref i1) (.ref i2)) (st1 : St1 n1 s.heap)
    (hE : ∀ h' e, (∀ c o, c ≠ z → c ≠ i1 → s.heap.get? c = some o → h'.get? c = some o) → (∃ o, h'.get? e = some o ∧ o.cls = .type "StopIteration") → E (.ref e) { s with heap := h' }) :
    wpAny (model prog w) A (Builtin.«zip.__next__» ⟨[.ref z], []⟩) Q E s := by
  obtain ⟨hp, g, d, tk0, os⟩ := s
  show wpAny _ _ (field (.ref z) 2 >>= _) _ _ _
  refine wpAny_bind (wpAny_field hz rfl (x := .bool false) rfl ?_)
  show wpAny _ _ (field (.ref z) 3 >>= _) _ _ _
  refine wpAny_bind (wpAny_field hz rfl (x := .ref TI) rfl ?_)
  refine wpAny_bind (wpAny_seqItems hTI rfl ?_)
  show wpAny _ _ (Builtin.SmallTypes.ownedTupleIsFree (.ref z) >>= _) _ _ _
  refine wpAny_bind (wpAny_tupleHeld_zip hz hT fun g0 hz0 hs0 => ?_)
  replace hs0 : Heap.SameBut z hp g0 := hs0
  simp only [Bool.false_eq_true, if_false]
  refine wpAny_bind ?_
  rw [← Array.forIn_toList]
  simp only [List.forIn_cons, List.forIn_nil]
  refine wpAny_bind (wpAny_bind (wpAny_holding ?_))
  show wpAny _ _ (Builtin.SmallTypes.nextOf (.ref i1) >>= _) _ _ ⟨g0, g, d, tk0, os⟩
  refine wpAny_bind (D1.done _ _ _ (D1.over st1 hs0 S.zf1) fun h' e he hx => ?_)
  exact hE h' e (fun c o c1 c2 x => he c o c2 (hs0.extBut _ _ c1 x)) hx
end
/-! ### the walk of list(zip(..)) -/
/-- zip's state at turn i: free at first, later holding its last tuple; S lies apart -/
def ZSt (z TI TO i1 i2 S : Addr) (St1 St2 : Nat → Heap → Prop) (i : Nat) (h : Heap) : Prop :=
  IsTupOf2 h TI (.ref i1) (.ref i2) ∧ St1 i h ∧ St2 i h ∧ ((IsZip h z TI TO .none ∧ ∃ a b, IsTupOf2 h TO a b) ∨ ∃ T f oT, IsZipHeld h z TI TO T f ∧ h.get? T = some oT ∧ T ≠ z ∧ T ≠ i1 ∧ T ≠ i2 ∧ T ≠ S)
section
variable {prog : Program} {w : World} {A : Around} {E : Value → Shared → Prop} {s : Shared} {z TI TO i1 i2 S : Addr} {fp1 fp2 : List Addr} {n i : Nat} {P1 P2 : Nat → Value → Prop} {St1 St2 : Nat → Heap → Prop}
theorem ZSt.keep {h h' : Heap} (x : ZSt z TI TO i1 i2 S St1 St2 i h) (D1 : Draws prog w A i1 fp1 n P1 St1) (D2 : Draws prog w A i2 fp2 n P2 St2) (k : ∀ b o, b ≠ S → h.get? b = some o → h'.get? b = some o)
    (a0 : S ≠ z) (a1 : S ≠ TI) (a2 : S ≠ TO) (a3 : S ∉ fp1) (a4 : S ∉ fp2) : ZSt z TI TO i1 i2 S St1 St2 i h' := by
  obtain ⟨h1, h2, h3, h4⟩ := x
  refine ⟨k _ _ a1.symm h1, D1.frame _ _ _ h2 fun b hb o e => k b o (fun q => a3 (q ▸ hb)) e, D2.frame _ _ _ h3 fun b hb o e => k b o (fun q => a4 (q ▸ hb)) e, ?_⟩
  rcases h4 with ⟨hz, a, b, hTO⟩ | ⟨T, f, oT, hz, hT, r1, r2, r3, r4⟩
  · exact .inl ⟨k _ _ a0.symm hz, a, b, k _ _ a2.symm hTO⟩
  · exact .inr ⟨T, f, oT, k _ _ a0.symm hz, k _ _ r4 hT, r1, r2, r3, r4⟩
theorem zst_item {Q : Option Value → Shared → Prop} (Z : ZipSep2 z TI TO i1 i2 fp1 fp2) (D1 : Draws prog w A.in1 i1 fp1 n P1 St1) (D2 : Draws prog w A.in1 i2 fp2 n P2 St2) (hst : ZSt z TI TO i1 i2 S St1 St2 i s.heap) (hS : S < s.heap.objs.size) (hi : i < n)
    (lt1 : i1 < s.heap.objs.size) (lt2 : i2 < s.heap.objs.size)
    (hQ : ∀ x1 x2 h' tk, P1 i x1 → P2 i x2 → ZSt z TI TO i1 i2 S St1 St2 (i + 1) h' → IsTupOf2 h' s.heap.objs.size x1 x2 → h'.objs.size = s.heap.objs.size + 1 →
      (∀ c o, c ≠ z → c ≠ TO → c ≠ i1 → c ≠ i2 → s.heap.get? c = some o → h'.get? c = some o) → Q (some (.ref s.heap.objs.size)) { s with heap := h', toks := tk }) :
    wpAny (model prog w) A (pyNext (.ref z)) Q E s := by
  obtain ⟨hTI, h1, h2, hz⟩ := hst
  rcases hz with ⟨hz, a, b, hTO⟩ | ⟨T, f, oT, hz, hT, r1, r2, r3, r4⟩
  · have hTy : s.TypeIs (.ref z) "zip" := ⟨_, hz, rfl⟩
    have hzl : z < s.heap.objs.size := Heap.lt_size hz
    unfold pyNext
    refine wpAny_bind (wpAny_attempt (wpAny_callSpecial?_slot (name := Str.ofString "__next__") hTy F.slot_zip_next
      (wpAny_call_entry F.slot_zip_next hTy F.entry_zip_next (wpAny_mono (zipD2_next_item (Q := fun v s' => wpAny (model prog w) A (pure (some v)) Q E s') Z D1 D2 hz hTI hTO h1 h2 hi hi fun x1 x2 h' tk a1 a2 a3 a4 a5 a6 a7 a8 a9 => ?_) (fun fin s' h => h) fun e s' h => h) (F.args_zip_next_1 _))))
    refine wpAny_pure (hQ x1 x2 h' tk a1 a2 ⟨a9 _ _ Z.TIz Z.TITO Z.TIi1 Z.TIi2 hTI, a5, a6, .inr ⟨s.heap.objs.size, false, _, a3, a7, Nat.ne_of_gt hzl, Nat.ne_of_gt lt1, Nat.ne_of_gt lt2, Nat.ne_of_gt hS⟩⟩ a7 a8 a9)
  · have hTy : s.TypeIs (.ref z) "zip" := ⟨_, hz, rfl⟩
    unfold pyNext
    refine wpAny_bind (wpAny_attempt (wpAny_callSpecial?_slot (name := Str.ofString "__next__") hTy F.slot_zip_next
      (wpAny_call_entry F.slot_zip_next hTy F.entry_zip_next (wpAny_mono (heldD_item (Q := fun v s' => wpAny (model prog w) A (pure (some v)) Q E s') Z D1 D2 hz hT hTI h1 h2 hi hi fun x1 x2 h' tk a1 a2 a3 a5 a6 a7 a8 a9 => ?_) (fun fin s' h => h) fun e s' h => h) (F.args_zip_next_1 _))))
    refine wpAny_pure (hQ x1 x2 h' tk a1 a2 ⟨a9 _ _ Z.TIz Z.TIi1 Z.TIi2 hTI, a5, a6, .inr ⟨T, true, oT, a3, a9 _ _ r1 r2 r3 hT, r1, r2, r3, r4⟩⟩ a7 a8 fun c o c1 _ c2 c3 e => a9 c o c1 c2 c3 e)
theorem zst_done {Q : Option Value → Shared → Prop} (Z : ZipSep2 z TI TO i1 i2 fp1 fp2) (D1 : Draws prog w A.in1 i1 fp1 n P1 St1) (D2 : Draws prog w A.in1 i2 fp2 n P2 St2) (hst : ZSt z TI TO i1 i2 S St1 St2 n s.heap)
    (hQ : ∀ h' tk, (∀ c o, c ≠ z → c ≠ TO → c ≠ i1 → c ≠ i2 → s.heap.get? c = some o → h'.get? c = some o) → Q none { s with heap := h', toks := tk }) :
    wpAny (model prog w) A (pyNext (.ref z)) Q E s := by
  obtain ⟨hTI, h1, h2, hz⟩ := hst
  rcases hz with ⟨hz, a, b, hTO⟩ | ⟨T, f, oT, hz, hT, r1, r2, r3, r4⟩
  · have hTy : s.TypeIs (.ref z) "zip" := ⟨_, hz, rfl⟩
    unfold pyNext
    refine wpAny_bind (wpAny_attempt (wpAny_callSpecial?_slot (name := Str.ofString "__next__") hTy F.slot_zip_next
      (wpAny_call_entry F.slot_zip_next hTy F.entry_zip_next (zipD2_next_end Z D1 D2 hz hTI hTO h1 h2 (Nat.le_refl _) (Nat.le_refl _) (.inl rfl) fun h' tk e hk he => ?_) (F.args_zip_next_1 _))))
    obtain ⟨o, ho, hc⟩ := he
    refine wpAny_bind (wpAny_isInstance (T := "StopIteration") (b := true) ⟨o, ho, hc⟩ isSubtype_stop ?_)
    exact wpAny_pure (hQ _ _ hk)
  · have hTy : s.TypeIs (.ref z) "zip" := ⟨_, hz, rfl⟩
    unfold pyNext
    refine wpAny_bind (wpAny_attempt (wpAny_callSpecial?_slot (name := Str.ofString "__next__") hTy F.slot_zip_next
      (wpAny_call_entry F.slot_zip_next hTy F.entry_zip_next (heldD_end Z D1 hz hT hTI h1 fun h' e hk he => ?_) (F.args_zip_next_1 _))))
    obtain ⟨o, ho, hc⟩ := he
    refine wpAny_bind (wpAny_isInstance (T := "StopIteration") (b := true) ⟨o, ho, hc⟩ isSubtype_stop ?_)
    exact wpAny_pure (hQ _ _ fun c o c1 _ c2 _ e => hk c o c1 c2 e)
end
/-- the tuples made so far -/
structure ZG (P1 P2 : Nat → Value → Prop) (lo : Addr) (h : Heap) (as : List Addr) : Prop where
  rise : as.Pairwise (· < ·)
  above : ∀ a ∈ as, lo ≤ a
  pairs : ∀ (j : Nat) (a : Addr), as[j]? = some a → ∃ x y, P1 j x ∧ P2 j y ∧ IsTupOf2 h a x y
theorem ZG.there {P1 P2 : Nat → Value → Prop} {lo : Addr} {h : Heap} {as : List Addr} (g : ZG P1 P2 lo h as) {a : Addr} (ha : a ∈ as) : a < h.objs.size := by
  obtain ⟨j, hj⟩ := List.mem_iff_getElem?.mp ha
  obtain ⟨_, _, _, _, e⟩ := g.pairs j a hj
  exact Heap.lt_size e
section
variable {prog : Program} {w : World} {A : Around} {s : Shared} {R : Result → Shared → Prop} {z TI TO i1 i2 S lo : Addr} {fp1 fp2 : List Addr} {n : Nat} {P1 P2 : Nat → Value → Prop} {St1 St2 : Nat → Heap → Prop}
theorem zloop (Z : ZipSep2 z TI TO i1 i2 fp1 fp2) (D1 : Draws prog w A.in1.in1 i1 fp1 n P1 St1) (D2 : Draws prog w A.in1.in1 i2 fp2 n P2 St2) (hlo : z < lo ∧ TO < lo ∧ i1 < lo ∧ i2 < lo ∧ S < lo)
    (a0 : S ≠ z) (a1 : S ≠ TI) (a2 : S ≠ TO) (a3 : S ∉ fp1) (a4 : S ∉ fp2) (hn : n ≤ sizeLine) (res : Value) {h₁ : Heap}
    (hR : ∀ h' tk acc c as, (∀ b o, b ≠ S → b ≠ z → b ≠ TO → b ≠ i1 → b ≠ i2 → h₁.get? b = some o → h'.get? b = some o) → h'.get? S = some { cls := .type "list", dict := none, data := .seq acc c, slots := #[] } → as.length = n → ZG P1 P2 lo h' as →
      acc.toList = as.map Value.ref → R (.ok (.ret res)) { s with heap := h', toks := tk }) :
    ∀ (k i : Nat) (h : Heap) (tk c : Nat) (acc : Array Value) (as : List Addr), n - i = k → i ≤ n → ZSt z TI TO i1 i2 S St1 St2 i h → (∀ b o, b ≠ S → b ≠ z → b ≠ TO → b ≠ i1 → b ≠ i2 → h₁.get? b = some o → h.get? b = some o) →
      h.get? S = some { cls := .type "list", dict := none, data := .seq acc c, slots := #[] } → acc.toList = as.map Value.ref → as.length = i → ZG P1 P2 lo h as → lo ≤ h.objs.size →
      codeAny (model prog w) A (.builtin "list.extend.loop" ⟨[.ref S, .ref z, res], []⟩) R { s with heap := h, toks := tk } := by
  obtain ⟨l0, l1, l2, l3, l4⟩ := hlo
  have Si1 : S ≠ i1 := fun e => a3 (e ▸ Z.mem1)
  have Si2 : S ≠ i2 := fun e => a4 (e ▸ Z.mem2)
  intro k
  induction k with
  | zero =>
    intro i h tk c acc as hk hi hst hkeep hS hacc hal hG hIs
    have hin : i = n := by omega
    subst hin
    refine codeAny_builtin PySem.F.entry_extend_loop ?_
    rw [Around.under_plainId PySem.F.plain_extend_loop _]
    show wpAny _ A.in1 (pyNext (.ref z) >>= _) _ _ _
    refine wpAny_bind (zst_done (s := { s with heap := h, toks := tk }) (A := A.in1) Z D1 D2 hst fun h' tk' he => ?_)
    refine wpAny_pure (hR h' tk' acc c as (fun b o h0 h1 h2 h3 h4 e => he b o h1 h2 h3 h4 (hkeep b o h0 h1 h2 h3 h4 e)) (he S _ a0 a2 Si1 Si2 hS) (by omega) ⟨hG.rise, hG.above, fun j a hj => ?_⟩ hacc)
    obtain ⟨x, y, e1, e2, e3⟩ := hG.pairs j a hj
    have la := hG.above a (List.mem_of_getElem? hj)
    exact ⟨x, y, e1, e2, he a _ (gne l0 la) (gne l1 la) (gne l2 la) (gne l3 la) e3⟩
  | succ k ih =>
    intro i h tk c acc as hk hi hst hkeep hS hacc hal hG hIs
    have hlt : i < n := by omega
    have hsz : acc.size = i := by rw [← Array.length_toList, hacc, List.length_map, hal]
    refine codeAny_builtin PySem.F.entry_extend_loop ?_
    rw [Around.under_plainId PySem.F.plain_extend_loop _]
    show wpAny _ A.in1 (pyNext (.ref z) >>= _) _ _ _
    have hSl : S < h.objs.size := Heap.lt_size hS
    refine wpAny_bind (zst_item (s := { s with heap := h, toks := tk }) (S := S) (A := A.in1) Z D1 D2 hst hSl hlt (Nat.lt_of_lt_of_le l2 hIs) (Nat.lt_of_lt_of_le l3 hIs) fun x1 x2 h' tk' p1 p2 hst' ht hz hkp => ?_)
    dsimp only at ht hz hkp ⊢
    have hS' := hkp S _ a0 a2 Si1 Si2 hS
    have up : ∀ b o, b ≠ S → h'.get? b = some o → (h'.update S (Obj.mapSeq (·.push (Value.ref h.objs.size)))).get? b = some o := fun b o hb e => (Heap.get?_update_other _ _ (Ne.symm hb)).trans e
    show wpAny _ A.in1 (updateSeq S (·.push (Value.ref h.objs.size)) >>= _) _ _ _
    refine wpAny_bind ?_
    refine wpAny_updateSeq hS' rfl (wpAny_pure ⟨plainId_quiet PySem.F.plain_extend_loop _, ih (i + 1) _ tk' _ (acc.push (Value.ref h.objs.size)) (as ++ [h.objs.size]) (by omega) hlt (hst'.keep D1 D2 up a0 a1 a2 a3 a4)
      (fun b o h0 h1 h2 h3 h4 e => up b o h0 (hkp b o h1 h2 h3 h4 (hkeep b o h0 h1 h2 h3 h4 e))) (Heap.get?_update_self _ hS' rfl) (by rw [Array.toList_push, hacc, List.map_append]; rfl) (by rw [List.length_append, hal]; rfl) ⟨?_, ?_, ?_⟩ ?_⟩) (by rw [hsz]; omega) (by show (acc.push (Value.ref h.objs.size)).size ≤ sizeLine + 1; rw [Array.size_push, hsz]; omega)
    · refine List.pairwise_append.mpr ⟨hG.rise, List.pairwise_singleton _ _, fun a ha b hb => ?_⟩
      rw [List.mem_singleton.mp hb]
      exact hG.there ha
    · intro a ha
      rcases List.mem_append.mp ha with ha | ha
      · exact hG.above a ha
      · rw [List.mem_singleton.mp ha]; exact hIs
    · intro j b hj
      rcases Nat.lt_trichotomy j as.length with h1 | h1 | h1
      · rw [List.getElem?_append_left h1] at hj
        obtain ⟨x, y, e1, e2, e3⟩ := hG.pairs j b hj
        have hb := hG.above b (List.mem_of_getElem? hj)
        exact ⟨x, y, e1, e2, up b _ (gne l4 hb) (hkp b _ (gne l0 hb) (gne l1 hb) (gne l2 hb) (gne l3 hb) e3)⟩
      · subst h1
        have hb : h.objs.size = b := by simpa using hj
        subst hb
        exact ⟨x1, x2, by rw [hal]; exact p1, by rw [hal]; exact p2, up _ _ (Nat.ne_of_gt hSl) ht⟩
      · have hnone : (as ++ [h.objs.size])[j]? = none := List.getElem?_eq_none (by rw [List.length_append, List.length_singleton]; omega)
        rw [hnone] at hj; cases hj
    · have e : (h'.update S (Obj.mapSeq (·.push (Value.ref h.objs.size)))).get? h.objs.size = _ := up _ _ (Nat.ne_of_gt hSl) ht
      exact Nat.le_trans hIs (Nat.le_of_lt (Heap.lt_size e))
theorem zip_no_len : typeLookup (.type "zip") "__len__" = pure none := am_miss_of_fast (by decide +kernel)
theorem zip_no_hint : typeLookup (.type "zip") "__length_hint__" = pure none := am_miss_of_fast (by decide +kernel)
theorem zextend (Z : ZipSep2 z TI TO i1 i2 fp1 fp2) (D1 : Draws prog w A.in1.in1 i1 fp1 n P1 St1) (D2 : Draws prog w A.in1.in1 i2 fp2 n P2 St2) (hlo : z < lo ∧ TO < lo ∧ i1 < lo ∧ i2 < lo ∧ S < lo)
    (a0 : S ≠ z) (a1 : S ≠ TI) (a2 : S ≠ TO) (a3 : S ∉ fp1) (a4 : S ∉ fp2) (hn : n ≤ sizeLine) (res : Value) (hst : ZSt z TI TO i1 i2 S St1 St2 0 s.heap) (hz : IsZip s.heap z TI TO .none) (c₀ : Nat) (hS : s.heap.get? S = some { cls := .type "list", data := .seq #[] c₀ }) (hlo2 : lo ≤ s.heap.objs.size)
    (hR : ∀ h' tk acc c as, (∀ b o, b ≠ S → b ≠ z → b ≠ TO → b ≠ i1 → b ≠ i2 → s.heap.get? b = some o → h'.get? b = some o) → h'.get? S = some { cls := .type "list", dict := none, data := .seq acc c, slots := #[] } → as.length = n → ZG P1 P2 lo h' as →
      acc.toList = as.map Value.ref → R (.ok (.ret res)) { s with heap := h', toks := tk }) :
    wpAny (model prog w) A.in1 (Builtin.List.listExtendWith (.ref S) (.ref z) res)
      (fun fin s' => match fin with | .done f => R (.ok f) s' | .again c' => c'.quiet = true ∧ codeAny (model prog w) A c' R s') (fun e s' => R (.error e) s') s := by
  have hT : s.TypeIs (.ref z) "zip" := ⟨_, hz, rfl⟩
  unfold Builtin.List.listExtendWith
  refine wpAny_bind (wpAny_typeOf (T := "zip") hT ?_)
  have h1 : Builtin.List.listSameRef (.ref S) (.ref z) = false := by simp [Builtin.List.listSameRef, a0]
  have h2 : (Value.type "zip" == Value.type "list") = false := by decide
  have h3 : (Value.type "zip" == Value.type "tuple") = false := by decide
  simp only [h1, h2, h3, Bool.or_false, Bool.false_eq_true, if_false]
  refine wpAny_bind (wpAny_pyIter_zip hz ?_)
  refine wpAny_bind (wpAny_holding ?_)
  unfold Builtin.List.listLengthHint
  refine wpAny_bind (wpAny_specialOf hT zip_no_len ?_)
  show wpAny _ A.in1 (specialOf (Value.ref z) (Str.ofString "__length_hint__") >>= _) _ _ _
  refine wpAny_bind (wpAny_specialOf hT zip_no_hint ?_)
  refine wpAny_pure ?_
  show wpAny _ A.in1 (rule "list.extend.makes-room" >>= fun _ => Builtin.List.listTouch (.ref S) >>= fun _ =>
    again (.builtin "list.extend.loop" ⟨[.ref S, .ref z, res], []⟩)) _ _ _
  refine wpAny_bind (wpAny_rule ?_)
  refine wpAny_bind ?_
  show wpAny _ _ (updateSeq S (·.push .none) >>= fun _ => updateSeq S (·.pop)) _ _ _
  refine wpAny_bind (wpAny_updateSeq hS rfl ?_)
  have hS₂ := Heap.get?_update_self (Obj.mapSeq (·.push Value.none)) hS rfl
  refine wpAny_updateSeq (hz := by seq_fits) hS₂ rfl ?_
  have hS₃ := Heap.get?_update_self (Obj.mapSeq (·.pop)) hS₂ rfl
  have oth : ∀ b o, b ≠ S → s.heap.get? b = some o → ((s.heap.update S (Obj.mapSeq (·.push Value.none))).update S (Obj.mapSeq (·.pop))).get? b = some o := fun b o hb e => (Heap.get?_update_other _ _ (Ne.symm hb)).trans ((Heap.get?_update_other _ _ (Ne.symm hb)).trans e)
  refine wpAny_pure ⟨plainId_quiet PySem.F.plain_extend_loop _, ?_⟩
  refine zloop (s := s) (h₁ := s.heap) Z D1 D2 hlo a0 a1 a2 a3 a4 hn res hR n 0 _ s.toks _ #[] [] rfl (Nat.zero_le _) (hst.keep D1 D2 oth a0 a1 a2 a3 a4) (fun b o hb _ _ _ _ e => oth b o hb e) hS₃ rfl rfl ⟨List.Pairwise.nil, (fun _ ha => nomatch ha), (fun j a hj => by simp at hj)⟩ ?_
  rw [Heap.size_update, Heap.size_update]
  exact hlo2
theorem zinit (Z : ZipSep2 z TI TO i1 i2 fp1 fp2) (D1 : Draws prog w A.in1.in1 i1 fp1 n P1 St1) (D2 : Draws prog w A.in1.in1 i2 fp2 n P2 St2) (hlo : z < lo ∧ TO < lo ∧ i1 < lo ∧ i2 < lo ∧ S < lo)
    (a0 : S ≠ z) (a1 : S ≠ TI) (a2 : S ≠ TO) (a3 : S ∉ fp1) (a4 : S ∉ fp2) (hn : n ≤ sizeLine) (hst : ZSt z TI TO i1 i2 S St1 St2 0 s.heap) (hz : IsZip s.heap z TI TO .none) (hS : s.heap.get? S = some { cls := .type "list", data := .seq #[] }) (hlo2 : lo ≤ s.heap.objs.size)
    (hR : ∀ h' tk acc c as, (∀ b o, b ≠ S → b ≠ z → b ≠ TO → b ≠ i1 → b ≠ i2 → s.heap.get? b = some o → h'.get? b = some o) → h'.get? S = some { cls := .type "list", dict := none, data := .seq acc c, slots := #[] } → as.length = n → ZG P1 P2 lo h' as →
      acc.toList = as.map Value.ref → R (.ok (.ret .none)) { s with heap := h', toks := tk }) :
    wpAny (model prog w) A.in1 (Builtin.«list.__init__» ⟨[.ref S, .ref z], []⟩)
      (fun fin s' => match fin with | .done f => R (.ok f) s' | .again c' => c'.quiet = true ∧ codeAny (model prog w) A c' R s') (fun e s' => R (.error e) s') s := by
  show wpAny _ _ (do let old ← Builtin.List.listItems (.ref S); Builtin.List.listUpdate (.ref S) (fun _ => #[]); letGo old.toList.reverse; Builtin.List.listExtendWith (.ref S) (.ref z) .none) _ _ s
  refine wpAny_bind ?_
  unfold Builtin.List.listItems
  refine wpAny_bind (wpAny_seqItems hS rfl (wpAny_pure ?_))
  show wpAny _ _ (updateSeq S (fun _ => #[]) >>= fun _ => letGo (#[] : Array Value).toList.reverse >>= fun _ => Builtin.List.listExtendWith (.ref S) (.ref z) .none) _ _ s
  refine wpAny_bind (wpAny_updateSeq hS rfl ?_)
  have hS₂ := Heap.get?_update_self (Obj.mapSeq (fun _ => (#[] : Array Value))) hS rfl
  have oth : ∀ b o, b ≠ S → s.heap.get? b = some o → (s.heap.update S (Obj.mapSeq (fun _ => (#[] : Array Value)))).get? b = some o :=
    fun b o hb e => (Heap.get?_update_other _ _ (Ne.symm hb)).trans e
  refine wpAny_bind (wpAny_letGo ?_)
  refine zextend (s := { s with heap := s.heap.update S (Obj.mapSeq (fun _ => (#[] : Array Value))) }) Z D1 D2 hlo a0 a1 a2 a3 a4 hn .none (hst.keep D1 D2 oth a0 a1 a2 a3 a4) (oth _ _ a0.symm hz) _ hS₂ (by show lo ≤ (s.heap.update S _).objs.size; rw [Heap.size_update]; exact hlo2) fun h' tk acc c as hk hS' hl hG hacc => ?_
  exact hR h' tk acc c as (fun b o h0 h1 h2 h3 h4 e => hk b o h0 h1 h2 h3 h4 (oth b o h0 e)) hS' hl hG hacc
end
section
variable {prog : Program} {w : World} {A : Around} {E : Value → Shared → Prop} {s : Shared} {z TI TO i1 i2 : Addr} {fp1 fp2 : List Addr} {n : Nat} {P1 P2 : Nat → Value → Prop} {St1 St2 : Nat → Heap → Prop}
/-- list(z), z a new zip object over two iterators with n items each -/
theorem zcall {Q : Value → Shared → Prop} (Z : ZipSep2 z TI TO i1 i2 fp1 fp2) (D1 : Draws prog w A.in1.in1.in1 i1 fp1 n P1 St1) (D2 : Draws prog w A.in1.in1.in1 i2 fp2 n P2 St2) (lt : z < s.heap.objs.size ∧ TO < s.heap.objs.size ∧ i1 < s.heap.objs.size ∧ i2 < s.heap.objs.size ∧ TI < s.heap.objs.size)
    (hf1 : ∀ b ∈ fp1, b < s.heap.objs.size) (hf2 : ∀ b ∈ fp2, b < s.heap.objs.size) (hn : n ≤ sizeLine) (hTI : IsTupOf2 s.heap TI (.ref i1) (.ref i2)) (st1 : St1 0 s.heap) (st2 : St2 0 s.heap) (hz : IsZip s.heap z TI TO .none) (hTO : ∃ a b, IsTupOf2 s.heap TO a b)
    (hQ : ∀ h' tk acc c as, (∀ b o, b ≠ z → b ≠ TO → b ≠ i1 → b ≠ i2 → s.heap.get? b = some o → h'.get? b = some o) → h'.get? s.heap.objs.size = some { cls := .type "list", dict := none, data := .seq acc c, slots := #[] } → as.length = n → ZG P1 P2 (s.heap.objs.size + 1) h' as →
      acc.toList = as.map Value.ref → Q (.ref s.heap.objs.size) { s with heap := h', toks := tk }) :
    wpAny (model prog w) A (call (.type "list") [.ref z]) Q E s := by
  obtain ⟨l0, l1, l2, l3, l4⟩ := lt
  refine callType_codes (Q₁ := fun obj s₁ => obj = .ref s.heap.objs.size ∧ s₁ = { s with heap := s.heap.push { cls := .type "list", data := .seq #[] } }) PySem.F.called_list (PySem.F.typeCall_list_1 _) PySem.F.entry_list_init
    (code_list_new _ ⟨rfl, rfl⟩) fun obj s₁ h₁ => ?_
  obtain ⟨rfl, rfl⟩ := h₁
  have hS : (s.heap.push { cls := .type "list", data := .seq #[] }).get? s.heap.objs.size = some { cls := .type "list", data := .seq #[] } := Heap.get?_push_size _ rfl
  have up : ∀ b o, s.heap.get? b = some o → (s.heap.push { cls := .type "list", data := .seq #[] }).get? b = some o := fun b o e => Heap.get?_push_of_some _ e
  obtain ⟨a, b, hTO⟩ := hTO
  refine ⟨⟨_, hS, rfl⟩, PySem.F.args_list_init_2 _ _, zinit (A := A.in1) (lo := s.heap.objs.size + 1) Z D1 D2 ⟨Nat.lt_succ_of_lt l0, Nat.lt_succ_of_lt l1, Nat.lt_succ_of_lt l2, Nat.lt_succ_of_lt l3, Nat.lt_succ_self _⟩ (Nat.ne_of_gt l0) (Nat.ne_of_gt l4) (Nat.ne_of_gt l1) (fun h => Nat.lt_irrefl _ (hf1 _ h)) (fun h => Nat.lt_irrefl _ (hf2 _ h)) hn
    ⟨up _ _ hTI, D1.frame _ _ _ st1 fun b _ o e => up b o e, D2.frame _ _ _ st2 fun b _ o e => up b o e, .inl ⟨up _ _ hz, a, b, up _ _ hTO⟩⟩ (up _ _ hz) hS (by show s.heap.objs.size + 1 ≤ (s.heap.push _).objs.size; rw [Heap.size_push]; exact Nat.le_refl _) fun h' tk acc c as hk hS' hl hG hacc => ?_⟩
  exact ⟨rfl, hQ h' tk acc c as (fun b o h1 h2 h3 h4 e => hk b o (Nat.ne_of_lt (Heap.lt_size e)) h1 h2 h3 h4 (up b o e)) hS' hl hG hacc⟩
end
end Lz

namespace PySem
open PySem.Spec PyProof.Rows PySem.Calls
abbrev rzT (h : Heap) (o1 : Obj) (r : Addr) : Heap := (h.push o1).push { cls := .type "tuple", data := .seq #[.ref h.objs.size, .ref r] }
abbrev rzO (h : Heap) (o1 : Obj) (r : Addr) : Heap := (rzT h o1 r).push { cls := .type "tuple", data := .seq #[.none, .none] }
abbrev rzZ (h : Heap) (o1 : Obj) (r : Addr) : Heap := (rzO h o1 r).push { cls := .type "zip", data := .fields #[.none, .bool false, .bool false, .ref (h.push o1).objs.size, .ref (rzT h o1 r).objs.size] }
theorem meets_zip_newR {v1 : Value} {r l2 : Addr} {k : Int} {o1 : Obj} {H1 : Heap → Prop} (B1 : Begins v1 o1 H1) :
    Meets (Builtin.«zip.__new__» ⟨[.type "zip", v1, .ref r], []⟩) (fun _ R s => (H1 s.heap ∧ s.heap.IsRevIter r l2 k) ∧
      R (.ok (.ret (.ref (rzO s.heap o1 r).objs.size))) { s with heap := rzZ s.heap o1 r }) :=
  .of_wp fun prog w A R s h => by
    obtain ⟨hp, g, d, tk, os⟩ := s; obtain ⟨⟨h1, h2⟩, h⟩ := h
    have hsub := sub_zip
    have q1 : ∀ {A' : Around} {E : Value → Shared → Prop} {Q : Value → Shared → Prop}, Q (.ref hp.objs.size) ⟨(hp.push o1), g, d, tk, os⟩ → wpAny (model prog w) A' (pyIter v1) Q E ⟨hp, g, d, tk, os⟩ :=
      fun q => B1.iter prog w _ _ ⟨hp, g, d, tk, os⟩ _ (B1.keeps _ _ h1 fun b o' e => e) q
    have q2 : ∀ {A' : Around} {E : Value → Shared → Prop} {Q : Value → Shared → Prop}, Q (.ref r) ⟨(hp.push o1), g, d, tk, os⟩ → wpAny (model prog w) A' (pyIter (.ref r)) Q E ⟨(hp.push o1), g, d, tk, os⟩ :=
      fun q => wpAny_pyIter_revIter (s := ⟨(hp.push o1), g, d, tk, os⟩) (l := l2) (i := k) (h2.at fun o e => Heap.get?_push_of_some _ e) q
    wp_walk using q1, q2
    exact ⟨_, rfl, h⟩
section
variable {prog : Program} {w : World} {A : Around} {E : Value → Shared → Prop} {s : Shared}
theorem zip_beginsR {v1 : Value} {r l2 : Addr} {k : Int} {o1 : Obj} {H1 : Heap → Prop} {Q : Value → Shared → Prop} (B1 : Begins v1 o1 H1) (h1 : H1 s.heap) (h2 : s.heap.IsRevIter r l2 k)
    (h : ∀ h', IsZip h' (s.heap.objs.size + 3) (s.heap.objs.size + 1) (s.heap.objs.size + 2) .none → IsTupOf2 h' (s.heap.objs.size + 1) (.ref s.heap.objs.size) (.ref r) →
      IsTupOf2 h' (s.heap.objs.size + 2) .none .none → h'.get? s.heap.objs.size = some o1 → h'.objs.size = s.heap.objs.size + 4 →
      (∀ c o, s.heap.get? c = some o → h'.get? c = some o) → Q (.ref (s.heap.objs.size + 3)) { s with heap := h' }) :
    wpAny (model prog w) A (call (.type "zip") [v1, .ref r]) Q E s := by
  refine callType_new F.called_zip (by decide) (F.typeCall_zip_2 _ _) (F.newCall_zip_2 _ _) (fun obj => F.args_object_init_3 obj _ _) F.entry_zip_new
    (meets_zip_newR (k := k) B1) ⟨⟨h1, h2⟩, ?_⟩
  have z1 : (s.heap.push o1).objs.size = s.heap.objs.size + 1 := by rw [Heap.size_push]
  have zT : (rzT s.heap o1 r).objs.size = s.heap.objs.size + 2 := by rw [Heap.size_push, z1]
  have zO : (rzO s.heap o1 r).objs.size = s.heap.objs.size + 3 := by rw [Heap.size_push, zT]
  have zZ : (rzZ s.heap o1 r).objs.size = s.heap.objs.size + 4 := by rw [Heap.size_push, zO]
  have gZ : (rzZ s.heap o1 r).get? (rzO s.heap o1 r).objs.size = some { cls := .type "zip", data := .fields #[.none, .bool false, .bool false, .ref (s.heap.push o1).objs.size, .ref (rzT s.heap o1 r).objs.size] } := Heap.get?_push_size _ rfl
  have gO : (rzZ s.heap o1 r).get? (rzT s.heap o1 r).objs.size = some { cls := .type "tuple", data := .seq #[.none, .none] } := Heap.get?_push_of_some _ (Heap.get?_push_size _ rfl)
  have gT : (rzZ s.heap o1 r).get? (s.heap.push o1).objs.size = some { cls := .type "tuple", data := .seq #[.ref s.heap.objs.size, .ref r] } := Heap.get?_push_of_some _ (Heap.get?_push_of_some _ (Heap.get?_push_size _ rfl))
  have g1 : (rzZ s.heap o1 r).get? s.heap.objs.size = some o1 := Heap.get?_push_of_some _ (Heap.get?_push_of_some _ (Heap.get?_push_of_some _ (Heap.get?_push_size _ B1.free)))
  rw [zO, zT, z1] at gZ
  rw [zT] at gO
  rw [z1] at gT
  show _ ∧ _
  rw [zO]
  exact ⟨⟨_, gZ, rfl⟩, h _ gZ gT gO g1 zZ fun c o e => Heap.get?_push_of_some _ (Heap.get?_push_of_some _ (Heap.get?_push_of_some _ (Heap.get?_push_of_some _ e)))⟩
end
end PySem
namespace Lx
open PySem PySem.Spec PyProof.Rows L2
/-- the tuples tracked at their addresses -/
def putP : Hp → List Addr → List (V × V) → Hp
  | H, a :: as, p :: ps => putP (upd H a (.tup [p.1, p.2])) as ps
  | H, _, _ => H
theorem putP_off {b : Addr} : ∀ (as : List Addr) (ps : List (V × V)) (H : Hp), b ∉ as → putP H as ps b = H b
  | [], _, _, _ => rfl
  | _ :: _, [], _, _ => rfl
  | a :: as, p :: ps, H, h => by
    show putP (upd H a (.tup [p.1, p.2])) as ps b = H b
    rw [putP_off as ps _ (fun z => h (List.mem_cons_of_mem _ z)), upd_ne (fun z => h (by rw [z]; exact List.mem_cons_self))]
theorem putP_at : ∀ (as : List Addr) (ps : List (V × V)) (H : Hp), as.length = ps.length → as.Nodup → ∀ (i : Nat) (t : Addr) (p : V × V), as[i]? = some t → ps[i]? = some p → putP H as ps t = some (.tup [p.1, p.2])
  | [], _, _, _, _, i, t, p, h, _ => by simp at h
  | _ :: _, [], _, h, _, _, _, _, _, _ => by cases h
  | a :: as, q :: ps, H, h, hn, i, t, p, h1, h2 => by
    have hn' := List.nodup_cons.mp hn
    cases i with
    | zero =>
      cases h1; cases h2
      show putP (upd H a (.tup [q.1, q.2])) as ps a = _
      rw [putP_off as ps _ hn'.1, upd_same]
    | succ i => exact putP_at as ps (upd H a (.tup [q.1, q.2])) (Nat.succ.inj h) hn'.2 i t p h1 h2
def tListZip (K : PySem.W.Frag) (rv : Bool) (ta : TA) : TE := fun σ H Q => ta σ H fun vs H1 => ∃ (a b : Addr) (xs ys : List V), vs = [.ref a, .ref b] ∧ SqL K H1 a xs ∧ SqL K H1 b ys ∧ xs.length = ys.length ∧
  ∀ (H' : Hp) (p : Addr) (ts : List Addr), Same H1 H' → H1 p = none → (∀ t ∈ ts, H1 t = none) → p ∉ ts → ts.Nodup → H' p = some (.lst (ts.map V.ref)) → ts.length = xs.length →
    (∀ (i : Nat) (t : Addr) (x y : V), ts[i]? = some t → xs[i]? = some x → (if rv then ys.reverse else ys)[i]? = some y → H' t = some (.tup [x, y])) → Q (.ref p) H'
section
variable {X : Cx}
theorem zip_laid {pins : List (Addr × Obj)} {σ : L2.St} {H : Hp} {s : Shared} {h' : Heap} {tk : Nat} {xs ys : List V} {us ws : List Value} {acc : Array Value} {c : Nat} {as : List Addr} {N : Addr} (I : Inv X pins σ H s) (hz : xs.length ≤ sizeLine) (r1 : Vals xs us) (r2 : Vals ys ws) (hxy : xs.length = ys.length)
    (hk : ∀ b o, s.heap.get? b = some o → h'.get? b = some o) (hN : s.heap.objs.size ≤ N) (hS : h'.get? N = some { cls := .type "list", dict := none, data := .seq acc c, slots := #[] }) (hG : Lz.ZG (fun i v => us[i]? = some v) (fun i v => ws[i]? = some v) (N + 1) h' as) (hl : as.length = xs.length) (hacc : acc.toList = as.map Value.ref) :
    ∃ H' : Hp, Same H H' ∧ H N = none ∧ (∀ t ∈ as, H t = none) ∧ N ∉ as ∧ as.Nodup ∧ H' N = some (.lst (as.map V.ref)) ∧ (∀ (i : Nat) (t : Addr) (x y : V), as[i]? = some t → xs[i]? = some x → ys[i]? = some y → H' t = some (.tup [x, y])) ∧ Inv X pins σ H' { s with heap := h', toks := tk } := by
  have hSn : N ∉ as := fun z => Nat.lt_irrefl _ (hG.above _ z)
  have nd : as.Nodup := List.Pairwise.imp (fun {a b} (h : a < b) => Nat.ne_of_lt h) hG.rise
  have new : ∀ t ∈ as, H t = none := fun t ht => I.hok.fresh (Nat.le_trans hN (Nat.le_of_lt (hG.above t ht)))
  have newS : H N = none := I.hok.fresh hN
  have lz : (xs.zip ys).length = xs.length := by rw [List.length_zip, ← hxy, Nat.min_self]
  have atP := putP_at as (xs.zip ys) (upd H N (.lst (as.map V.ref))) (by rw [lz]; exact hl) nd
  have off : ∀ b, b ∉ as → b ≠ N → putP (upd H N (.lst (as.map V.ref))) as (xs.zip ys) b = H b := fun b h1 h2 => by rw [putP_off as _ _ h1, upd_ne h2]
  have low : ∀ b o, s.heap.get? b = some o → b ∉ as ∧ b ≠ N := fun b o e => ⟨fun z => absurd (Heap.lt_size e) (Nat.not_lt.mpr (Nat.le_trans hN (Nat.le_of_lt (hG.above b z)))), Nat.ne_of_lt (Nat.lt_of_lt_of_le (Heap.lt_size e) hN)⟩
  have kp : ∀ b u, H b = some u → (putP (upd H N (.lst (as.map V.ref))) as (xs.zip ys)) b = some u := fun b u e => by
    rw [off b (fun z => by rw [new b z] at e; cases e) (fun z => by rw [z, newS] at e; cases e)]
    exact e
  have eS : putP (upd H N (.lst (as.map V.ref))) as (xs.zip ys) N = some (.lst (as.map V.ref)) := by rw [putP_off as _ _ hSn, upd_same]
  have zget : ∀ (i : Nat) (x y : V), xs[i]? = some x → ys[i]? = some y → (xs.zip ys)[i]? = some (x, y) := fun i x y e1 e2 => by
    rw [List.getElem?_zip_eq_some]
    exact ⟨e1, e2⟩
  refine ⟨putP (upd H N (.lst (as.map V.ref))) as (xs.zip ys), kp, newS, new, hSn, nd, eS, fun i t x y e1 e2 e3 => atP i t (x, y) e1 (zget i x y e2 e3), ?_⟩
  refine I.call' (ch := []) rfl ⟨fun b o q _ _ _ => hk b o q, fun b o q _ _ _ => ⟨o.slots, hk b o q⟩, fun b o q n _ => ?_, fun b o q _ => ⟨o, hk b o q⟩, fun b xs q => kp b _ q, fun b o u q => kp b _ q, fun b ps q => ⟨#[], by rw [kp b _ q]; simp⟩⟩ (fun b u q => ?_) I.bare fun b z => by simp at z
  · obtain ⟨z1, z2⟩ := low b o q
    rw [off b z1 z2]
    exact n
  · by_cases hb : b ∈ as
    · obtain ⟨j, e1⟩ := List.mem_iff_getElem?.mp hb
      have hj : j < xs.length := by rw [← hl]; exact (List.getElem?_eq_some_iff.mp e1).1
      have ex := List.getElem?_eq_getElem hj
      have ey := List.getElem?_eq_getElem (show j < ys.length by omega)
      have e3 := atP j b _ e1 (zget j _ _ ex ey)
      rw [e3] at q
      cases q
      obtain ⟨u1, u2, f1, f2, f3⟩ := hG.pairs j b e1
      obtain ⟨v1, g1, rv1⟩ := r1.get ex
      obtain ⟨v2, g2, rv2⟩ := r2.get ey
      rw [f1] at g1; cases g1
      rw [f2] at g2; cases g2
      exact ⟨by show 2 ≤ sizeLine; decide, [u1, u2], .cons rv1 (.cons rv2 .nil), ⟨_, f3, rfl, _, rfl⟩⟩
    · by_cases hb2 : b = N
      · rw [hb2] at q ⊢
        rw [eS] at q
        cases q
        refine ⟨by rw [List.length_map]; omega, acc.toList, c, by rw [hacc]; exact LiI.vals_refs as, ?_⟩
        rw [Array.toArray_toList]
        exact hS
      · rw [off b hb hb2] at q
        exact (I.hok b u q).stay (fun d v _ y => hk d v y) (fun d y => kp d _ y) fun d xs y => kp d _ y
/-- list(zip(e, e2)) of two lists of one length -/
theorem pe_listZip (K : PySem.W.Frag) {e e2 : Expr} {ta : TA} {p p2 q pos : Pos} (hc : X.calm = true) (hg : Gl X "list") (hm : X.mg "list" = none) (hg2 : Gl X "zip") (hm2 : X.mg "zip" = none) (ha : PA X [e, e2] ta) (hK : X.K = K := by rfl)
    (hs : starEach [e, e2] X.env = (false, eval e X.env) :: starEach [e2] X.env := by rfl) (hpl : (backTo q (starEach [e2] X.env)).any (·.1) = false := by rfl)
    (na : starEach [.Call (.Name "zip" p2) [e, e2] [] q] X.env = (false, eval (.Call (.Name "zip" p2) [e, e2] [] q) X.env) :: starEach [] X.env := by rfl) : PE X (.Call (.Name "list" p) [.Call (.Name "zip" p2) [e, e2] [] q] [] pos) (tListZip K false ta) := by
  subst hK
  refine ⟨fun pins s σ H Q I h => ?_⟩
  refine Call_ (ld_blt I hg hm boot_list (PyProof.Rows.callWith_type1 (PyProof.Rows.args_cons (Call_ (ld_blt I hg2 hm2 PyProof.Rows.boot_zip (PyProof.Rows.callWith_type1 (thn (ha.run q pins s σ H _ I h) fun us s1 ⟨vs, H1, I1, r1, q1⟩ => ?_) hs hpl))) na) na rfl))
  obtain ⟨a, b, xs, ys, ex, hqx, hqy, hxy, q1⟩ := q1
  subst ex
  cases r1 with
  | cons r rr =>
    cases rr with
    | cons r' rr =>
      cases rr
      cases r
      cases r'
      obtain ⟨its, rv, p1, hz1⟩ := I1.list hqx
      obtain ⟨its2, rv2, p3, hz2⟩ := I1.list hqy
      refine call_zip_2 p1.isList p3.isList fun h' hz hTI hTO h1 h2 hsz hk => PyProof.Rows.args_nil ?_
      have la := p1.lt
      have lb := p3.lt
      have hn := rv.length
      have hn2 := rv2.length
      have hh := I1.ok.hd hc
      have e1 : its.toArray.size = xs.length := by rw [List.size_toArray]; exact hn.symm
      have e2 : its2.toArray.size = xs.length := by rw [List.size_toArray]; omega
      have D1 := Draws.list (prog := X.prog) (w := X.w) (A := X.A.in1.in1.in1) hh s1.heap.objs.size a (Nat.ne_of_lt la) its.toArray
      have D2 := Draws.list (prog := X.prog) (w := X.w) (A := X.A.in1.in1.in1) hh (s1.heap.objs.size + 1) b (Nat.ne_of_lt (Nat.lt_succ_of_lt lb)) its2.toArray
      rw [e1] at D1
      rw [e2] at D2
      have S := zip_sep2 (N := s1.heap.objs.size) (fp1 := [a]) (fp2 := [b]) (fun c hc => by rw [List.mem_singleton.mp hc]; exact la) (fun c hc => by rw [List.mem_singleton.mp hc]; exact lb)
      have up : ∀ m, m < 5 → s1.heap.objs.size + m < h'.objs.size := fun m hm => by rw [hsz]; exact Nat.add_lt_add_left hm _
      refine Lz.zcall (s := { s1 with heap := h' }) S D1 D2 ⟨up 4 (by decide), up 3 (by decide), up 0 (by decide), up 1 (by decide), up 2 (by decide)⟩ (fun c hc => ?_) (fun c hc => ?_) (by omega) hTI ⟨h1, p1.isList.at fun o e => hk _ o e⟩ ⟨h2, p3.isList.at fun o e => hk _ o e⟩ hz ⟨_, _, hTO⟩ fun h2' tk acc c as hk2 hS hl hG hacc => ?_
      · rcases List.mem_cons.mp hc with z | z
        · rw [z]; exact up 0 (by decide)
        · rw [List.mem_singleton.mp z]; exact Nat.lt_trans la (up 0 (by decide))
      · rcases List.mem_cons.mp hc with z | z
        · rw [z]; exact up 1 (by decide)
        · rw [List.mem_singleton.mp z]; exact Nat.lt_trans lb (up 0 (by decide))
      · have keep : ∀ b o, s1.heap.get? b = some o → h2'.get? b = some o := fun b o e => by
          have l := Heap.lt_size e
          exact hk2 b o (Nat.ne_of_lt (Nat.lt_add_right 4 l)) (Nat.ne_of_lt (Nat.lt_add_right 3 l)) (Nat.ne_of_lt l) (Nat.ne_of_lt (Nat.lt_add_right 1 l)) (hk b o e)
        have hG2 : Lz.ZG (fun i v => its[i]? = some v) (fun i v => its2[i]? = some v) (h'.objs.size + 1) h2' as := ⟨hG.rise, hG.above, fun j a hj => by
          obtain ⟨x, y, z1, z2, z3⟩ := hG.pairs j a hj
          exact ⟨x, y, by simpa using z1, by simpa using z2, z3⟩⟩
        obtain ⟨H', z1, z2, z3, z4, z5, z6, z7, J⟩ := zip_laid (tk := tk) I1 hz1 rv rv2 hxy keep (show s1.heap.objs.size ≤ h'.objs.size by rw [hsz]; exact Nat.le_add_right _ _) hS hG2 hl hacc
        exact ⟨.ref _, H', J, rfl, q1 H' _ as z1 z2 z3 z4 z5 z6 hl z7⟩
theorem apart {N a b : Nat} (h : a ≠ b) : N + a ≠ N + b := by omega
def tListZipR (K : PySem.W.Frag) (te tb : TE) : TE := fun σ H Q => te σ H fun x H1 => tb σ H1 fun y H2 => ∃ (a b : Addr) (xs ys : List V), x = .ref a ∧ y = .ref b ∧ SqL K H2 a xs ∧ SqL K H2 b ys ∧ xs.length = ys.length ∧
  ∀ (H' : Hp) (p : Addr) (ts : List Addr), Same H2 H' → H2 p = none → (∀ t ∈ ts, H2 t = none) → p ∉ ts → ts.Nodup → H' p = some (.lst (ts.map V.ref)) → ts.length = xs.length →
    (∀ (i : Nat) (t : Addr) (x y : V), ts[i]? = some t → xs[i]? = some x → ys.reverse[i]? = some y → H' t = some (.tup [x, y])) → Q (.ref p) H'
/-- list(zip(e, reversed(e2))) of two lists of one length -/
theorem pe_listZipR (K : PySem.W.Frag) {e e2 : Expr} {te tb : TE} {p p2 p3 q q2 pos : Pos} (hc : X.calm = true) (hg : Gl X "list") (hm : X.mg "list" = none) (hg2 : Gl X "zip") (hm2 : X.mg "zip" = none) (hg3 : Gl X "reversed") (hm3 : X.mg "reversed" = none) (he : PE X e te) (hb : PE X e2 tb) (hK : X.K = K := by rfl)
    (hs3 : starEach [e2] X.env = (false, eval e2 X.env) :: starEach [] X.env := by rfl)
    (hs2 : starEach [.Call (.Name "reversed" p3) [e2] [] q2] X.env = (false, eval (.Call (.Name "reversed" p3) [e2] [] q2) X.env) :: starEach [] X.env := by rfl)
    (hs : starEach [e, .Call (.Name "reversed" p3) [e2] [] q2] X.env = (false, eval e X.env) :: starEach [.Call (.Name "reversed" p3) [e2] [] q2] X.env := by rfl) (hpl : (backTo q (starEach [.Call (.Name "reversed" p3) [e2] [] q2] X.env)).any (·.1) = false := by rfl)
    (na : starEach [.Call (.Name "zip" p2) [e, .Call (.Name "reversed" p3) [e2] [] q2] [] q] X.env = (false, eval (.Call (.Name "zip" p2) [e, .Call (.Name "reversed" p3) [e2] [] q2] [] q) X.env) :: starEach [] X.env := by rfl) :
    PE X (.Call (.Name "list" p) [.Call (.Name "zip" p2) [e, .Call (.Name "reversed" p3) [e2] [] q2] [] q] [] pos) (tListZipR K te tb) := by
  subst hK
  refine ⟨fun pins s σ H Q I h => ?_⟩
  refine Call_ (ld_blt I hg hm boot_list (PyProof.Rows.callWith_type1 (PyProof.Rows.args_cons (Call_ (ld_blt I hg2 hm2 PyProof.Rows.boot_zip (PyProof.Rows.callWith_type1 (PyProof.Rows.args_cons (thn (he.run pins s σ H _ I h) fun u s0 ⟨x, H0, I0, r0, q0⟩ => ?_) hs) hs hpl))) na) na rfl))
  refine PyProof.Rows.args_cons (Call_ (ld_blt I0 hg3 hm3 PyProof.Rows.boot_reversed (PyProof.Rows.callWith_type1 (PyProof.Rows.args_cons (thn (hb.run pins s0 σ H0 _ I0 q0) fun u2 s1 ⟨y, H1, I1, r1, q1⟩ => PyProof.Rows.args_nil ?_) hs3) hs3 rfl))) hs2
  obtain ⟨a, b, xs, ys, ex, ey, hqx, hqy, hxy, q1⟩ := q1
  subst ex; subst ey
  obtain rfl : u = Value.ref a := r0
  obtain rfl : u2 = Value.ref b := r1
  obtain ⟨its, rv, p1, hz1⟩ := I1.list hqx
  obtain ⟨its2, rv2, p3, hz2⟩ := I1.list hqy
  refine call_reversed_list p3.isList (PyProof.Rows.args_nil ?_)
  have k0 : ∀ b' o, s1.heap.get? b' = some o → (s1.heap.push (revObj b ((its2.toArray.size : Int) - 1))).get? b' = some o := fun b' o e => Heap.get?_push_of_some _ e
  have la := p1.lt
  have lb := p3.lt
  have hrev : (s1.heap.push (revObj b ((its2.toArray.size : Int) - 1))).IsRevIter s1.heap.objs.size b ((its2.toArray.size : Int) - 1) := ⟨_, Heap.get?_push_size _ rfl, rfl, rfl⟩
  refine zip_beginsR (s := { s1 with heap := s1.heap.push (revObj b ((its2.toArray.size : Int) - 1)) }) (begins_list a its.toArray) (p1.isList.at fun o e => k0 _ o e) hrev fun h' hz hTI hTO h1 hsz hk => PyProof.Rows.args_nil ?_
  have zs : (s1.heap.push (revObj b ((its2.toArray.size : Int) - 1))).objs.size = s1.heap.objs.size + 1 := by rw [Heap.size_push]
  dsimp only at hz hTI hTO h1 hsz hk ⊢
  rw [zs] at hz hTI hTO h1 hsz ⊢
  have hn := rv.length
  have hn2 := rv2.length
  have hh := I1.ok.hd hc
  have e1 : its.toArray.size = xs.length := by rw [List.size_toArray]; exact hn.symm
  have e2 : its2.toArray.size = xs.length := by rw [List.size_toArray]; omega
  have hk0 : ∀ c o, s1.heap.get? c = some o → h'.get? c = some o := fun c o e => hk c o (k0 c o e)
  have D1 := Draws.list (prog := X.prog) (w := X.w) (A := X.A.in1.in1.in1) hh (s1.heap.objs.size + 1) a (Nat.ne_of_lt (Nat.lt_succ_of_lt la)) its.toArray
  have D2 := Lz.drawsRev (prog := X.prog) (w := X.w) (A := X.A.in1.in1.in1) hh s1.heap.objs.size b (Nat.ne_of_lt lb) its2.toArray
  have st2 : (0 : Nat) ≤ its2.toArray.size ∧ h'.IsRevIter s1.heap.objs.size b ((its2.toArray.size : Int) - 1 - ((0 : Nat) : Int)) ∧ h'.IsList b its2.toArray := ⟨Nat.zero_le _, by rw [show (its2.toArray.size : Int) - 1 - ((0 : Nat) : Int) = (its2.toArray.size : Int) - 1 by omega]; exact hrev.at fun o e => hk _ o e, p3.isList.at fun o e => hk0 _ o e⟩
  rw [e1] at D1
  rw [e2] at D2 st2
  have ltN : ∀ {c m : Nat}, c < s1.heap.objs.size → c ≠ s1.heap.objs.size + m := fun h => Nat.ne_of_lt (Nat.lt_add_right _ h)
  have S : ZipSep2 (s1.heap.objs.size + 1 + 3) (s1.heap.objs.size + 1 + 1) (s1.heap.objs.size + 1 + 2) (s1.heap.objs.size + 1) s1.heap.objs.size [s1.heap.objs.size + 1, a] [s1.heap.objs.size, b] := by
    have ka : ∀ m : Nat, s1.heap.objs.size + m ≠ a := fun m => Nat.ne_of_gt (Nat.lt_add_right m la)
    have kb : ∀ m : Nat, s1.heap.objs.size + m ≠ b := fun m => Nat.ne_of_gt (Nat.lt_add_right m lb)
    refine ⟨?_, ?_, ?_, ?_, by simp, ?_, ?_, ?_, by simp, ?_, ?_, ?_, ?_⟩
    · exact (apart (N := s1.heap.objs.size) (a := 2) (b := 4) (by decide))
    · exact (apart (N := s1.heap.objs.size) (a := 3) (b := 4) (by decide))
    · exact (apart (N := s1.heap.objs.size) (a := 2) (b := 3) (by decide))
    · exact (apart (N := s1.heap.objs.size) (a := 2) (b := 1) (by decide))
    · simp only [List.mem_cons, List.not_mem_nil, or_false, not_or]; exact ⟨(apart (N := s1.heap.objs.size) (a := 4) (b := 1) (by decide)), ka 4⟩
    · simp only [List.mem_cons, List.not_mem_nil, or_false, not_or]; exact ⟨(apart (N := s1.heap.objs.size) (a := 3) (b := 1) (by decide)), ka 3⟩
    · exact (apart (N := s1.heap.objs.size) (a := 2) (b := 0) (by decide))
    · simp only [List.mem_cons, List.not_mem_nil, or_false, not_or]; exact ⟨(apart (N := s1.heap.objs.size) (a := 4) (b := 0) (by decide)), kb 4⟩
    · simp only [List.mem_cons, List.not_mem_nil, or_false, not_or]; exact ⟨(apart (N := s1.heap.objs.size) (a := 3) (b := 0) (by decide)), kb 3⟩
    · simp only [List.mem_cons, List.not_mem_nil, or_false, not_or]; exact ⟨(apart (N := s1.heap.objs.size) (a := 1) (b := 0) (by decide)), kb 1⟩
    · simp only [List.mem_cons, List.not_mem_nil, or_false, not_or]; exact ⟨(apart (N := s1.heap.objs.size) (a := 0) (b := 1) (by decide)), ka 0⟩
  have up : ∀ m, m < 5 → s1.heap.objs.size + m < h'.objs.size := fun m hm => by rw [hsz]; show s1.heap.objs.size + m < s1.heap.objs.size + 1 + 4; omega
  refine Lz.zcall (s := { s1 with heap := h' }) S D1 D2 ⟨up 4 (by decide), up 3 (by decide), up 1 (by decide), up 0 (by decide), up 2 (by decide)⟩ (fun c hc => ?_) (fun c hc => ?_) (by omega) hTI ⟨⟨_, h1, rfl, rfl⟩, p1.isList.at fun o e => hk0 _ o e⟩ st2 hz ⟨_, _, hTO⟩ fun h2' tk acc c as hk2 hS hl hG hacc => ?_
  · rcases List.mem_cons.mp hc with z | z
    · rw [z]; exact up 1 (by decide)
    · rw [List.mem_singleton.mp z]; exact Nat.lt_trans la (up 0 (by decide))
  · rcases List.mem_cons.mp hc with z | z
    · rw [z]; exact up 0 (by decide)
    · rw [List.mem_singleton.mp z]; exact Nat.lt_trans lb (up 0 (by decide))
  · have keep : ∀ b o, s1.heap.get? b = some o → h2'.get? b = some o := fun b o e => by
      have l := Heap.lt_size e
      exact hk2 b o (ltN (m := 4) l) (ltN (m := 3) l) (ltN (m := 1) l) (Nat.ne_of_lt l) (hk0 b o e)
    have hG2 : Lz.ZG (fun i v => its[i]? = some v) (fun i v => its2.reverse[i]? = some v) (h'.objs.size + 1) h2' as := ⟨hG.rise, hG.above, fun j a hj => by
      obtain ⟨x, y, z1, z2, z3⟩ := hG.pairs j a hj
      have jl : j < its2.length := by
        have : j < as.length := (List.getElem?_eq_some_iff.mp hj).1
        omega
      refine ⟨x, y, by simpa using z1, ?_, z3⟩
      rw [List.getElem?_reverse jl]
      have z2' : its2.toArray[xs.length - 1 - j]? = some y := z2
      rw [show its2.length = xs.length by omega]
      simpa using z2'⟩
    obtain ⟨H', z1, z2, z3, z4, z5, z6, z7, J⟩ := zip_laid (tk := tk) I1 hz1 rv rv2.reverse (by rw [List.length_reverse]; exact hxy) keep (show s1.heap.objs.size ≤ h'.objs.size by rw [hsz]; omega) hS hG2 hl hacc
    exact ⟨.ref _, H', J, rfl, q1 H' _ as z1 z2 z3 z4 z5 z6 hl z7⟩
end
end Lx

namespace Lx
open PySem PySem.Spec PyProof.Rows L2
/-! ### dicts with ints for keys -/
theorem hu1 {n : Nat} (h : n + 64 < cLine) : n + 1 < cLine := by omega
section
variable {σ : L2.St} {H : Hp} {Q : VK} {td ty tk tv : TE} {a : Addr} {kvs : List (Key × V)} {i : Int} {v : V}
theorem r_dget (h : td σ H fun x H1 => ty σ H1 fun y H2 => ∃ a v, x = .ref a ∧ DGet H2 a y (some v) ∧ Q v H2) : tDGet td ty σ H Q := h
theorem r_dgetI {R : V → Prop} (h : H a = some (.dK kvs)) (e : valV kvs (.inl i) = some v) (q : R v) : ∃ a' v, V.ref a = .ref a' ∧ DGet H a' (.int i) (some v) ∧ R v := ⟨a, v, rfl, e ▸ DGet.k (k := .inl i) h, q⟩
theorem r_din {ta : TE} {Q : VK} (h : ty σ H fun y H1 => td σ H1 fun x H2 => ∃ a o, x = .ref a ∧ DGet H2 a y o ∧ Q (.bl o.isSome) H2) : tDIn ty td σ H Q := h
theorem r_dinI {R : Bool → Prop} (h : H a = some (.dK kvs)) (q : R (valV kvs (.inl i)).isSome) : ∃ a' o, V.ref a = .ref a' ∧ DGet H a' (.int i) o ∧ R o.isSome := ⟨a, _, rfl, DGet.k (k := .inl i) h, q⟩
theorem r_dc {wi : TI} {g : TG} {tt : TT} {vs : List Nat} (h : wi σ H fun J H1 => ∀ D, H1 D = none → ∃ W : Nat → Nat → Hp → Prop, (∃ m, W 0 m (upd H1 D (.dK []))) ∧ ∀ i m H, W i m H →
  (J.stop i H ∧ Q (.ref D) H) ∨ (J.go i H ∧ ∃ Nx : Hp → Prop, (∀ H', Nx H' → ∃ m', m' < m ∧ W (i + 1) m' H') ∧ ∀ x H', J.yld i H x H' → g x (wipe σ vs) H' fun σ2 H2 => wipe σ2 vs = wipe σ vs ∧ tt σ2 H2 fun b H3 =>
    if b = true then tk σ2 H3 fun y H4 => tv σ2 H4 fun z H5 => ∃ kvs k, y = kV k ∧ H5 D = some (.dK kvs) ∧ kvs.length < sizeLine ∧ Nx (upd H5 D (.dK (putK kvs k z))) else Nx H3)) : tDc wi g tt tk tv vs σ H Q := h
end
/-- a dict from places to ints -/
def IsD (H : Hp) (a : Addr) (f : Int → Option Int) : Prop := ∃ kvs, H a = some (.dK kvs) ∧ kvs.length ≤ 100000 ∧ ∀ i, valV kvs (.inl i) = (f i).map V.int
theorem IsD.same {H H' : Hp} {a : Addr} {f : Int → Option Int} (h : IsD H a f) (s : Same H H') : IsD H' a f := by
  obtain ⟨kvs, h1, h2⟩ := h
  exact ⟨kvs, s _ _ h1, h2⟩
theorem IsD.kp {r : Addr} {H H' : Hp} {a : Addr} {f : Int → Option Int} (h : IsD H a f) (s : Kp r H H') (n : a ≠ r) : IsD H' a f := by
  obtain ⟨kvs, h1, h2⟩ := h
  exact ⟨kvs, s _ _ n h1, h2⟩
theorem IsD.get {H : Hp} {a : Addr} {f : Int → Option Int} {i j : Int} (h : IsD H a f) (e : f i = some j) {R : V → Prop} (q : R (.int j)) : ∃ a' v, V.ref a = .ref a' ∧ DGet H a' (.int i) (some v) ∧ R v := by
  obtain ⟨kvs, h1, _, h2⟩ := h
  exact r_dgetI h1 (by rw [h2, e]; rfl) q
theorem IsD.has {H : Hp} {a : Addr} {f : Int → Option Int} {i : Int} (h : IsD H a f) {R : Bool → Prop} (q : R (f i).isSome) : ∃ a' o, V.ref a = .ref a' ∧ DGet H a' (.int i) o ∧ R o.isSome := by
  obtain ⟨kvs, h1, _, h2⟩ := h
  refine r_dinI h1 ?_
  rw [h2, Option.isSome_map]
  exact q
/-- the first n of them, and what they hold -/
def numTo (ns : List Int) (m : Nat) : List (Key × V) := (List.range m).map fun j => (.inl (ns.getD j 0), .int (j : Nat))
theorem valV_num (ns : List Int) (m : Nat) (x : Int) : valV (numTo ns m) (.inl x) = ((List.range m).find? fun j => decide (ns.getD j 0 = x)).map fun j => V.int (j : Nat) := by
  unfold valV numTo
  rw [List.find?_map, Option.map_map]
  have e : ((fun kv : Key × V => decide (kv.1 = .inl x)) ∘ fun j : Nat => ((.inl (ns.getD j 0) : Key), V.int (j : Nat))) = fun j => decide (ns.getD j 0 = x) := by
    funext j
    show decide ((Sum.inl (ns.getD j 0) : Key) = .inl x) = _
    by_cases h : ns.getD j 0 = x
    · rw [decide_eq_true h, h]; exact decide_eq_true rfl
    · rw [decide_eq_false h]; exact decide_eq_false fun z => h (Sum.inl.inj z)
  rw [e]
  rfl
theorem getD_inj {ns : List Int} (hn : ns.Nodup) {i j : Nat} (hi : i < ns.length) (hj : j < ns.length) (h : ns.getD i 0 = ns.getD j 0) : i = j := by
  rw [List.getD_eq_getElem?_getD, List.getD_eq_getElem?_getD, List.getElem?_eq_getElem hi, List.getElem?_eq_getElem hj] at h
  exact (List.getElem_inj hn).mp h
theorem valV_numNone {ns : List Int} (hn : ns.Nodup) {m : Nat} (hm : m < ns.length) : valV (numTo ns m) (.inl (ns.getD m 0)) = none := by
  rw [valV_num]
  have : ((List.range m).find? fun j => decide (ns.getD j 0 = ns.getD m 0)) = none := by
    rw [List.find?_eq_none]
    intro j hj hd
    have hj' := List.mem_range.mp hj
    have := getD_inj hn (by omega) hm (of_decide_eq_true hd)
    omega
  rw [this]
  rfl
theorem numTo_succ {ns : List Int} (hn : ns.Nodup) {m : Nat} (hm : m < ns.length) : putK (numTo ns m) (.inl (ns.getD m 0)) (.int (m : Nat)) = numTo ns (m + 1) := by
  rw [putK_new _ (valV_numNone hn hm)]
  unfold numTo
  rw [List.range_succ, List.map_append]
  rfl
theorem numTo_len (ns : List Int) (m : Nat) : (numTo ns m).length = m := by unfold numTo; rw [List.length_map, List.length_range]
/-- where a place stands in a list -/
def ixO (ns : List Int) (x : Int) : Option Int := if x ∈ ns then some ((ns.idxOf x : Nat) : Int) else none
theorem valV_all {ns : List Int} (hn : ns.Nodup) (x : Int) : valV (numTo ns ns.length) (.inl x) = (ixO ns x).map V.int := by
  rw [valV_num]
  unfold ixO
  by_cases h : x ∈ ns
  · rw [if_pos h]
    have hl := List.idxOf_lt_length_of_mem h
    have hg : ns.getD (ns.idxOf x) 0 = x := by
      rw [List.getD_eq_getElem?_getD, List.getElem?_eq_getElem hl]
      exact List.getElem_idxOf _
    cases e : (List.range ns.length).find? fun j => decide (ns.getD j 0 = x) with
    | none => exact absurd (decide_eq_true hg) (List.find?_eq_none.mp e _ (List.mem_range.mpr hl))
    | some j =>
      have h1 : ns.getD j 0 = x := by have z := List.find?_some e; simpa using z
      have h2 := List.mem_range.mp (List.mem_of_find?_eq_some e)
      rw [getD_inj hn h2 hl (h1.trans hg.symm)]
      rfl
  · rw [if_neg h]
    cases e : (List.range ns.length).find? fun j => decide (ns.getD j 0 = x) with
    | none => rfl
    | some j =>
      have h1 : ns.getD j 0 = x := by have z := List.find?_some e; simpa using z
      have h2 := List.mem_range.mp (List.mem_of_find?_eq_some e)
      rw [List.getD_eq_getElem?_getD, List.getElem?_eq_getElem h2] at h1
      exact absurd (h1 ▸ List.getElem_mem h2) h
/-! ### reversed lists walked; lists of pairs -/
theorem r_iRev {σ : L2.St} {H : Hp} {X : Cx} {ta : TA} {R : It → Hp → Prop} (h : ta σ H fun vs H1 => ∃ (a : Addr) (xs : List V), vs = [.ref a] ∧ SqL X.K H1 a xs ∧ R (Itv X.K a xs.length) H1) : iRev X.K ta σ H R := h
theorem r_listZipR {σ : L2.St} {H : Hp} {K : PySem.W.Frag} {te tb : TE} {Q : VK} (h : te σ H fun x H1 => tb σ H1 fun y H2 => ∃ (a b : Addr) (xs ys : List V), x = .ref a ∧ y = .ref b ∧ SqL K H2 a xs ∧ SqL K H2 b ys ∧ xs.length = ys.length ∧
  ∀ (H' : Hp) (p : Addr) (ts : List Addr), Same H2 H' → H2 p = none → (∀ t ∈ ts, H2 t = none) → p ∉ ts → ts.Nodup → H' p = some (.lst (ts.map V.ref)) → ts.length = xs.length →
    (∀ (i : Nat) (t : Addr) (x y : V), ts[i]? = some t → xs[i]? = some x → ys.reverse[i]? = some y → H' t = some (.tup [x, y])) → Q (.ref p) H') : tListZipR K te tb σ H Q := h
theorem r_listZip {σ : L2.St} {H : Hp} {K : PySem.W.Frag} {ta : TA} {Q : VK} (h : ta σ H fun vs H1 => ∃ (a b : Addr) (xs ys : List V), vs = [.ref a, .ref b] ∧ SqL K H1 a xs ∧ SqL K H1 b ys ∧ xs.length = ys.length ∧
  ∀ (H' : Hp) (p : Addr) (ts : List Addr), Same H1 H' → H1 p = none → (∀ t ∈ ts, H1 t = none) → p ∉ ts → ts.Nodup → H' p = some (.lst (ts.map V.ref)) → ts.length = xs.length →
    (∀ (i : Nat) (t : Addr) (x y : V), ts[i]? = some t → xs[i]? = some x → ys[i]? = some y → H' t = some (.tup [x, y])) → Q (.ref p) H') : tListZip K false ta σ H Q := h
def dP (q : Int × Int) : PyData := .tuple [.int q.1, .int q.2]
/-- a list of pairs of ints, the pairs where G holds -/
structure PairsAt (G : Addr → Prop) (H : Hp) (p : Addr) (as : List Addr) (qs : List (Int × Int)) : Prop where
  hp : H p = some (.lst (as.map V.ref))
  len : as.length = qs.length
  it : ∀ (i : Nat) (a : Addr) (q : Int × Int), as[i]? = some a → qs[i]? = some q → H a = some (.tup [.int q.1, .int q.2]) ∧ G a
theorem PairsAt.same {G : Addr → Prop} {H H' : Hp} {p : Addr} {as : List Addr} {qs : List (Int × Int)} (h : PairsAt G H p as qs) (s : Same H H') : PairsAt G H' p as qs :=
  ⟨s _ _ h.hp, h.len, fun i a q e1 e2 => ⟨s _ _ (h.it i a q e1 e2).1, (h.it i a q e1 e2).2⟩⟩
theorem PairsAt.weak {G G' : Addr → Prop} {H : Hp} {p : Addr} {as : List Addr} {qs : List (Int × Int)} (h : PairsAt G H p as qs) (g : ∀ a, G a → G' a) : PairsAt G' H p as qs :=
  ⟨h.hp, h.len, fun i a q e1 e2 => ⟨(h.it i a q e1 e2).1, g _ (h.it i a q e1 e2).2⟩⟩
theorem PairsAt.kpl {L : List Addr} {G : Addr → Prop} {H H' : Hp} {p : Addr} {as : List Addr} {qs : List (Int × Int)} (h : PairsAt G H p as qs) (k : KpL L H H') (np : p ∉ L) (hG : ∀ a, G a → a ∉ L) : PairsAt G H' p as qs :=
  ⟨k _ _ np h.hp, h.len, fun i a q e1 e2 => ⟨k _ _ (hG _ (h.it i a q e1 e2).2) (h.it i a q e1 e2).1, (h.it i a q e1 e2).2⟩⟩
theorem PairsAt.at {G : Addr → Prop} {H : Hp} {p : Addr} {as : List Addr} {qs : List (Int × Int)} (h : PairsAt G H p as qs) {i : Nat} (hi : i < qs.length) : ∃ t, (as.map V.ref)[i]? = some (.ref t) ∧ H t = some (.tup [.int (qs[i]).1, .int (qs[i]).2]) ∧ G t := by
  have hi' : i < as.length := by rw [h.len]; exact hi
  have e := List.getElem?_eq_getElem hi'
  have e2 := List.getElem?_eq_getElem hi
  refine ⟨as[i], by rw [List.getElem?_map, e]; rfl, (h.it i _ _ e e2).1, (h.it i _ _ e e2).2⟩
theorem PairsAt.tr {G : Addr → Prop} {H : Hp} {p : Addr} {as : List Addr} {qs : List (Int × Int)} (h : PairsAt G H p as qs) (gp : G p) (hl : qs.length ≤ 100000) : Tr G H (.ref p) (.list (qs.map dP)) := by
  refine .lst h.hp gp (by rw [List.length_map, h.len]; exact hl) (TrAll.of (by rw [List.length_map, List.length_map, h.len]) fun i v d e1 e2 => ?_)
  rw [List.getElem?_map] at e1 e2
  cases ea : as[i]? with
  | none => rw [ea] at e1; cases e1
  | some a =>
    cases eq : qs[i]? with
    | none => rw [eq] at e2; cases e2
    | some q =>
      rw [ea] at e1
      rw [eq] at e2
      cases e1; cases e2
      have z := h.it i a q ea eq
      exact .tup z.1 z.2 (by show 2 ≤ 100000; decide) (.cons (.int _) (.cons (.int _) .nil))
theorem shows_dP {q : Int × Int} {k : Nat} (hk : 0 < k) (hk2 : k ≤ 250) (h0 : 0 ≤ q.1) (h1 : q.1 < 10 ^ k) (h2 : 0 ≤ q.2) (h3 : q.2 < 10 ^ k) : Shows (dP q) 1 (2 * (k + 2) + 3) :=
  shows_tup (n := 2) (fun d hd => by
    simp only [List.mem_cons, List.not_mem_nil, or_false] at hd
    rcases hd with rfl | rfl
    · exact shows_int hk hk2 h0 h1
    · exact shows_int hk hk2 h2 h3) (Nat.le_refl _)
end Lx

namespace Lx
open PySem PySem.Spec PyProof.Rows L2
/-! ### a text repeated -/
def strRep (z : Str) (n : Nat) : Str := ⟨(List.replicate n z.cps.toList).flatten.toArray⟩
theorem foldl_reps (a : Array Nat) : ∀ (n : Nat) (acc : Array Nat), (List.replicate n a).foldl (· ++ ·) acc = acc ++ (List.replicate n a.toList).flatten.toArray
  | 0, acc => by simp
  | n + 1, acc => by
    rw [List.replicate_succ, List.foldl_cons, foldl_reps a n (acc ++ a), List.replicate_succ, List.flatten_cons]
    rw [Array.append_assoc]
    congr 1
    apply Array.ext'
    simp
def rMulS : R2 := fun x y H Q => ∃ z k, x = .str z ∧ y = .int k ∧ -100000 ≤ k ∧ k ≤ 100000 ∧ z.length * k.toNat ≤ 100000 ∧ Q (.str (strRep z k.toNat)) H
theorem op_mulS {X : Cx} : OpR X (binaryOp .Mult) rMulS := by
  intro pins s σ H x y v u Q I rx ry h
  obtain ⟨z, k, rfl, rfl, h1, h2, h3, q⟩ := h
  obtain ⟨t, rfl⟩ := rx
  obtain ⟨t', rfl⟩ := ry
  refine P.mul_str ?_ ?_ ?_ ?_
  · rw [decide_eq_false (by omega), decide_eq_false (by omega)]; rfl
  · intro k1 k2
    have hp : (0 : Int) < k := by omega
    have : (100000 : Int) ≤ (2 ^ 63 - 1) / k := by
      rw [Int.le_ediv_iff_mul_le hp]
      have : 100000 * k ≤ 100000 * 100000 := by omega
      exact Int.le_trans this (by decide)
    have hz : (z.length : Int) ≤ 100000 := by
      have e : 1 ≤ k.toNat := by omega
      have := Nat.mul_le_mul_left z.length e
      omega
    omega
  · intro k1 k2
    show Builtin.Str.tooLong _ = false
    unfold Builtin.Str.tooLong
    refine decide_eq_false ?_
    have : (100000 : Nat) ≤ sizeLine := by decide
    omega
  · by_cases k1 : k < 1
    · rw [if_pos k1]
      have e : k.toNat = 0 := by omega
      rw [e] at q
      exact ⟨by decide, ⟨.str Str.empty, H, I.tok _, ⟨_, rfl⟩, q⟩⟩
    · rw [if_neg k1]
      by_cases k2 : (k == 1 || z.length == 0) = true
      · rw [if_pos k2]
        have e : strRep z k.toNat = z := by
          rcases Bool.or_eq_true _ _ ▸ k2 with k3 | k3
          · have : k = 1 := by simpa using k3
            subst this
            unfold strRep
            cases z
            simp
          · have hz : z.cps.size = 0 := by
              have : z.length = 0 := by simpa using k3
              exact this
            have hz2 : z.cps = #[] := Array.size_eq_zero_iff.mp hz
            unfold strRep
            cases z
            simp at hz2
            subst hz2
            simp
        rw [e] at q
        exact ⟨.str z, H, I, ⟨_, rfl⟩, q⟩
      · rw [if_neg k2]
        have e : (⟨(List.replicate k.toNat z.cps).foldl (· ++ ·) #[]⟩ : Str) = strRep z k.toNat := by
          unfold strRep
          rw [foldl_reps]
          simp
        rw [e]
        refine ⟨?_, ⟨.str (strRep z k.toNat), H, I.tok _, ⟨_, rfl⟩, q⟩⟩
        have : (strRep z k.toNat).length = z.length * k.toNat := by
          unfold strRep
          show ((List.replicate k.toNat z.cps.toList).flatten.toArray).size = z.cps.size * k.toNat
          simp [Nat.mul_comm]
        rw [this]
        exact sz h3
theorem r_mulS {H : Hp} {Q : VK} {z : Str} {k : Int} (h1 : -100000 ≤ k) (h2 : k ≤ 100000) (h3 : z.length * k.toNat ≤ 100000) (q : Q (.str (strRep z k.toNat)) H) : rMulS (.str z) (.int k) H Q := ⟨z, k, rfl, rfl, h1, h2, h3, q⟩
end Lx

namespace Lx
open PySem PySem.Spec PyProof.Rows L2
/-! ### comprehensions over lists of ints, of pairs -/
theorem range_getD {α : Type} (xs : List α) (d : α) : (List.range xs.length).map (fun i => xs.getD i d) = xs := by
  apply List.ext_getElem?
  intro i
  rw [List.getElem?_map]
  by_cases h : i < xs.length
  · rw [List.getElem?_range h, List.getElem?_eq_getElem h]
    show some (xs.getD i d) = some xs[i]
    rw [List.getD_eq_getElem?_getD, List.getElem?_eq_getElem h]
    rfl
  · rw [List.getElem?_eq_none (by rw [List.length_range]; omega), List.getElem?_eq_none (by omega)]
    rfl
theorem giv_of {α : Type} (xs : List α) (d : α) (P : α → Bool) (F : α → V) : giv xs.length (fun i => P (xs.getD i d)) (fun i => F (xs.getD i d)) = (xs.filter P).map F := by
  unfold giv
  conv => rhs; rw [← range_getD xs d]
  rw [List.filter_map, List.map_map]
  rfl
theorem getD_el {α : Type} {xs : List α} {d : α} {i : Nat} (h : i < xs.length) : xs.getD i d = xs[i] := by
  rw [List.getD_eq_getElem?_getD, List.getElem?_eq_getElem h]; rfl
section
variable {K : PySem.W.Frag} {a : Addr} {g : TG} {tt : TT} {te : TE} {vs : List Nat} {σ : L2.St} {H1 : Hp} {Dl : Addr} {Qd : Hp → Prop}
/-- over a list of ints -/
theorem lc_ints {ns : List Int} (h : SqL K H1 a (vI ns)) (hl : ns.length ≤ 100000) (P : Int → Bool) (F : Int → V)
    (hs : ∀ (x : Int) (H' : Hp) (Yes : V → Hp → Prop) (No : Hp → Prop), Same H1 H' → x ∈ ns → (P x = true → ∀ H4, Same H' H4 → Yes (F x) H4) → (P x = false → ∀ H3, Same H' H3 → No H3) →
      g (.int x) (wipe σ vs) H' fun σ2 H2 => wipe σ2 vs = wipe σ vs ∧ tt σ2 H2 fun b H3 => if b = true then te σ2 H3 Yes else No H3)
    (hD : H1 Dl = none) (q : ∀ H', Same H1 H' → H' Dl = some (.lst ((ns.filter P).map F)) → Qd H') :
    ∃ W : Nat → Nat → Hp → Prop, (∃ m, W 0 m (upd H1 Dl (.lst []))) ∧ ∀ i m H, W i m H →
      ((Itl K a).stop i H ∧ Qd H) ∨ ((Itl K a).go i H ∧ ∃ Nx : Hp → Prop, (∀ H', Nx H' → ∃ m', m' < m ∧ W (i + 1) m' H') ∧ ∀ x H', (Itl K a).yld i H x H' → g x (wipe σ vs) H' fun σ2 H2 => wipe σ2 vs = wipe σ vs ∧ tt σ2 H2 fun b H3 =>
        if b = true then te σ2 H3 fun y H4 => ∃ acc, H4 Dl = some (.lst acc) ∧ acc.length < sizeLine ∧ Nx (upd H4 Dl (.lst (acc ++ [y]))) else Nx H3) := by
  refine lc_pure (src_list (xs := vI ns)) (fun i => P (ns.getD i 0)) (fun i => F (ns.getD i 0)) (by rw [vI_len]; exact hl) (fun H' s' => s'.seq h) ?_ hD fun H' s' hd => q H' s' ?_
  · rintro i x H' H'' Yes No hi s' ⟨rfl, hx⟩ hY hN
    rw [vI_len] at hi
    rw [vI_at hi] at hx
    cases hx
    rw [getD_el hi] at hY hN
    exact hs _ _ Yes No s' (List.getElem_mem hi) hY hN
  · rw [hd, vI_len, giv_of]
/-- over a tuple of ints -/
theorem lc_intsT {ns : List Int} (h : SqT K H1 a (vI ns)) (hl : ns.length ≤ 100000) (P : Int → Bool) (F : Int → V)
    (hs : ∀ (x : Int) (H' : Hp) (Yes : V → Hp → Prop) (No : Hp → Prop), Same H1 H' → x ∈ ns → (P x = true → ∀ H4, Same H' H4 → Yes (F x) H4) → (P x = false → ∀ H3, Same H' H3 → No H3) →
      g (.int x) (wipe σ vs) H' fun σ2 H2 => wipe σ2 vs = wipe σ vs ∧ tt σ2 H2 fun b H3 => if b = true then te σ2 H3 Yes else No H3)
    (hD : H1 Dl = none) (q : ∀ H', Same H1 H' → H' Dl = some (.lst ((ns.filter P).map F)) → Qd H') :
    ∃ W : Nat → Nat → Hp → Prop, (∃ m, W 0 m (upd H1 Dl (.lst []))) ∧ ∀ i m H, W i m H →
      ((Itt K a).stop i H ∧ Qd H) ∨ ((Itt K a).go i H ∧ ∃ Nx : Hp → Prop, (∀ H', Nx H' → ∃ m', m' < m ∧ W (i + 1) m' H') ∧ ∀ x H', (Itt K a).yld i H x H' → g x (wipe σ vs) H' fun σ2 H2 => wipe σ2 vs = wipe σ vs ∧ tt σ2 H2 fun b H3 =>
        if b = true then te σ2 H3 fun y H4 => ∃ acc, H4 Dl = some (.lst acc) ∧ acc.length < sizeLine ∧ Nx (upd H4 Dl (.lst (acc ++ [y]))) else Nx H3) := by
  refine lc_pure (src_tup (xs := vI ns)) (fun i => P (ns.getD i 0)) (fun i => F (ns.getD i 0)) (by rw [vI_len]; exact hl) (fun H' s' => s'.seqT h) ?_ hD fun H' s' hd => q H' s' ?_
  · rintro i x H' H'' Yes No hi s' ⟨rfl, hx⟩ hY hN
    rw [vI_len] at hi
    rw [vI_at hi] at hx
    cases hx
    rw [getD_el hi] at hY hN
    exact hs _ _ Yes No s' (List.getElem_mem hi) hY hN
  · rw [hd, vI_len, giv_of]
/-- over a list of pairs -/
theorem lc_pairs {G : Addr → Prop} {as : List Addr} {qs : List (Int × Int)} (h : PairsAt G H1 a as qs) (hl : qs.length ≤ 100000) (P : Int × Int → Bool) (F : Int × Int → V)
    (hs : ∀ (t : Addr) (x y : Int) (H' : Hp) (Yes : V → Hp → Prop) (No : Hp → Prop), Same H1 H' → (x, y) ∈ qs → H' t = some (.tup [.int x, .int y]) → (P (x, y) = true → ∀ H4, Same H' H4 → Yes (F (x, y)) H4) → (P (x, y) = false → ∀ H3, Same H' H3 → No H3) →
      g (.ref t) (wipe σ vs) H' fun σ2 H2 => wipe σ2 vs = wipe σ vs ∧ tt σ2 H2 fun b H3 => if b = true then te σ2 H3 Yes else No H3)
    (hD : H1 Dl = none) (q : ∀ H', Same H1 H' → H' Dl = some (.lst ((qs.filter P).map F)) → Qd H') :
    ∃ W : Nat → Nat → Hp → Prop, (∃ m, W 0 m (upd H1 Dl (.lst []))) ∧ ∀ i m H, W i m H →
      ((Itl K a).stop i H ∧ Qd H) ∨ ((Itl K a).go i H ∧ ∃ Nx : Hp → Prop, (∀ H', Nx H' → ∃ m', m' < m ∧ W (i + 1) m' H') ∧ ∀ x H', (Itl K a).yld i H x H' → g x (wipe σ vs) H' fun σ2 H2 => wipe σ2 vs = wipe σ vs ∧ tt σ2 H2 fun b H3 =>
        if b = true then te σ2 H3 fun y H4 => ∃ acc, H4 Dl = some (.lst acc) ∧ acc.length < sizeLine ∧ Nx (upd H4 Dl (.lst (acc ++ [y]))) else Nx H3) := by
  refine lc_pure (src_list (xs := as.map V.ref)) (fun i => P (qs.getD i (0, 0))) (fun i => F (qs.getD i (0, 0))) (by rw [List.length_map, h.len]; exact hl) (fun H' s' => lst_of (s' _ _ h.hp)) ?_ hD fun H' s' hd => q H' s' ?_
  · rintro i x H' H'' Yes No hi s' ⟨rfl, hx⟩ hY hN
    rw [List.length_map, h.len] at hi
    obtain ⟨t, e1, e2, _⟩ := h.at hi
    rw [e1] at hx
    cases hx
    rw [getD_el hi] at hY hN
    exact hs t _ _ _ Yes No s' (List.getElem_mem hi) (s' _ _ e2) hY hN
  · rw [hd, List.length_map, h.len, giv_of]
end
theorem PairsAt.app {G : Addr → Prop} {H : Hp} {p t : Addr} {as : List Addr} {qs : List (Int × Int)} {x y : Int} (h : PairsAt G H p as qs) (ht : H t = some (.tup [.int x, .int y])) (g : G t) : PairsAt G (upd H p (.lst (as.map V.ref ++ [.ref t]))) p (as ++ [t]) (qs ++ [(x, y)]) := by
  refine ⟨by rw [upd_same, List.map_append]; rfl, by rw [List.length_append, List.length_append, h.len]; rfl, fun i a q e1 e2 => ?_⟩
  have key : ∀ (b : Addr) (z : Int × Int), H b = some (.tup [.int z.1, .int z.2]) → upd H p (.lst (as.map V.ref ++ [.ref t])) b = some (.tup [.int z.1, .int z.2]) := by
    intro b z e
    have ne : b ≠ p := fun w => by rw [w, h.hp] at e; cases e
    exact (upd_ne ne).trans e
  by_cases hi : i < as.length
  · rw [List.getElem?_append_left hi] at e1
    rw [List.getElem?_append_left (by rw [← h.len]; exact hi)] at e2
    exact ⟨key a q (h.it i a q e1 e2).1, (h.it i a q e1 e2).2⟩
  · have hi' : i = as.length := by
      have := (List.getElem?_eq_some_iff.mp e1).1
      rw [List.length_append, List.length_singleton] at this
      omega
    subst hi'
    rw [List.getElem?_append_right (Nat.le_refl _), Nat.sub_self] at e1
    rw [List.getElem?_append_right (by rw [h.len]; exact Nat.le_refl _), h.len, Nat.sub_self] at e2
    cases e1; cases e2
    exact ⟨key t _ ht, g⟩
theorem PairsAt.upd {G : Addr → Prop} {H : Hp} {p x : Addr} {o : HO} {as : List Addr} {qs : List (Int × Int)} {ys : List V} (h : PairsAt G H p as qs) (n : p ≠ x) (hx : H x = some (.lst ys)) : PairsAt G (L2.upd H x o) p as qs :=
  ⟨(upd_ne n).trans h.hp, h.len, fun i a q e1 e2 => by
    obtain ⟨z, g⟩ := h.it i a q e1 e2
    have ne : a ≠ x := fun w => by rw [w, hx] at z; cases z
    exact ⟨(upd_ne ne).trans z, g⟩⟩
theorem PairsAt.take {G : Addr → Prop} {H H' : Hp} {p p' : Addr} {as : List Addr} {qs : List (Int × Int)} (h : PairsAt G H p as qs) (k : Nat) (s : Same H H') (hp' : H' p' = some (.lst ((as.map V.ref).take k))) : PairsAt G H' p' (as.take k) (qs.take k) :=
  ⟨by rw [hp', List.map_take], by rw [List.length_take, List.length_take, h.len], fun i a q e1 e2 => by
    rw [List.getElem?_take] at e1 e2
    split at e1
    · rename_i hk
      rw [if_pos hk] at e2
      exact ⟨s _ _ (h.it i a q e1 e2).1, (h.it i a q e1 e2).2⟩
    · cases e1⟩
theorem PairsAt.drop {G : Addr → Prop} {H H' : Hp} {p p' : Addr} {as : List Addr} {qs : List (Int × Int)} (h : PairsAt G H p as qs) (k : Nat) (s : Same H H') (hp' : H' p' = some (.lst ((as.map V.ref).drop k))) : PairsAt G H' p' (as.drop k) (qs.drop k) :=
  ⟨by rw [hp', List.map_drop], by rw [List.length_drop, List.length_drop, h.len], fun i a q e1 e2 => by
    rw [List.getElem?_drop] at e1 e2
    exact ⟨s _ _ (h.it (k + i) a q e1 e2).1, (h.it (k + i) a q e1 e2).2⟩⟩
theorem PairsAt.nil {G : Addr → Prop} {H : Hp} {p : Addr} (h : H p = some (.lst [])) : PairsAt G H p [] [] := ⟨h, rfl, fun i a q e _ => by simp at e⟩
/-! ### the greatest of ints -/
def maxI : List Int → Int
  | [] => 0
  | a :: r => if r = [] then a else if maxI r ≤ a then a else maxI r
theorem maxI_mem : ∀ {ns : List Int}, ns ≠ [] → maxI ns ∈ ns
  | [], h => absurd rfl h
  | a :: r, _ => by
    unfold maxI
    split
    · exact List.mem_cons_self
    · rename_i hr
      split
      · exact List.mem_cons_self
      · exact List.mem_cons_of_mem _ (maxI_mem hr)
theorem le_maxI : ∀ {ns : List Int} {y : Int}, y ∈ ns → y ≤ maxI ns
  | a :: r, y, h => by
    unfold maxI
    split
    · rename_i hr
      subst hr
      rw [List.mem_singleton] at h
      omega
    · rename_i hr
      rcases List.mem_cons.mp h with e | h
      · split <;> omega
      · have ih := le_maxI h
        split <;> omega
theorem maxI_eq {ns : List Int} {m : Int} (h : m ∈ ns) (l : ∀ y ∈ ns, y ≤ m) : m = maxI ns := by
  have h1 := le_maxI h
  have h2 := l _ (maxI_mem fun e => by rw [e] at h; cases h)
  omega
theorem r_max {K : PySem.W.Frag} {H : Hp} {Q : VK} {a : Addr} {ns : List Int} (h : SqL K H a (vI ns)) (hn : 0 < ns.length) (q : Q (.int (maxI ns)) H) : rMax K [.ref a] H Q :=
  ⟨a, ns, rfl, h, hn, fun m hm hl => by rw [maxI_eq hm hl]; exact q⟩
theorem src_zipM {K : PySem.W.Frag} {a b : Addr} {xs ys : List V} : Src (Itz K a b) (min xs.length ys.length) (fun H => SqL K H a xs ∧ SqL K H b ys) (fun i v H H' => ∃ T x y, v = .ref T ∧ H T = none ∧ H' = upd H T (.tup [x, y]) ∧ xs[i]? = some x ∧ ys[i]? = some y) where
  go := fun i H h hi => ⟨xs, ys, xs[i]'(by omega), ys[i]'(by omega), h.1, h.2, List.getElem?_eq_getElem (by omega), List.getElem?_eq_getElem (by omega)⟩
  stop := fun H h => ⟨xs, ys, h.1, h.2, by omega⟩
  yld := fun i H v H' h _ y => by
    obtain ⟨T, x, z, e, n, u, f, g⟩ := y
    exact ⟨T, x, z, e, n, u, f xs h.1, g ys h.2⟩
theorem cut_neg1 (xs : List V) : cutV xs (some (-1)) none = xs.drop (xs.length - 1) := by
  unfold cutV
  rw [HT.sIx_none]
  have e : HT.sIx xs.length 0 (some (-1)) = xs.length - 1 := by
    show (if (-1 : Int) < 0 then ((-1 : Int) + (xs.length : Int)).toNat else min (-1 : Int).toNat xs.length) = _
    rw [if_pos (by decide)]
    omega
  rw [e]
  exact List.take_of_length_le (by rw [List.length_drop]; exact Nat.le_refl _)
/-! ### dict(pairs) -/
def rDictP (K : PySem.W.Frag) : List V → Hp → VK → Prop := fun xs H Q => ∃ (a : Addr) (ps : List Addr) (kvs : List (Key × V)), xs = [.ref a] ∧ SqL K H a (ps.map V.ref) ∧ Paired (fun p kv => SqT K H p [kV kv.1, kv.2]) ps kvs ∧
    ∀ p, H p = none → Q (.ref p) (upd H p (.dK (mergeK [] kvs)))
theorem k_dictP (K : PySem.W.Frag) {X : Cx} (h : X.K = K := by rfl) (hc : X.calm = true := by rfl) : CallR X (.type "dict") (rDictP K) := h ▸ call_dictP hc
theorem merge_num {ns : List Int} (hn : ns.Nodup) : ∀ m, m ≤ ns.length → mergeK [] (numTo ns m) = numTo ns m
  | 0, _ => rfl
  | m + 1, h => by
    have e : numTo ns (m + 1) = numTo ns m ++ [(.inl (ns.getD m 0), .int (m : Nat))] := by unfold numTo; rw [List.range_succ, List.map_append]; rfl
    have ih := merge_num hn m (by omega)
    conv => lhs; rw [e]
    unfold mergeK at ih ⊢
    rw [List.foldl_append, ih]
    exact numTo_succ hn (by omega)
theorem paired_of {α β : Type} {F : α → β → Prop} : ∀ {xs : List α} {ys : List β}, xs.length = ys.length → (∀ (i : Nat) (x : α) (y : β), xs[i]? = some x → ys[i]? = some y → F x y) → Paired F xs ys
  | [], [], _, _ => .nil
  | x :: xs, y :: ys, e, h => .cons (h 0 x y rfl rfl) (paired_of (Nat.succ.inj e) fun i x y a b => h (i + 1) x y (by simpa using a) (by simpa using b))
  | [], _ :: _, e, _ => by cases e
  | _ :: _, [], e, _ => by cases e
/-- dict of pairs (place, number) -/
theorem r_dictN {K : PySem.W.Frag} {G : Addr → Prop} {H : Hp} {Q : VK} {a : Addr} {as : List Addr} {ns : List Int} (hn : ns.Nodup) (hl : ns.length ≤ 100000) (h : PairsAt G H a as ((List.range ns.length).map fun j => (ns.getD j 0, ((j : Nat) : Int)))) (q : ∀ p, H p = none → ∀ H', H' = upd H p (.dK (numTo ns ns.length)) → IsD H' p (ixO ns) → Q (.ref p) H') : rDictP K [.ref a] H Q := by
  refine ⟨a, as, numTo ns ns.length, rfl, lst_of h.hp, paired_of (by rw [h.len, numTo_len, List.length_map, List.length_range]) fun i x y e1 e2 => ?_, fun p np => ?_⟩
  · have hi := (List.getElem?_eq_some_iff.mp e1).1
    rw [h.len, List.length_map, List.length_range] at hi
    unfold numTo at e2
    rw [List.getElem?_map, List.getElem?_range hi] at e2
    cases e2
    have := (h.it i x (ns.getD i 0, ((i : Nat) : Int)) e1 (by rw [List.getElem?_map, List.getElem?_range hi]; rfl)).1
    exact tup_of this
  · rw [merge_num hn _ (Nat.le_refl _)]
    exact q p np _ rfl ⟨_, upd_same, by rw [numTo_len]; exact hl, valV_all hn⟩
end Lx

namespace Lx
open PySem PySem.Spec PyProof.Rows L2
/-! ### one of two targets -/
def gOr (g1 g2 : TG) : TG := fun v σ H Q => g1 v σ H Q ∨ g2 v σ H Q
theorem pg_or {X : Cx} {t : Expr} {g1 g2 : TG} (h1 : PG X t g1) (h2 : PG X t g2) : PG X t (gOr g1 g2) :=
  ⟨fun pins s σ H v u Q I r h => h.elim (h1.run pins s σ H v u Q I r) (h2.run pins s σ H v u Q I r)⟩
theorem r_gOr {K : PySem.W.Frag} {σ : L2.St} {H : Hp} {R : L2.St → Hp → Prop} {n : Nat} {g1 g2 : TGs} {a : Addr} {xs : List V} (h : Sq H a xs) (e : xs.length = n) (q1 : g1 xs σ H R) (q2 : g2 xs σ H R) : gOr (gTup K n g1) (gUnl K n g2) (.ref a) σ H R :=
  h.elim (fun h => .inr ⟨a, xs, rfl, lst_of h, e, q2⟩) fun h => .inl ⟨a, xs, rfl, tup_of h, e, q1⟩
theorem r_gOr1 {K : PySem.W.Frag} {σ : L2.St} {H : Hp} {R : L2.St → Hp → Prop} {n : Nat} {g : TGs} {a : Addr} {xs : List V} (h : Sq H a xs) (e : xs.length = n) (q : g xs σ H R) : gOr (gTup K n g) (gUnl K n g) (.ref a) σ H R := r_gOr h e q q
theorem r_iOr {wi1 wi2 : TI} {σ : L2.St} {H : Hp} {R : It → Hp → Prop} (h : wi1 σ H R ∨ wi2 σ H R) : iOr wi1 wi2 σ H R := h
/-- a walk over a list or a tuple -/
theorem r_iSqV {K : PySem.W.Frag} {σ : L2.St} {H : Hp} {R : It → Hp → Prop} {i : Nat} {a : Addr} {xs : List V} (e : σ[i]? = some (some (.ref a))) (h : Sq H a xs)
    (q : ∀ (J : It) (OK : Hp → Prop), (∀ H', Same H H' → OK H') → Src J xs.length OK (fun i v H H' => H' = H ∧ xs[i]? = some v) → R J H) : iOr (iList K (tVar i)) (iTup K (tVar i)) σ H R :=
  h.elim (fun h => .inl ⟨.ref a, e, a, rfl, ⟨xs, lst_of h⟩, q _ (fun H' => SqL K H' a xs) (fun H' s => lst_of (s _ _ h)) src_list⟩) fun h => .inr ⟨.ref a, e, a, rfl, ⟨xs, tup_of h⟩, q _ (fun H' => SqT K H' a xs) (fun H' s => tup_of (s _ _ h)) src_tup⟩
/-! ### a list of tuples -/
structure TupsAt {α : Type} (f : α → List V) (G : Addr → Prop) (H : Hp) (p : Addr) (as : List Addr) (qs : List α) : Prop where
  hp : H p = some (.lst (as.map V.ref))
  len : as.length = qs.length
  it : ∀ (i : Nat) (a : Addr) (q : α), as[i]? = some a → qs[i]? = some q → H a = some (.tup (f q)) ∧ G a
section
variable {α : Type} {f : α → List V} {G G' : Addr → Prop} {H H' : Hp} {p : Addr} {as : List Addr} {qs : List α}
theorem TupsAt.same (h : TupsAt f G H p as qs) (s : Same H H') : TupsAt f G H' p as qs :=
  ⟨s _ _ h.hp, h.len, fun i a q e1 e2 => ⟨s _ _ (h.it i a q e1 e2).1, (h.it i a q e1 e2).2⟩⟩
theorem TupsAt.weak (h : TupsAt f G H p as qs) (g : ∀ a, G a → G' a) : TupsAt f G' H p as qs :=
  ⟨h.hp, h.len, fun i a q e1 e2 => ⟨(h.it i a q e1 e2).1, g _ (h.it i a q e1 e2).2⟩⟩
theorem TupsAt.kpl {L : List Addr} (h : TupsAt f G H p as qs) (k : KpL L H H') (np : p ∉ L) (hG : ∀ a, G a → a ∉ L) : TupsAt f G H' p as qs :=
  ⟨k _ _ np h.hp, h.len, fun i a q e1 e2 => ⟨k _ _ (hG _ (h.it i a q e1 e2).2) (h.it i a q e1 e2).1, (h.it i a q e1 e2).2⟩⟩
theorem TupsAt.kp {r : Addr} {ys : List V} (h : TupsAt f G H p as qs) (k : Kp r H H') (hr : H r = some (.lst ys)) (np : p ≠ r) : TupsAt f G H' p as qs :=
  ⟨k _ _ np h.hp, h.len, fun i a q e1 e2 => by
    obtain ⟨z, g⟩ := h.it i a q e1 e2
    exact ⟨k _ _ (fun w => by rw [w, hr] at z; cases z) z, g⟩⟩
theorem TupsAt.any (h : TupsAt f G H p as qs) : TupsAt f (fun _ => True) H p as qs := h.weak fun _ _ => trivial
theorem TupsAt.at (h : TupsAt f G H p as qs) {i : Nat} (hi : i < qs.length) : ∃ t, (as.map V.ref)[i]? = some (.ref t) ∧ H t = some (.tup (f qs[i])) ∧ G t := by
  have hi' : i < as.length := by rw [h.len]; exact hi
  have e := List.getElem?_eq_getElem hi'
  have e2 := List.getElem?_eq_getElem hi
  exact ⟨as[i], by rw [List.getElem?_map, e]; rfl, (h.it i _ _ e e2).1, (h.it i _ _ e e2).2⟩
theorem TupsAt.nil (h : H p = some (.lst [])) : TupsAt f G H p [] ([] : List α) := ⟨h, rfl, fun i a q e _ => by simp at e⟩
theorem TupsAt.app {t : Addr} {q : α} (h : TupsAt f G H p as qs) (ht : H t = some (.tup (f q))) (g : G t) : TupsAt f G (upd H p (.lst (as.map V.ref ++ [.ref t]))) p (as ++ [t]) (qs ++ [q]) := by
  refine ⟨by rw [upd_same, List.map_append]; rfl, by rw [List.length_append, List.length_append, h.len]; rfl, fun i a r e1 e2 => ?_⟩
  have key : ∀ (b : Addr) (z : α), H b = some (.tup (f z)) → upd H p (.lst (as.map V.ref ++ [.ref t])) b = some (.tup (f z)) := by
    intro b z e
    have ne : b ≠ p := fun w => by rw [w, h.hp] at e; cases e
    exact (upd_ne ne).trans e
  by_cases hi : i < as.length
  · rw [List.getElem?_append_left hi] at e1
    rw [List.getElem?_append_left (by rw [← h.len]; exact hi)] at e2
    exact ⟨key a r (h.it i a r e1 e2).1, (h.it i a r e1 e2).2⟩
  · have hi' : i = as.length := by
      have := (List.getElem?_eq_some_iff.mp e1).1
      rw [List.length_append, List.length_singleton] at this
      omega
    subst hi'
    rw [List.getElem?_append_right (Nat.le_refl _), Nat.sub_self] at e1
    rw [List.getElem?_append_right (by rw [h.len]; exact Nat.le_refl _), h.len, Nat.sub_self] at e2
    cases e1; cases e2
    exact ⟨key t _ ht, g⟩
theorem TupsAt.upd {x : Addr} {o : HO} {ys : List V} (h : TupsAt f G H p as qs) (n : p ≠ x) (hx : H x = some (.lst ys)) : TupsAt f G (L2.upd H x o) p as qs :=
  ⟨(upd_ne n).trans h.hp, h.len, fun i a q e1 e2 => by
    obtain ⟨z, g⟩ := h.it i a q e1 e2
    have ne : a ≠ x := fun w => by rw [w, hx] at z; cases z
    exact ⟨(upd_ne ne).trans z, g⟩⟩
theorem TupsAt.single {t : Addr} {q : α} (hp : H p = some (.lst [.ref t])) (ht : H t = some (.tup (f q))) (g : G t) : TupsAt f G H p [t] [q] := by
  refine ⟨hp, rfl, fun i a r e1 e2 => ?_⟩
  match i, e1, e2 with
  | 0, e1, e2 => cases e1; cases e2; exact ⟨ht, g⟩
  | i + 1, e1, e2 => simp at e1
theorem TupsAt.cat {p2 : Addr} {as2 : List Addr} {qs2 : List α} {u : Addr} (h : TupsAt f G H p as qs) (h2 : TupsAt f G H p2 as2 qs2) (s : Same H H') (hu : H' u = some (.lst (as.map V.ref ++ as2.map V.ref))) : TupsAt f G H' u (as ++ as2) (qs ++ qs2) := by
  refine ⟨by rw [hu, List.map_append], by rw [List.length_append, List.length_append, h.len, h2.len], fun i a q e1 e2 => ?_⟩
  by_cases hi : i < as.length
  · rw [List.getElem?_append_left hi] at e1
    rw [List.getElem?_append_left (by rw [← h.len]; exact hi)] at e2
    exact ⟨s _ _ (h.it i a q e1 e2).1, (h.it i a q e1 e2).2⟩
  · rw [List.getElem?_append_right (by omega)] at e1
    rw [List.getElem?_append_right (by rw [← h.len]; omega), ← h.len] at e2
    exact ⟨s _ _ (h2.it _ a q e1 e2).1, (h2.it _ a q e1 e2).2⟩
end
section
variable {α : Type} {K : PySem.W.Frag} {a : Addr} {g : TG} {tt : TT} {te : TE} {vs : List Nat} {σ : L2.St} {H1 : Hp} {Dl : Addr} {Qd : Hp → Prop}
/-- a comprehension over a list of tuples -/
theorem lc_tups {f : α → List V} {G : Addr → Prop} {as : List Addr} {qs : List α} (h : TupsAt f G H1 a as qs) (hl : qs.length ≤ 100000) (P : α → Bool) (F : α → V)
    (hs : ∀ (t : Addr) (q : α) (H' : Hp) (Yes : V → Hp → Prop) (No : Hp → Prop), Same H1 H' → q ∈ qs → H' t = some (.tup (f q)) → (P q = true → ∀ H4, Same H' H4 → Yes (F q) H4) → (P q = false → ∀ H3, Same H' H3 → No H3) →
      g (.ref t) (wipe σ vs) H' fun σ2 H2 => wipe σ2 vs = wipe σ vs ∧ tt σ2 H2 fun b H3 => if b = true then te σ2 H3 Yes else No H3)
    (hD : H1 Dl = none) (q : ∀ H', Same H1 H' → H' Dl = some (.lst ((qs.filter P).map F)) → Qd H') :
    ∃ W : Nat → Nat → Hp → Prop, (∃ m, W 0 m (upd H1 Dl (.lst []))) ∧ ∀ i m H, W i m H →
      ((Itl K a).stop i H ∧ Qd H) ∨ ((Itl K a).go i H ∧ ∃ Nx : Hp → Prop, (∀ H', Nx H' → ∃ m', m' < m ∧ W (i + 1) m' H') ∧ ∀ x H', (Itl K a).yld i H x H' → g x (wipe σ vs) H' fun σ2 H2 => wipe σ2 vs = wipe σ vs ∧ tt σ2 H2 fun b H3 =>
        if b = true then te σ2 H3 fun y H4 => ∃ acc, H4 Dl = some (.lst acc) ∧ acc.length < sizeLine ∧ Nx (upd H4 Dl (.lst (acc ++ [y]))) else Nx H3) := by
  by_cases he : qs = []
  · subst he
    have ea : as = [] := List.length_eq_zero_iff.mp h.len
    subst ea
    refine lc_src (src_list (xs := ([] : List V))) (fun i H' => Same H1 H' ∧ H' Dl = some (.lst [])) (fun i H' h' => lst_of (h'.1 _ _ h.hp)) ⟨same_new hD, upd_same⟩ (fun i v H H' hi => absurd hi (Nat.not_lt_zero _)) (fun H' h' => q H' h'.1 h'.2)
  · have d : α := qs.head he
    refine lc_pure (src_list (xs := as.map V.ref)) (fun i => P (qs.getD i d)) (fun i => F (qs.getD i d)) (by rw [List.length_map, h.len]; exact hl) (fun H' s' => lst_of (s' _ _ h.hp)) ?_ hD fun H' s' hd => q H' s' ?_
    · rintro i x H' H'' Yes No hi s' ⟨rfl, hx⟩ hY hN
      rw [List.length_map, h.len] at hi
      obtain ⟨t, e1, e2, _⟩ := h.at hi
      rw [e1] at hx
      cases hx
      rw [getD_el hi] at hY hN
      exact hs t _ _ Yes No s' (List.getElem_mem hi) (s' _ _ e2) hY hN
    · rw [hd, List.length_map, h.len, giv_of]
end
/-! ### two clauses -/
section
variable {J : It} {n : Nat} {OK : Hp → Prop} {item : Nat → V → Hp → Hp → Prop} {g g1 : TG} {tt tt1 : TT} {wi1 : TI} {te : TE} {vs vs1 : List Nat} {σ : L2.St} {H1 : Hp} {Dl : Addr} {Qd : Hp → Prop}
theorem r_lc2 {wi : TI} {Q : VK} {H : Hp} (h : wi σ H fun J H1 => ∀ D, H1 D = none → ∃ W : Nat → Nat → Hp → Prop, (∃ m, W 0 m (upd H1 D (.lst []))) ∧ ∀ i m H, W i m H →
  (J.stop i H ∧ Q (.ref D) H) ∨ (J.go i H ∧ ∃ Nx : Hp → Prop, (∀ H', Nx H' → ∃ m', m' < m ∧ W (i + 1) m' H') ∧ ∀ x H', J.yld i H x H' → g x (wipe σ vs) H' fun σ2 H2 => wipe σ2 vs = wipe σ vs ∧ tt σ2 H2 fun b H3 =>
    if b = true then wi1 σ2 H3 fun J1 H4 => ∃ W1 : Nat → Nat → Hp → Prop, (∃ m, W1 0 m H4) ∧ ∀ j k H, W1 j k H →
      (J1.stop j H ∧ Nx H) ∨ (J1.go j H ∧ ∃ Nx1 : Hp → Prop, (∀ H', Nx1 H' → ∃ k', k' < k ∧ W1 (j + 1) k' H') ∧ ∀ x H', J1.yld j H x H' → g1 x (wipe σ2 vs1) H' fun σ3 H5 => wipe σ3 vs1 = wipe σ2 vs1 ∧ tt1 σ3 H5 fun b H6 =>
        if b = true then te σ3 H6 fun y H7 => ∃ acc, H7 D = some (.lst acc) ∧ acc.length < sizeLine ∧ Nx1 (upd H7 D (.lst (acc ++ [y]))) else Nx1 H6)
    else Nx H3)) : tLc2 wi g tt wi1 g1 tt1 te vs vs1 σ H Q := h
/-- the outer clause, by a word over the turn and the heap -/
theorem lc2_out (S : Src J n OK item) (Pv : Nat → Hp → Prop) (ok : ∀ i H, Pv i H → OK H) (h0 : Pv 0 (upd H1 Dl (.lst [])))
    (hs : ∀ i v H H', i < n → Pv i H → item i v H H' → g v (wipe σ vs) H' fun σ2 H2 => wipe σ2 vs = wipe σ vs ∧ tt σ2 H2 fun b H3 =>
      if b = true then wi1 σ2 H3 fun J1 H4 => ∃ W1 : Nat → Nat → Hp → Prop, (∃ m, W1 0 m H4) ∧ ∀ j k H, W1 j k H →
        (J1.stop j H ∧ Pv (i + 1) H) ∨ (J1.go j H ∧ ∃ Nx1 : Hp → Prop, (∀ H', Nx1 H' → ∃ k', k' < k ∧ W1 (j + 1) k' H') ∧ ∀ x H', J1.yld j H x H' → g1 x (wipe σ2 vs1) H' fun σ3 H5 => wipe σ3 vs1 = wipe σ2 vs1 ∧ tt1 σ3 H5 fun b H6 =>
          if b = true then te σ3 H6 fun y H7 => ∃ acc, H7 Dl = some (.lst acc) ∧ acc.length < sizeLine ∧ Nx1 (upd H7 Dl (.lst (acc ++ [y]))) else Nx1 H6)
      else Pv (i + 1) H3) (hd : ∀ H, Pv n H → Qd H) :
    ∃ W : Nat → Nat → Hp → Prop, (∃ m, W 0 m (upd H1 Dl (.lst []))) ∧ ∀ i m H, W i m H →
      (J.stop i H ∧ Qd H) ∨ (J.go i H ∧ ∃ Nx : Hp → Prop, (∀ H', Nx H' → ∃ m', m' < m ∧ W (i + 1) m' H') ∧ ∀ x H', J.yld i H x H' → g x (wipe σ vs) H' fun σ2 H2 => wipe σ2 vs = wipe σ vs ∧ tt σ2 H2 fun b H3 =>
        if b = true then wi1 σ2 H3 fun J1 H4 => ∃ W1 : Nat → Nat → Hp → Prop, (∃ m, W1 0 m H4) ∧ ∀ j k H, W1 j k H →
          (J1.stop j H ∧ Nx H) ∨ (J1.go j H ∧ ∃ Nx1 : Hp → Prop, (∀ H', Nx1 H' → ∃ k', k' < k ∧ W1 (j + 1) k' H') ∧ ∀ x H', J1.yld j H x H' → g1 x (wipe σ2 vs1) H' fun σ3 H5 => wipe σ3 vs1 = wipe σ2 vs1 ∧ tt1 σ3 H5 fun b H6 =>
            if b = true then te σ3 H6 fun y H7 => ∃ acc, H7 Dl = some (.lst acc) ∧ acc.length < sizeLine ∧ Nx1 (upd H7 Dl (.lst (acc ++ [y]))) else Nx1 H6)
        else Nx H3) := by
  refine ⟨fun i m H => i + m = n ∧ Pv i H, ⟨n, Nat.zero_add n, h0⟩, ?_⟩
  rintro i m H ⟨e, p⟩
  have o := ok i H p
  by_cases hi : i < n
  · refine .inr ⟨S.go i H o hi, Pv (i + 1), ?_, ?_⟩
    · intro H' p'
      exact ⟨m - 1, by omega, by omega, p'⟩
    · intro x H' y
      exact hs i x H H' hi p (S.yld i H x H' o hi y)
  · have ei : i = n := by omega
    subst ei
    exact .inl ⟨S.stop H o, hd H p⟩
/-- the inner clause -/
theorem lc2_in {Q1 : Hp → Prop} {σ2 : L2.St} {H4 : Hp} (S : Src J n OK item) (Pv : Nat → Hp → Prop) (ok : ∀ i H, Pv i H → OK H) (h0 : Pv 0 H4)
    (hs : ∀ i v H H', i < n → Pv i H → item i v H H' → g1 v (wipe σ2 vs1) H' fun σ3 H5 => wipe σ3 vs1 = wipe σ2 vs1 ∧ tt1 σ3 H5 fun b H6 =>
      if b = true then te σ3 H6 fun y H7 => ∃ acc, H7 Dl = some (.lst acc) ∧ acc.length < sizeLine ∧ Pv (i + 1) (upd H7 Dl (.lst (acc ++ [y]))) else Pv (i + 1) H6) (hd : ∀ H, Pv n H → Q1 H) :
    ∃ W1 : Nat → Nat → Hp → Prop, (∃ m, W1 0 m H4) ∧ ∀ j k H, W1 j k H →
      (J.stop j H ∧ Q1 H) ∨ (J.go j H ∧ ∃ Nx1 : Hp → Prop, (∀ H', Nx1 H' → ∃ k', k' < k ∧ W1 (j + 1) k' H') ∧ ∀ x H', J.yld j H x H' → g1 x (wipe σ2 vs1) H' fun σ3 H5 => wipe σ3 vs1 = wipe σ2 vs1 ∧ tt1 σ3 H5 fun b H6 =>
        if b = true then te σ3 H6 fun y H7 => ∃ acc, H7 Dl = some (.lst acc) ∧ acc.length < sizeLine ∧ Nx1 (upd H7 Dl (.lst (acc ++ [y]))) else Nx1 H6) := by
  refine ⟨fun i m H => i + m = n ∧ Pv i H, ⟨n, Nat.zero_add n, h0⟩, ?_⟩
  rintro i m H ⟨e, p⟩
  have o := ok i H p
  by_cases hi : i < n
  · refine .inr ⟨S.go i H o hi, Pv (i + 1), ?_, ?_⟩
    · intro H' p'
      exact ⟨m - 1, by omega, by omega, p'⟩
    · intro x H' y
      exact hs i x H H' hi p (S.yld i H x H' o hi y)
  · have ei : i = n := by omega
    subst ei
    exact .inl ⟨S.stop H o, hd H p⟩
end
end Lx

namespace Lx
open PySem PySem.Spec PyProof.Rows PySem.Calls L2
/-! ### enumerate(text) -/
def Ites (x : Str) : It :=
  ⟨fun i _ => i < x.cps.size, fun i H v H' => ∃ T c, v = .ref T ∧ H T = none ∧ H' = upd H T (.tup [.int (i : Nat), .str ⟨#[c]⟩]) ∧ x.cps[i]? = some c, fun i _ => i = x.cps.size⟩
theorem turn_enumS {P : Program} {w : World} {K : PySem.W.Frag} {elts : List Expr} {kk : Nat} {tpos : Pos} (x : Str) (t : Tok) (e it : Addr) :
    Turn P w K (.Tuple elts kk tpos) (Ites x) [e, it] e (fun i h => (∃ old, IsEnum h e it ((i : Nat) : Int) old) ∧ h.IsStrIter it (strIterType x) x t i ∧ e ≠ it) where
  mem := by simp
  obj := fun i h st b hb => by
    obtain ⟨⟨old, he⟩, ⟨o, ho, hc, hd⟩, _⟩ := st
    have e' : b = e ∨ b = it := by simpa using hb
    rcases e' with z | z
    · rw [z]; exact ⟨_, he, fun v q => nomatch q⟩
    · rw [z]; exact ⟨o, ho, fun v q => by rw [hd] at q; cases q⟩
  keep := fun i h h' st k => let ⟨⟨old, he⟩, ⟨o, ho, r⟩, hne⟩ := st; ⟨⟨old, k e (by simp) _ he⟩, ⟨o, k it (by simp) o ho, r⟩, hne⟩
  item := by
    intro X hP hw hK hc i pins s σ H E I hf st hg
    subst hP hw hK
    obtain ⟨⟨old, he⟩, hit, hne⟩ := st
    have hel : e < s.heap.objs.size := Heap.lt_size he
    have hil : it < s.heap.objs.size := by obtain ⟨_, q, _⟩ := hit; exact Heap.lt_size q
    have D := Draws.text (prog := X.prog) (w := X.w) (A := X.A.in1) (show X.A.in1.handled = none from I.ok.hd hc) it x t
    refine wpAny_pyNext_enum_itemD D he hit hg hne (fun z => hne (by simpa using z)) fun u h' tk hu ho hit' hT hsz hk => ?_
    obtain ⟨c, tt, hcx, rfl⟩ := hu
    refine ⟨_, rfl, wpAny_letOwnedTupleGo_enum (s := { s with heap := h', toks := tk + 1 }) ho fun h'' he' sb => ?_⟩
    have hT2 : h''.get? s.heap.objs.size = some { cls := .type "tuple", data := .seq #[.int i tk, .str ⟨#[c]⟩ tt] } := (sb.2 _ (Nat.ne_of_gt hel)).trans hT
    have new : ObjOk X.prog X.w (upd H s.heap.objs.size (.tup [.int (i : Nat), .str ⟨#[c]⟩])) h'' s.heap.objs.size (.tup [.int (i : Nat), .str ⟨#[c]⟩]) :=
      ⟨by show 2 ≤ sizeLine; decide, [.int i tk, .str ⟨#[c]⟩ tt], .cons ⟨_, rfl⟩ (.cons ⟨_, rfl⟩ .nil), ⟨_, hT2, rfl, _, rfl⟩⟩
    have I1 : Inv X pins σ (upd H s.heap.objs.size (.tup [.int (i : Nat), .str ⟨#[c]⟩])) { s with heap := h'', toks := tk + 1 } :=
      I.turnedNew (ch := [e, it]) (fun b ob hb q => (sb.2 b (fun z => hb (by simp [z]))).trans (hk b ob (fun z => hb (by simp [z])) (fun z => hb (by simp [z])) q)) hf (Nat.le_refl _) new
    refine ⟨.ref s.heap.objs.size, _, I1, rfl, ⟨_, c, rfl, I.hok.fresh (Nat.le_refl _), rfl, hcx⟩, ⟨⟨.str ⟨#[c]⟩ tt, ?_⟩, ?_, hne⟩, fun b hb => ?_⟩
    · have e1 : ((i + 1 : Nat) : Int) = (i : Int) + 1 := by omega
      rw [e1]; exact he'
    · obtain ⟨o, ho2, r⟩ := hit'
      exact ⟨o, (sb.2 it (Ne.symm hne)).trans ho2, r⟩
    · have hb' : b < s.heap.objs.size := by
        have e' : b = e ∨ b = it := by simpa using hb
        rcases e' with z | z
        · rw [z]; exact hel
        · rw [z]; exact hil
      rw [upd_ne (Nat.ne_of_lt hb')]
      exact (hf b hb).1
  done := by
    intro X hP hw hK hc i pins s σ H E I hf st hg
    subst hP hw hK
    obtain ⟨⟨old, he⟩, hit, hne⟩ := st
    obtain ⟨f0, f1, f2, f3, f4, f5⟩ := hf it (by simp)
    have hg : i = x.cps.size := hg
    subst hg
    have D := Draws.text (prog := X.prog) (w := X.w) (A := X.A.in1) (show X.A.in1.handled = none from I.ok.hd hc) it x t
    exact wpAny_pyNext_enum_endD D he hit fun h' eb => ⟨rfl, I.turned (t' := s.toks) (fun b o hb q => eb b o hb q) f0 f1 f3 f4 f5⟩
  self := fun A i s Q E st h => let ⟨⟨_, he⟩, _⟩ := st; wpAny_pyIter_enum he h
def iEnumS (ta : TA) : TI := fun σ H R => ta σ H fun vs H1 => ∃ x, vs = [.str x] ∧ R (Ites x) H1
theorem pi_enumS {X : Cx} {e : Expr} {ta : TA} {p pos tpos : Pos} {elts : List Expr} {kk : Nat} (hg : Gl X "enumerate") (hm : X.mg "enumerate" = none) (ha : PA X [e] ta) (hs : starEach [e] X.env = [(false, eval e X.env)] := by rfl) :
    PI X (.Tuple elts kk tpos) (.Call (.Name "enumerate" p) [e] [] pos) (iEnumS ta) := by
  refine ⟨fun pins s σ H R I h => ?_⟩
  refine Call_ (ld_blt I hg hm boot_enumerate (PyProof.Rows.callWith_type1 (thn (ha.run pos pins s σ H _ I h) fun us s1 ⟨vs, H1, I1, r1, q1⟩ => ?_) hs rfl))
  obtain ⟨x, ex, q⟩ := q1
  subst ex
  cases r1 with
  | cons r rr =>
    cases rr
    obtain ⟨t, rfl⟩ := r
    refine call_enumerate_str fun h' he hit hsz hk => wpAny_pyIter_enum he ?_
    have I2 : Inv X pins σ H1 { s1 with heap := h' } := I1.kept (t' := s1.toks) hk
    refine ⟨s1.heap.objs.size + 1, [s1.heap.objs.size + 1, s1.heap.objs.size], _, _, H1, rfl, I2, turn_enumS x t (s1.heap.objs.size + 1) s1.heap.objs.size, ⟨⟨.none, he⟩, hit, Nat.succ_ne_self _⟩, fun b hb => ?_, q⟩
    have e' : b = s1.heap.objs.size + 1 ∨ b = s1.heap.objs.size := by simpa using hb
    have hle : s1.heap.objs.size ≤ b := by
      rcases e' with z | z
      · rw [z]; exact Nat.le_add_right _ _
      · rw [z]; exact Nat.le_refl _
    exact I1.fpOk hle (I1.hok.fresh hle)
theorem r_iEnumS {ta : TA} {σ : L2.St} {H : Hp} {R : It → Hp → Prop} (h : ta σ H fun vs H1 => ∃ x, vs = [.str x] ∧ R (Ites x) H1) : iEnumS ta σ H R := h
theorem src_enumS {x : Str} : Src (Ites x) x.cps.size (fun _ => True) (fun i v H H' => ∃ T c, v = .ref T ∧ H T = none ∧ H' = upd H T (.tup [.int (i : Nat), .str ⟨#[c]⟩]) ∧ x.cps[i]? = some c) where
  go := fun i H h hi => hi
  stop := fun H h => rfl
  yld := fun i H v H' h _ y => y
/-! ### is True, is False -/
def rIsB : R2 := fun x y H Q => ∃ a b, x = .bl a ∧ y = .bl b ∧ Q (.bl (decide (a = b))) H
def rNotB : R2 := fun x y H Q => ∃ a b, x = .bl a ∧ y = .bl b ∧ Q (.bl (!decide (a = b))) H
theorem op_isB {X : Cx} : OpR X (compareOp .Is) rIsB := by
  intro pins s σ H x y v u Q I rx ry h
  obtain ⟨a, b, rfl, rfl, q⟩ := h
  cases rx
  cases ry
  refine wpAny_is_plain rfl (fin_bl I q ?_)
  cases a <;> cases b <;> rfl
theorem op_notB {X : Cx} : OpR X (compareOp .IsNot) rNotB := by
  intro pins s σ H x y v u Q I rx ry h
  obtain ⟨a, b, rfl, rfl, q⟩ := h
  cases rx
  cases ry
  refine wpAny_isNot_plain rfl (fin_bl I q ?_)
  cases a <;> cases b <;> rfl
theorem r_isB {H : Hp} {Q : VK} {a b : Bool} (q : Q (.bl (decide (a = b))) H) : rIsB (.bl a) (.bl b) H Q := ⟨a, b, rfl, rfl, q⟩
theorem r_notB {H : Hp} {Q : VK} {a b : Bool} (q : Q (.bl (!decide (a = b))) H) : rNotB (.bl a) (.bl b) H Q := ⟨a, b, rfl, rfl, q⟩
end Lx

namespace Lx
open PySem PySem.Spec PyProof.Rows L2
/-! ### equality of data without bools -/
mutual
def plainD : PyData → Bool
  | .none => true
  | .bool _ => false
  | .int _ => true
  | .str _ => true
  | .list xs => plainAll xs
  | .tuple xs => plainAll xs
  | .dict _ => false
def plainAll : List PyData → Bool
  | [] => true
  | x :: xs => plainD x && plainAll xs
end
mutual
theorem eqv_iff : ∀ {d e : PyData}, plainD d = true → plainD e = true → (PyData.eqv d e = true ↔ d = e)
  | .none, e, _, he => by cases e <;> simp [PyData.eqv] <;> simp [plainD] at he
  | .bool b, _, h, _ => by simp [plainD] at h
  | .dict b, _, h, _ => by simp [plainD] at h
  | .int i, e, _, he => by cases e <;> simp [PyData.eqv] <;> simp [plainD] at he
  | .str i, e, _, he => by cases e <;> simp [PyData.eqv] <;> simp [plainD] at he
  | .list xs, e, h, he => by
    cases e with
    | list ys =>
      have := eqvAll_iff (xs := xs) (ys := ys) (by simpa [plainD] using h) (by simpa [plainD] using he)
      simp only [PyData.eqv, PyData.list.injEq]
      exact this
    | _ => simp [PyData.eqv]
  | .tuple xs, e, h, he => by
    cases e with
    | tuple ys =>
      have := eqvAll_iff (xs := xs) (ys := ys) (by simpa [plainD] using h) (by simpa [plainD] using he)
      simp only [PyData.eqv, PyData.tuple.injEq]
      exact this
    | _ => simp [PyData.eqv]
theorem eqvAll_iff : ∀ {xs ys : List PyData}, plainAll xs = true → plainAll ys = true → (PyData.eqvAll xs ys = true ↔ xs = ys)
  | [], [], _, _ => by simp [PyData.eqvAll]
  | [], _ :: _, _, _ => by simp [PyData.eqvAll]
  | _ :: _, [], _, _ => by simp [PyData.eqvAll]
  | x :: xs, y :: ys, h, h' => by
    simp only [plainAll, Bool.and_eq_true] at h h'
    have h1 := eqv_iff (d := x) (e := y) h.1 h'.1
    have h2 := eqvAll_iff (xs := xs) (ys := ys) h.2 h'.2
    simp only [PyData.eqvAll, Bool.and_eq_true, List.cons.injEq]
    rw [h1, h2]
end
theorem plainAll_of {ds : List PyData} (h : ∀ d ∈ ds, plainD d = true) : plainAll ds = true := by
  induction ds with
  | nil => rfl
  | cons d ds ih =>
    show (plainD d && plainAll ds) = true
    rw [h d List.mem_cons_self, ih fun x hx => h x (List.mem_cons_of_mem _ hx)]
    rfl
theorem canLayAll_of {ds : List PyData} (h : ∀ d ∈ ds, d.canLay0 = true) : PyData.canLayAll0 ds = true := by
  induction ds with
  | nil => rfl
  | cons d ds ih =>
    show (d.canLay0 && PyData.canLayAll0 ds) = true
    rw [h d List.mem_cons_self, ih fun x hx => h x (List.mem_cons_of_mem _ hx)]
    rfl
/-- data that == may look at, without bools, of depth at most k -/
structure Eqs (d : PyData) (k : Nat) : Prop where
  p : plainD d = true
  c : d.canLay0 = true
  k : d.depth ≤ k
theorem Eqs.int (i : Int) : Eqs (.int i) 0 := ⟨rfl, rfl, Nat.le_refl _⟩
theorem Eqs.none : Eqs .none 0 := ⟨rfl, rfl, Nat.le_refl _⟩
theorem Eqs.list {ds : List PyData} {k : Nat} (h : ∀ d ∈ ds, Eqs d k) : Eqs (.list ds) (k + 1) :=
  ⟨by show plainAll ds = true; exact plainAll_of fun d hd => (h d hd).p, by unfold PyData.canLay0; exact canLayAll_of fun d hd => (h d hd).c, Nat.succ_le_succ (depthAll_le fun d hd => (h d hd).k)⟩
theorem Eqs.tup {ds : List PyData} {k : Nat} (h : ∀ d ∈ ds, Eqs d k) : Eqs (.tuple ds) (k + 1) :=
  ⟨by show plainAll ds = true; exact plainAll_of fun d hd => (h d hd).p, by unfold PyData.canLay0; exact canLayAll_of fun d hd => (h d hd).c, Nat.succ_le_succ (depthAll_le fun d hd => (h d hd).k)⟩
theorem Eqs.mono {d : PyData} {k m : Nat} (h : Eqs d k) (l : k ≤ m) : Eqs d m := ⟨h.p, h.c, Nat.le_trans h.k l⟩
theorem Eqs.shaped {d : PyData} {k : Nat} (h : Eqs d k) (l : k ≤ 64) : SeqAt.shaped d = true := by
  unfold SeqAt.shaped
  rw [h.c, decide_eq_true (Nat.le_trans h.k l)]
  rfl
theorem r_eqDD {K : PySem.W.Frag} {H : Hp} {Q : VK} {x y : V} {d e : PyData} {k m : Nat} (hx : Dp K H x d) (hy : Dp K H y e) (hd : Eqs d k) (he : Eqs e m) (lk : k ≤ 64) (lm : m ≤ 64) (q : ∀ b : Bool, (b = true ↔ d = e) → Q (.bl b) H) : rEqD K x y H Q :=
  ⟨d, e, hx, hy, hd.shaped lk, he.shaped lm, q _ (eqv_iff hd.p he.p)⟩
theorem r_neDD {K : PySem.W.Frag} {H : Hp} {Q : VK} {x y : V} {d e : PyData} {k m : Nat} (hx : Dp K H x d) (hy : Dp K H y e) (hd : Eqs d k) (he : Eqs e m) (lk : k ≤ 64) (lm : m ≤ 64) (q : ∀ b : Bool, (b = true ↔ d ≠ e) → Q (.bl b) H) : rNeD K x y H Q := by
  refine ⟨d, e, hx, hy, hd.shaped lk, he.shaped lm, q _ ?_⟩
  have := eqv_iff hd.p he.p
  cases h : PyData.eqv d e with
  | true => rw [h] at this; exact ⟨fun z => (by cases z), fun z => absurd (this.mp rfl) z⟩
  | false => rw [h] at this; exact ⟨fun _ z => (by cases this.mpr z), fun _ => rfl⟩
/-- a comprehension over a list of tuples that keeps the tuples -/
theorem lc_tupsR {K : PySem.W.Frag} {a : Addr} {g : TG} {tt : TT} {te : TE} {vs : List Nat} {σ : L2.St} {H1 : Hp} {Dl : Addr} {Qd : Hp → Prop} {α : Type} {f : α → List V} {G : Addr → Prop} {as : List Addr} {qs : List α} (h : TupsAt f G H1 a as qs) (hl : qs.length ≤ 100000) (P : α → Bool)
    (hs : ∀ (t : Addr) (q : α) (H' : Hp) (Yes : V → Hp → Prop) (No : Hp → Prop), Same H1 H' → q ∈ qs → H' t = some (.tup (f q)) → (P q = true → ∀ H4, Same H' H4 → Yes (.ref t) H4) → (P q = false → ∀ H3, Same H' H3 → No H3) →
      g (.ref t) (wipe σ vs) H' fun σ2 H2 => wipe σ2 vs = wipe σ vs ∧ tt σ2 H2 fun b H3 => if b = true then te σ2 H3 Yes else No H3)
    (hD : H1 Dl = none) (q : ∀ H' rs, Same H1 H' → TupsAt f (fun _ => True) H' Dl rs (qs.filter P) → Qd H') :
    ∃ W : Nat → Nat → Hp → Prop, (∃ m, W 0 m (upd H1 Dl (.lst []))) ∧ ∀ i m H, W i m H →
      ((Itl K a).stop i H ∧ Qd H) ∨ ((Itl K a).go i H ∧ ∃ Nx : Hp → Prop, (∀ H', Nx H' → ∃ m', m' < m ∧ W (i + 1) m' H') ∧ ∀ x H', (Itl K a).yld i H x H' → g x (wipe σ vs) H' fun σ2 H2 => wipe σ2 vs = wipe σ vs ∧ tt σ2 H2 fun b H3 =>
        if b = true then te σ2 H3 fun y H4 => ∃ acc, H4 Dl = some (.lst acc) ∧ acc.length < sizeLine ∧ Nx (upd H4 Dl (.lst (acc ++ [y]))) else Nx H3) := by
  refine lc_src (src_list (xs := as.map V.ref)) (fun i H' => Same H1 H' ∧ ∃ rs, TupsAt f (fun _ => True) H' Dl rs ((qs.take i).filter P)) (fun i H' h' => lst_of (h'.1 _ _ h.hp)) ⟨same_new hD, [], .nil upd_same⟩ ?_ ?_
  · rintro i v H2 H3 hi ⟨s2, rs, hr⟩ ⟨rfl, hx⟩
    rw [List.length_map, h.len] at hi
    obtain ⟨t, e1, e2, _⟩ := h.at hi
    rw [e1] at hx
    cases hx
    have e2' := s2 _ _ e2
    have et : qs.take (i + 1) = qs.take i ++ [qs[i]] := by rw [List.take_add_one, List.getElem?_eq_getElem hi]; rfl
    have fl := List.length_filter_le P (qs.take i)
    have tl : (qs.take i).length ≤ i := by rw [List.length_take]; omega
    refine hs t qs[i] _ _ _ s2 (List.getElem_mem hi) e2' (fun hP H4 s4 => ?_) (fun hP H4 s4 => ?_)
    · have hr4 := hr.same s4
      refine ⟨_, hr4.hp, szl (by rw [List.length_map, hr4.len]; omega), same_set (s2.trans s4) hD, rs ++ [t], ?_⟩
      rw [et, List.filter_append, List.filter_cons_of_pos hP, List.filter_nil]
      exact hr4.app (s4 _ _ e2') trivial
    · refine ⟨s2.trans s4, rs, ?_⟩
      rw [et, List.filter_append, List.filter_cons_of_neg (by rw [hP]; exact Bool.false_ne_true), List.filter_nil, List.append_nil]
      exact hr.same s4
  · rintro H2 ⟨s2, rs, hr⟩
    rw [List.length_map, h.len, List.take_length] at hr
    exact q H2 rs s2 hr
end Lx

namespace PySem
open Sem (wp)
open AutoSeq1 (wpAny_loadPart')
theorem meets_enumerate_newT (l : Addr) (items : Array Value) (n : Nat) (o : Obj) (hto : o.cls = .type "tuple") (hd : o.data = .seq items n) :
    Meets (Builtin.«enumerate.__new__» ⟨[.type "enumerate", .ref l], []⟩) (fun _ R s => s.heap.get? l = some o ∧ s.heap.IsTuple l items ∧
      R (.ok (.ret (.ref (s.heap.push { cls := .type "tuple_iterator", data := .fields #[.ref l, .int 0 0] }).objs.size)))
        { s with heap := (s.heap.push { cls := .type "tuple_iterator", data := .fields #[.ref l, .int 0 0] }).push { cls := .type "enumerate", data := .fields #[.none, .bool false, .ref s.heap.objs.size, rawInt 0, .none, .none] } }) :=
  .of_wp fun prog w A R s h => by
    obtain ⟨hp, g, d, tk, os⟩ := s; obtain ⟨hl, hL, h⟩ := h
    obtain ⟨oc, od, odt, osl⟩ := o
    replace hto : oc = .type "tuple" := hto
    subst hto
    have hsub := sub_enumerate
    wp_walk using wpAny_loadPart' hl
    refine wpAny_stack_any fun st => wpAny_pure ?_
    split
    · rename_i c _ _ _ _ _
      cases (c == Value.type "enumerate")
      · wp_walk using wpAny_loadPart' hl, wpAny_pyIter_tuple hL
        exact ⟨_, rfl, h⟩
      · wp_walk using wpAny_loadPart' hl, wpAny_pyIter_tuple hL
        exact ⟨_, rfl, h⟩
    · wp_walk using wpAny_loadPart' hl, wpAny_pyIter_tuple hL
      exact ⟨_, rfl, h⟩
end PySem
namespace PySem
section
variable {prog : Program} {w : World} {A : Around} {E : Value → Shared → Prop} {s : Shared}
theorem call_enumerate_tuple {l : Addr} {items : Array Value} {Q : Value → Shared → Prop} (hL : s.heap.IsTuple l items)
    (h : ∀ h', IsEnum h' (s.heap.objs.size + 1) s.heap.objs.size 0 .none → h'.IsTupleIter s.heap.objs.size l 0 → h'.objs.size = s.heap.objs.size + 2 →
      (∀ b o, s.heap.get? b = some o → h'.get? b = some o) → Q (.ref (s.heap.objs.size + 1)) { s with heap := h' }) :
    wpAny (model prog w) A (call (.type "enumerate") [.ref l]) Q E s := by
  have hL' := hL
  obtain ⟨o, hl, hc, n, hd⟩ := hL
  refine callType_new F.called_enumerate (by decide) (F.typeCall_enumerate_1 _) (F.newCall_enumerate_1 _) (fun obj => F.args_object_init_2 obj _) F.entry_enumerate_new
    (meets_enumerate_newT l items n o hc hd) ⟨hl, hL', ?_⟩
  have hz : (s.heap.push { cls := .type "tuple_iterator", data := .fields #[.ref l, .int 0 0] }).objs.size = s.heap.objs.size + 1 := Heap.size_push ..
  show _ ∧ _
  rw [hz]
  have he : IsEnum ((s.heap.push { cls := .type "tuple_iterator", data := .fields #[.ref l, .int 0 0] }).push
      { cls := .type "enumerate", data := .fields #[.none, .bool false, .ref s.heap.objs.size, rawInt 0, .none, .none] }) (s.heap.objs.size + 1) s.heap.objs.size 0 .none := by
    have := Heap.get?_push_size (s.heap.push { cls := .type "tuple_iterator", data := .fields #[.ref l, .int 0 0] })
      (o := { cls := .type "enumerate", data := .fields #[.none, .bool false, .ref s.heap.objs.size, rawInt 0, .none, .none] }) rfl
    rw [hz] at this; exact this
  refine ⟨⟨_, he, rfl⟩, h _ he ⟨_, Heap.get?_push_of_some _ (Heap.get?_push_size _ rfl), rfl, rfl⟩ (by rw [Heap.size_push, hz]) fun b o x => Heap.get?_push_of_some _ (Heap.get?_push_of_some _ x)⟩
end
end PySem
namespace Lx
open PySem PySem.Spec PyProof.Rows PySem.Calls L2
/-! ### enumerate(tuple) -/
def Itet (K : PySem.W.Frag) (a : Addr) : It :=
  ⟨fun i H => ∃ (xs : List V) (x : V), SqT K H a xs ∧ xs[i]? = some x, fun i H v H' => ∃ T x, v = .ref T ∧ H T = none ∧ H' = upd H T (.tup [.int (i : Nat), x]) ∧ ∀ xs, SqT K H a xs → xs[i]? = some x, fun i H => ∃ xs : List V, SqT K H a xs ∧ xs.length ≤ i⟩
theorem turn_enumT {P : Program} {w : World} {K : PySem.W.Frag} {elts : List Expr} {kk : Nat} {tpos : Pos} (a e it : Addr) :
    Turn P w K (.Tuple elts kk tpos) (Itet K a) [e, it] e (fun i h => (∃ old, IsEnum h e it ((i : Nat) : Int) old) ∧ h.IsTupleIter it a i ∧ e ≠ it) where
  mem := by simp
  obj := fun i h st b hb => by
    obtain ⟨⟨old, he⟩, ⟨o, ho, hc, hd⟩, _⟩ := st
    have e' : b = e ∨ b = it := by simpa using hb
    rcases e' with z | z
    · rw [z]; exact ⟨_, he, fun v q => nomatch q⟩
    · rw [z]; exact ⟨o, ho, fun v q => by rw [hd] at q; cases q⟩
  keep := fun i h h' st k => let ⟨⟨old, he⟩, hi, hne⟩ := st; ⟨⟨old, k e (by simp) _ he⟩, hi.at fun o q => k it (by simp) o q, hne⟩
  item := by
    intro X hP hw hK hc i pins s σ H E I hf st hg
    subst hP hw hK
    obtain ⟨⟨old, he⟩, hit, hne⟩ := st
    obtain ⟨xs, x, hq, hx⟩ := hg
    obtain ⟨its, rv, p, hz⟩ := I.tuple hq
    obtain ⟨u, hu, ru⟩ := rv.get hx
    have hel : e < s.heap.objs.size := Heap.lt_size he
    have hil : it < s.heap.objs.size := by obtain ⟨_, q, _⟩ := hit; exact Heap.lt_size q
    have pt : s.heap.IsTuple a its.toArray := p
    have nai : a ≠ it := fun z => by
      obtain ⟨o1, h1, c1, _⟩ := pt
      obtain ⟨o2, h2, c2, _⟩ := hit
      rw [z, h2] at h1
      cases h1
      rw [c2] at c1
      exact absurd c1 (by decide)
    have nae : e ≠ a := fun z => by
      obtain ⟨o1, h1, c1, _⟩ := pt
      have h2 := he
      unfold IsEnum at h2
      rw [z, h1] at h2
      cases h2
      have c2 : (Value.type "enumerate") = Value.type "tuple" := c1
      exact absurd c2 (by decide)
    have D := Draws.tuple (prog := X.prog) (w := X.w) (A := X.A.in1) (show X.A.in1.handled = none from I.ok.hd hc) it a nai its.toArray
    have hlt : i < its.toArray.size := by
      have := (List.getElem?_eq_some_iff.mp hu).1
      simpa using this
    refine wpAny_pyNext_enum_itemD D he ⟨hit, pt⟩ hlt hne (fun z => by
      rcases List.mem_cons.mp z with z | z
      · exact hne z
      · exact nae (List.mem_singleton.mp z)) fun u' h' tk hu' ho hit' hT hsz hk => ?_
    obtain rfl : u = u' := by
      have e1 : its.toArray[i]? = some u' := hu'
      rw [List.getElem?_toArray, hu] at e1
      exact Option.some.inj e1
    refine ⟨_, rfl, wpAny_letOwnedTupleGo_enum (s := { s with heap := h', toks := tk + 1 }) ho fun h'' he' sb => ?_⟩
    have hT2 : h''.get? s.heap.objs.size = some { cls := .type "tuple", data := .seq #[.int i tk, u] } := (sb.2 _ (Nat.ne_of_gt hel)).trans hT
    have new : ObjOk X.prog X.w (upd H s.heap.objs.size (.tup [.int (i : Nat), x])) h'' s.heap.objs.size (.tup [.int (i : Nat), x]) :=
      ⟨by show 2 ≤ sizeLine; decide, [.int i tk, u], .cons ⟨_, rfl⟩ (.cons ru .nil), ⟨_, hT2, rfl, _, rfl⟩⟩
    have I1 : Inv X pins σ (upd H s.heap.objs.size (.tup [.int (i : Nat), x])) { s with heap := h'', toks := tk + 1 } :=
      I.turnedNew (ch := [e, it]) (fun b ob hb q => (sb.2 b (fun z => hb (by simp [z]))).trans (hk b ob (fun z => hb (by simp [z])) (fun z => hb (by simp [z])) q)) hf (Nat.le_refl _) new
    refine ⟨.ref s.heap.objs.size, _, I1, rfl, ⟨_, x, rfl, I.hok.fresh (Nat.le_refl _), rfl, fun ys hy => by rw [I.tuple_inj hy hq]; exact hx⟩, ⟨⟨u, ?_⟩, hit'.1.at fun o q => (sb.2 it (Ne.symm hne)).trans q, hne⟩, fun b hb => ?_⟩
    · have e1 : ((i + 1 : Nat) : Int) = (i : Int) + 1 := by omega
      rw [e1]; exact he'
    · have hb' : b < s.heap.objs.size := by
        have e' : b = e ∨ b = it := by simpa using hb
        rcases e' with z | z
        · rw [z]; exact hel
        · rw [z]; exact hil
      rw [upd_ne (Nat.ne_of_lt hb')]
      exact (hf b hb).1
  done := by
    intro X hP hw hK hc i pins s σ H E I hf st hg
    subst hP hw hK
    obtain ⟨⟨old, he⟩, hit, hne⟩ := st
    obtain ⟨xs, hq, hx⟩ := hg
    obtain ⟨its, rv, p, hz⟩ := I.tuple hq
    obtain ⟨f0, f1, f2, f3, f4, f5⟩ := hf it (by simp)
    have hl := rv.length
    have pt : s.heap.IsTuple a its.toArray := p
    have nai : a ≠ it := fun z => by
      obtain ⟨o1, h1, c1, _⟩ := pt
      obtain ⟨o2, h2, c2, _⟩ := hit
      rw [z, h2] at h1
      cases h1
      rw [c2] at c1
      exact absurd c1 (by decide)
    have D : Draws X.prog X.w X.A.in1 it [it, a] 0 (fun i v => its.toArray[i]? = some v) (fun _ h => h.IsTupleIter it a i ∧ h.IsTuple a its.toArray) := {
      live := fun _ _ st => let ⟨o, ho, _⟩ := st.1; ⟨o, ho⟩
      frame := fun _ _ _ st hk => ⟨st.1.at fun o e => hk it (by simp) o e, st.2.at fun o e => hk a (by simp) o e⟩
      item := fun j s Q E hi st hQ => absurd hi (Nat.not_lt_zero _)
      done := fun s Q E st hE => wpAny_nextOf_tuple_end (show X.A.in1.handled = none from I.ok.hd hc) st.1 st.2 (by simp; omega) hE }
    exact wpAny_pyNext_enum_endD D he ⟨hit, pt⟩ fun h' eb => ⟨rfl, I.turned (t' := s.toks) (fun b o hb q => eb b o hb q) f0 f1 f3 f4 f5⟩
  self := fun A i s Q E st h => let ⟨⟨_, he⟩, _⟩ := st; wpAny_pyIter_enum he h
def iEnumT (K : PySem.W.Frag) (ta : TA) : TI := fun σ H R => ta σ H fun vs H1 => ∃ a xs, vs = [.ref a] ∧ SqT K H1 a xs ∧ R (Itet K a) H1
theorem pi_enumT {X : Cx} {e : Expr} {ta : TA} {p pos tpos : Pos} {elts : List Expr} {kk : Nat} (hg : Gl X "enumerate") (hm : X.mg "enumerate" = none) (ha : PA X [e] ta) (hs : starEach [e] X.env = [(false, eval e X.env)] := by rfl) :
    PI X (.Tuple elts kk tpos) (.Call (.Name "enumerate" p) [e] [] pos) (iEnumT X.K ta) := by
  refine ⟨fun pins s σ H R I h => ?_⟩
  refine Call_ (ld_blt I hg hm boot_enumerate (PyProof.Rows.callWith_type1 (thn (ha.run pos pins s σ H _ I h) fun us s1 ⟨vs, H1, I1, r1, q1⟩ => ?_) hs rfl))
  obtain ⟨a, xs, ex, hq, q⟩ := q1
  subst ex
  cases r1 with
  | cons r rr =>
    cases rr
    cases r
    obtain ⟨its, rv, p', hz⟩ := I1.tuple hq
    refine call_enumerate_tuple (show s1.heap.IsTuple a its.toArray from p') fun h' he hit hsz hk => wpAny_pyIter_enum he ?_
    have I2 : Inv X pins σ H1 { s1 with heap := h' } := I1.kept (t' := s1.toks) hk
    refine ⟨s1.heap.objs.size + 1, [s1.heap.objs.size + 1, s1.heap.objs.size], _, _, H1, rfl, I2, turn_enumT a (s1.heap.objs.size + 1) s1.heap.objs.size, ⟨⟨.none, he⟩, hit, Nat.succ_ne_self _⟩, fun b hb => ?_, q⟩
    have e' : b = s1.heap.objs.size + 1 ∨ b = s1.heap.objs.size := by simpa using hb
    have hle : s1.heap.objs.size ≤ b := by
      rcases e' with z | z
      · rw [z]; exact Nat.le_add_right _ _
      · rw [z]; exact Nat.le_refl _
    exact I1.fpOk hle (I1.hok.fresh hle)
theorem k_enumT (K : PySem.W.Frag) {X : Cx} {e : Expr} {ta : TA} {p pos tpos : Pos} {elts : List Expr} {kk : Nat} (hg : Gl X "enumerate") (hm : X.mg "enumerate" = none) (ha : PA X [e] ta) (hs : starEach [e] X.env = [(false, eval e X.env)] := by rfl) (h : X.K = K := by rfl) :
    PI X (.Tuple elts kk tpos) (.Call (.Name "enumerate" p) [e] [] pos) (iEnumT K ta) := h ▸ pi_enumT hg hm ha hs
theorem src_enumT {K : PySem.W.Frag} {a : Addr} {xs : List V} : Src (Itet K a) xs.length (fun H => SqT K H a xs) (fun i v H H' => ∃ T x, v = .ref T ∧ H T = none ∧ H' = upd H T (.tup [.int (i : Nat), x]) ∧ xs[i]? = some x) where
  go := fun i H h hi => ⟨xs, xs[i], h, by simp [hi]⟩
  stop := fun H h => ⟨xs, h, Nat.le_refl _⟩
  yld := fun i H v H' h _ y => by
    obtain ⟨T, x, e, n, u, f⟩ := y
    exact ⟨T, x, e, n, u, f xs h⟩
/-- a walk over the numbered items of a list or a tuple -/
theorem r_enumSq {K : PySem.W.Frag} {σ : L2.St} {H : Hp} {R : It → Hp → Prop} {i : Nat} {a : Addr} {xs : List V} (e : σ[i]? = some (some (.ref a))) (h : Sq H a xs)
    (q : ∀ (J : It) (OK : Hp → Prop), (∀ H', H' a = H a → OK H') → Src J xs.length OK (fun i v H H' => ∃ T x, v = .ref T ∧ H T = none ∧ H' = upd H T (.tup [.int (i : Nat), x]) ∧ xs[i]? = some x) → R J H) : iOr (iEnum K (tCons (tVar i) tNil)) (iEnumT K (tCons (tVar i) tNil)) σ H R :=
  h.elim (fun h => .inl ⟨.ref a, e, a, xs, rfl, lst_of h, q _ (fun H' => SqL K H' a xs) (fun H' s => lst_of (s.trans h)) src_enum⟩) fun h => .inr ⟨.ref a, e, a, xs, rfl, tup_of h, q _ (fun H' => SqT K H' a xs) (fun H' s => tup_of (s.trans h)) src_enumT⟩
theorem Sq.there {H : Hp} {a : Addr} {xs : List V} (h : Sq H a xs) : ∃ o, H a = some o := h.elim (fun h => ⟨_, h⟩) fun h => ⟨_, h⟩
end Lx

namespace Lx
open PySem PySem.Spec PyProof.Rows L2
/-! ### exceptions where no repr runs around -/
/-- what a callee lets out leaves the def as well -/
theorem passE {X : Cx} {E : XK} (tk : Takes X (fun cls d _ H => E cls d H)) : Passes (L2.CX X.prog X.w) X E := passes_call tk fun _ _ _ _ h => h
def orSp (a b : Sp) : Sp := fun vs H Q E => a vs H Q E ∨ b vs H Q E
section
variable {P : Program} {w : World} {K : PySem.W.Frag} {mg : Str → Option Value} {base : Heap} {k : Nat} {f : Addr} {fd : FuncData} {ps : List Str} {sp sp' : Sp}
theorem FnG.or (F : FnG P w K mg base k f fd ps sp) (F' : FnG P w K mg base k f fd ps sp') : FnG P w K mg base k f fd ps (orSp sp sp') :=
  ⟨fun us H Q E h => h.elim (F.ln us H Q E) (F'.ln us H Q E), fun A fs s H ar us vs Q E hg hr e b v h => h.elim (F.go A fs s H ar us vs Q E hg hr e b v) (F'.go A fs s H ar us vs Q E hg hr e b v)⟩
end
/-- a base class without an own __init__ -/
structure BaseI (K : PySem.W.Frag) (C0 : Addr) : Prop where
  ga : PySem.W.specialIn K (.ref C0) "__getattribute__" = some (some (.builtin "type.__getattribute__"))
  rd : PySem.W.readsIn K C0 (.type "type") = true
  fi : PySem.W.findCls K (.ref C0) (.type "type") "__init__" = some (.val (.builtin "ValueError.__init__"))
/-- an error class with its own __init__, as its makers see it -/
structure Xn (P : Program) (w : World) (K : PySem.W.Frag) (mg : Str → Option Value) (base : Heap) (k : Nat) (x : Str) (C : Addr) (dvs : List V) (sp : Sp) : Prop where
  ex : ∃ (f : Addr) (fd : FuncData) (ps : List Str) (ds : List Value), FnG P w K mg base k f fd ps sp ∧ mg x = some (.ref C) ∧ OexC K C ∧ PySem.W.findIn K (.ref C) "__init__" = some (some (.ref f)) ∧ PySem.W.typeIn K (.ref f) = some (.type "function") ∧ Binds K fd ps ds ∧ Vals dvs ds
section
variable {X : Cx} {k : Nat} {C0 C : Addr} {sp : Sp} {dvs : List V} {E : L2.St → XK} {x : Str} {p p1 p2 pos : Pos} {e : Expr} {es : List Expr} {ta : TA} {t : TA}
/-- C0.__init__(self, ..), C0 an own class over ValueError -/
theorem pe_oinit {pl : Sem Bool} (T0 : BaseI X.K C0) (hg : Gl X x) (hm : X.mg x = some (.ref C0)) (ha : PA X (e :: es) ta) (hdb : (x == ("__debug__" : Str)) = false := by decide)
    (hc : eval (.Call (.Attribute (.Name x p1) "__init__" p2) (e :: es) [] pos) X.env = (do
      let ov ← eval (.Name x p1) X.env
      standAt p2.atName
      let (f, first) ← holding [ov] (getMethod ov "__init__" pl)
      callWith pos f first (backTo pos (starEach (e :: es) X.env)) (backToKw pos (keywordEach [] X.env))) := by rfl)
    (he : starEach (e :: es) X.env = (false, eval e X.env) :: starEach es X.env := by rfl) (hpl : (backTo pos (starEach es X.env)).any (·.1) = false := by rfl) :
    PE X (.Call (.Attribute (.Name x p1) "__init__" p2) (e :: es) [] pos) (tVeI X.K ta) := by
  refine ⟨fun pins s σ H Q I h => ?_⟩
  refine PySem.W.methodCall_KW (ld_glob I hg hm ?_ hdb) hc
  refine PySem.W.method_cls I.kIn T0.ga (PySem.W.cls_value I.kIn T0.rd T0.fi (by decide +kernel) ?_)
  show wpAny _ _ (callWith pos (Value.builtin "ValueError.__init__") [] (backTo pos (starEach (e :: es) X.env)) []) _ _ _
  refine PyProof.Rows.callWith_method1 (thn (ha.run pos pins _ σ H _ (I.tok _) h) fun us s1 ⟨vs, H1, I1, r1, a, C, ws, ev, hl, T, ea, q⟩ => ?_) he hpl
  subst ev
  cases r1 with
  | @cons _ u0 _ ur ra rw' =>
    obtain rfl : u0 = Value.ref a := ra
    have hlen : ur.length ≤ sizeLine := by
      rw [← Paired.length rw', sizeLine_eq]
      omega
    exact oinit_ok T I1 ea hlen fun s' J => ⟨.non, H1, J, rfl, q⟩
/-- C(..), C an error class whose __init__ keeps sp -/
theorem pmk_x (D : Xn X.prog X.w X.K X.mg X.base k x C dvs sp) (hG : X.A.guards = some []) (hr : Room (k + 1) X.A) (hx : Passes (L2.CX X.prog X.w) X (fun _ _ _ => False)) (hg : Gl X x) (ha : PA X (e :: es) ta)
    (hdb : (x == ("__debug__" : Str)) = false := by decide) (he : starEach (e :: es) X.env = (false, eval e X.env) :: starEach es X.env := by rfl) (hpl : (backTo pos (starEach es X.env)).any (·.1) = false := by rfl) :
    PMk X (.Call (.Name x p) (e :: es) [] pos) (tMkO C sp dvs ta) := by
  obtain ⟨fI, fd, ps, ds, F1, hm, T, iC, tI, hb, hd⟩ := D.ex
  intro pins s σ H Q I h
  obtain ⟨nm, q, N, bs, bm, sn, sub, ab, col, dd, k0, k1, k2, k3, k5, hC, hbm⟩ := T.cls
  refine wpAny_Call_Name_kw (ld_glob I hg hm ?_ hdb)
  refine PySem.W.callWith_K (h₀ := X.base) I.ok.mod.kin T.kC (thn (ha.run pos pins s σ H _ I h) fun us s1 ⟨vs, H1, I1, r1, hz, q1⟩ => ⟨I1.kIn, ?_⟩) he hpl
  show wpAny _ _ (call (.ref C) us) _ _ _
  obtain ⟨hp, g, dr, tk, os⟩ := s1
  have hsz : hp.objs.size ≤ hp.objs.size + 1 := Nat.le_succ _
  have hn : H1 (hp.objs.size + 1) = none := I1.hok.fresh hsz
  have hq := q1 (hp.objs.size + 1) hn
  have kk : ∀ b o, hp.get? b = some o → ((hp.push (PySem.W.kdv_tup us)).push (PySem.HandSPX.excO C hp.objs.size)).get? b = some o := fun b o e => Heap.get?_push_of_some _ (Heap.get?_push_of_some _ e)
  have hget : ((hp.push (PySem.W.kdv_tup us)).push (PySem.HandSPX.excO C hp.objs.size)).get? (hp.objs.size + 1) = some (PySem.HandSPX.excO C hp.objs.size) := by heap_get
  have I2 : Inv X pins σ (upd H1 (hp.objs.size + 1) (exo (hp.objs.size + 1) C none)) ⟨(hp.push (PySem.W.kdv_tup us)).push (PySem.HandSPX.excO C hp.objs.size), g, dr, tk, os⟩ :=
    I1.laid (t' := tk) (a := hp.objs.size + 1) (o := exo (hp.objs.size + 1) C none) (h' := (hp.push (PySem.W.kdv_tup us)).push (PySem.HandSPX.excO C hp.objs.size)) kk hsz (exo_ok hget)
  have r2 : Vals (V.ref (hp.objs.size + 1) :: (vs ++ dvs)) (Value.ref (hp.objs.size + 1) :: (us ++ ds)) := .cons rfl (r1.append hd)
  have hl : (Value.ref (hp.objs.size + 1) :: us ++ ds).length = ps.length := by
    have e := r2.length
    rw [F1.ln _ _ _ _ hq] at e
    exact e.symm
  have hus : us.length ≤ sizeLine := by
    rw [← Paired.length r1, sizeLine_eq]
    omega
  refine wpAny_call (PySem.HandSPX.call_own F.excBase_ValueError (fun Y => PySem.HandSPX.refsVE_contains Y bm hbm) (I1.kIn _ _ hC) (PySem.W.looks_findIn I1.kIn iC) (fun self => PySem.W.bind_fn I1.kIn self tI) hus
    (codeAny_mono (F1.go _ X.stack _ _ ⟨Value.ref (hp.objs.size + 1) :: us, []⟩ (Value.ref (hp.objs.size + 1) :: (us ++ ds)) _ _ (fun _ _ _ => False) hG (hr.make C us []) (I2.env0.make C us []) (hb _ (Value.ref (hp.objs.size + 1) :: us) I2.kIn hl) r2 hq) fun r s' hq' => ?_))
  cases r with
  | error er => exact hx pins σ _ _ er s' I2 hq'
  | ok fl =>
    cases fl with
    | ret u =>
      obtain ⟨v, H2, os2, bare2, un2, hok2, rv, ev, d, fs, ea, ed, hd1, q2⟩ := hq'
      subst ev
      obtain ⟨h2, g2, d2, t2, os'⟩ := s'
      exact ⟨rv, mk_end (raises_own T.exC T.tyC) I1 hsz kk un2 hok2 os2 bare2 ea ed hd1 q2⟩
    | next => exact False.elim hq'
    | brk => exact False.elim hq'
    | cont => exact False.elim hq'
/-- f(..) in a try's body -/
def tCallG (sp : Sp) (dvs : List V) (E : L2.St → XK) (t : TA) : TE := fun σ H Q => t σ H fun vs H1 => sp (vs ++ dvs) H1 Q (E σ)
theorem pe_dfS (D : Df X.prog X.w X.K X.mg X.base k x dvs sp) (hG : X.A.guards = some []) (hr : Room k X.A) (hx : ∀ σ, PassesAt (L2.CX X.prog X.w) X σ (E σ)) (hg : Gl X x) (ha : PA X (e :: es) t)
    (hdb : (x == ("__debug__" : Str)) = false := by decide) (he : starEach (e :: es) X.env = (false, eval e X.env) :: starEach es X.env := by rfl) (hpl : (backTo pos (starEach es X.env)).any (·.1) = false := by rfl) :
    PE X (.Call (.Name x p) (e :: es) [] pos) (tCallG sp dvs E t) := by
  obtain ⟨f, fd, ps, ds, F, hm, hk, hb, hd⟩ := D.ex
  refine ⟨fun pins s σ H Q I h => ?_⟩
  refine wpAny_Call_Name_kw (ld_glob I hg hm ?_ hdb)
  refine PySem.W.callWith_K (h₀ := X.base) I.ok.mod.kin hk (thn (ha.run pos pins s σ H _ I h) fun us s1 ⟨vs, H1, I1, r, q⟩ => ⟨I1.kIn, ?_⟩) he hpl
  have rv := r.append hd
  have z := F.go X.A X.stack s1 H1 ⟨us, []⟩ (us ++ ds) (vs ++ dvs) Q (E σ) hG hr I1.env0 (hb s1 us I1.kIn (rv.length.symm.trans (F.ln _ _ _ _ q))) rv q
  refine wpAny_call (codeAny_mono z ?_)
  intro r s' hq
  cases r with
  | error e => exact hx σ pins H1 s1 e s' I1 hq
  | ok fl => cases fl with
    | ret u => exact I1.after hq
    | next => exact hq.elim
    | brk => exact hq.elim
    | cont => exact hq.elim
end
/-! ### readings -/
section
variable {K : PySem.W.Frag} {σ : L2.St} {H : Hp} {Q : VK} {QX : XK} {D : Ends} {ta : TA} {to te : TE} {C a : Addr} {fld : Str} {v : V} {sp : Sp} {dvs : List V} {E : L2.St → XK}
theorem r_callG (h : ta σ H fun vs H1 => sp (vs ++ dvs) H1 Q (E σ)) : tCallG sp dvs E ta σ H Q := h
theorem r_vei (h : ta σ H fun vs H1 => ∃ (a C : Addr) (ws : List V), vs = .ref a :: ws ∧ ws.length ≤ 1000 ∧ OexC K C ∧ H1 a = some (exo a C none) ∧ Q .non H1) : tVeI K ta σ H Q := h
theorem r_ost (h : te σ H fun y H1 => to σ H1 fun x H2 => ∃ a C : Addr, x = .ref a ∧ OexC K C ∧ PySem.W.findIn K (.ref C) fld = some none ∧
  ((H2 a = some (exo a C none) ∧ ∀ dx, H2 dx = none → dx ≠ a → D.nx σ (upd (upd H2 dx (exd dx [(fld, y)])) a (exo a C (some dx)))) ∨
    ∃ (dx : Addr) (fs : List (Str × V)), H2 a = some (exo a C (some dx)) ∧ H2 dx = some (exd dx fs) ∧ fs.length ≤ 900 ∧ D.nx σ (upd H2 dx (exd dx ((fld, y) :: fs))))) : tOst K fld to te D σ H := h
/-- an own __init__ that keeps one value in the field fld -/
def spXInit (C : Addr) (fld : Str) : Sp := fun vs H Q _ => ∃ (a : Addr) (v : V), vs = [.ref a, v] ∧ H a = some (exo a C none) ∧ ∀ dx, H dx = none → dx ≠ a → Q .non (upd (upd H dx (exd dx [(fld, v)])) a (exo a C (some dx)))
theorem r_mkO (h : ta σ H fun vs H1 => vs.length ≤ 1000 ∧ ∀ a, H1 a = none → sp (.ref a :: (vs ++ dvs)) (upd H1 a (exo a C none))
  (fun v H2 => v = .non ∧ ∃ (d : Addr) (fs : List (Str × V)), H2 a = some (exo a C (some d)) ∧ H2 d = some (exd d fs) ∧ H1 d = none ∧ QX (.ref C) (some d) (upd (del H2 a) d (.xd fs))) (fun _ _ _ => False)) : tMkO C sp dvs ta σ H QX := h
theorem r_mkx (h : ∀ d H2, Same H H2 → H d = none → H2 d = some (.xd [(fld, v)]) → QX (.ref C) (some d) H2) : [v].length ≤ 1000 ∧ ∀ a, H a = none → spXInit C fld (.ref a :: ([v] ++ [])) (upd H a (exo a C none))
  (fun v H2 => v = .non ∧ ∃ (d : Addr) (fs : List (Str × V)), H2 a = some (exo a C (some d)) ∧ H2 d = some (exd d fs) ∧ H d = none ∧ QX (.ref C) (some d) (upd (del H2 a) d (.xd fs))) (fun _ _ _ => False) := by
  refine ⟨by show 1 ≤ 1000; decide, fun a na => ⟨a, v, rfl, upd_same, fun dx nd ne => ⟨rfl, dx, [(fld, v)], upd_same, ?_, ?_, ?_⟩⟩⟩
  · rw [upd_ne ne]; exact upd_same
  · rw [upd_ne ne] at nd; exact nd
  · have nd' : H dx = none := by rw [upd_ne ne] at nd; exact nd
    refine h dx _ (fun x o hx => ?_) nd' upd_same
    have e1 : x ≠ a := fun z => by rw [z, na] at hx; cases hx
    have e2 : x ≠ dx := fun z => by rw [z, nd'] at hx; cases hx
    rw [upd_ne e2, del_ne e1, upd_ne e1, upd_ne e2, upd_ne e1]
    exact hx
theorem r_caught {c cls : Value} {i : Nat} {ts : Addr → Value → Option Addr → TS} {Wout : WX} {d : Option Addr} (e : PySem.W.exmOne K cls c = some true)
    (h : ∀ a, H a = none → ts a cls d { nx := fun σ' H' => D.nx (σ'.set i none) H', rt := D.rt, bk := fun σ' H' => D.bk (σ'.set i none) H', ct := fun σ' H' => D.ct (σ'.set i none) H' } (σ.set i (some (.ref a))) H) : wAs K c i ts Wout D cls d σ H :=
  ⟨true, e, fun _ => h, fun z => Bool.noConfusion z⟩
theorem r_xf {cls : Value} {d : Option Addr} (h : te σ H fun x H1 => x = .ref a ∧ cls = .ref C ∧ ∃ (dd : Addr) (fs : List (Str × V)) (v : V), d = some dd ∧ H1 dd = some (.xd fs) ∧ fs.lookup fld = some v ∧ Q v H1) : tXf a cls d C fld te σ H Q := h
end
end Lx
namespace Lx
open PySem PySem.Spec PyProof.Rows L2
/-- an error class with one field, as its catchers see it -/
structure ErrK (K : PySem.W.Frag) (mg : Str → Option Value) (x : Str) (C : Addr) (fld : Str) : Prop where
  g : mg x = some (.ref C)
  xf : XfC K C
  nf : PySem.W.findIn K (.ref C) fld = some none
  te : PySem.W.exmOne K (.ref C) (.ref C) = some true
/-- .. and as its own __init__ sees it -/
structure OwnX (K : PySem.W.Frag) (mg : Str → Option Value) (x0 : Str) (C0 C : Addr) (fld : Str) : Prop where
  g0 : mg x0 = some (.ref C0)
  b0 : BaseI K C0
  ox : OexC K C
  nf : PySem.W.findIn K (.ref C) fld = some none
end Lx

namespace L2
open PySem PySem.Spec PyProof.Rows PySem.Calls
/-! ### set(a list of ints): the members go in one by one -/
section
variable {P : Program} {w : World} {A : Around} {E : Value → Shared → Prop} {s : Shared}
abbrev setNew (w : World) : Obj := { cls := .type "set", dict := none, data := .set #[] 0 (.fresh 0 0 (!w.params.followText "set-order")) }
theorem call_set_lstI {l : Addr} {xs : Array Value} (ns : List Int) {Q : Value → Shared → Prop} (hh : A.handled = none) (hl : s.heap.IsList l xs) (hi : IntsAre xs.toList ns) (hb : ns.length + 1 < scanBound)
    (h : ∀ (h' : Heap) (tk c : Nat), SetR w h' s.heap.objs.size (fun j => decide (j ∈ ns)) c → c ≤ ns.length → (∀ b o, s.heap.get? b = some o → h'.get? b = some o) → Q (.ref s.heap.objs.size) { s with heap := h', toks := tk }) :
    wpAny (model P w) A (call (.type "set") [.ref l]) Q E s := by
  have size_eq : xs.size = ns.length := (Array.length_toList (xs := xs)).symm.trans (IntsAre.length hi)
  obtain ⟨c, tl, hmro⟩ := F.called_set.mro
  have hmade := F.called_set.made
  have hsub := F.called_set.sub
  have h1 := F.called_set.notType
  have h2 := F.called_set.canCreate
  have hct := F.typeCall_set_1 (.ref l)
  refine wpAny_call (codeAny_of_tree ?_)
  show wpAny _ _ (callAny (.type "set") _) _ _ _
  refine wpAny_pure ⟨Code.quiet_builtin _ (by decide +kernel), codeAny_builtin F.entry_type_call ?_⟩
  rw [Around.under_plain (weight_type_call_type "set" [.ref l] []) rfl]
  repeat (any_goals (first | assumption | wp_step))
  refine codeAny_mono (code_set_led1 (.ref l) (E := E) (Q₁ := fun v t => v = .ref s.heap.objs.size ∧ t = { s with heap := s.heap.push (setNew w) }) ⟨rfl, rfl⟩) fun r s1 z => ?_
  cases r with
  | error e => exact z
  | ok fl =>
    cases fl with
    | ret v =>
      obtain ⟨rfl, rfl⟩ := z
      have at0 : (s.heap.push (setNew w)).get? s.heap.objs.size = some (setNew w) := Heap.get?_push_size _ rfl
      have hT : Shared.TypeIs { s with heap := s.heap.push (setNew w) } (.ref s.heap.objs.size) "set" := ⟨_, at0, rfl⟩
      have hli := F.called_set.init.lookup
      have hbi := F.called_set.init.bind (.ref s.heap.objs.size)
      repeat (any_goals (first | assumption | wp_step))
      refine codeAny_mono (codeAny_call_builtin (R := wants (fun v t => v = .none ∧ ∃ h' tk c, t = { s with heap := h', toks := tk } ∧ SetR w h' s.heap.objs.size (fun j => decide (j ∈ ns)) c ∧ c ≤ ns.length ∧ (∀ b o, s.heap.get? b = some o → h'.get? b = some o)) E)
        F.called_set.init.plain F.entry_set_init (check_set_init_1 hT ?_)) fun r2 s2 z2 => ?_
      · obtain ⟨⟨oc, od, odt, osl⟩, hol, hcl, nl, hdl⟩ := hl
        simp only at hcl hdl
        subst hcl; subst hdl
        have hol' : (s.heap.push (setNew w)).get? l = some { cls := .type "list", dict := od, data := .seq xs nl, slots := osl } := Heap.get?_push_of_some _ hol
        have hsls := F.sub_list_set
        have hslf := F.sub_list_frozenset
        have hne : (Value.type "list" == Value.type "dict") = false := by decide
        have hl1 : (s.heap.push (setNew w)).IsList l xs := ⟨_, hol', rfl, nl, rfl⟩
        unfold Builtin.«set.__init__» noKeywords Builtin.Frozenset.updateFrom
        generalize hPI : pyIter = PI
        wp_walk
        subst hPI
        refine wpAny_pyIter_list hl1 (wpAny_bind (wpAny_runValue ?_))
        have lS : l < s.heap.objs.size := Heap.lt_size hol
        have sz1 : (s.heap.push (setNew w)).objs.size = s.heap.objs.size + 1 := Heap.size_push ..
        have hneI : l ≠ (s.heap.push (setNew w)).objs.size := by rw [sz1]; exact Nat.ne_of_lt (Nat.lt_succ_of_lt lS)
        have hSf : s.heap.objs.size ∉ [(s.heap.push (setNew w)).objs.size, l] := by
          rw [sz1]
          intro z
          rcases List.mem_cons.mp z with z | z
          · exact Nat.ne_of_lt (Nat.lt_succ_self _) z
          · exact Nat.ne_of_gt lS (List.mem_singleton.mp z)
        refine set_update_ints ((Walks.list (show A.in1.in1.in1.handled = none by simp [hh]) _ l hneI xs).toS) s.heap.objs.size hSf ns size_eq hb (fun i v hv => ?_) (xs.size - 0) 0 _ (by omega) (Nat.zero_le _)
          ⟨⟨_, Heap.get?_push_size _ rfl, rfl, rfl⟩, (hl1.push _)⟩ ⟨0, Nat.le_refl 0, setR_new_at (Heap.get?_push_of_some _ at0)⟩ (fun s' c' hm hc' hS' => ?_)
        · have hin : i < ns.length := by rw [← size_eq]; exact (Array.getElem?_eq_some_iff.mp hv).1
          obtain ⟨t, e⟩ := IntsAre.int_at hi i v (by rw [Array.getElem?_toList]; exact hv)
          exact ⟨ns[i], t, List.getElem?_eq_getElem hin, by rw [e, List.getD_eq_getElem?_getD, List.getElem?_eq_getElem hin] <;> rfl⟩
        · obtain ⟨h', g2, d', tk', os'⟩ := s'
          obtain rfl : g2 = s.gens := hm.gens
          obtain rfl : d' = s.drawn := hm.drawn
          obtain rfl : os' = s.os := hm.os
          show wpAny _ _ _ _ _ _
          refine wpAny_pure ?_
          show wpAny _ _ (ret Value.none) _ _ _
          refine wpAny_pure ⟨rfl, h', tk', c', rfl, hS', by rw [← size_eq]; exact hc', fun b o e => hm.heap b o ?_ (Heap.get?_push_of_some _ (Heap.get?_push_of_some _ e))⟩
          have b0 : b < s.heap.objs.size := Heap.lt_size e
          intro z
          rcases List.mem_cons.mp z with z | z
          · exact Nat.ne_of_lt b0 z
          · have e2 := List.mem_singleton.mp z
            rw [sz1] at e2
            exact Nat.ne_of_lt (Nat.lt_succ_of_lt b0) e2
      · cases r2 with
        | error e => exact z2
        | ok fl2 =>
          cases fl2 with
          | ret v2 =>
            obtain ⟨rfl, h', tk, c', rfl, hS', hc', hk'⟩ := z2
            repeat (any_goals (first | assumption | wp_step))
            exact h _ _ _ hS' hc' hk'
          | _ => exact z2.elim
    | _ => exact z.elim
end
end L2
namespace Lx
open PySem PySem.Spec PyProof.Rows L2
/-- set(xs), xs a list of ints -/
def rSetOfL (K : PySem.W.Frag) (w : World) : List V → Hp → VK → Prop := fun vs H Q => ∃ (l : Addr) (ns : List Int), vs = [.ref l] ∧ SqL K H l (vI ns) ∧ ns.length ≤ 4000 ∧ ∀ a c (ks : List Int), H a = none → ks.Nodup → (∀ k, k ∈ ks ↔ k ∈ ns) → ks.length = c → Q (.ref a) (upd H a (SetO w a (fun j => decide (j ∈ ns)) c))
theorem cr_setL {X : Cx} (hc : X.calm = true) : CallR X (.type "set") (rSetOfL X.K X.w) := by
  intro pins s σ H vs us Q I r h
  obtain ⟨l, ns, rfl, hq, hl, q⟩ := h
  obtain ⟨u, rfl, ru⟩ := r.one
  cases (show u = Value.ref l from ru)
  obtain ⟨its, rv, pl, hz⟩ := I.list hq
  refine call_set_lstI ns (I.ok.hd hc) pl.isList (by simpa using ints_of_vals rv) (by unfold scanBound; omega) fun h' tk c R hcn k => ?_
  have hp : s.heap.objs.size ≤ s.heap.objs.size := Nat.le_refl _
  have hn : H s.heap.objs.size = none := I.hok.fresh hp
  have J : Inv X pins σ (upd H s.heap.objs.size (SetO X.w s.heap.objs.size (fun j => decide (j ∈ ns)) c)) { s with heap := h', toks := tk } :=
    I.laid (t' := tk) (a := s.heap.objs.size) (o := SetO X.w s.heap.objs.size (fun j => decide (j ∈ ns)) c) (h' := h') k hp ⟨R, (let ⟨o, _, _, _, ho, _⟩ := R; ⟨o, ho⟩), fun h1 h2 z kk => z.at fun o q => kk _ q⟩
  obtain ⟨o, es, ep, t, ho, hex, hd, g, nd, hm, hb2, hf, hsz, hrs, hld⟩ := R
  exact ⟨.ref s.heap.objs.size, _, J, rfl, q _ c (es.toList.map keyOf) hn nd (fun k => by rw [← hm k]; exact decide_eq_true_iff) (by rw [List.length_map, Array.length_toList]; exact hsz)⟩
theorem r_setOfL {K : PySem.W.Frag} {w : World} {H : Hp} {Q : VK} {l : Addr} {ns : List Int} (h : SqL K H l (vI ns)) (hl : ns.length ≤ 4000) (q : ∀ a c (ks : List Int), H a = none → ks.Nodup → (∀ k, k ∈ ks ↔ k ∈ ns) → ks.length = c → Q (.ref a) (upd H a (SetO w a (fun j => decide (j ∈ ns)) c))) : rSetOfL K w [.ref l] H Q := ⟨l, ns, rfl, h, hl, q⟩
theorem k_setL (K : PySem.W.Frag) (w : World) {X : Cx} (hc : X.calm = true := by rfl) (h : X.K = K := by rfl) (h2 : X.w = w := by rfl) : CallR X (.type "set") (rSetOfL K w) := h ▸ h2 ▸ cr_setL hc
theorem k_sortSet (w : World) {X : Cx} (hc : X.calm = true := by rfl) (h2 : X.w = w := by rfl) : CallR X (.builtin "sorted") (rSortedSet w) := h2 ▸ cr_sortedSet hc
end Lx

namespace Lx
open PySem PySem.Spec PyProof.Rows L2
/-! ### x *= e and x //= e -/
def CM (i j : Int) : Prop := CMul i j ∨ CMulW i j
theorem CM.ok {i j : Int} (h : CM i j) : IntMulOk i j := h.elim CMul.ok CMulW.ok
def ipC (c : Int → Int → Prop) (f : Int → Int → Int) : TIp := fun x y H Q => ∃ i j, x = .int i ∧ y = .int j ∧ c i j ∧ Q (.int (f i j)) H
theorem ip_mult {X : Cx} : PIp X .Mult (ipC CM fun i j => i * j) := by
  intro pins s σ H x y v u Q I r1 r2 h
  obtain ⟨i, j, e1, e2, hc, q⟩ := h
  subst e1; subst e2
  obtain ⟨t, rfl⟩ := r1
  obtain ⟨t', rfl⟩ := r2
  exact imul_int ⟨.int _, H, I.tok _, ⟨_, rfl⟩, q⟩ hc.ok
theorem ip_floordiv {X : Cx} : PIp X .FloorDiv (ipC CDivW fun i j => i / j) := by
  intro pins s σ H x y v u Q I r1 r2 h
  obtain ⟨i, j, e1, e2, hc, q⟩ := h
  subst e1; subst e2
  obtain ⟨t, rfl⟩ := r1
  obtain ⟨t', rfl⟩ := r2
  have h1 : (0 : Int) < j := hc.1
  exact ifloordiv_int (by omega) (by rw [Int.fdiv_eq_ediv_of_nonneg i (by omega)]; exact ⟨.int _, H, I.tok _, ⟨_, rfl⟩, q⟩) (.inl (PyProof.noPylong_of_log2 hc.2))
theorem r_ipC {H : Hp} {Q : VK} {c : Int → Int → Prop} {f : Int → Int → Int} {a b : Int} (h : c a b) (q : Q (.int (f a b)) H) : ipC c f (.int a) (.int b) H Q := ⟨a, b, rfl, rfl, h, q⟩
theorem cm_small {a b : Int} (h0 : 0 ≤ b) (h : b < 1000000000) : CM a b := .inl (.inr ⟨by omega, by omega⟩)
/-! ### where ways join -/
section
variable {ts tu : TS} {R bk ct : L2.St → Hp → Prop} {rt : VK} {σ : L2.St} {H : Hp}
theorem ifnJ {c : Prop} [Decidable c] (J : L2.St → Hp → Prop) (h1 : ∀ R' : L2.St → Hp → Prop, (∀ σ H, J σ H → R' σ H) → ¬ c → ts ⟨R', rt, bk, ct⟩ σ H) (h2 : ∀ R' : L2.St → Hp → Prop, (∀ σ H, J σ H → R' σ H) → c → tu ⟨R', rt, bk, ct⟩ σ H) (hR : ∀ σ H, J σ H → R σ H) :
    if (!decide c) = true then ts ⟨R, rt, bk, ct⟩ σ H else tu ⟨R, rt, bk, ct⟩ σ H := ifN (h1 R hR) (h2 R hR)
theorem ifbJ {b : Bool} (J : L2.St → Hp → Prop) (h1 : ∀ R' : L2.St → Hp → Prop, (∀ σ H, J σ H → R' σ H) → b = true → ts ⟨R', rt, bk, ct⟩ σ H) (h2 : ∀ R' : L2.St → Hp → Prop, (∀ σ H, J σ H → R' σ H) → b = false → tu ⟨R', rt, bk, ct⟩ σ H) (hR : ∀ σ H, J σ H → R σ H) :
    if b = true then ts ⟨R, rt, bk, ct⟩ σ H else tu ⟨R, rt, bk, ct⟩ σ H := by
  cases b with
  | true => exact h1 R hR rfl
  | false => exact h2 R hR rfl
end
theorem PairsAt.kpr {G : Addr → Prop} {H H' : Hp} {p r : Addr} {as : List Addr} {qs : List (Int × Int)} {ys : List V} (h : PairsAt G H p as qs) (k : Kp r H H') (hr : H r = some (.lst ys)) (np : p ≠ r) : PairsAt G H' p as qs :=
  ⟨k _ _ np h.hp, h.len, fun i a q e1 e2 => by
    obtain ⟨z, g⟩ := h.it i a q e1 e2
    exact ⟨k _ _ (fun w => by rw [w, hr] at z; cases z) z, g⟩⟩
/-- a list's index of an int -/
theorem r_indexN {K : PySem.W.Frag} {H : Hp} {Q : VK} {a : Addr} {ns : List Int} {x : Int} (h : SqL K H a (vI ns)) (hn : ns.Nodup) (hx : x ∈ ns) (q : Q (.int ((ns.idxOf x : Nat) : Int)) H) : rIndex K (.ref a) [.int x] H Q := by
  have hl := List.idxOf_lt_length_of_mem hx
  refine r_index (j := ns.idxOf x) (z := .int x) h rfl (flat_ints ns) ?_ (by show (x == x) = true; simp) (fun m z' hm hz => ?_) q
  · rw [vI_at hl, List.getElem_idxOf]
  · have hm' : m < ns.length := by omega
    rw [vI_at hm'] at hz
    cases hz
    show (ns[m] == x) = false
    rw [beq_eq_false_iff_ne]
    intro e
    have e2 : ns[m] = ns[ns.idxOf x] := by rw [List.getElem_idxOf]; exact e
    have := (List.getElem_inj hn).mp e2
    omega
/-- numbers of any size that repr shows -/
theorem shows_nat {i : Int} (h0 : 0 ≤ i) (h : i < 10 ^ 500) : Shows (.int i) 0 500 := by
  refine ⟨?_, rfl, Nat.le_refl _, int_shown (by decide) h0 h⟩
  show decide (i.natAbs.log2 < 1920) = true
  have h1 : i.natAbs < 10 ^ 500 := by
    have e : ((i.natAbs : Nat) : Int) < ((10 ^ 500 : Nat) : Int) := by
      rw [Int.natAbs_of_nonneg h0, Int.natCast_pow]
      exact h
    exact Int.ofNat_lt.mp e
  have h3 : i.natAbs < 2 ^ 1920 := Nat.lt_of_lt_of_le h1 (by set_option exponentiation.threshold 3000 in decide +kernel)
  exact decide_eq_true (PySem.Flt.log2_lt_of (by decide) h3)
end Lx

namespace Lx
open PySem PySem.Spec PyProof.Rows L2
/-! ### xs[::e], e one of 1 and -1 -/
theorem bounds_1 (n : Nat) : sliceBounds none none (some 1) n = (0, (n : Int), 1) := by
  first
  | rfl
  | simp [sliceBounds]
theorem range_1 (n : Nat) : sliceRange 0 (n : Int) 1 = List.range n := by
  unfold sliceRange
  by_cases h : (0 : Int) < (n : Int)
  · have e : ((n : Int) - 0 + 1 - 1) / 1 = (n : Int) := by rw [Int.ediv_one]; omega
    have h1 : (1 : Int) > 0 := by decide
    simp only [h1, if_true, h, e, Int.toNat_natCast]
    conv => rhs; rw [← List.map_id (List.range n)]
    apply List.map_congr_left
    intro k _
    show (0 + 1 * (k : Int)).toNat = k
    omega
  · have e : n = 0 := by omega
    subst e
    simp
theorem pick_1 (items : Array Value) : slicePick items none none (some 1) = items.toList.toArray := by
  unfold slicePick
  rw [bounds_1]
  show ((sliceRange 0 (items.size : Int) 1).filterMap (items[·]?)).toArray = _
  rw [range_1, PySem.W.krv_all]
def tStepL (K : PySem.W.Frag) (te ts : TE) : TE := fun σ H Q => te σ H fun x H1 => ∃ a, x = .ref a ∧ tPart ts σ H1 fun o H2 => ∃ xs i, o = some i ∧ (i = 1 ∨ i = -1) ∧ SqL K H2 a xs ∧ ∀ p, H2 p = none → Q (.ref p) (upd H2 p (.lst (if i = 1 then xs else xs.reverse)))
theorem pe_stepL (K : PySem.W.Frag) {X : Cx} {e es : Expr} {te ts : TE} {p3 pos : Pos} (he : PE X e te) (hs : PE X es ts) (hK : X.K = K := by rfl) : PE X (.Subscript e (.Slice none none (some es) p3) pos) (tStepL K te ts) := by
  subst hK
  refine ⟨fun pins s σ H Q I h => ?_⟩
  refine Subscript_ (thn (he.run pins s σ H _ I h) fun v s1 ⟨x, H1, I1, r1, q1⟩ => ?_)
  obtain ⟨a, ex, q1⟩ := q1
  subst ex
  cases r1
  refine wpAny_Slice (thn (po_none.run pins s1 σ H1 (fun o H2 => o = none ∧ H2 = H1) I1 ⟨rfl, rfl⟩) fun vl s2 ⟨l, H2, I2, pl, el, e2⟩ => ?_)
  subst el e2
  refine thn (po_none.run pins s2 σ H2 (fun o H3 => o = none ∧ H3 = H2) I2 ⟨rfl, rfl⟩) fun vu s3 ⟨u, H3, I3, pu, eu, e3⟩ => ?_
  subst eu e3
  refine thn ((po_some hs).run pins s3 σ H3 _ I3 q1) fun vs s4 ⟨o, H4, I4, ps, xs, i, eo, hi, hx, q⟩ => ?_
  subst eo
  have I5 : Inv X pins σ H4 { s4 with heap := s4.heap.push { cls := .type "slice", data := .fields #[vl, vu, vs] } } := I4.kept (t' := s4.toks) fun b ob q => Heap.get?_push_of_some _ q
  obtain ⟨its, r, ht, hz⟩ := I5.list hx
  have hlen := r.length
  show wpAny (model X.prog X.w) X.A (subscriptTail e (.Slice none none (some es) p3) (.ref a) (.ref s4.heap.objs.size)) (EP X pins σ Q) X.xe { s4 with heap := s4.heap.push { cls := .type "slice", data := .fields #[vl, vu, vs] } }
  refine tail_any (ops := [.ref a, .ref s4.heap.objs.size]) ht.isList.typeIs (PySem.slot_list_getitem.lookup) ?_ (by with_unfolding_all rfl)
  have h0 : some i ≠ some 0 := fun z => by cases z; rcases hi with h | h <;> cases h
  refine wpAny_getItem_list_slice ht.isList (Heap.IsSliceOf.new _ vl vu vs) pl pu ps h0 ?_ (by rw [List.size_toArray]; omega)
  rcases hi with rfl | rfl
  · rw [pick_1]
    have q' := q _ (I5.hok.fresh (Nat.le_refl _))
    rw [if_pos rfl] at q'
    refine ⟨.ref _, _, I5.laid (t' := s4.toks) (o := .lst xs) (fun b ob q => Heap.get?_push_of_some _ q) (Nat.le_refl _) ?_, rfl, q'⟩
    exact ⟨hz, _, 0, r, Heap.get?_push_size _ rfl⟩
  · rw [PySem.W.krv_pick]
    have q' := q _ (I5.hok.fresh (Nat.le_refl _))
    rw [if_neg (by decide)] at q'
    refine ⟨.ref _, _, I5.laid (t' := s4.toks) (o := .lst xs.reverse) (fun b ob q => Heap.get?_push_of_some _ q) (Nat.le_refl _) ?_, rfl, q'⟩
    exact ⟨by rw [List.length_reverse]; exact hz, _, 0, r.reverse, Heap.get?_push_size _ rfl⟩
theorem r_stepL {K : PySem.W.Frag} {σ : L2.St} {H : Hp} {Q : VK} {te ts : TE} (h : te σ H fun x H1 => ∃ a, x = .ref a ∧ ts σ H1 fun y H2 => ∃ j, y = .int j ∧ ∃ xs i, some j = some i ∧ (i = 1 ∨ i = -1) ∧ SqL K H2 a xs ∧ ∀ p, H2 p = none → Q (.ref p) (upd H2 p (.lst (if i = 1 then xs else xs.reverse)))) : tStepL K te ts σ H Q := h
end Lx

namespace My
open PySem PySem.Spec PyProof.Rows L2 Lx
local macro_rules | `(tactic| walk_at "hp") => `(tactic| first
  | assumption
  | exact upd_same
  | (refine Eq.trans (upd_ne ?_) ?_; (focus (walk_at "ne")); walk_at "hp")
  | (refine Same.get (by assumption) ?_; walk_at "hp"))
local macro_rules | `(tactic| walk_at "ne") => `(tactic| first
  | assumption
  | exact Ne.symm (by assumption)
  | exact ne_new (by assumption) (by walk_at "hp")
  | exact (ne_new (by assumption) (by walk_at "hp")).symm)
local macro_rules | `(tactic| walk_at "sq") => `(tactic| first
  | assumption
  | exact lst_of (by walk_at "hp")
  | exact tup_of (by walk_at "hp")
  | (refine Same.seq (by assumption) ?_; walk_at "sq")
  | (refine Same.seqT (by assumption) ?_; walk_at "sq"))
local macro_rules | `(tactic| walk_at "lt") => `(tactic| first
  | assumption
  | exact Or.inl (by walk_at "sq")
  | exact Or.inr (by walk_at "sq")
  | exact Sq.or (by walk_at "q"))
local macro_rules | `(tactic| walk_at "q") => `(tactic| first
  | assumption
  | (refine Same.sq (by assumption) ?_; walk_at "q")
  | exact Or.inl (by walk_at "hp")
  | exact Or.inr (by walk_at "hp"))
local macro_rules | `(tactic| walk_at "s1") => `(tactic| with_reducible (first
  | refine r_seq ?_ | refine r_asg ?_ | refine r_name ?_ | refine r_c ?_ | refine r_op ?_ | refine r_if ?_ | refine r_test ?_ | refine r_bl ?_
  | refine r_I0 ?_ | refine r_eqI ?_ | refine r_neI ?_ | refine r_eqS ?_ | refine r_neS ?_ | refine r_eqB ?_ | refine r_neB ?_ | refine r_U ?_
  | refine r_cons ?_ | refine r_nil ?_ | refine r_CB ?_ | refine r_call ?_ | refine r_ret ?_ | refine r_nx ?_ | refine r_rt ?_ | refine r_next ?_ | refine r_retN ?_ | refine r_drop ?_
  | refine r_brk ?_ | refine r_cont ?_ | refine r_bk ?_ | refine r_ct ?_
  | refine r_lst ?_ | refine r_tup ?_ | refine r_new (Nat.le_of_ble_eq_true rfl) ?_ | refine r_sub ?_ | refine r_gcons ?_ | refine r_gnil ?_
  | refine r_B ?_ | refine r_and ?_ | refine r_or ?_ | refine r_not ?_ | refine r_andV ?_ | refine r_orV ?_ | refine r_notV ?_ | refine r_ifE ?_ | refine r_chain ?_
  | refine r_par ?_ | refine r_par3 ?_ | refine r_two ?_ | refine r_three ?_ | refine r_un ?_
  | refine r_BM ?_ | refine r_BM0 ?_ | refine r_tyS ?_ | refine r_sl ?_ | refine r_nop ?_ | refine r_part ?_ | refine r_int ?_ | refine r_revL ?_ | refine r_lstRg ?_ | refine r_rg1 ?_ | refine r_ip ?_ | refine r_isN0 ?_ | refine r_isNi ?_ | refine r_isNr ?_ | refine r_isNb ?_ | refine r_isNs ?_ | refine r_notN0 ?_ | refine r_notNi ?_ | refine r_notNr ?_ | refine r_abs ?_ | refine r_max2 ?_ | refine r_min2 ?_ | refine r_inti ?_ | refine r_intb ?_ | refine r_yes ?_ | refine r_for ?_ | refine r_lc ?_ | refine r_iList ?_ | refine r_iTup ?_ | refine r_iRng1 ?_ | refine r_iRng2 ?_ | refine r_iRng3 ?_ | refine r_iEnum ?_ | refine r_iZip ?_ | refine r_iStr ?_ | refine r_lenSet ?_ | refine r_fld ?_ | refine r_sfld ?_ | refine r_meth ?_ | refine r_make ?_ | refine r_prop ?_ | refine iteT ?_ | refine iteF ?_ | refine ifnT ?_ | refine ifnF ?_))
local macro_rules | `(tactic| walk_at "len") => `(tactic| first
  | assumption
  | exact szl (by (try simp only [vI_len, List.length_append, List.length_cons, List.length_nil, List.length_map, List.length_set, List.length_reverse]); omega)
  | exact sz (by (try simp only [vI_len, List.length_append, List.length_cons, List.length_nil, List.length_map, List.length_set, List.length_reverse]); omega))
local macro_rules | `(tactic| walk_at "side") => `(tactic| first
  | assumption
  | exact Or.inr ⟨by omega, by omega⟩
  | exact Or.inl ⟨by omega, by omega⟩
  | exact Or.inr ⟨by decide, by decide⟩
  | ((show (0 : Int) < _); first | assumption | decide | omega)
  | exact ⟨by decide, by decide⟩
  | exact ⟨by decide, by decide, by decide⟩
  | exact wide_div (b := 200) (by omega) (by omega) (by decide) (by decide)
  | exact wide_div (b := 200) (by decide) (by decide) (by decide) (by decide))
local macro_rules | `(tactic| walk_at "ty") => `(tactic| first
  | exact ty_int | exact ty_bl | exact ty_str | exact ty_non | exact ty_lst (by walk_at "hp") | exact ty_tup (by walk_at "hp"))
local macro_rules | `(tactic| walk_at "kit") => `(tactic| first
  | exact k_ii | exact k_ib | exact k_is | exact k_il | exact k_it | exact k_bi | exact k_bb | exact k_bs | exact k_bl | exact k_bt | exact k_si | exact k_sb | exact k_ss | exact k_sl | exact k_st
  | exact k_ni | exact k_nb | exact k_ns | exact k_nl | exact k_nt | exact k_li | exact k_lb | exact k_ls | exact k_ll | exact k_lt | exact k_ti | exact k_tb | exact k_ts | exact k_tl | exact k_tt)
local macro_rules | `(tactic| walk_at "lk") => `(tactic| first
  | assumption
  | exact lk2_1 | exact lk2_2 (by decide +kernel) | exact lk2_0 (by decide +kernel) (by decide +kernel)
  | exact lk3_1 | exact lk3_2 (by decide +kernel) | exact lk3_3 (by decide +kernel) (by decide +kernel) | exact lk3_0 (by decide +kernel) (by decide +kernel) (by decide +kernel))
local macro_rules | `(tactic| walk_at "fld") => `(tactic| first
  | refine r_fldAt (by walk_at "hp") (by assumption) (by assumption) (by walk_at "lk") ?_
  | refine r_sfldAt (by walk_at "hp") (by assumption) (by assumption) (Nat.le_of_ble_eq_true rfl) ?_
  | refine r_methAt (by walk_at "hp") (by walk_at "lk") ?_)
local macro_rules | `(tactic| walk_at "s2") => `(tactic| first
  | (with_reducible (first | refine ifNF rfl ?_ | refine ifDT rfl ?_))
  | refine ifDF (by decide) ?_
  | refine ifNT (by decide) ?_
  | ((with_reducible show tVar _ _ _ _); refine r_var rfl ?_)
  | ((with_reducible show tAug _ _ _ _ _ _); refine r_aug rfl ?_)
  | ((with_reducible show rI _ _ _ _ _ _); refine r_I (by walk_at "side") ?_)
  | ((with_reducible show rIxL _ _ _ _ _); refine r_ixL (by walk_at "sq") (by first | assumption | rfl) ?_)
  | ((with_reducible show rIxT _ _ _ _ _); refine r_ixT (by walk_at "sq") (by first | assumption | rfl) ?_)
  | ((with_reducible show rSetL _ _ _ _ _); refine r_setL (by walk_at "hp") (by first | assumption | rfl) ?_)
  | ((with_reducible show rSlL _ _ _ _ _ _); refine r_slL (by walk_at "sq") ?_)
  | ((with_reducible show rIsi _ _ _ _); refine isi_of (by walk_at "ty") (by walk_at "kit") ?_)
  | ((with_reducible show rIsiT _ _ _ _); first | refine isiLT_l (by walk_at "hp") (by walk_at "ty") (by walk_at "kit") (by walk_at "kit") ?_ | refine isiLT_t (by walk_at "hp") (by walk_at "ty") (by walk_at "kit") (by walk_at "kit") ?_ | refine isiLT_o (by walk_at "hp") (by walk_at "ty") (by walk_at "kit") (by walk_at "kit") ?_)
  | ((with_reducible show gTup _ _ _ _ _ _ _); refine r_gtup (by walk_at "sq") (by rfl) ?_)
  | ((with_reducible show gUnl _ _ _ _ _ _ _); refine r_gunl (by walk_at "sq") (by rfl) ?_)
  | ((with_reducible show tyV _ _ _ _ ∧ _); refine r_ty (by walk_at "hp") ?_)
  | ((with_reducible show rAppend _ _ _ _); refine r_app (by walk_at "hp") (by walk_at "len") ?_)
  | ((with_reducible show rAddS _ _ _ _); refine r_addS (by first | assumption | exact sz (by omega)) ?_)
  | ((with_reducible show rCountS _ _ _ _); refine r_countS ?_)
  | ((with_reducible show rReverse _ _ _ _); refine r_rev (by walk_at "hp") ?_)
  | ((with_reducible show Lx.rLen _ _ _ _); refine r_len (by walk_at "lt") ?_)
  | ((with_reducible show Lx.rLenS _ _ _); refine r_lenS (by first | assumption | exact sz (by omega)) ?_)
  | ((with_reducible show Lx.rListOf _ _ _ _); refine r_listOf (by walk_at "lt") ?_))
local macro_rules | `(tactic| walk_at "s") => `(tactic| repeat (first | walk_at "s1" | walk_at "s2"))

def topS (i : Nat) : Stmt := PySem.Challenge.pw_leftreturn_k11_results_of_patterns.main.body.getD i (.Pass ⟨0, 0, 0, 0⟩)
abbrev Sis_integer : Stmt := topS 7
abbrev Nis_integer : List Str := ["value", "low", "high"]
theorem scis_integer : FnScope Nis_integer ["value", "low", "high"] (defScope Sis_integer) := ⟨rfl, rfl, rfl, by decide +kernel, rfl, by decide +kernel, by decide +kernel⟩

section
variable {P : Program} {w : World} {K : PySem.W.Frag} {mg : Str → Option Value} {base : Heap}
def spIsInteger : Sp := fun vs H Q _ => ∃ (v l : Int) (h : V), vs = [.int v, .int l, h] ∧ ((∃ u : Int, h = .int u ∧ Q (.bl (decide (l ≤ v) && decide (v ≤ u))) H) ∨ (h = .non ∧ Q (.bl (decide (l ≤ v))) H))
theorem ok_is_integer {f : Addr} {fd : FuncData} {k : Nat} (B : Bn mg) (F : FunD K "is_integer" "is_integer" (defArgs Sis_integer) (defBody Sis_integer) (defScope Sis_integer) [.non] [] f fd) : FnG P w K mg base (k + 1) f fd ["value", "low", "high"] spIsInteger := by
  refine gokD F scis_integer (fun vs H Q E h => ?_) (fun cdv A fs s H vs Q E hG hr h => ?_)
  · obtain ⟨_, _, _, rfl, _⟩ := h; rfl
  · obtain ⟨v, l, h, rfl, h⟩ := h
    have hu := hr.units
    refine ⟨_, (pss_cons (ps_if (pw_or (pt_not (pt_val (pe_callB (k_isi K) (by rfl) B.isinstance Bisinstance (pa_cons (pv 0) (pa_cons (pe_bltn (v := .ty "int") (by rfl) B.int Tint rfl) pa_nil))))) (pw_or1 (pt_val (pe_callB (k_isi K) (by rfl) B.isinstance Bisinstance (pa_cons (pv 0) (pa_cons (pe_bltn (v := .ty "bool") (by rfl) B.bool Tbool rfl) pa_nil)))))).pt (pss_one (ps_ret pe_bl)) pss_nil) (pss_one (ps_ret (pe_and (pe_cmpR op_le (pv 1) (pv 0) (nomark _)) (pe_one (pe_or (pe_cmpR op_isN' (pv 2) pe_non (nomark _)) (pe_one (pe_cmpR op_le (pv 0) (pv 2) (nomark _))))))))), ?_⟩
    walk_at "s"
    refine ifD (fun h1 => ?_) (fun h1 => ?_)
    · walk_at "s"
      rcases h with ⟨u, rfl, q⟩ | ⟨rfl, q⟩
      · walk_at "s"
        rw [decide_eq_true h1] at q
        exact q
      · walk_at "s"
        rw [decide_eq_true h1] at q
        exact q
    · walk_at "s"
      rcases h with ⟨u, rfl, q⟩ | ⟨rfl, q⟩
      · rw [decide_eq_false h1] at q
        exact q
      · rw [decide_eq_false h1] at q
        exact q
end

/-! patterns as texts -/
def sB (b : Bool) : Str := if b then "T" else "R"
def pS (p : List Bool) : Str := ⟨(p.map fun b => if b then 84 else 82).toArray⟩
theorem pS_len (p : List Bool) : (pS p).length = p.length := by
  show (p.map fun b => if b then 84 else 82).toArray.size = p.length
  rw [List.size_toArray, List.length_map]
theorem pS_at {p : List Bool} {i : Nat} {c : Nat} (h : (pS p).cps[i]? = some c) : ∃ b, p[i]? = some b ∧ (⟨#[c]⟩ : Str) = sB b := by
  have e : (pS p).cps[i]? = (p.map fun b => if b then 84 else 82)[i]? := by
    show (p.map fun b => if b then 84 else 82).toArray[i]? = _
    rw [List.getElem?_toArray]
  rw [e, List.getElem?_map] at h
  cases hb : p[i]? with
  | none => rw [hb] at h; cases h
  | some b =>
    rw [hb] at h
    refine ⟨b, rfl, ?_⟩
    have h' : (if b then 84 else 82) = c := Option.some.inj h
    subst h'
    cases b <;> decide
theorem pS_app (p : List Bool) (b : Bool) : pS p ++ sB b = pS (p ++ [b]) := by
  have e : sB b = ⟨#[if b then 84 else 82]⟩ := by cases b <;> decide
  rw [e]
  show (⟨(p.map fun b => if b then 84 else 82).toArray ++ #[if b then 84 else 82]⟩ : Str) = ⟨((p ++ [b]).map fun b => if b then 84 else 82).toArray⟩
  rw [List.map_append]
  simp
theorem sB_T (b : Bool) : decide (sB b = ("T" : Str)) = b := by cases b <;> decide
theorem pS_size (p : List Bool) : (pS p).cps.size = p.length := pS_len p
def dif : List Bool → Int
  | [] => 0
  | b :: l => (if b then 1 else -1) + dif l
theorem dif_app (p : List Bool) (b : Bool) : dif (p ++ [b]) = dif p + (if b then 1 else -1) := by
  induction p with
  | nil => show _ + (0 : Int) = 0 + _; omega
  | cons c p ih => show _ + dif (p ++ [b]) = _ + dif p + _; rw [ih]; omega
def tks : List Bool → Nat
  | [] => 0
  | b :: l => (if b then 1 else 0) + tks l
theorem tks_app (p : List Bool) (b : Bool) : tks (p ++ [b]) = tks p + (if b then 1 else 0) := by
  induction p with
  | nil => show _ + 0 = 0 + _; omega
  | cons c p ih => show _ + tks (p ++ [b]) = _ + tks p + _; rw [ih]; omega
theorem dif_tks (p : List Bool) : dif p = 2 * (tks p : Int) - (p.length : Int) := by
  induction p with
  | nil => rfl
  | cons b p ih =>
    show (if b then 1 else -1) + dif p = 2 * (((if b then 1 else 0) + tks p : Nat) : Int) - ((p.length + 1 : Nat) : Int)
    rw [ih]
    cases b <;> simp <;> omega
theorem tks_take_le (p : List Bool) : ∀ i, tks (p.take i) ≤ tks p := by
  induction p with
  | nil => intro i; rw [List.take_nil]; exact Nat.le_refl _
  | cons b p ih =>
    intro i
    cases i with
    | zero => exact Nat.zero_le _
    | succ i =>
      have := ih i
      show (if b then 1 else 0) + tks (p.take i) ≤ (if b then 1 else 0) + tks p
      omega
theorem take_succ {α : Type} {p : List α} {i : Nat} {b : α} (h : p[i]? = some b) : p.take (i + 1) = p.take i ++ [b] := by rw [List.take_add_one, h]; rfl
/-- a pattern of n places -/
structure IsPat (p : List Bool) (n : Nat) : Prop where
  len : p.length = 2 * n
  top : n ≤ 200
  nul : dif p = 0
  pos : ∀ k, 0 ≤ dif (p.take k)
theorem IsPat.tks {p : List Bool} {n : Nat} (h : IsPat p n) : tks p = n := by
  have := dif_tks p
  have := h.nul
  have := h.len
  omega
/-! what a pattern fills -/
def stepF (tk : List Int) (st : List Int × List Int × Nat) (b : Bool) : List Int × List Int × Nat :=
  if b then (st.1 ++ [tk.getD st.2.2 0], st.2.1, st.2.2 + 1) else (st.1.erase (minI st.1), st.2.1 ++ [minI st.1], st.2.2)
def runF (tk : List Int) (p : List Bool) : List Int × List Int × Nat := p.foldl (stepF tk) ([], [], 0)
theorem runF_app (tk : List Int) (p : List Bool) (b : Bool) : runF tk (p ++ [b]) = stepF tk (runF tk p) b := by
  unfold runF
  rw [List.foldl_append]
  rfl
def fillF (tk : List Int) (p : List Bool) : List Int := (runF tk p).2.1
theorem runF_tk (tk : List Int) {p : List Bool} (h : ∀ k, 0 ≤ dif (p.take k)) : ∀ i, i ≤ p.length → (runF tk (p.take i)).2.2 = tks (p.take i) ∧ ((runF tk (p.take i)).1.length : Int) = dif (p.take i) ∧ (runF tk (p.take i)).2.1.length + tks (p.take i) = i
  | 0, _ => by rw [List.take_zero]; exact ⟨rfl, rfl, rfl⟩
  | i + 1, hi => by
    obtain ⟨h1, h2, h3⟩ := runF_tk tk h i (by omega)
    have e := take_succ (List.getElem?_eq_getElem (show i < p.length by omega))
    have hp := h (i + 1)
    rw [e, runF_app, tks_app, dif_app] at *
    generalize p[i]'(by omega) = b at *
    cases b with
    | true =>
      refine ⟨by show (runF tk (p.take i)).2.2 + 1 = _; rw [h1]; rfl, ?_, by show (runF tk (p.take i)).2.1.length + (tks (p.take i) + 1) = i + 1; omega⟩
      show (((runF tk (p.take i)).1 ++ [_]).length : Int) = _
      rw [List.length_append, List.length_singleton, Int.natCast_add, h2]
      rfl
    | false =>
      have hp' : 0 ≤ dif (p.take i) + -1 := hp
      have ne : (runF tk (p.take i)).1 ≠ [] := fun z => by rw [z] at h2; simp at h2; omega
      refine ⟨by show (runF tk (p.take i)).2.2 = _ + 0; rw [h1]; rfl, ?_, by show ((runF tk (p.take i)).2.1 ++ [_]).length + (tks (p.take i) + 0) = i + 1; rw [List.length_append, List.length_singleton]; omega⟩
      show (((runF tk (p.take i)).1.erase _).length : Int) = dif (p.take i) + -1
      rw [List.length_erase_of_mem (minI_mem ne)]
      have := List.length_pos_iff.mpr ne
      omega
/-- a pattern on the way: m letters, n places -/
structure Way (p : List Bool) (n m : Nat) : Prop where
  len : p.length = m
  few : tks p ≤ n
  pos : ∀ k, 0 ≤ dif (p.take k)
theorem Way.nil (n : Nat) : Way [] n 0 := ⟨rfl, Nat.zero_le _, fun k => by rw [List.take_nil]; exact Int.le_refl _⟩
theorem Way.add {p : List Bool} {n m : Nat} {b : Bool} (h : Way p n m) (h1 : tks (p ++ [b]) ≤ n) (h2 : 0 ≤ dif (p ++ [b])) : Way (p ++ [b]) n (m + 1) := by
  refine ⟨by rw [List.length_append, h.len]; rfl, h1, fun k => ?_⟩
  by_cases hk : k ≤ p.length
  · rw [List.take_append_of_le_length hk]
    exact h.pos k
  · rw [List.take_of_length_le (by rw [List.length_append]; show p.length + 1 ≤ k; omega)]
    exact h2
theorem Way.all {p : List Bool} {n : Nat} (h : Way p n (2 * n)) (hn : n ≤ 200) : IsPat p n := by
  have e := dif_tks p
  have z := h.pos p.length
  rw [List.take_length] at z
  have := h.len
  have := h.few
  exact ⟨h.len, hn, by omega, h.pos⟩

/-! ### pairs: what the bounds of the times say (no program here) -/
/-- the number of a take -/
def nb (ts : List Int) (x : Int) : Int := ((ts.idxOf x : Nat) : Int)
theorem nb_nn (ts : List Int) (x : Int) : 0 ≤ nb ts x := Int.natCast_nonneg _
theorem nb_lt {ts : List Int} {x : Int} (h : x ∈ ts) : nb ts x < ts.length := by
  have := List.idxOf_lt_length_of_mem h
  unfold nb
  omega
theorem nb_get {ts : List Int} (hn : ts.Nodup) {k : Nat} (hk : k < ts.length) : nb ts (ts.getD k 0) = k := by
  unfold nb
  rw [List.getD_eq_getElem?_getD, List.getElem?_eq_getElem hk]
  show ((ts.idxOf ts[k] : Nat) : Int) = k
  rw [hn.idxOf_getElem]
theorem get_nb {ts : List Int} {x : Int} (h : x ∈ ts) : ts.getD (nb ts x).toNat 0 = x := by
  unfold nb
  rw [Int.toNat_natCast, List.getD_eq_getElem?_getD, List.getElem?_eq_getElem (List.idxOf_lt_length_of_mem h)]
  show ts[ts.idxOf x]'(List.idxOf_lt_length_of_mem h) = x
  exact List.getElem_idxOf _
theorem nb_inj {ts : List Int} {x y : Int} (hx : x ∈ ts) (hy : y ∈ ts) (h : nb ts x = nb ts y) : x = y := by
  rw [← get_nb hx, ← get_nb hy, h]
/-- fewer numbers than places below m -/
theorem nodup_le : ∀ {l : List Int} {m : Nat}, l.Nodup → (∀ x ∈ l, 0 ≤ x ∧ x < m) → l.length ≤ m
  | l, 0, _, h => by
    cases l with
    | nil => exact Nat.le_refl _
    | cons x l => have := h x List.mem_cons_self; omega
  | l, m + 1, hn, h => by
    by_cases hm : (m : Int) ∈ l
    · have ih := nodup_le (hn.erase (m : Int)) (m := m) fun x hx => by
        have h1 := (hn.mem_erase_iff).mp hx
        have h2 := h x h1.2
        have h3 := h1.1
        constructor <;> omega
      rw [List.length_erase_of_mem hm] at ih
      omega
    · have ih := nodup_le hn (m := m) fun x hx => by
        have h2 := h x hx
        have h3 : x ≠ (m : Int) := fun e => hm (e ▸ hx)
        constructor <;> omega
      omega
/-- fills with their times: each one is taken before, no less gap stays -/
structure Lead (nm : Int → Int) (n : Int) (P : List (Int × Int)) : Prop where
  tk : ∀ q ∈ P, nm q.1 < q.2
  top : ∀ q ∈ P, q.2 ≤ n
  up : P.Pairwise fun a b => a.2 ≤ b.2
  min : P.Pairwise fun a b => b.1 < a.1 → a.2 ≤ nm b.1
def LeAll : List Int → List Int → Prop
  | [], [] => True
  | a :: as, b :: bs => a ≤ b ∧ LeAll as bs
  | _, _ => False
theorem LeAll.refl : ∀ l : List Int, LeAll l l
  | [] => trivial
  | _ :: l => ⟨Int.le_refl _, LeAll.refl l⟩
theorem LeAll.trans : ∀ {a b c : List Int}, LeAll a b → LeAll b c → LeAll a c
  | [], [], [], _, _ => trivial
  | _ :: _, _ :: _, _ :: _, h, g => ⟨Int.le_trans h.1 g.1, h.2.trans g.2⟩
  | [], _ :: _, _, h, _ => h.elim
  | _ :: _, [], _, h, _ => h.elim
  | [], [], _ :: _, _, g => g.elim
  | _ :: _, _ :: _, [], _, g => g.elim
theorem LeAll.len : ∀ {a b : List Int}, LeAll a b → a.length = b.length
  | [], [], _ => rfl
  | _ :: _, _ :: _, h => congrArg Nat.succ h.2.len
  | [], _ :: _, h => h.elim
  | _ :: _, [], h => h.elim
theorem LeAll.at : ∀ {a b : List Int}, LeAll a b → ∀ {i : Nat} {x y : Int}, a[i]? = some x → b[i]? = some y → x ≤ y
  | [], [], _, i, x, y, h, _ => by simp at h
  | _ :: _, _ :: _, h, 0, x, y, e, f => by cases e; cases f; exact h.1
  | _ :: _, _ :: _, h, i + 1, x, y, e, f => h.2.at (by simpa using e) (by simpa using f)
  | [], _ :: _, h, _, _, _, _, _ => h.elim
  | _ :: _, [], h, _, _, _, _, _ => h.elim
theorem LeAll.of : ∀ {a b : List Int}, a.length = b.length → (∀ (i : Nat) (x y : Int), a[i]? = some x → b[i]? = some y → x ≤ y) → LeAll a b
  | [], [], _, _ => trivial
  | _ :: _, _ :: _, l, h => ⟨h 0 _ _ rfl rfl, LeAll.of (Nat.succ.inj l) fun i x y e f => h (i + 1) x y (by simpa using e) (by simpa using f)⟩
  | [], _ :: _, l, _ => by cases l
  | _ :: _, [], l, _ => by cases l
/-- the greater one, as max says -/
def mx (a b : Int) : Int := if b > a then b else a
theorem mx_l (a b : Int) : a ≤ mx a b := by unfold mx; split <;> omega
theorem mx_r (a b : Int) : b ≤ mx a b := by unfold mx; split <;> omega
theorem mx_le {a b c : Int} (h : a ≤ c) (g : b ≤ c) : mx a b ≤ c := by unfold mx; split <;> omega
/-- the least times -/
def lows (nm : Int → Int) : Int → List Int → List Int
  | _, [] => []
  | lo, f :: fs => mx lo (nm f + 1) :: lows nm (mx lo (nm f + 1)) fs
theorem lows_len (nm : Int → Int) : ∀ (lo : Int) (fs : List Int), (lows nm lo fs).length = fs.length
  | _, [] => rfl
  | lo, f :: fs => congrArg Nat.succ (lows_len nm _ fs)
theorem lows_ge {nm : Int → Int} : ∀ {lo : Int} {fs : List Int}, ∀ x ∈ lows nm lo fs, lo ≤ x
  | lo, f :: fs, x, h => by
    rcases List.mem_cons.mp (show x ∈ mx lo (nm f + 1) :: lows nm (mx lo (nm f + 1)) fs from h) with e | h
    · rw [e]; exact mx_l _ _
    · exact Int.le_trans (mx_l _ _) (lows_ge x h)
theorem lows_up {nm : Int → Int} : ∀ {lo : Int} {fs : List Int}, (lows nm lo fs).Pairwise (· ≤ ·)
  | _, [] => .nil
  | lo, f :: fs => .cons (fun x hx => lows_ge x hx) lows_up
theorem lows_least {nm : Int → Int} : ∀ {P : List (Int × Int)} {lo : Int}, (∀ q ∈ P, nm q.1 < q.2) → (P.Pairwise fun a b => a.2 ≤ b.2) → (∀ q ∈ P, lo ≤ q.2) → LeAll (lows nm lo (P.map (·.1))) (P.map (·.2))
  | [], _, _, _, _ => trivial
  | (f, t) :: P, lo, h1, h2, h3 => by
    have g2 := List.pairwise_cons.mp h2
    have e : mx lo (nm f + 1) ≤ t := mx_le (h3 _ List.mem_cons_self) (h1 _ List.mem_cons_self)
    exact ⟨e, lows_least (fun q hq => h1 q (List.mem_cons_of_mem _ hq)) g2.2 fun q hq => Int.le_trans e (g2.1 q hq)⟩
theorem lows_tk {nm : Int → Int} : ∀ {P : List (Int × Int)} {lo : Int}, LeAll (lows nm lo (P.map (·.1))) (P.map (·.2)) → ∀ q ∈ P, nm q.1 < q.2
  | (f, t) :: P, lo, h, q, hq => by
    rcases List.mem_cons.mp hq with e | hq
    · subst e
      have := mx_r lo (nm f + 1)
      have h1 : mx lo (nm f + 1) ≤ t := h.1
      show nm f < t
      omega
    · exact lows_tk h.2 q hq
/-- the greatest times -/
def highs (nm : Int → Int) (n : Int) : List Int → List Int
  | [] => []
  | f :: fs => minI ((highs nm n fs).headD n :: ((fs.filter fun g => decide (g < f)).map nm)) :: highs nm n fs
theorem highs_len (nm : Int → Int) (n : Int) : ∀ fs : List Int, (highs nm n fs).length = fs.length
  | [] => rfl
  | f :: fs => congrArg Nat.succ (highs_len nm n fs)
theorem highs_up {nm : Int → Int} {n : Int} : ∀ {fs : List Int}, (highs nm n fs).Pairwise (· ≤ ·)
  | [] => .nil
  | f :: fs => by
    have ih := highs_up (nm := nm) (n := n) (fs := fs)
    refine .cons (fun x hx => ?_) ih
    have h1 : minI ((highs nm n fs).headD n :: ((fs.filter fun g => decide (g < f)).map nm)) ≤ (highs nm n fs).headD n := minI_le List.mem_cons_self
    cases e : highs nm n fs with
    | nil => rw [e] at hx; cases hx
    | cons y l =>
      rw [e] at hx h1 ih
      have h1' : minI _ ≤ y := h1
      rcases List.mem_cons.mp hx with z | z
      · rw [z]; exact h1'
      · exact Int.le_trans h1' ((List.pairwise_cons.mp ih).1 x z)
theorem highs_top {nm : Int → Int} {n : Int} : ∀ {fs : List Int}, ∀ x ∈ highs nm n fs, x ≤ n
  | f :: fs, x, h => by
    have ih := highs_top (nm := nm) (n := n) (fs := fs)
    rcases List.mem_cons.mp (show x ∈ minI ((highs nm n fs).headD n :: ((fs.filter fun g => decide (g < f)).map nm)) :: highs nm n fs from h) with e | h
    · rw [e]
      refine Int.le_trans (minI_le List.mem_cons_self) ?_
      cases e : highs nm n fs with
      | nil => exact Int.le_refl _
      | cons y l => exact ih y (by rw [e]; exact List.mem_cons_self)
    · exact ih x h
theorem highs_greatest {nm : Int → Int} {n : Int} : ∀ {P : List (Int × Int)}, (∀ q ∈ P, q.2 ≤ n) → (P.Pairwise fun a b => a.2 ≤ b.2) → (P.Pairwise fun a b => b.1 < a.1 → a.2 ≤ nm b.1) → LeAll (P.map (·.2)) (highs nm n (P.map (·.1)))
  | [], _, _, _ => trivial
  | (f, t) :: P, h1, h2, h3 => by
    have g2 := List.pairwise_cons.mp h2
    have g3 := List.pairwise_cons.mp h3
    have ih := highs_greatest (nm := nm) (fun q hq => h1 q (List.mem_cons_of_mem _ hq)) g2.2 g3.2
    refine ⟨?_, ih⟩
    have hm := minI_mem (ns := (highs nm n (P.map (·.1))).headD n :: (((P.map (·.1)).filter fun g => decide (g < f)).map nm)) (by simp)
    show t ≤ minI _
    rcases List.mem_cons.mp hm with e | hm
    · rw [e]
      cases P with
      | nil => exact h1 _ List.mem_cons_self
      | cons q P =>
        obtain ⟨f2, t2⟩ := q
        have a1 : t ≤ t2 := g2.1 _ List.mem_cons_self
        exact Int.le_trans a1 ih.1
    · obtain ⟨g, hg, e⟩ := List.mem_map.mp hm
      obtain ⟨hg1, hg2⟩ := List.mem_filter.mp hg
      obtain ⟨q, hq, eq⟩ := List.mem_map.mp hg1
      rw [← e, ← eq]
      exact g3.1 q hq (by rw [eq]; exact of_decide_eq_true hg2)
theorem highs_min {nm : Int → Int} {n : Int} : ∀ {P : List (Int × Int)}, LeAll (P.map (·.2)) (highs nm n (P.map (·.1))) → P.Pairwise fun a b => b.1 < a.1 → a.2 ≤ nm b.1
  | [], _ => .nil
  | (f, t) :: P, h => by
    refine .cons (fun q hq hlt => ?_) (highs_min h.2)
    have h1 : t ≤ minI ((highs nm n (P.map (·.1))).headD n :: (((P.map (·.1)).filter fun g => decide (g < f)).map nm)) := h.1
    refine Int.le_trans h1 (minI_le (List.mem_cons_of_mem _ ?_))
    exact List.mem_map.mpr ⟨q.1, List.mem_filter.mpr ⟨List.mem_map.mpr ⟨q, hq, rfl⟩, decide_eq_true hlt⟩, rfl⟩
theorem highs_le {nm : Int → Int} {n : Int} {P : List (Int × Int)} (h : LeAll (P.map (·.2)) (highs nm n (P.map (·.1)))) : ∀ q ∈ P, q.2 ≤ n := by
  intro q hq
  obtain ⟨i, hi⟩ := List.mem_iff_getElem?.mp hq
  have l := h.len
  rw [List.length_map] at l
  have il := (List.getElem?_eq_some_iff.mp hi).1
  have e2 := List.getElem?_eq_getElem (show i < (highs nm n (P.map (·.1))).length by omega)
  have := h.at (by rw [List.getElem?_map, hi]; rfl) e2
  exact Int.le_trans this (highs_top _ (List.mem_of_getElem? e2))
/-- within the bounds and never falling: a pattern that leads there -/
theorem Lead.iff {nm : Int → Int} {n lo : Int} {P : List (Int × Int)} (hlo : ∀ q ∈ P, nm q.1 < q.2 → lo ≤ q.2) : Lead nm n P ↔ (P.Pairwise fun a b => a.2 ≤ b.2) ∧ LeAll (lows nm lo (P.map (·.1))) (P.map (·.2)) ∧ LeAll (P.map (·.2)) (highs nm n (P.map (·.1))) := by
  constructor
  · intro h
    exact ⟨h.up, lows_least h.tk h.up fun q hq => hlo q hq (h.tk q hq), highs_greatest h.top h.up h.min⟩
  · rintro ⟨h1, h2, h3⟩
    exact ⟨lows_tk h2, highs_le h3, h1, highs_min h3⟩
theorem map_zip_1 : ∀ {a b : List Int}, a.length = b.length → (a.zip b).map (·.1) = a
  | [], [], _ => rfl
  | x :: a, y :: b, h => by rw [List.zip_cons_cons, List.map_cons, map_zip_1 (Nat.succ.inj h)]
  | [], _ :: _, h => by cases h
  | _ :: _, [], h => by cases h
theorem map_zip_2 : ∀ {a b : List Int}, a.length = b.length → (a.zip b).map (·.2) = b
  | [], [], _ => rfl
  | x :: a, y :: b, h => by rw [List.zip_cons_cons, List.map_cons, map_zip_2 (Nat.succ.inj h)]
  | [], _ :: _, h => by cases h
  | _ :: _, [], h => by cases h
theorem zip_up {a b : List Int} (h : b.Pairwise (· ≤ ·)) (l : a.length = b.length) : (a.zip b).Pairwise fun a b => a.2 ≤ b.2 := by
  have e := map_zip_2 l
  rw [← e] at h
  exact List.pairwise_map.mp h
/-! ### patterns and their times -/
/-- the times of the returns -/
def tmsF : Nat → List Bool → List Int
  | _, [] => []
  | k, true :: p => tmsF (k + 1) p
  | k, false :: p => (k : Int) :: tmsF k p
theorem tmsF_app (b : Bool) : ∀ (p : List Bool) (k : Nat), tmsF k (p ++ [b]) = tmsF k p ++ (if b then [] else [((k + tks p : Nat) : Int)])
  | [], k => by cases b <;> rfl
  | true :: p, k => by
    show tmsF (k + 1) (p ++ [b]) = _
    rw [tmsF_app b p (k + 1)]
    show _ = tmsF (k + 1) p ++ (if b then [] else [((k + (1 + tks p) : Nat) : Int)])
    rw [show k + 1 + tks p = k + (1 + tks p) by omega]
  | false :: p, k => by
    show (k : Int) :: tmsF k (p ++ [b]) = _
    rw [tmsF_app b p k]
    show _ = (k : Int) :: tmsF k p ++ (if b then [] else [((k + (0 + tks p) : Nat) : Int)])
    rw [Nat.zero_add]
    rfl
/-- what is true along a pattern -/
structure Run (ts : List Int) (gs : List Int) (P : List (Int × Int)) (k : Nat) : Prop where
  gap : ∀ x, x ∈ gs ↔ x ∈ ts ∧ nb ts x < k ∧ x ∉ P.map (·.1)
  gnd : gs.Nodup
  kl : k ≤ ts.length
  fnd : (P.map (·.1)).Nodup
  sub : ∀ x ∈ P.map (·.1), x ∈ ts
  ld : Lead (nb ts) k P
  ltr : ∀ q ∈ P, ∀ x ∈ ts, x ∉ P.map (·.1) → x < q.1 → q.2 ≤ nb ts x
theorem Run.nil (ts : List Int) : Run ts [] [] 0 := by
  refine ⟨fun x => ?_, .nil, Nat.zero_le _, .nil, fun x h => (by cases h), ⟨fun q h => (by cases h), fun q h => (by cases h), .nil, .nil⟩, fun q h => (by cases h)⟩
  constructor
  · intro h; cases h
  · rintro ⟨_, h, _⟩
    have := nb_nn ts x
    omega
theorem Run.take {ts gs : List Int} {P : List (Int × Int)} {k : Nat} (h : Run ts gs P k) (hn : ts.Nodup) (hk : k < ts.length) : Run ts (gs ++ [ts.getD k 0]) P (k + 1) := by
  have hm : ts.getD k 0 ∈ ts := by
    rw [List.getD_eq_getElem?_getD, List.getElem?_eq_getElem hk]
    exact List.getElem_mem hk
  have e := nb_get hn hk
  have new : ts.getD k 0 ∉ P.map (·.1) := fun hx => by
    obtain ⟨q, hq, eq⟩ := List.mem_map.mp hx
    have h1 := h.ld.tk q hq
    have h2 := h.ld.top q hq
    rw [eq, e] at h1
    omega
  refine ⟨fun x => ?_, ?_, hk, h.fnd, h.sub, ⟨h.ld.tk, fun q hq => by have := h.ld.top q hq; omega, h.ld.up, h.ld.min⟩, h.ltr⟩
  · rw [List.mem_append, List.mem_singleton, h.gap x]
    constructor
    · rintro (⟨a, b, c⟩ | rfl)
      · exact ⟨a, by omega, c⟩
      · exact ⟨hm, by rw [e]; omega, new⟩
    · rintro ⟨a, b, c⟩
      by_cases z : nb ts x < k
      · exact .inl ⟨a, z, c⟩
      · exact .inr (nb_inj a hm (by rw [e]; omega))
  · rw [List.nodup_append]
    refine ⟨h.gnd, by simp, fun x hx y hy z => ?_⟩
    rw [List.mem_singleton] at hy
    have := ((h.gap x).mp hx).2.1
    rw [z, hy, e] at this
    omega
theorem Run.back {ts gs : List Int} {P : List (Int × Int)} {k : Nat} (h : Run ts gs P k) (hg : gs ≠ []) : Run ts (gs.erase (minI gs)) (P ++ [(minI gs, (k : Int))]) k := by
  have hm := minI_mem hg
  obtain ⟨m1, m2, m3⟩ := (h.gap _).mp hm
  have em : (P ++ [(minI gs, (k : Int))]).map (·.1) = P.map (·.1) ++ [minI gs] := by rw [List.map_append]; rfl
  refine ⟨fun x => ?_, h.gnd.erase _, h.kl, ?_, ?_, ⟨?_, ?_, ?_, ?_⟩, ?_⟩
  · rw [em, h.gnd.mem_erase_iff, h.gap x, List.mem_append, List.mem_singleton]
    constructor
    · rintro ⟨a, b, c, d⟩
      exact ⟨b, c, fun z => z.elim d a⟩
    · rintro ⟨a, b, c⟩
      exact ⟨fun z => c (.inr z), a, b, fun z => c (.inl z)⟩
  · rw [em, List.nodup_append]
    exact ⟨h.fnd, by simp, fun x hx y hy z => by rw [List.mem_singleton] at hy; rw [z, hy] at hx; exact m3 hx⟩
  · intro x hx
    rw [em] at hx
    rcases List.mem_append.mp hx with hx | hx
    · exact h.sub x hx
    · rw [List.mem_singleton] at hx; rw [hx]; exact m1
  · intro q hq
    rcases List.mem_append.mp hq with hq | hq
    · exact h.ld.tk q hq
    · rw [List.mem_singleton] at hq; subst hq; exact m2
  · intro q hq
    rcases List.mem_append.mp hq with hq | hq
    · exact h.ld.top q hq
    · rw [List.mem_singleton] at hq; subst hq; exact Int.le_refl _
  · rw [List.pairwise_append]
    exact ⟨h.ld.up, List.pairwise_singleton _ _, fun a ha b hb => by rw [List.mem_singleton] at hb; subst hb; exact h.ld.top a ha⟩
  · rw [List.pairwise_append]
    refine ⟨h.ld.min, List.pairwise_singleton _ _, fun a ha b hb hlt => ?_⟩
    rw [List.mem_singleton] at hb
    subst hb
    exact h.ltr a ha _ m1 m3 hlt
  · intro q hq x hx hn hlt
    rw [em, List.mem_append, not_or] at hn
    rcases List.mem_append.mp hq with hq | hq
    · exact h.ltr q hq x hx hn.1 hlt
    · rw [List.mem_singleton] at hq
      subst hq
      show (k : Int) ≤ nb ts x
      by_cases z : nb ts x < k
      · have := minI_le ((h.gap x).mpr ⟨hx, z, hn.1⟩)
        have hlt' : x < minI gs := hlt
        omega
      · omega
/-- the pairs (fill, time) of a pattern -/
def prsF (ts : List Int) (p : List Bool) : List (Int × Int) := (fillF ts p).zip (tmsF 0 p)
theorem run_pat {ts : List Int} (hn : ts.Nodup) {p : List Bool} (hp : ∀ k, 0 ≤ dif (p.take k)) (ht : tks p ≤ ts.length) : ∀ i, i ≤ p.length → ∃ P, Run ts (runF ts (p.take i)).1 P (tks (p.take i)) ∧ P.map (·.1) = (runF ts (p.take i)).2.1 ∧ P.map (·.2) = tmsF 0 (p.take i)
  | 0, _ => ⟨[], Run.nil ts, rfl, rfl⟩
  | i + 1, hi => by
    obtain ⟨P, h1, h2, h3⟩ := run_pat hn hp ht i (by omega)
    obtain ⟨r1, r2, r3⟩ := runF_tk ts hp i (by omega)
    have e := take_succ (List.getElem?_eq_getElem (show i < p.length by omega))
    have hp1 := hp (i + 1)
    have ht1 := Nat.le_trans (tks_take_le p (i + 1)) ht
    rw [e] at hp1 ht1 ⊢
    rw [runF_app, tks_app, tmsF_app]
    rw [dif_app] at hp1
    rw [tks_app] at ht1
    generalize p[i]'(by omega) = b at *
    cases b with
    | true =>
      have ht1' : tks (p.take i) + 1 ≤ ts.length := ht1
      refine ⟨P, ?_, h2, by rw [h3]; exact (List.append_nil _).symm⟩
      show Run ts ((runF ts (p.take i)).1 ++ [ts.getD (runF ts (p.take i)).2.2 0]) P (tks (p.take i) + 1)
      rw [r1]
      exact h1.take hn (by omega)
    | false =>
      have hp1' : 0 ≤ dif (p.take i) + -1 := hp1
      have ne : (runF ts (p.take i)).1 ≠ [] := fun z => by rw [z] at r2; simp at r2; omega
      refine ⟨P ++ [(minI (runF ts (p.take i)).1, ((tks (p.take i) : Nat) : Int))], h1.back ne, ?_, ?_⟩
      · rw [List.map_append, h2]; rfl
      · rw [List.map_append, h3, Nat.zero_add]; rfl
theorem unzip_eq : ∀ {P : List (Int × Int)} {a b : List Int}, P.map (·.1) = a → P.map (·.2) = b → P = a.zip b
  | [], _, _, rfl, rfl => rfl
  | (x, y) :: P, _, _, rfl, rfl => by
    rw [List.map_cons, List.map_cons, List.zip_cons_cons, ← unzip_eq (P := P) rfl rfl]
/-- a pattern's fills are the places, and lead -/
theorem pat_lead {ts : List Int} (hn : ts.Nodup) {p : List Bool} (hp : IsPat p ts.length) : Lead (nb ts) ts.length (prsF ts p) ∧ (fillF ts p).Perm ts ∧ (prsF ts p).map (·.1) = fillF ts p ∧ (prsF ts p).map (·.2) = tmsF 0 p := by
  obtain ⟨P, h1, h2, h3⟩ := run_pat hn hp.pos (by rw [hp.tks]; exact Nat.le_refl _) p.length (Nat.le_refl _)
  rw [List.take_length] at h1 h2 h3
  rw [hp.tks] at h1
  have e : P = prsF ts p := unzip_eq h2 h3
  subst e
  refine ⟨h1.ld, ?_, h2, h3⟩
  have hr := runF_tk ts hp.pos p.length (Nat.le_refl _)
  rw [List.take_length, hp.tks] at hr
  have hl : (fillF ts p).length = ts.length := by
    have := hr.2.2
    have := hp.len
    show (runF ts p).2.1.length = _
    omega
  have nd := h1.fnd
  have sub := h1.sub
  rw [h2] at nd sub
  exact nodup_perm nd hn sub hl
where
  nodup_perm : ∀ {a b : List Int}, a.Nodup → b.Nodup → (∀ x ∈ a, x ∈ b) → a.length = b.length → a.Perm b
    | [], [], _, _, _, _ => .nil
    | x :: a, b, ha, hb, h, hl => by
      rw [List.nodup_cons] at ha
      have hx := h x List.mem_cons_self
      have ih := nodup_perm ha.2 (hb.erase x) (fun y hy => hb.mem_erase_iff.mpr ⟨fun e => ha.1 (e ▸ hy), h y (List.mem_cons_of_mem _ hy)⟩) (by rw [List.length_erase_of_mem hx, ← hl]; rfl)
      exact (ih.cons x).trans (List.perm_cons_erase hx).symm
    | [], _ :: _, _, _, _, h => by cases h
/-- the pattern with some times -/
def patOf : Nat → List Int → List Bool
  | _, [] => []
  | k, t :: ts => List.replicate (t.toNat - k) true ++ [false] ++ patOf t.toNat ts
theorem dif_cat : ∀ (p q : List Bool), dif (p ++ q) = dif p + dif q
  | [], q => by show dif q = 0 + dif q; omega
  | b :: p, q => by show _ + dif (p ++ q) = _ + dif p + dif q; rw [dif_cat p q]; omega
theorem tks_cat : ∀ (p q : List Bool), tks (p ++ q) = tks p + tks q
  | [], q => by show tks q = 0 + tks q; omega
  | b :: p, q => by show _ + tks (p ++ q) = _ + tks p + tks q; rw [tks_cat p q]; omega
theorem tks_rep : ∀ m : Nat, tks (List.replicate m true) = m
  | 0 => rfl
  | m + 1 => by rw [List.replicate_succ]; show 1 + tks (List.replicate m true) = m + 1; rw [tks_rep m]; omega
theorem dif_rep (m : Nat) : dif (List.replicate m true) = m := by
  have := dif_tks (List.replicate m true)
  rw [tks_rep, List.length_replicate] at this
  omega
theorem tmsF_rep (q : List Bool) : ∀ (m k : Nat), tmsF k (List.replicate m true ++ q) = tmsF (k + m) q
  | 0, k => rfl
  | m + 1, k => by
    rw [List.replicate_succ]
    show tmsF (k + 1) (List.replicate m true ++ q) = _
    rw [tmsF_rep q m (k + 1), show k + 1 + m = k + (m + 1) by omega]
theorem patOf_tms : ∀ {l : List Int} {k : Nat}, l.Pairwise (· ≤ ·) → (∀ t ∈ l, (k : Int) ≤ t) → tmsF k (patOf k l) = l
  | [], _, _, _ => rfl
  | t :: l, k, h, g => by
    have h' := List.pairwise_cons.mp h
    have hk := g t List.mem_cons_self
    show tmsF k (List.replicate (t.toNat - k) true ++ [false] ++ patOf t.toNat l) = _
    rw [List.append_assoc, tmsF_rep, show k + (t.toNat - k) = t.toNat by omega]
    show ((t.toNat : Nat) : Int) :: tmsF t.toNat (patOf t.toNat l) = _
    rw [patOf_tms h'.2 fun x hx => by have := h'.1 x hx; omega]
    rw [show ((t.toNat : Nat) : Int) = t by omega]
theorem patOf_len : ∀ {l : List Int} {k : Nat}, l.Pairwise (· ≤ ·) → (∀ t ∈ l, (k : Int) ≤ t) → (patOf k l).length = tks (patOf k l) + l.length ∧ ((tks (patOf k l) : Nat) : Int) + k = (l.getLast?.getD k)
  | [], k, _, _ => ⟨rfl, by show ((0 : Nat) : Int) + k = k; omega⟩
  | t :: l, k, h, g => by
    have h' := List.pairwise_cons.mp h
    have hk := g t List.mem_cons_self
    obtain ⟨i1, i2⟩ := patOf_len (l := l) (k := t.toNat) h'.2 fun x hx => by have := h'.1 x hx; omega
    have e : patOf k (t :: l) = List.replicate (t.toNat - k) true ++ [false] ++ patOf t.toNat l := rfl
    rw [e, tks_cat, tks_cat, tks_rep, List.length_append, List.length_append, List.length_replicate, i1]
    refine ⟨by show _ = (t.toNat - k + 0 + tks (patOf t.toNat l)) + (l.length + 1); simp; omega, ?_⟩
    have e2 : ((t :: l).getLast?.getD (k : Int)) = l.getLast?.getD t := by
      rw [List.getLast?_cons]
      rfl
    rw [e2]
    have e3 : l.getLast?.getD ((t.toNat : Nat) : Int) = l.getLast?.getD t := by rw [show ((t.toNat : Nat) : Int) = t by omega]
    rw [← e3, ← i2]
    show ((t.toNat - k + 0 + tks (patOf t.toNat l) : Nat) : Int) + k = _
    omega
theorem patOf_pos : ∀ {l : List Int} {k j : Nat}, j ≤ k → l.Pairwise (· ≤ ·) → (∀ t ∈ l, (k : Int) ≤ t) → (∀ (i : Nat) (t : Int), l[i]? = some t → ((j + i + 1 : Nat) : Int) ≤ t) → ∀ m, 0 ≤ (k : Int) - j + dif ((patOf k l).take m)
  | [], k, j, hj, _, _, _, m => by
    show 0 ≤ (k : Int) - j + dif (([] : List Bool).take m)
    rw [List.take_nil]
    show 0 ≤ (k : Int) - j + 0
    omega
  | t :: l, k, j, hj, h, g, c, m => by
    have h' := List.pairwise_cons.mp h
    have hk := g t List.mem_cons_self
    have hc := c 0 t rfl
    have ih := patOf_pos (l := l) (k := t.toNat) (j := j + 1) (by omega) h'.2 (fun x hx => by have := h'.1 x hx; omega) fun i x hx => by
      have := c (i + 1) x (by simpa using hx)
      omega
    have e : patOf k (t :: l) = List.replicate (t.toNat - k) true ++ ([false] ++ patOf t.toNat l) := List.append_assoc _ _ _
    rw [e]
    by_cases hm : m ≤ t.toNat - k
    · rw [List.take_append_of_le_length (by rw [List.length_replicate]; exact hm), List.take_replicate, dif_rep]
      omega
    · rw [List.take_append, List.take_of_length_le (by rw [List.length_replicate]; omega), dif_cat, dif_rep, List.length_replicate]
      obtain ⟨m', em⟩ : ∃ m', m - (t.toNat - k) = m' + 1 := ⟨m - (t.toNat - k) - 1, by omega⟩
      rw [em]
      have := ih m'
      show 0 ≤ (k : Int) - j + (((t.toNat - k : Nat) : Int) + (-1 + dif ((patOf t.toNat l).take m')))
      omega
theorem run_reps {ts : List Int} (hn : ts.Nodup) {P : List (Int × Int)} (f : List Int) : ∀ {m k : Nat} {gs : List Int}, Run ts gs P k → k + m ≤ ts.length → ∃ gs', (List.replicate m true).foldl (stepF ts) (gs, f, k) = (gs', f, k + m) ∧ Run ts gs' P (k + m)
  | 0, k, gs, h, _ => ⟨gs, rfl, h⟩
  | m + 1, k, gs, h, hk => by
    obtain ⟨gs', e, r⟩ := run_reps hn f (m := m) (h.take hn (by omega)) (by omega)
    refine ⟨gs', ?_, by rw [show k + (m + 1) = k + 1 + m by omega]; exact r⟩
    rw [List.replicate_succ, List.foldl_cons]
    show (List.replicate m true).foldl (stepF ts) (gs ++ [ts.getD k 0], f, k + 1) = _
    rw [e, show k + 1 + m = k + (m + 1) by omega]
theorem lead_run {ts : List Int} (hn : ts.Nodup) : ∀ {Q P0 : List (Int × Int)} {gs : List Int} {k : Nat}, Run ts gs P0 k → Lead (nb ts) ts.length (P0 ++ Q) → ((P0 ++ Q).map (·.1)).Perm ts → (∀ q ∈ Q, (k : Int) ≤ q.2) →
    ((patOf k (Q.map (·.2))).foldl (stepF ts) (gs, P0.map (·.1), k)).2.1 = (P0 ++ Q).map (·.1)
  | [], P0, gs, k, _, _, _, _ => by rw [List.append_nil]; rfl
  | (f, t) :: Q, P0, gs, k, h, hL, hp, hk => by
    have k1 := hk _ List.mem_cons_self
    have hmem : (f, t) ∈ P0 ++ (f, t) :: Q := List.mem_append_right _ List.mem_cons_self
    have ttop := hL.top _ hmem
    have ttk := hL.tk _ hmem
    have hup := List.pairwise_append.mp hL.up
    have hmin := List.pairwise_append.mp hL.min
    have hmin2 := List.pairwise_cons.mp hmin.2.1
    have hup2 := List.pairwise_cons.mp hup.2.1
    have k1' : (k : Int) ≤ t := k1
    have ttop' : t ≤ ts.length := ttop
    have ttk' : nb ts f < t := ttk
    obtain ⟨gs', e, r⟩ := run_reps hn (P0.map (·.1)) (m := t.toNat - k) h (by omega)
    have ek : k + (t.toNat - k) = t.toNat := by omega
    rw [ek] at e r
    have hnd : ((P0 ++ (f, t) :: Q).map (·.1)).Nodup := hp.nodup_iff.mpr hn
    rw [List.map_append, List.map_cons, List.nodup_append] at hnd
    have hfn : f ∉ P0.map (·.1) := fun z => hnd.2.2 f z f List.mem_cons_self rfl
    have hft : f ∈ ts := hp.mem_iff.mp (List.mem_map.mpr ⟨(f, t), hmem, rfl⟩)
    have hfg : f ∈ gs' := (r.gap f).mpr ⟨hft, by omega, hfn⟩
    have ef : f = minI gs' := minI_eq hfg fun y hy => by
      obtain ⟨y1, y2, y3⟩ := (r.gap y).mp hy
      have := hp.mem_iff.mpr y1
      rw [List.map_append, List.map_cons] at this
      rcases List.mem_append.mp this with z | z
      · exact absurd z y3
      · rcases List.mem_cons.mp z with z | z
        · rw [z]; exact Int.le_refl _
        · obtain ⟨q, hq, eq⟩ := List.mem_map.mp z
          have := hmin2.1 q hq
          rw [eq] at this
          have this' : y < f → t ≤ nb ts y := this
          by_cases hyf : y < f
          · have := this' hyf; omega
          · omega
    have r2 := r.back (fun z => by rw [z] at hfg; cases hfg)
    rw [← ef] at r2
    have et : (((t.toNat : Nat) : Int)) = t := by omega
    rw [et] at r2
    have ih := lead_run hn (Q := Q) (P0 := P0 ++ [(f, t)]) r2 (by rw [List.append_assoc]; exact hL) (by rw [List.append_assoc]; exact hp) fun q hq => by
      have := hup2.1 q hq
      have this' : t ≤ q.2 := this
      omega
    have ep : patOf k (((f, t) :: Q).map (·.2)) = List.replicate (t.toNat - k) true ++ [false] ++ patOf t.toNat (Q.map (·.2)) := rfl
    rw [ep, List.foldl_append, List.foldl_append, e]
    show ((patOf t.toNat (Q.map (·.2))).foldl (stepF ts) (gs'.erase (minI gs'), P0.map (·.1) ++ [minI gs'], t.toNat)).2.1 = _
    rw [← ef]
    rw [List.map_append] at ih
    have ih' : ((patOf t.toNat (Q.map (·.2))).foldl (stepF ts) (gs'.erase f, P0.map (·.1) ++ [f], t.toNat)).2.1 = (P0 ++ [(f, t)] ++ Q).map (·.1) := ih
    rw [ih', List.append_assoc]
    rfl
/-- each time has at least as many takes before it as returns up to it -/
theorem lead_count {ts : List Int} {P : List (Int × Int)} (hL : Lead (nb ts) ts.length P) (hs : ∀ x ∈ P.map (·.1), x ∈ ts) (hn : (P.map (·.1)).Nodup) {i : Nat} {t : Int} (h : (P.map (·.2))[i]? = some t) : ((i + 1 : Nat) : Int) ≤ t := by
  rw [List.getElem?_map] at h
  cases e : P[i]? with
  | none => rw [e] at h; cases h
  | some q =>
    rw [e] at h
    have et : q.2 = t := Option.some.inj h
    have il := (List.getElem?_eq_some_iff.mp e).1
    have h0 := nb_nn ts q.1
    have h1 := hL.tk q (List.mem_of_getElem? e)
    have key : ((P.take (i + 1)).map fun a => nb ts a.1).length ≤ t.toNat := by
      refine nodup_le ?_ fun x hx => ?_
      · have n1 : ((P.take (i + 1)).map (·.1)).Nodup := by
          rw [List.map_take]
          exact hn.sublist (List.take_sublist _ _)
        have : ((P.take (i + 1)).map fun a => nb ts a.1) = ((P.take (i + 1)).map (·.1)).map (nb ts) := by rw [List.map_map]; rfl
        rw [this]
        refine List.pairwise_map.mpr (List.Pairwise.imp_of_mem ?_ n1)
        intro a b ha hb hab hc
        have sub : ∀ x ∈ (P.take (i + 1)).map (·.1), x ∈ ts := fun x hx => by
          rw [List.map_take] at hx
          exact hs x (List.mem_of_mem_take hx)
        exact hab (nb_inj (sub a ha) (sub b hb) hc)
      · obtain ⟨a, ha, ea⟩ := List.mem_map.mp hx
        refine ⟨by rw [← ea]; exact nb_nn _ _, ?_⟩
        have a1 := hL.tk a (List.mem_of_mem_take ha)
        obtain ⟨j, hj⟩ := List.mem_iff_getElem?.mp ha
        have jl := (List.getElem?_eq_some_iff.mp hj).1
        rw [List.length_take] at jl
        rw [List.getElem?_take] at hj
        split at hj
        · have a2 : a.2 ≤ q.2 := by
            by_cases z : j = i
            · rw [z, e] at hj; cases hj; exact Int.le_refl _
            · have := List.pairwise_iff_getElem.mp hL.up j i (by omega) il (by omega)
              rw [(List.getElem?_eq_some_iff.mp hj).2, (List.getElem?_eq_some_iff.mp e).2] at this
              exact this
          rw [← ea]
          omega
        · cases hj
    rw [List.length_map, List.length_take] at key
    omega
/-- times that lead make a pattern that leads -/
theorem lead_pat {ts : List Int} (hn : ts.Nodup) (h200 : ts.length ≤ 200) {P : List (Int × Int)} (hL : Lead (nb ts) ts.length P) (hp : (P.map (·.1)).Perm ts) : IsPat (patOf 0 (P.map (·.2))) ts.length ∧ fillF ts (patOf 0 (P.map (·.2))) = P.map (·.1) ∧ tmsF 0 (patOf 0 (P.map (·.2))) = P.map (·.2) := by
  have up : (P.map (·.2)).Pairwise (· ≤ ·) := List.pairwise_map.mpr hL.up
  have sub : ∀ x ∈ P.map (·.1), x ∈ ts := fun x hx => hp.mem_iff.mp hx
  have nd : (P.map (·.1)).Nodup := hp.nodup_iff.mpr hn
  have cnt : ∀ (i : Nat) (t : Int), (P.map (·.2))[i]? = some t → ((0 + i + 1 : Nat) : Int) ≤ t := fun i t h => by
    rw [Nat.zero_add]
    exact lead_count hL sub nd h
  have nn : ∀ t ∈ P.map (·.2), ((0 : Nat) : Int) ≤ t := fun t ht => by
    obtain ⟨i, hi⟩ := List.mem_iff_getElem?.mp ht
    have := cnt i t hi
    omega
  obtain ⟨l1, l2⟩ := patOf_len up nn
  have pl : P.length = ts.length := by have := hp.length_eq; rwa [List.length_map] at this
  have last : ((P.map (·.2)).getLast?.getD ((0 : Nat) : Int)) = ts.length := by
    by_cases hP : P = []
    · rw [hP] at pl ⊢
      show ((0 : Nat) : Int) = _
      rw [← pl]; rfl
    · have hne : P.map (·.2) ≠ [] := by simpa using hP
      rw [List.getLast?_eq_some_getLast hne]
      show (P.map (·.2)).getLast hne = _
      have lp := List.length_pos_iff.mpr hP
      have hx := cnt (P.length - 1) ((P.map (·.2)).getLast hne) (by
        have a := List.getLast?_eq_getElem? (l := P.map (·.2))
        rw [List.getLast?_eq_some_getLast hne, List.length_map] at a
        exact a.symm)
      have top : (P.map (·.2)).getLast hne ≤ ts.length := by
        obtain ⟨q, hq, eq⟩ := List.mem_map.mp (List.getLast_mem hne)
        rw [← eq]
        exact hL.top q hq
      omega
  rw [last, Int.natCast_zero, Int.add_zero] at l2
  refine ⟨⟨by rw [l1, List.length_map]; omega, h200, ?_, fun m => ?_⟩, ?_, patOf_tms up nn⟩
  · have := dif_tks (patOf 0 (P.map (·.2)))
    rw [l1, List.length_map] at this
    omega
  · have := patOf_pos (k := 0) (j := 0) (Nat.le_refl _) up nn cnt m
    omega
  · exact lead_run hn (Q := P) (P0 := []) (Run.nil ts) hL hp fun q hq => nn q.2 (List.mem_map.mpr ⟨q, hq, rfl⟩)

/-! ### orders in which the books can be returned, and their number (no program here) -/
def okT (nm : Int → Int) : List Int → List Int → Bool
  | t :: T, y :: Y => decide (nm y < t) && okT nm T Y
  | _, _ => true
def resA (nm : Int → Int) : List Bool → Nat → List Int → Bool
  | [], _, _ => true
  | true :: p, k, Y => resA nm p (k + 1) Y
  | false :: _, _, [] => true
  | false :: p, k, y :: Y => decide (nm y < (k : Int)) && resA nm p k Y
theorem resA_ok (nm : Int → Int) : ∀ (p : List Bool) (k : Nat) (Y : List Int), resA nm p k Y = okT nm (tmsF k p) Y
  | [], _, _ => rfl
  | true :: p, k, Y => resA_ok nm p (k + 1) Y
  | false :: _, _, [] => rfl
  | false :: p, k, y :: Y => by
    show (_ && resA nm p k Y) = (_ && okT nm (tmsF k p) Y)
    rw [resA_ok nm p k Y]
theorem okT_iff {nm : Int → Int} : ∀ {T Y : List Int}, okT nm T Y = true ↔ ∀ (j : Nat) (t y : Int), T[j]? = some t → Y[j]? = some y → nm y < t
  | [], Y => ⟨fun _ j t y h => by simp at h, fun _ => by cases Y <;> rfl⟩
  | _ :: _, [] => ⟨fun _ j t y _ h => by simp at h, fun _ => rfl⟩
  | t :: T, y :: Y => by
    show (decide (nm y < t) && okT nm T Y) = true ↔ _
    rw [Bool.and_eq_true, decide_eq_true_iff, okT_iff (T := T) (Y := Y)]
    constructor
    · rintro ⟨a, b⟩ j t' y' h1 h2
      cases j with
      | zero => cases h1; cases h2; exact a
      | succ j => exact b j t' y' (by simpa using h1) (by simpa using h2)
    · intro h
      exact ⟨h 0 t y rfl rfl, fun j t' y' h1 h2 => h (j + 1) t' y' (by simpa using h1) (by simpa using h2)⟩
def prdA : List Bool → Int → Int → Int
  | [], f, _ => f
  | true :: p, f, o => prdA p f (o + 1)
  | false :: p, f, o => prdA p (f * o) (o - 1)
def prodT : List Int → Int → Int
  | [], _ => 1
  | t :: T, j => (t - j) * prodT T (j + 1)
theorem prdA_T : ∀ (p : List Bool) (f : Int) (k : Nat) (j : Int), prdA p f ((k : Int) - j) = f * prodT (tmsF k p) j
  | [], f, _, _ => (Int.mul_one f).symm
  | true :: p, f, k, j => by
    show prdA p f ((k : Int) - j + 1) = f * prodT (tmsF (k + 1) p) j
    rw [← prdA_T p f (k + 1) j]
    congr 1
    omega
  | false :: p, f, k, j => by
    show prdA p (f * ((k : Int) - j)) ((k : Int) - j - 1) = f * ((((k : Nat) : Int) - j) * prodT (tmsF k p) (j + 1))
    rw [← Int.mul_assoc, ← prdA_T p _ k (j + 1)]
    congr 1
    omega
theorem prodT_app : ∀ (A : List Int) (t j : Int), prodT (A ++ [t]) j = prodT A j * (t - (j + A.length))
  | [], t, j => by
    show (t - j) * 1 = 1 * (t - (j + ((0 : Nat) : Int)))
    rw [Int.mul_one, Int.one_mul]
    omega
  | a :: A, t, j => by
    show (a - j) * prodT (A ++ [t]) (j + 1) = (a - j) * prodT A (j + 1) * (t - (j + ((A.length + 1 : Nat) : Int)))
    rw [prodT_app A t (j + 1), Int.mul_assoc]
    congr 2
    omega
/-- the sizes of the product -/
theorem prdA_rng : ∀ {p : List Bool} {f o : Int}, 1 ≤ f → 0 ≤ o → (∀ k, 0 ≤ o + dif (p.take k)) → o + tks p ≤ 200 → 1 ≤ prdA p f o ∧ prdA p f o ≤ f * 200 ^ (p.length - tks p)
  | [], f, o, hf, _, _, _ => ⟨hf, by show f ≤ f * 200 ^ 0; omega⟩
  | true :: p, f, o, hf, ho, hd, ht => by
    have h := prdA_rng (p := p) (f := f) (o := o + 1) hf (by omega) (fun k => by
      have := hd (k + 1)
      have e : dif ((true :: p).take (k + 1)) = 1 + dif (p.take k) := rfl
      omega) (by have e : tks (true :: p) = 1 + tks p := rfl; omega)
    refine ⟨h.1, Int.le_trans h.2 ?_⟩
    have e : (true :: p).length - tks (true :: p) = p.length - tks p := by
      have e : tks (true :: p) = 1 + tks p := rfl
      rw [e, List.length_cons]; omega
    rw [e]
    exact Int.le_refl _
  | false :: p, f, o, hf, ho, hd, ht => by
    have h1 := hd 1
    have e1 : dif ((false :: p).take 1) = -1 + 0 := by rw [List.take_succ_cons, List.take_zero]; rfl
    have tp : tks (false :: p) = tks p := by show 0 + tks p = _; omega
    have tl : tks p ≤ p.length := by
      have := tks_take_le p p.length
      rw [List.take_length] at this
      clear this h1 e1 tp ht hd ho hf
      induction p with
      | nil => exact Nat.le_refl _
      | cons b p ih => show (if b then 1 else 0) + tks p ≤ p.length + 1; split <;> omega
    have ho1 : 1 ≤ o := by omega
    have ho2 : o ≤ 200 := by omega
    have fo : 1 ≤ f * o := Int.le_trans hf (by have := Int.mul_le_mul_of_nonneg_left ho1 (show (0 : Int) ≤ f by omega); rwa [Int.mul_one] at this)
    have h := prdA_rng (p := p) (f := f * o) (o := o - 1) fo (by omega) (fun k => by
      have := hd (k + 1)
      have e : dif ((false :: p).take (k + 1)) = -1 + dif (p.take k) := rfl
      omega) (by omega)
    refine ⟨h.1, Int.le_trans h.2 ?_⟩
    have e : (false :: p).length - tks (false :: p) = (p.length - tks p) + 1 := by rw [tp, List.length_cons]; omega
    rw [e, Int.pow_succ]
    generalize hX : (200 : Int) ^ (p.length - tks p) = X
    have x0 : 0 ≤ X := by rw [← hX]; exact Int.pow_nonneg (by decide)
    have a : f * o * X = f * (X * o) := by rw [Int.mul_assoc, Int.mul_comm o X]
    rw [a]
    exact Int.mul_le_mul_of_nonneg_left (Int.mul_le_mul_of_nonneg_left ho2 x0) (by omega)
/-! #### all orders -/
def growR (items row : List Int) : List (List Int) := (items.filter fun x => decide (x ∉ row)).map fun x => row ++ [x]
def ordN (items : List Int) : Nat → List (List Int)
  | 0 => [[]]
  | k + 1 => (ordN items k).flatMap (growR items)
theorem ordN_row {items : List Int} : ∀ {k : Nat} {row : List Int}, row ∈ ordN items k → row.length = k ∧ row.Nodup ∧ ∀ x ∈ row, x ∈ items
  | 0, row, h => by
    have : row = [] := List.mem_singleton.mp h
    subst this
    exact ⟨rfl, .nil, fun x h => by cases h⟩
  | k + 1, row, h => by
    obtain ⟨r, hr, h⟩ := List.mem_flatMap.mp h
    obtain ⟨x, hx, rfl⟩ := List.mem_map.mp h
    obtain ⟨a, b, c⟩ := ordN_row hr
    obtain ⟨hi, hn⟩ := List.mem_filter.mp hx
    have hn := of_decide_eq_true hn
    refine ⟨by rw [List.length_append, a]; rfl, ?_, fun y hy => ?_⟩
    · rw [List.nodup_append]
      refine ⟨b, by simp, fun y hy z hz e => ?_⟩
      rw [List.mem_singleton] at hz
      rw [e, hz] at hy
      exact hn hy
    · rcases List.mem_append.mp hy with h | h
      · exact c y h
      · rw [List.mem_singleton.mp h]; exact hi
theorem take_nb {items : List Int} (hn : items.Nodup) {t : Nat} (ht : t ≤ items.length) {x : Int} (hx : x ∈ items) : nb items x < (t : Int) ↔ x ∈ items.take t := by
  unfold nb
  have hl := List.idxOf_lt_length_of_mem hx
  constructor
  · intro h
    rw [List.mem_take_iff_getElem]
    exact ⟨items.idxOf x, by omega, List.getElem_idxOf hl⟩
  · intro h
    obtain ⟨i, hi, e⟩ := List.mem_take_iff_getElem.mp h
    have : items[items.idxOf x] = items[i] := by rw [List.getElem_idxOf]; exact e.symm
    have := (List.getElem_inj hn).mp this
    omega
theorem free_len {items row : List Int} (hn : items.Nodup) {t : Nat} (ht : t ≤ items.length) (hr : row.Nodup) (hs : ∀ x ∈ row, x ∈ items ∧ nb items x < (t : Int)) :
    (((items.filter fun x => decide (x ∉ row)).filter fun x => decide (nb items x < (t : Int))).length : Int) = (t : Int) - row.length := by
  have h1 : ((items.filter fun x => decide (x ∉ row)).filter fun x => decide (nb items x < (t : Int))).length = ((items.take t).filter fun x => decide (x ∉ row)).length := by
    refine nodup_same_len ((hn.filter _).filter _) ((hn.sublist (List.take_sublist _ _)).filter _) fun x => ?_
    rw [List.mem_filter, List.mem_filter, List.mem_filter, decide_eq_true_iff, decide_eq_true_iff]
    constructor
    · rintro ⟨⟨a, b⟩, c⟩
      exact ⟨(take_nb hn ht a).mp c, b⟩
    · rintro ⟨a, b⟩
      have hi := List.mem_of_mem_take a
      exact ⟨⟨hi, b⟩, (take_nb hn ht hi).mpr a⟩
  have h2 : ((items.take t).filter fun x => decide (x ∈ row)).length = row.length := by
    refine nodup_same_len ((hn.sublist (List.take_sublist _ _)).filter _) hr fun x => ?_
    rw [List.mem_filter, decide_eq_true_iff]
    constructor
    · exact fun h => h.2
    · intro h
      exact ⟨(take_nb hn ht (hs x h).1).mp (hs x h).2, h⟩
  have h3 : ∀ l : List Int, (l.filter fun x => decide (x ∈ row)).length + (l.filter fun x => decide (x ∉ row)).length = l.length := fun l => by
    induction l with
    | nil => rfl
    | cons a l ih =>
      rw [List.filter_cons, List.filter_cons]
      by_cases h : a ∈ row
      · rw [if_pos (decide_eq_true h), if_neg (by simpa using h), List.length_cons, List.length_cons]; omega
      · rw [if_neg (by simpa using h), if_pos (decide_eq_true h), List.length_cons, List.length_cons]; omega
  have h4 := h3 (items.take t)
  rw [h2, List.length_take, Nat.min_eq_left ht] at h4
  rw [h1]
  omega
theorem okT_app {nm : Int → Int} {x t : Int} : ∀ {T Y : List Int}, T[Y.length]? = some t → okT nm T (Y ++ [x]) = (okT nm T Y && decide (nm x < t))
  | [], Y, h => by simp at h
  | a :: T, [], h => by
    cases h
    show (decide (nm x < t) && okT nm T []) = (true && decide (nm x < t))
    have : okT nm T [] = true := by cases T <;> rfl
    rw [this, Bool.and_true, Bool.true_and]
  | a :: T, y :: Y, h => by
    show (decide (nm y < a) && okT nm T (Y ++ [x])) = (decide (nm y < a) && okT nm T Y && decide (nm x < t))
    rw [okT_app (T := T) (Y := Y) (by simpa using h), Bool.and_assoc]
theorem ord_step {items T : List Int} (hn : items.Nodup) (up : T.Pairwise (· ≤ ·)) {k : Nat} {t : Nat} (hk : T[k]? = some (t : Int)) (ht : t ≤ items.length) : ∀ {rows : List (List Int)}, (∀ row ∈ rows, row.length = k ∧ row.Nodup ∧ ∀ x ∈ row, x ∈ items) →
    (((rows.flatMap (growR items)).filter (okT (nb items) T)).length : Int) = ((rows.filter (okT (nb items) T)).length : Int) * ((t : Int) - k)
  | [], _ => by show ((0 : Nat) : Int) = ((0 : Nat) : Int) * _; simp
  | row :: rows, h => by
    obtain ⟨rl, rn, ri⟩ := h row List.mem_cons_self
    have ih := ord_step hn up hk ht (rows := rows) fun r hr => h r (List.mem_cons_of_mem _ hr)
    have e1 : (growR items row).filter (okT (nb items) T) = ((items.filter fun x => decide (x ∉ row)).filter fun x => okT (nb items) T row && decide (nb items x < (t : Int))).map fun x => row ++ [x] := by
      unfold growR
      rw [List.filter_map]
      congr 1
      refine List.filter_congr fun x _ => ?_
      exact okT_app (by rw [rl]; exact hk)
    rw [List.flatMap_cons, List.filter_append, List.length_append, Int.natCast_add, ih, e1, List.length_map, List.filter_cons]
    cases ho : okT (nb items) T row with
    | false =>
      rw [if_neg Bool.false_ne_true]
      have : ((items.filter fun x => decide (x ∉ row)).filter fun x => false && decide (nb items x < (t : Int))) = [] := by
        rw [List.filter_eq_nil_iff]; intro x _; simp
      rw [this]
      simp
    | true =>
      rw [if_pos rfl, List.length_cons]
      have hs : ∀ x ∈ row, x ∈ items ∧ nb items x < (t : Int) := fun x hx => by
        refine ⟨ri x hx, ?_⟩
        obtain ⟨j, hj, rfl⟩ := List.getElem_of_mem hx
        have jk : j < k := by omega
        have kl := (List.getElem?_eq_some_iff.mp hk).1
        have e2 := (List.getElem?_eq_some_iff.mp hk).2
        have h1 := (okT_iff.mp ho) j T[j] row[j] (List.getElem?_eq_getElem (by omega)) (List.getElem?_eq_getElem hj)
        have h2 := (List.pairwise_iff_getElem.mp up) j k (by omega) kl jk
        rw [e2] at h2
        omega
      have := free_len hn ht rn hs
      simp only [Bool.true_and]
      rw [this, rl, Int.natCast_add, Int.add_mul]
      generalize ((rows.filter (okT (nb items) T)).length : Int) * ((t : Int) - k) = Z
      omega
theorem ord_count {items T : List Int} (hn : items.Nodup) (up : T.Pairwise (· ≤ ·)) (hT : ∀ x ∈ T, 0 ≤ x ∧ x ≤ items.length) : ∀ k, k ≤ T.length → (((ordN items k).filter (okT (nb items) T)).length : Int) = prodT (T.take k) 0
  | 0, _ => by
    rw [List.take_zero]
    have : okT (nb items) T [] = true := by cases T <;> rfl
    show (([[]].filter (okT (nb items) T)).length : Int) = 1
    rw [List.filter_cons, if_pos this]
    rfl
  | k + 1, h => by
    have ih := ord_count hn up hT k (by omega)
    have hk := List.getElem?_eq_getElem (show k < T.length by omega)
    obtain ⟨a, b⟩ := hT _ (List.getElem_mem (show k < T.length by omega))
    obtain ⟨t, e⟩ := Int.eq_ofNat_of_zero_le a
    rw [e] at hk b
    have := ord_step hn up hk (by omega) (rows := ordN items k) fun row hr => ordN_row hr
    show (((ordN items k).flatMap (growR items)).filter _ |>.length : Int) = _
    rw [this, ih, List.take_add_one, hk]
    show _ = prodT (T.take k ++ [(t : Int)]) 0
    rw [prodT_app, List.length_take, Nat.min_eq_left (by omega), Int.zero_add]

abbrev Sis_listed : Stmt := topS 8
abbrev Nis_listed : List Str := ["value"]
theorem scis_listed : FnScope Nis_listed ["value"] (defScope Sis_listed) := ⟨rfl, rfl, rfl, by decide +kernel, rfl, by decide +kernel, by decide +kernel⟩

section
variable {P : Program} {w : World} {K : PySem.W.Frag} {mg : Str → Option Value} {base : Heap}
def spIsListed : Sp := fun vs H Q _ => ∃ (a : Addr) (xs : List V), vs = [.ref a] ∧ Sq H a xs ∧ ∀ H', Same H H' → Q (.bl true) H'
theorem ok_is_listed {f : Addr} {fd : FuncData} {k : Nat} (B : Bn mg) (F : Fun K "is_listed" "is_listed" Sis_listed f fd) : FnG P w K mg base (k + 1) f fd ["value"] spIsListed := by
  refine gok F scis_listed (fun vs H Q E h => ?_) (fun cdv A fs s H vs Q E hG hr h => ?_)
  · obtain ⟨_, _, rfl, _⟩ := h; rfl
  · obtain ⟨a, xs, rfl, h, q⟩ := h
    have hu := hr.units
    refine ⟨_, (pss_one (ps_ret (pe_callB (k_isiT K) (by rfl) B.isinstance Bisinstance (pa_cons (pv 0) (pa_cons (pe_tup (pa_cons (pe_bltn (v := .ty "list") (by rfl) B.list Tlist rfl) (pa_cons (pe_bltn (v := .ty "tuple") (by rfl) B.tuple Ttuple rfl) pa_nil))) pa_nil))))), ?_⟩
    walk_at "s"
    intro p np
    have s1 := same_new (o := .tup [.ty "list", .ty "tuple"]) np
    rcases h with h | h
    · have h' := s1 _ _ h
      walk_at "s"
      exact q _ s1
    · have h' := s1 _ _ h
      walk_at "s"
      exact q _ s1
end

abbrev Sis_place_list : Stmt := topS 13
abbrev Nis_place_list : List Str := ["value", "place"]
theorem scis_place_list : FnScope Nis_place_list ["value"] (defScope Sis_place_list) := ⟨rfl, rfl, rfl, by decide +kernel, rfl, by decide +kernel, by decide +kernel⟩
abbrev Schecked_places : Stmt := topS 14
abbrev Nchecked_places : List Str := ["value"]
theorem scchecked_places : FnScope Nchecked_places ["value"] (defScope Schecked_places) := ⟨rfl, rfl, rfl, by decide +kernel, rfl, by decide +kernel, by decide +kernel⟩

/-- a list of places -/
structure IsPl (ns : List Int) : Prop where
  top : ns.length ≤ 200
  rng : ∀ x ∈ ns, 0 ≤ x ∧ x ≤ 1000000000000000000000000000000
  nd : ns.Nodup
section
variable {P : Program} {w : World} {K : PySem.W.Frag} {mg : Str → Option Value} {base : Heap}
def spIsPlaceList : Sp := fun vs H Q _ => ∃ (a : Addr) (ns : List Int), vs = [.ref a] ∧ Sq H a (vI ns) ∧ IsPl ns ∧ ∀ H', Same H H' → Q (.bl true) H'
theorem ok_is_place_list {f : Addr} {fd : FuncData} (B : Bn mg) (c_MAX_SIZE : Gc mg "MAX_SIZE" (.int 200)) (c_MAX_PLACE : Gc mg "MAX_PLACE" (.int 1000000000000000000000000000000)) (D_is_listed : Df P w K mg base 1 "is_listed" [] spIsListed) (D_is_integer : Df P w K mg base 1 "is_integer" [] spIsInteger)
   (F : Fun K "is_place_list" "is_place_list" Sis_place_list f fd) : FnG P w K mg base 2 f fd ["value"] spIsPlaceList := by
  refine gok F scis_place_list (fun vs H Q E h => ?_) (fun cdv A fs s H vs Q E hG hr h => ?_)
  · obtain ⟨_, _, rfl, _⟩ := h; rfl
  · obtain ⟨a, ns, rfl, h, hP, q⟩ := h
    have hu := hr.units
    have h2 := hP.top
    refine ⟨_, (pss_cons (ps_if (pw_or (pt_not (pt_val (pe_df D_is_listed hG (hr.mono (by first | decide | omega)) passL (by rfl) (pa_cons (pv 0) pa_nil)))) (pw_or1 (pt_cmpR op_gt (pe_callB (k_len K) (by rfl) B.len Blen (pa_cons (pv 0) pa_nil)) (pe_gc c_MAX_SIZE (by rfl)) (nomark _)))).pt (pss_one (ps_ret pe_bl)) pss_nil) (pss_one (ps_ret (pe_and (pe_callB (k_all K) (by rfl) B.all Ball (pa_cons (pe_lc (own := [("place", 1)]) rfl scis_place_list.nd (pi_or (k_piL K (pv 0)) (k_piT K (pv 0))) (blkOk_by (own := [("place", 1)]) (N := Nis_place_list) (sc := defScope Sis_place_list) (by decide +kernel)) (fun _ _ _ _ _ => (pg_name (i := 1) scis_place_list.nd rfl (Or.inl rfl))) (fun _ _ _ _ _ => pts_nil) (fun _ _ _ _ _ => (pe_df D_is_integer hG (hr.mono (by first | decide | omega)) passL (by rfl) (pa_cons (pv 1) (pa_cons pe_int (pa_cons (pe_gc c_MAX_PLACE (by rfl)) pa_nil)))))) pa_nil)) (pe_one (pe_cmpR op_eq (pe_lenSet K (by rfl) B.len (by rfl) B.set (pv 0)) (pe_callB (k_len K) (by rfl) B.len Blen (pa_cons (pv 0) pa_nil)) (nomark _))))))), ?_⟩
    walk_at "s"
    refine ⟨a, _, rfl, h, fun H1 s1 => ?_⟩
    have hA := s1.sq h
    walk_at "s"
    refine ifDF (by rw [vI_len]; omega) ?_
    walk_at "s"
    have turn : ∀ (i : Nat) (x : V) (H' H'' : Hp) (Yes : V → Hp → Prop) (No : Hp → Prop), i < (vI ns).length → Same H1 H' → (H'' = H' ∧ (vI ns)[i]? = some x) → ((fun _ => true) i = true → ∀ H4, Same H' H4 → Yes ((fun _ => V.bl true) i) H4) → ((fun _ => true) i = false → ∀ H3, Same H' H3 → No H3) →
        gName 1 x (wipe (L2.start Nis_place_list [V.ref a]) [1]) H'' fun σ2 H2 => wipe σ2 [1] = wipe (L2.start Nis_place_list [V.ref a]) [1] ∧ tYes σ2 H2 fun b H3 => if b = true then (tCall spIsInteger [] E0 (tCons (tVar 1) (tCons (tC (.int 0)) (tCons (tC (.int 1000000000000000000000000000000)) tNil)))) σ2 H3 Yes else No H3 := by
      rintro i x H' H'' Yes No hi s ⟨rfl, hx⟩ hY hN
      rw [vI_len] at hi
      rw [vI_at hi] at hx
      cases hx
      have hm := hP.rng _ (List.getElem_mem hi)
      walk_at "s"
      refine ⟨rfl, ?_⟩
      walk_at "s"
      refine ⟨_, _, _, rfl, .inl ⟨_, rfl, ?_⟩⟩
      rw [decide_eq_true hm.1, decide_eq_true hm.2]
      exact hY rfl _ (Same.refl _)
    have fin : ∀ (Dl : Addr) (H' : Hp), H1 Dl = none → Same H1 H' → H' Dl = some (.lst (giv (vI ns).length (fun _ => true) fun _ => .bl true)) → ∀ Q' : VK, Q' (.bl true) H' → L2.rAll K [V.ref Dl] H' Q' := by
      intro Dl H' nD s hD Q' q'
      refine ⟨Dl, List.replicate (vI ns).length true, rfl, lst_of (hD.trans ?_), ?_⟩
      · rw [giv_const, List.map_replicate]
      · rw [show (List.replicate (vI ns).length true).all id = true by simp]
        exact q'
    rcases id hA with hL | hL
    · refine .inl ?_
      walk_at "s"
      refine ⟨a, rfl, ⟨_, lst_of hL⟩, fun Dl nD => lc_pure (src_list (xs := vI ns)) _ _ (by rw [vI_len]; omega) (fun H' s => lst_of (s _ _ hL)) turn nD fun H' s hD => ?_⟩
      walk_at "s"
      refine fin Dl H' nD s hD _ ?_
      walk_at "s"
      refine ⟨a, ns, rfl, .inl (lst_of (s _ _ hL)), hP.nd, Nat.le_trans h2 (by decide), ?_⟩
      have hA3 := s.sq hA
      walk_at "s"
      rw [vI_len]
      rw [decide_eq_true rfl]
      exact q _ (s1.trans s)
    · refine .inr ?_
      walk_at "s"
      refine ⟨a, rfl, ⟨_, tup_of hL⟩, fun Dl nD => lc_pure (src_tup (xs := vI ns)) _ _ (by rw [vI_len]; omega) (fun H' s => tup_of (s _ _ hL)) turn nD fun H' s hD => ?_⟩
      walk_at "s"
      refine fin Dl H' nD s hD _ ?_
      walk_at "s"
      refine ⟨a, ns, rfl, .inr (tup_of (s _ _ hL)), hP.nd, Nat.le_trans h2 (by decide), ?_⟩
      have hA3 := s.sq hA
      walk_at "s"
      rw [vI_len]
      rw [decide_eq_true rfl]
      exact q _ (s1.trans s)
def spCheckedPlaces : Sp := fun vs H Q _ => ∃ (a : Addr) (ns : List Int), vs = [.ref a] ∧ Sq H a (vI ns) ∧ IsPl ns ∧ ∀ H' p, Same H H' → H p = none → H' p = some (.lst (vI ns)) → Q (.ref p) H'
theorem ok_checked_places {f : Addr} {fd : FuncData} (B : Bn mg) (D_is_place_list : Df P w K mg base 2 "is_place_list" [] spIsPlaceList)
   (F : Fun K "checked_places" "checked_places" Schecked_places f fd) : FnG P w K mg base 3 f fd ["value"] spCheckedPlaces := by
  refine gok F scchecked_places (fun vs H Q E h => ?_) (fun cdv A fs s H vs Q E hG hr h => ?_)
  · obtain ⟨_, _, rfl, _⟩ := h; rfl
  · obtain ⟨a, ns, rfl, h, hP, q⟩ := h
    have hu := hr.units
    refine ⟨_, (pss_cons (ps_if (pt_not (pt_val (pe_df D_is_place_list hG (hr.mono (by first | decide | omega)) passL (by rfl) (pa_cons (pv 0) pa_nil)))) (pss_one ps_never) pss_nil) (pss_one (ps_ret (pe_callTy (k_list K) (by rfl) B.list Tlist (pa_cons (pv 0) pa_nil))))), ?_⟩
    walk_at "s"
    refine ⟨a, ns, rfl, h, hP, fun H1 s1 => ?_⟩
    have hA := s1.sq h
    walk_at "s"
    intro u nu
    exact q _ u (s1.trans (same_new nu)) (s1.free nu) upd_same
end

abbrev Snumbered : Stmt := topS 17
abbrev Nnumbered : List Str := ["places", "index", "place"]
theorem scnumbered : FnScope Nnumbered ["places"] (defScope Snumbered) := ⟨rfl, rfl, rfl, by decide +kernel, rfl, by decide +kernel, by decide +kernel⟩

/-- a list's items, chosen and changed -/
theorem giv_list (xs : List Int) (P : Int → Bool) (F : Int → Int) : giv xs.length (fun i => P (xs.getD i 0)) (fun i => .int (F (xs.getD i 0))) = vI ((xs.filter P).map F) := by
  have e : (List.range xs.length).map (fun i => xs.getD i 0) = xs := by
    apply List.ext_getElem?
    intro i
    rw [List.getElem?_map]
    by_cases h : i < xs.length
    · rw [List.getElem?_range h, List.getElem?_eq_getElem h]
      show some (xs.getD i 0) = some xs[i]
      rw [List.getD_eq_getElem?_getD, List.getElem?_eq_getElem h]
      rfl
    · rw [List.getElem?_eq_none (by rw [List.length_range]; omega), List.getElem?_eq_none (by omega)]
      rfl
  unfold giv vI
  conv => rhs; rw [← e]
  rw [List.filter_map, List.map_map, List.map_map]
  rfl
theorem getD_at {xs : List Int} {i : Nat} (h : i < xs.length) : xs[i]? = some (xs.getD i 0) := by
  rw [List.getD_eq_getElem?_getD, List.getElem?_eq_getElem h]
  rfl
theorem vI_getD {xs : List Int} {i : Nat} (h : i < xs.length) : (vI xs)[i]? = some (.int (xs.getD i 0)) := by
  unfold vI
  rw [List.getElem?_map, getD_at h]
  rfl
theorem sorted_one : ∀ {a b : List Int}, a.Pairwise (· ≤ ·) → b.Pairwise (· ≤ ·) → a.Perm b → a = b
  | [], b, _, _, h => (h.symm.eq_nil).symm
  | x :: a, [], _, _, h => by have := h.length_eq; cases this
  | x :: a, y :: b, ha, hb, h => by
    have h1 := List.pairwise_cons.mp ha
    have h2 := List.pairwise_cons.mp hb
    have e : x = y := by
      have a1 : x ∈ y :: b := h.mem_iff.mp List.mem_cons_self
      have a2 : y ∈ x :: a := h.mem_iff.mpr List.mem_cons_self
      rcases List.mem_cons.mp a1 with z | z
      · exact z
      · rcases List.mem_cons.mp a2 with z2 | z2
        · exact z2.symm
        · have := h1.1 y z2
          have := h2.1 x z
          omega
    subst e
    rw [sorted_one h1.2 h2.2 (List.Perm.cons_inv h)]
theorem ixO_mem {ns : List Int} {x : Int} (h : x ∈ ns) : ixO ns x = some (nb ns x) := if_pos h
/-- the bounds of the times -/
def bnds (ts fs : List Int) : List (Int × Int) := (lows (nb ts) 0 fs).zip (highs (nb ts) ts.length fs)
theorem bnds_len (ts fs : List Int) : (bnds ts fs).length = fs.length := by unfold bnds; rw [List.length_zip, lows_len, highs_len, Nat.min_self]
theorem drop_cons {α : Type} {xs : List α} {i : Nat} (h : i < xs.length) : xs.drop i = xs[i] :: xs.drop (i + 1) := List.drop_eq_getElem_cons h
section
variable {P : Program} {w : World} {K : PySem.W.Frag} {mg : Str → Option Value} {base : Heap}
def spNumbered : Sp := fun vs H Q _ => ∃ (a : Addr) (ns : List Int), vs = [.ref a] ∧ H a = some (.lst (vI ns)) ∧ ns.Nodup ∧ ns.length ≤ 1000 ∧ ∀ H' p, Same H H' → H p = none → IsD H' p (ixO ns) → Q (.ref p) H'
theorem ok_numbered {f : Addr} {fd : FuncData} {k : Nat} (B : Bn mg) (F : Fun K "numbered" "numbered" Snumbered f fd) : FnG P w K mg base (k + 1) f fd ["places"] spNumbered := by
  refine gok F scnumbered (fun vs H Q E h => ?_) (fun cdv A fs s H vs Q E hG hr h => ?_)
  · obtain ⟨_, _, rfl, _⟩ := h; rfl
  · obtain ⟨a, ns, rfl, hA, hn, hl, q⟩ := h
    have hu := hr.units
    refine ⟨_, (pss_one (ps_ret (pe_dc (own := [("index", 1), ("place", 2)]) rfl scnumbered.nd (k_enum K (by rfl) B.enumerate (pa_cons (pv 0) pa_nil)) (blkOk_by (own := [("index", 1), ("place", 2)]) (N := Nnumbered) (sc := defScope Snumbered) (by decide +kernel)) (fun _ _ _ _ _ => (k_gtup (n := 2) K rfl (pgs_cons (pg_name (i := 1) scnumbered.nd rfl (Or.inl rfl)) (pgs_cons (pg_name (i := 2) scnumbered.nd rfl (Or.inl rfl)) pgs_nil)))) (fun _ _ _ _ _ => pts_nil) (fun _ _ _ _ _ => (pv 2)) (fun _ _ _ _ _ => (pv 1))))), ?_⟩
    walk_at "s"
    refine r_dc ?_
    walk_at "s"
    refine ⟨a, vI ns, rfl, lst_of hA, fun D nD => ?_⟩
    have S := src_enum (K := K) (a := a) (xs := vI ns)
    have sD := same_new (o := .dK []) nD
    refine ⟨fun i m H' => i + m = ns.length ∧ Same H H' ∧ H' D = some (.dK (numTo ns i)), ⟨ns.length, Nat.zero_add _, sD, upd_same⟩, ?_⟩
    rintro i m H1 ⟨e, s1, hD⟩
    have o := lst_of (K := K) (s1 _ _ hA)
    by_cases hi : i < ns.length
    · refine .inr ⟨S.go i H1 o (by rw [vI_len]; exact hi), fun H' => Same H H' ∧ H' D = some (.dK (numTo ns (i + 1))), fun H' h => ⟨m - 1, by omega, by omega, h⟩, ?_⟩
      intro x H2 y
      obtain ⟨T, x', rfl, nT, rfl, hx⟩ := S.yld i H1 x H2 o (by rw [vI_len]; exact hi) y
      rw [vI_getD hi] at hx
      cases hx
      have sT := same_new (o := .tup [.int (i : Nat), .int (ns.getD i 0)]) nT
      walk_at "s"
      refine ⟨rfl, ?_⟩
      walk_at "s"
      refine ⟨numTo ns i, .inl (ns.getD i 0), rfl, sT _ _ hD, by rw [numTo_len]; exact szl (by omega), ?_, ?_⟩
      · exact same_set (s1.trans sT) nD
      · rw [upd_same, numTo_succ hn hi]
    · have ei : i = ns.length := by omega
      subst ei
      refine .inl ⟨by have := S.stop H1 o; rwa [vI_len] at this, ?_⟩
      walk_at "s"
      exact q _ D s1 nD ⟨_, hD, by rw [numTo_len]; omega, valV_all hn⟩
end

abbrev Sis_pattern : Stmt := topS 15
abbrev Nis_pattern : List Str := ["value", "out", "letter"]
theorem scis_pattern : FnScope Nis_pattern ["value"] (defScope Sis_pattern) := ⟨rfl, rfl, rfl, by decide +kernel, rfl, by decide +kernel, by decide +kernel⟩
abbrev Scheck_pattern : Stmt := topS 16
abbrev Ncheck_pattern : List Str := ["value", "count"]
theorem sccheck_pattern : FnScope Ncheck_pattern ["value", "count"] (defScope Scheck_pattern) := ⟨rfl, rfl, rfl, by decide +kernel, rfl, by decide +kernel, by decide +kernel⟩

section
variable {P : Program} {w : World} {K : PySem.W.Frag} {mg : Str → Option Value} {base : Heap}
def spIsPattern : Sp := fun vs H Q _ => ∃ (p : List Bool) (n : Nat), vs = [.str (pS p)] ∧ IsPat p n ∧ ∀ H', Same H H' → Q (.bl true) H'
theorem ok_is_pattern {f : Addr} {fd : FuncData} {k : Nat} (B : Bn mg) (c_MAX_SIZE : Gc mg "MAX_SIZE" (.int 200)) (c_TAKING : Gc mg "TAKING" (.str "T")) (c_RETURNING : Gc mg "RETURNING" (.str "R"))
   (F : Fun K "is_pattern" "is_pattern" Sis_pattern f fd) : FnG P w K mg base (k + 1) f fd ["value"] spIsPattern := by
  refine gok F scis_pattern (fun vs H Q E h => ?_) (fun cdv A fs s H vs Q E hG hr h => ?_)
  · obtain ⟨_, _, rfl, _⟩ := h; rfl
  · obtain ⟨p, n, rfl, hP, q⟩ := h
    have hu := hr.units
    have h2 := hP.top
    have hl := hP.len
    have z2 : (pS p).length ≤ sizeLine := sz (by rw [pS_len]; omega)
    refine ⟨_, (pss_cons (ps_if (pw_or (pt_not (pt_val (pe_callB (k_isi K) (by rfl) B.isinstance Bisinstance (pa_cons (pv 0) (pa_cons (pe_bltn (v := .ty "str") (by rfl) B.str Tstr rfl) pa_nil))))) (pw_or1 (pt_not (pt_val (pe_callB (k_all K) (by rfl) B.all Ball (pa_cons (pe_lc (own := [("letter", 2)]) rfl scis_pattern.nd (pi_str (pv 0)) (blkOk_by (own := [("letter", 2)]) (N := Nis_pattern) (sc := defScope Sis_pattern) (by decide +kernel)) (fun _ _ _ _ _ => (pg_name (i := 2) scis_pattern.nd rfl (Or.inl rfl))) (fun _ _ _ _ _ => pts_nil) (fun _ _ _ _ _ => (pe_cmpR (k_in K) (pv 2) (pe_tup (pa_cons (pe_gc c_TAKING (by rfl)) (pa_cons (pe_gc c_RETURNING (by rfl)) pa_nil))) rfl))) pa_nil)))))).pt (pss_one (ps_ret pe_bl)) pss_nil) (pss_cons (ps_set (i := 1) scis_pattern.nd rfl (Or.inl rfl) pe_int) (pss_cons (ps_for (passes_of rfl) rfl (pi_str (pv 0)) (pg_name (i := 2) scis_pattern.nd rfl (Or.inl rfl)) (pss_cons (ps_aug (i := 1) scis_pattern.nd rfl (Or.inl rfl) (pe_ifExp (pt_cmpR op_eq (pv 2) (pe_gc c_TAKING (by rfl)) (nomark _)) pe_int (pe_un un_neg pe_int)) ip_add) (pss_one (ps_if (pt_cmpR op_lt (pv 1) pe_int (nomark _)) (pss_one (ps_ret pe_bl)) pss_nil)))) (pss_one (ps_ret (pe_and (pe_cmpR op_eq (pv 1) pe_int (nomark _)) (pe_one (pe_cmpR op_le (pe_callB call_lenS' (by rfl) B.len Blen (pa_cons (pv 0) pa_nil)) (pe_op op_mul pe_int (pe_gc c_MAX_SIZE (by rfl))) (nomark _))))))))), ?_⟩
    walk_at "s"
    refine ⟨_, rfl, fun Dl nD => ?_⟩
    refine lc_pure (src_str (x := pS p)) (fun _ => true) (fun _ => .bl true) (by rw [pS_size]; omega) (fun _ _ => trivial) ?_ nD fun H1 s1 hD => ?_
    · rintro i x H' H'' Yes No hi s ⟨rfl, c, hc, rfl⟩ hY hN
      obtain ⟨b, hb, eb⟩ := pS_at hc
      rw [eb]
      walk_at "s"
      refine ⟨rfl, ?_⟩
      walk_at "s"
      intro t nt
      walk_at "s"
      refine r_in (.inr (tup_of upd_same)) rfl rfl ?_
      rw [show inV (.str (sB b)) [.str "T", .str "R"] = true by cases b <;> decide]
      exact hY rfl _ (same_new nt)
    · walk_at "s"
      refine ⟨Dl, List.replicate (pS p).cps.size true, rfl, lst_of (hD.trans ?_), ?_⟩
      · rw [giv_const, List.map_replicate]
      rw [show (List.replicate (pS p).cps.size true).all id = true by simp]
      walk_at "s"
      refine ⟨_, rfl, ?_⟩
      refine for_src (src_str (x := pS p)) (fun i σ H' => ∃ v2, σ = [some (.str (pS p)), some (.int (dif (p.take i))), v2] ∧ Same H H') (fun _ _ _ _ => trivial) ⟨none, rfl, s1⟩ ?_ ?_
      · rintro i v σ H3 H2 hi ⟨v2, rfl, s2⟩ ⟨rfl, c, hc, rfl⟩
        obtain ⟨b, hb, eb⟩ := pS_at hc
        rw [eb]
        have hp := hP.pos (i + 1)
        have ed : dif (p.take (i + 1)) = dif (p.take i) + (if b then 1 else -1) := by rw [take_succ hb, dif_app]
        walk_at "s"
        rw [sB_T]
        cases b with
        | true =>
          have ed' : dif (p.take i) + 1 = dif (p.take (i + 1)) := ed.symm
          walk_at "s"
          rw [ed']
          refine ifDF (by omega) ?_
          walk_at "s"
          exact ⟨_, rfl, s2⟩
        | false =>
          have ed' : dif (p.take i) + -1 = dif (p.take (i + 1)) := ed.symm
          walk_at "s"
          rw [ed']
          refine ifDF (by omega) ?_
          walk_at "s"
          exact ⟨_, rfl, s2⟩
      · rintro σ H2 ⟨v2, rfl, s2⟩
        rw [pS_size, List.take_length, hP.nul]
        walk_at "s"
        rw [decide_eq_true (by rw [pS_len]; omega)]
        exact q _ s2
def spCheckPattern : Sp := fun vs H Q _ => ∃ (p : List Bool) (n : Nat), vs = [.str (pS p), .int n] ∧ IsPat p n ∧ ∀ H', Same H H' → Q .non H'
theorem ok_check_pattern {f : Addr} {fd : FuncData} (B : Bn mg) (D_is_pattern : Df P w K mg base 1 "is_pattern" [] spIsPattern)
   (F : Fun K "check_pattern" "check_pattern" Scheck_pattern f fd) : FnG P w K mg base 2 f fd ["value", "count"] spCheckPattern := by
  refine gok F sccheck_pattern (fun vs H Q E h => ?_) (fun cdv A fs s H vs Q E hG hr h => ?_)
  · obtain ⟨_, _, rfl, _⟩ := h; rfl
  · obtain ⟨p, n, rfl, hP, q⟩ := h
    have hu := hr.units
    have h2 := hP.top
    have hl := hP.len
    have z2 : (pS p).length ≤ sizeLine := sz (by rw [pS_len]; omega)
    refine ⟨_, (pss_one (ps_if (pw_or (pt_not (pt_val (pe_df D_is_pattern hG (hr.mono (by first | decide | omega)) passL (by rfl) (pa_cons (pv 0) pa_nil)))) (pw_or1 (pt_cmpR op_ne (pe_callB call_lenS' (by rfl) B.len Blen (pa_cons (pv 0) pa_nil)) (pe_op op_mul pe_int (pv 1)) (nomark _)))).pt (pss_one ps_never) pss_nil)), ?_⟩
    walk_at "s"
    refine ⟨p, n, rfl, hP, fun H1 s1 => ?_⟩
    walk_at "s"
    refine ifNF (by rw [pS_len]; omega) ?_
    walk_at "s"
    exact q _ s1
end

abbrev Slaw_bag : Stmt := topS 21
abbrev Nlaw_bag : List Str := ["script", "total", "cell"]
theorem sclaw_bag : FnScope Nlaw_bag ["script"] (defScope Slaw_bag) := ⟨rfl, rfl, rfl, by decide +kernel, rfl, by decide +kernel, by decide +kernel⟩
abbrev Slaw_stir : Stmt := topS 22
abbrev Nlaw_stir : List Str := ["number", "place", "one", "two"]
theorem sclaw_stir : FnScope Nlaw_stir ["number", "place"] (defScope Slaw_stir) := ⟨rfl, rfl, rfl, by decide +kernel, rfl, by decide +kernel, by decide +kernel⟩
abbrev Slaw_draw : Stmt := topS 23
abbrev Nlaw_draw : List Str := ["bag", "bound", "cell", "found"]
theorem sclaw_draw : FnScope Nlaw_draw ["bag", "bound"] (defScope Slaw_draw) := ⟨rfl, rfl, rfl, by decide +kernel, rfl, by decide +kernel, by decide +kernel⟩
abbrev Slaw_shuffled : Stmt := topS 24
abbrev Nlaw_shuffled : List Str := ["bag", "items", "left", "step"]
theorem sclaw_shuffled : FnScope Nlaw_shuffled ["bag", "items"] (defScope Slaw_shuffled) := ⟨rfl, rfl, rfl, by decide +kernel, rfl, by decide +kernel, by decide +kernel⟩

/-- the bag at r, its cells at l, at most n draws made -/
def BagAt (H : Hp) (r l : Addr) (n : Nat) : Prop := ∃ (cs : List Int) (i : Nat) (x c t : Int), H r = some (.lst [.ref l, .int i, .int x, .int c, .int t]) ∧ H l = some (.lst (vI cs)) ∧ l ≠ r ∧ i ≤ cs.length ∧ cs.length ≤ 100000 ∧ 0 ≤ x ∧ 0 ≤ c ∧ c ≤ n ∧ 0 ≤ t ∧ t < 2305843009213693951
theorem BagAt.same {H H' : Hp} {r l : Addr} {n : Nat} (h : BagAt H r l n) (s : Same H H') : BagAt H' r l n := by
  obtain ⟨cs, i, x, c, t, h, h2, z⟩ := h
  exact ⟨cs, i, x, c, t, s _ _ h, s _ _ h2, z⟩
theorem BagAt.mono {H : Hp} {r l : Addr} {n m : Nat} (h : BagAt H r l n) (k : n ≤ m) : BagAt H r l m := by
  obtain ⟨cs, i, x, c, t, h, h2, h3, h4, h5, h6, h7, h8, h9⟩ := h
  exact ⟨cs, i, x, c, t, h, h2, h3, h4, h5, h6, h7, by omega, h9⟩
theorem BagAt.got {H : Hp} {r l : Addr} {n : Nat} (h : BagAt H r l n) : H r ≠ none ∧ H l ≠ none := by
  obtain ⟨cs, i, x, c, t, h, h2, z⟩ := h
  rw [h, h2]; simp
theorem BagAt.ne {H : Hp} {r l p : Addr} {n : Nat} (h : BagAt H r l n) (e : H p = none) : r ≠ p ∧ l ≠ p := ⟨fun z => h.got.1 (z ▸ e), fun z => h.got.2 (z ▸ e)⟩
theorem BagAt.upd {H : Hp} {r l p : Addr} {n : Nat} {o : HO} (h : BagAt H r l n) (e : r ≠ p ∧ l ≠ p) : BagAt (L2.upd H p o) r l n := by
  obtain ⟨cs, i, x, c, t, h, h2, z⟩ := h
  exact ⟨cs, i, x, c, t, (upd_ne e.1).trans h, (upd_ne e.2).trans h2, z⟩
theorem two200 {x : Int} (h : x ≤ 1000000) : x < 2 ^ 200 := Int.lt_of_le_of_lt h (by decide)
section
variable {P : Program} {w : World} {K : PySem.W.Frag} {mg : Str → Option Value} {base : Heap}
def spStir : Sp := fun vs H Q _ => ∃ a b : Int, vs = [.int a, .int b] ∧ 0 ≤ a ∧ a < 2305843009213693951 ∧ 0 ≤ b ∧ b < 1000000000000000000 ∧ ∀ v : Int, Q (.int v) H
theorem ok_law_stir {f : Addr} {fd : FuncData} {k : Nat} (F : Fun K "_law_stir" "_law_stir" Slaw_stir f fd) : FnG P w K mg base (k + 1) f fd ["number", "place"] spStir := by
  refine gok F sclaw_stir (fun vs H Q E h => ?_) (fun cdv A fs s H vs Q E hG hr h => ?_)
  · obtain ⟨_, _, rfl, _⟩ := h; rfl
  · obtain ⟨a, b, rfl, a0, a1, b0, b1, q⟩ := h
    have hu := hr.units
    refine ⟨_, (pss_cons (ps_set (i := 2) sclaw_stir.nd rfl (Or.inl rfl) (pe_op op_mod (pe_op op_add (pe_op op_add (pe_op op_mul (pv 0) pe_int) (pe_op op_mul (pv 1) pe_int)) pe_int) pe_int)) (pss_cons (ps_set (i := 3) sclaw_stir.nd rfl (Or.inl rfl) (pe_op op_mod (pe_op op_mul (pv 2) (pv 2)) pe_int)) (pss_one (ps_ret (pe_op op_fdivW (pe_op op_mod (pe_op op_add (pe_op op_add (pe_op op_mul (pv 3) pe_int) (pe_op op_mul (pe_op op_mul (pv 1) (pv 1)) pe_int)) (pe_op op_fdivW (pv 2) pe_int)) pe_int) pe_int))))), ?_⟩
    walk_at "s"
    exact q _
def spDraw : Sp := fun vs H Q _ => ∃ (r l : Addr) (b : Int) (n : Nat), vs = [.ref r, .int b] ∧ BagAt H r l n ∧ n < 100000000000 ∧ 0 < b ∧ b < 2 ^ 200 ∧ ∀ d H', 0 ≤ d → d < b → BagAt H' r l (n + 1) → Kp r H H' → Q (.int d) H'
theorem ok_law_draw {f : Addr} {fd : FuncData} (B : Bn mg) (D_law_stir : Df P w K mg base 1 "_law_stir" [] spStir) (F : Fun K "_law_draw" "_law_draw" Slaw_draw f fd) : FnG P w K mg base 2 f fd ["bag", "bound"] spDraw := by
  refine gok F sclaw_draw (fun vs H Q E h => ?_) (fun cdv A fs s H vs Q E hG hr h => ?_)
  · obtain ⟨_, _, _, _, rfl, _⟩ := h; rfl
  · obtain ⟨r, l, b, n, rfl, ⟨cs, i, x, c, t, hR, hL, nl, hi, hl, x0, c0, cn, t0, t1⟩, hn, b0, b1, q⟩ := h
    have hu := hr.units
    have md : ∀ y : Int, 0 ≤ y % b ∧ y % b < b := fun y => ⟨Int.emod_nonneg _ (by omega), Int.emod_lt_of_pos _ b0⟩
    have mM : ∀ y : Int, 0 ≤ y % 2305843009213693951 ∧ y % 2305843009213693951 < 2305843009213693951 := fun y => ⟨Int.emod_nonneg _ (by decide), Int.emod_lt_of_pos _ (by decide)⟩
    have hbc : ((n + 1 : Nat) : Int) = (n : Int) + 1 := rfl
    refine ⟨_, (pss_cons (ps_if (pt_cmpR op_eq (pv 1) pe_int (nomark _)) (pss_one (ps_ret pe_int)) pss_nil) (pss_cons (ps_asg (pe_op op_add (pe_ix (k_ixL K) (pv 0) pe_int (fun _ _ => rfl)) pe_int) (pg_sub (pv 0) pe_int set_list)) (pss_cons (ps_if (pw_and (pt_cmpR op_lt (pe_ix (k_ixL K) (pv 0) pe_int (fun _ _ => rfl)) pe_int (nomark _)) (pw_and1 (pt_cmpR op_eq (pe_ix (k_ixL K) (pv 0) pe_int (fun _ _ => rfl)) (pe_callB (k_len K) (by rfl) B.len Blen (pa_cons (pe_ix (k_ixL K) (pv 0) pe_int (fun _ _ => rfl)) pa_nil)) (nomark _)))).pt (pss_one (ps_ret (pe_op op_mod (pe_df D_law_stir hG (hr.mono (by first | decide | omega)) passL (by rfl) (pa_cons (pe_ix (k_ixL K) (pv 0) pe_int (fun _ _ => rfl)) (pa_cons (pe_ix (k_ixL K) (pv 0) pe_int (fun _ _ => rfl)) pa_nil))) (pv 1)))) pss_nil) (pss_cons (ps_if (pt_cmpR op_lt (pe_ix (k_ixL K) (pv 0) pe_int (fun _ _ => rfl)) pe_int (nomark _)) (pss_cons (ps_set (i := 2) sclaw_draw.nd rfl (Or.inl rfl) (pe_ix (k_ixL K) (pe_ix (k_ixL K) (pv 0) pe_int (fun _ _ => rfl)) (pe_ix (k_ixL K) (pv 0) pe_int (fun _ _ => rfl)) (fun _ _ => rfl))) (pss_cons (ps_asg (pe_op op_add (pe_ix (k_ixL K) (pv 0) pe_int (fun _ _ => rfl)) pe_int) (pg_sub (pv 0) pe_int set_list)) (pss_cons (ps_if (pt_cmpR op_lt (pv 2) (pe_op op_pow pe_int pe_int) (nomark _)) (pss_one (ps_ret (pe_op op_mod (pe_df D_law_stir hG (hr.mono (by first | decide | omega)) passL (by rfl) (pa_cons (pe_op op_mod (pv 2) pe_int) (pa_cons (pe_ix (k_ixL K) (pv 0) pe_int (fun _ _ => rfl)) pa_nil))) (pv 1)))) pss_nil) (pss_one (ps_asg (pe_op op_sub (pv 2) (pe_op op_pow pe_int pe_int)) (pg_sub (pv 0) pe_int set_list)))))) pss_nil) (pss_cons (ps_set (i := 3) sclaw_draw.nd rfl (Or.inl rfl) (pe_op op_mod (pe_ix (k_ixL K) (pv 0) pe_int (fun _ _ => rfl)) (pv 1))) (pss_cons (ps_asg (pe_op op_fdivW (pe_ix (k_ixL K) (pv 0) pe_int (fun _ _ => rfl)) (pv 1)) (pg_sub (pv 0) pe_int set_list)) (pss_one (ps_ret (pv 3))))))))), ?_⟩
    walk_at "s"
    refine ifD (fun h1 => ?_) (fun h1 => ?_)
    · walk_at "s"
      exact q 0 H (Int.le_refl _) b0 ⟨cs, i, x, c, t, hR, hL, nl, hi, hl, x0, c0, by omega, t0, t1⟩ (Kp.refl _ _)
    · walk_at "s"
      have hL1 : upd H r (.lst ([V.ref l, .int i, .int x, .int c, .int t].set 3 (.int (c + 1)))) l = some (.lst (vI cs)) := (upd_ne nl).trans hL
      refine ifD (fun h2 => ?_) (fun h2 => ?_)
      · walk_at "s"
        rw [vI_len]
        refine ifD (fun h3 => ?_) (fun h3 => ?_)
        · walk_at "s"
          refine ⟨t, c + 1, rfl, t0, t1, by omega, by omega, fun v => ?_⟩
          walk_at "s"
          exact q _ _ (md v).1 (md v).2 ⟨cs, i, x, c + 1, t, upd_same, hL1, nl, hi, hl, x0, by omega, by omega, t0, t1⟩ Kp.set
        · walk_at "s"
          refine ifDT h2 ?_
          have ei : atI (vI cs) (i : Int) = some (.int (cs[i]'(by omega))) := atI_nat (vI_at (by omega))
          walk_at "s"
          refine ifD (fun h4 => ?_) (fun h4 => ?_)
          · walk_at "s"
            refine ⟨_, c + 1, rfl, (mM _).1, (mM _).2, by omega, by omega, fun v => ?_⟩
            walk_at "s"
            exact q _ _ (md v).1 (md v).2 ⟨cs, i + 1, x, c + 1, t, upd_same, (upd_ne nl).trans hL1, nl, by omega, hl, x0, by omega, by omega, t0, t1⟩ (Kp.set.trans Kp.set)
          · have h4' : 0 ≤ cs[i]'(by omega) - 10 ^ Int.toNat 18 := by omega
            walk_at "s"
            exact q _ _ (md _).1 (md _).2 ⟨cs, i + 1, _, c + 1, t, upd_same, (upd_ne nl).trans ((upd_ne nl).trans ((upd_ne nl).trans hL1)), nl, by omega, hl, Int.ediv_nonneg h4' (by omega), by omega, by omega, t0, t1⟩ (((Kp.set.trans Kp.set).trans Kp.set).trans Kp.set)
      · walk_at "s"
        refine ifDF h2 ?_
        walk_at "s"
        exact q _ _ (md _).1 (md _).2 ⟨cs, i, _, c + 1, t, upd_same, (upd_ne nl).trans hL1, nl, by omega, hl, Int.ediv_nonneg x0 (by omega), by omega, by omega, t0, t1⟩ (Kp.set.trans Kp.set)
def spBag (K : PySem.W.Frag) : Sp := fun vs H Q _ => ∃ (a : Addr) (ns : List Int), vs = [.ref a] ∧ SqL K H a (ns.map V.int) ∧ ns.length ≤ 63 ∧ ∀ H' r l, Same H H' → H r = none → BagAt H' r l 0 → Q (.ref r) H'
theorem ok_law_bag {f : Addr} {fd : FuncData} {k : Nat} (B : Bn mg) (F : Fun K "_law_bag" "_law_bag" Slaw_bag f fd) : FnG P w K mg base (k + 1) f fd ["script"] (spBag K) := by
  refine gok F sclaw_bag (fun vs H Q E h => ?_) (fun cdv A fs s H vs Q E hG hr h => ?_)
  · obtain ⟨_, _, rfl, _⟩ := h; rfl
  · obtain ⟨a, ns, rfl, hA, hl, q⟩ := h
    have hu := hr.units
    have mM : ∀ y : Int, 0 ≤ y % 2305843009213693951 ∧ y % 2305843009213693951 < 2305843009213693951 := fun y => ⟨Int.emod_nonneg _ (by decide), Int.emod_lt_of_pos _ (by decide)⟩
    refine ⟨_, (pss_cons (ps_set (i := 1) sclaw_bag.nd rfl (Or.inl rfl) pe_int) (pss_cons (ps_for (passes_of rfl) rfl (k_piL K (pv 0)) (pg_name (i := 2) sclaw_bag.nd rfl (Or.inl rfl)) (pss_one (ps_set (i := 1) sclaw_bag.nd rfl (Or.inl rfl) (pe_op op_mod (pe_op op_add (pe_op op_add (pe_op op_mul (pv 1) pe_int) (pe_op op_mod (pv 2) pe_int)) pe_int) pe_int)))) (pss_one (ps_ret (pe_lst (pa_cons (pe_callTy (k_list K) (by rfl) B.list Tlist (pa_cons (pv 0) pa_nil)) (pa_cons pe_int (pa_cons pe_int (pa_cons pe_int (pa_cons (pv 1) pa_nil)))))))))), ?_⟩
    walk_at "s"
    refine ⟨a, rfl, ⟨_, hA⟩, ?_⟩
    refine for_src (src_list (xs := ns.map V.int)) (fun i σ H' => ∃ (t : Int) (v2 : Option V), σ = [some (.ref a), some (.int t), v2] ∧ H' = H ∧ 0 ≤ t ∧ t < 2305843009213693951) (fun i σ H' h => by obtain ⟨_, _, _, h, _⟩ := h; rw [h]; exact hA) ⟨1, none, rfl, rfl, by decide, by decide⟩ ?_ ?_
    · rintro i v σ H1 H1' hi ⟨t, v2, rfl, rfl, t0, t1⟩ ⟨rfl, hv⟩
      rw [List.length_map] at hi
      have e := vI_at hi
      have hv' := e.symm.trans hv
      cases hv'
      walk_at "s"
      exact ⟨_, _, rfl, rfl, (mM _).1, (mM _).2⟩
    · rintro σ H1 ⟨t, v2, rfl, rfl, t0, t1⟩
      walk_at "s"
      intro l nl
      walk_at "s"
      intro r nr
      have s1 := same_new (o := .lst (vI ns)) nl
      exact q _ r l (s1.trans (same_new nr)) (s1.free nr) ⟨ns, 0, 0, 0, t, upd_same, (same_new nr) _ _ upd_same, ne_new nr upd_same, Nat.zero_le _, by omega, by decide, by decide, by decide, t0, t1⟩
def spShuffled : Sp := fun vs H Q _ => ∃ (r l a : Addr) (n : Nat) (xs : List V), vs = [.ref r, .ref a] ∧ BagAt H r l n ∧ n + xs.length < 100000000000 ∧ Sq H a xs ∧ a ≠ r ∧ xs.length ≤ 100000 ∧ ∀ ys p H', ys.Perm xs → BagAt H' r l (n + xs.length) → Kp r H H' → H p = none → H' p = some (.lst ys) → Q (.ref p) H'
theorem erase_perm {α : Type} : ∀ (l : List α) (i : Nat) (h : i < l.length), ([l[i]] ++ l.eraseIdx i).Perm l
  | x :: l, 0, _ => .refl _
  | x :: l, i + 1, h => by
    have ih := erase_perm l i (Nat.lt_of_succ_lt_succ h)
    exact (List.Perm.swap x _ _).trans (ih.cons x)
theorem ok_law_shuffled {f : Addr} {fd : FuncData} (B : Bn mg) (D_law_draw : Df P w K mg base 2 "_law_draw" [] spDraw) (F : Fun K "_law_shuffled" "_law_shuffled" Slaw_shuffled f fd) : FnG P w K mg base 3 f fd ["bag", "items"] spShuffled := by
  refine gok F sclaw_shuffled (fun vs H Q E h => ?_) (fun cdv A fs s H vs Q E hG hr h => ?_)
  · obtain ⟨_, _, _, _, _, rfl, _⟩ := h; rfl
  · obtain ⟨r, l, a, n, xs, rfl, hS, hn, hA, nar, hl, q⟩ := h
    have hu := hr.units
    refine ⟨_, (pss_cons (ps_set (i := 2) sclaw_shuffled.nd rfl (Or.inr rfl) (pe_callTy (k_list K) (by rfl) B.list Tlist (pa_cons (pv 1) pa_nil))) (pss_one (ps_ret (pe_lc (own := [("step", 3)]) rfl sclaw_shuffled.nd (pi_range1 (by rfl) B.range (pa_cons (pe_callB (k_len K) (by rfl) B.len Blen (pa_cons (pv 1) pa_nil)) pa_nil)) (blkOk_by (own := [("step", 3)]) (N := Nlaw_shuffled) (sc := defScope Slaw_shuffled) (by decide +kernel)) (fun _ _ _ _ _ => (pg_name (i := 3) sclaw_shuffled.nd rfl (Or.inl rfl))) (fun _ _ _ _ _ => pts_nil) (fun _ _ _ _ _ => (k_bmP K (pe_bm PySem.F.plainAttrs_list PySem.F.slot_list_pop PySem.F.type_list_pop mt_popAt (pv 2) (pa_cons (pe_df D_law_draw hG (hr.mono (by first | decide | omega)) passL (by rfl) (pa_cons (pv 0) (pa_cons (pe_callB (k_len K) (by rfl) B.len Blen (pa_cons (pv 2) pa_nil)) pa_nil))) pa_nil)))))))), ?_⟩
    walk_at "s"
    intro left nl
    have s1 := same_new (o := .lst xs) nl
    have hA1 := s1.sq hA
    have hS1 := hS.same s1
    walk_at "s"
    refine ⟨_, rfl, by omega, by omega, fun Dl nD => ?_⟩
    rw [Int.toNat_natCast]
    have nr := hS.ne nl
    have nrD := hS1.ne nD
    have nlD : left ≠ Dl := ne_new nD upd_same
    refine lc_src src_range (fun i H' => ∃ acc lf, acc.length = i ∧ (acc ++ lf).Perm xs ∧ H' left = some (.lst lf) ∧ H' Dl = some (.lst acc) ∧ Kp r H H' ∧ BagAt H' r l (n + i)) (fun _ _ _ => trivial) ⟨[], xs, rfl, .refl _, (upd_ne nlD).trans upd_same, upd_same, Kp.of (s1.trans (same_new nD)), hS1.same (same_new nD)⟩ ?_ ?_
    · rintro i v H1 H1' hi ⟨acc, lf, ha, hp, hL, hD, hK, hS2⟩ ⟨rfl, rfl⟩
      have ll : acc.length + lf.length = xs.length := by rw [← List.length_append]; exact hp.length_eq
      walk_at "s"
      refine ⟨rfl, ?_⟩
      walk_at "s"
      refine ⟨r, l, _, n + i, rfl, hS2, by omega, by omega, by have : (lf.length : Int) ≤ 100000 := by omega
                                                               have e : (100000 : Int) < 2 ^ 200 := by decide
                                                               omega, fun d H3 d0 d1 hS3 hK3 => ?_⟩
      have hL3 := hK3.get nr.1.symm hL
      have hD3 := hK3.get nrD.1.symm hD
      have hx : lf[d.toNat]? = some (lf[d.toNat]'(by omega)) := List.getElem?_eq_getElem (by omega)
      walk_at "s"
      refine r_popAt hL3 d0 d1 (by omega) hx ?_
      walk_at "s"
      refine ⟨acc, (upd_ne nlD.symm).trans hD3, szl (by omega), ?_⟩
      refine ⟨acc ++ [lf[d.toNat]'(by omega)], lf.eraseIdx d.toNat, by rw [List.length_append, ha]; rfl, ?_, (upd_ne nlD).trans upd_same, upd_same, ((hK.trans hK3).put nl).put (s1.free nD), (hS3.upd nr).upd nrD⟩
      refine List.Perm.trans ?_ hp
      rw [List.append_assoc]
      refine List.Perm.append_left acc ?_
      exact erase_perm _ _ (by omega)
    · rintro H1 ⟨acc, lf, ha, hp, hL, hD, hK, hS2⟩
      have ll : acc.length + lf.length = xs.length := by rw [← List.length_append]; exact hp.length_eq
      have e : lf = [] := List.length_eq_zero_iff.mp (by omega)
      subst e
      rw [List.append_nil] at hp
      exact q acc Dl H1 hp hS2 hK (s1.free nD) hD
end

abbrev Scount_results : Stmt := topS 18
abbrev Ncount_results : List Str := ["takes", "pattern", "places", "found", "out", "letter"]
theorem sccount_results : FnScope Ncount_results ["takes", "pattern"] (defScope Scount_results) := ⟨rfl, rfl, rfl, by decide +kernel, rfl, by decide +kernel, by decide +kernel⟩
abbrev Sis_result : Stmt := topS 19
abbrev Nis_result : List Str := ["takes", "pattern", "books", "places", "number", "taken", "returned", "letter"]
theorem scis_result : FnScope Nis_result ["takes", "pattern", "books"] (defScope Sis_result) := ⟨rfl, rfl, rfl, by decide +kernel, rfl, by decide +kernel, by decide +kernel⟩
abbrev Slaw_product : Stmt := topS 30
abbrev Nlaw_product : List Str := ["pattern", "out", "found", "letter"]
theorem sclaw_product : FnScope Nlaw_product ["pattern"] (defScope Slaw_product) := ⟨rfl, rfl, rfl, by decide +kernel, rfl, by decide +kernel, by decide +kernel⟩

theorem pS_drop {p : List Bool} {i : Nat} {b : Bool} (h : p[i]? = some b) : p.drop i = b :: p.drop (i + 1) := by
  have hi := (List.getElem?_eq_some_iff.mp h).1
  have e := (List.getElem?_eq_some_iff.mp h).2
  rw [List.drop_eq_getElem_cons hi, e]
theorem atI_nat' {xs : List V} {j : Nat} {v : V} (h : xs[j]? = some v) : atI xs ((j : Nat) : Int) = some v := atI_ok (by omega) (by rw [Int.toNat_natCast]; exact h)
theorem drop_tks {p : List Bool} {n : Nat} (h : IsPat p n) {i : Nat} (hi : i ≤ p.length) : tks (p.take i) + tks (p.drop i) = n := by
  have e : ∀ (a b : List Bool), tks (a ++ b) = tks a + tks b := fun a b => by
    induction a with
    | nil => show tks b = 0 + tks b; omega
    | cons c a ih => show (if c then 1 else 0) + tks (a ++ b) = (if c then 1 else 0) + tks a + tks b; rw [ih]; omega
  have := e (p.take i) (p.drop i)
  rw [List.take_append_drop, h.tks] at this
  exact this.symm
section
variable {P : Program} {w : World} {K : PySem.W.Frag} {mg : Str → Option Value} {base : Heap}
def spCount : Sp := fun vs H Q _ => ∃ (a : Addr) (ts : List Int) (p : List Bool), vs = [.ref a, .str (pS p)] ∧ Sq H a (vI ts) ∧ IsPl ts ∧ IsPat p ts.length ∧ ∀ H', Same H H' → Q (.int (prdA p 1 0)) H'
theorem ok_count_results {f : Addr} {fd : FuncData} (B : Bn mg) (c_TAKING : Gc mg "TAKING" (.str "T")) (D_checked_places : Df P w K mg base 3 "checked_places" [] spCheckedPlaces) (D_check_pattern : Df P w K mg base 2 "check_pattern" [] spCheckPattern) (F : Fun K "count_results" "count_results" Scount_results f fd) : FnG P w K mg base 4 f fd ["takes", "pattern"] spCount := by
  refine gok F sccount_results (fun vs H Q E h => ?_) (fun cdv A fs s H vs Q E hG hr h => ?_)
  · obtain ⟨_, _, _, rfl, _⟩ := h; rfl
  · obtain ⟨a, ts, p, rfl, hA, hL, hP, q⟩ := h
    have hu := hr.units
    refine ⟨_, (pss_cons (ps_set (i := 2) sccount_results.nd rfl (Or.inl rfl) (pe_df D_checked_places hG (hr.mono (by first | decide | omega)) passL (by rfl) (pa_cons (pv 0) pa_nil))) (pss_cons (ps_expr (pe_df D_check_pattern hG (hr.mono (by first | decide | omega)) passL (by rfl) (pa_cons (pv 1) (pa_cons (pe_callB (k_len K) (by rfl) B.len Blen (pa_cons (pv 2) pa_nil)) pa_nil)))) (pss_cons (ps_asg (pe_tup (pa_cons pe_int (pa_cons pe_int pa_nil))) (k_gtup (n := 2) K rfl (pgs_cons (pg_name (i := 3) sccount_results.nd rfl (Or.inl rfl)) (pgs_cons (pg_name (i := 4) sccount_results.nd rfl (Or.inl rfl)) pgs_nil)))) (pss_cons (ps_for (passes_of rfl) rfl (pi_str (pv 1)) (pg_name (i := 5) sccount_results.nd rfl (Or.inl rfl)) (pss_one (ps_if (pt_cmpR op_eq (pv 5) (pe_gc c_TAKING (by rfl)) (nomark _)) (pss_one (ps_aug (i := 4) sccount_results.nd rfl (Or.inl rfl) pe_int ip_add)) (pss_cons (ps_aug (i := 3) sccount_results.nd rfl (Or.inl rfl) (pv 4) ip_mult) (pss_one (ps_aug (i := 4) sccount_results.nd rfl (Or.inl rfl) pe_int ip_sub)))))) (pss_one (ps_ret (pv 3))))))), ?_⟩
    walk_at "s"
    refine ⟨a, ts, rfl, hA, hL, fun H1 c s1 nc hc => ?_⟩
    walk_at "s"
    rw [vI_len]
    refine ⟨p, ts.length, rfl, hP, fun H2 s2 => ?_⟩
    have s12 := s1.trans s2
    walk_at "s"
    intro u nu
    have s3 := same_new (o := .tup [.int 1, .int 0]) nu
    have hu3 : upd H2 u (.tup [.int 1, .int 0]) u = some (.tup [.int 1, .int 0]) := upd_same
    have s13 := s12.trans s3
    generalize upd H2 u (.tup [.int 1, .int 0]) = H3 at *
    walk_at "s"
    refine ⟨pS p, rfl, ?_⟩
    refine for_src (src_str (x := pS p)) (fun i σ H' => ∃ v5 g, σ = [some (.ref a), some (.str (pS p)), some (.ref c), some (.int g), some (.int (dif (p.take i))), v5] ∧ Same H3 H' ∧ prdA (p.drop i) g (dif (p.take i)) = prdA p 1 0) (fun _ _ _ _ => trivial) ⟨none, 1, by rw [List.take_zero] <;> rfl, Same.refl _, by rw [List.take_zero, List.drop_zero] <;> rfl⟩ ?_ ?_
    · rintro i v σ H4 H5 hi ⟨v5, g, rfl, s4, e⟩ ⟨rfl, ch, hch, rfl⟩
      obtain ⟨bb, hb, eb⟩ := pS_at hch
      rw [eb]
      have ed : dif (p.take (i + 1)) = dif (p.take i) + (if bb then 1 else -1) := by rw [take_succ hb, dif_app]
      rw [pS_drop hb] at e
      have d0 := hP.pos i
      have d1 : dif (p.take i) ≤ 200 := by
        have h1 := dif_tks (p.take i)
        have h2 := tks_take_le p i
        have h3 := hP.tks
        have h4 := hP.top
        have h5 : (p.take i).length = i ∨ True := .inr trivial
        have h6 := tks_take_le (p.take i) (p.take i).length
        have h7 : ∀ q : List Bool, (dif q : Int) ≤ tks q := fun q => by
          induction q with
          | nil => exact Int.le_refl _
          | cons b q ih => show (if b then 1 else -1) + dif q ≤ (((if b then 1 else 0) + tks q : Nat) : Int); cases b <;> simp <;> omega
        have := h7 (p.take i)
        omega
      walk_at "s"
      rw [sB_T]
      cases bb with
      | true =>
        walk_at "s"
        exact ⟨_, g, by rw [ed]; rfl, s4, by rw [ed]; exact e⟩
      | false =>
        walk_at "s"
        refine r_ipC (cm_small d0 (by omega)) ?_
        walk_at "s"
        exact ⟨_, _, by rw [ed]; rfl, s4, by rw [ed]; exact e⟩
    · rintro σ H4 ⟨v5, g, rfl, s4, e⟩
      rw [pS_size, List.drop_length] at e
      have e : g = prdA p 1 0 := e
      walk_at "s"
      rw [e]
      exact q _ (s13.trans s4)
def spProduct : Sp := fun vs H Q _ => ∃ (p : List Bool) (n : Nat), vs = [.str (pS p)] ∧ IsPat p n ∧ ∀ H', Same H H' → Q (.int (prdA p 1 0)) H'
theorem ok_law_product {f : Addr} {fd : FuncData} {k : Nat} (B : Bn mg) (F : Fun K "_law_product" "_law_product" Slaw_product f fd) : FnG P w K mg base (k + 1) f fd ["pattern"] spProduct := by
  refine gok F sclaw_product (fun vs H Q E h => ?_) (fun cdv A fs s H vs Q E hG hr h => ?_)
  · obtain ⟨_, _, rfl, _⟩ := h; rfl
  · obtain ⟨p, n, rfl, hP, q⟩ := h
    have hu := hr.units
    refine ⟨_, (pss_cons (ps_asg (pe_tup (pa_cons pe_int (pa_cons pe_int pa_nil))) (k_gtup (n := 2) K rfl (pgs_cons (pg_name (i := 1) sclaw_product.nd rfl (Or.inl rfl)) (pgs_cons (pg_name (i := 2) sclaw_product.nd rfl (Or.inl rfl)) pgs_nil)))) (pss_cons (ps_for (passes_of rfl) rfl (pi_str (pv 0)) (pg_name (i := 3) sclaw_product.nd rfl (Or.inl rfl)) (pss_one (ps_if (pt_cmpR op_eq (pv 3) pe_str (nomark _)) (pss_one (ps_set (i := 1) sclaw_product.nd rfl (Or.inl rfl) (pe_op op_add (pv 1) pe_int))) (pss_one (ps_par (i := 2) (j := 1) rfl sclaw_product.nd rfl rfl (by decide) rfl rfl (pa_cons (pe_op op_mul (pv 2) (pv 1)) (pa_cons (pe_op op_sub (pv 1) pe_int) pa_nil)) (by with_unfolding_all rfl)))))) (pss_one (ps_ret (pv 2))))), ?_⟩
    walk_at "s"
    intro u nu
    have s3 := same_new (o := .tup [.int 0, .int 1]) nu
    have hu3 : upd H u (.tup [.int 0, .int 1]) u = some (.tup [.int 0, .int 1]) := upd_same
    generalize upd H u (.tup [.int 0, .int 1]) = H3 at *
    walk_at "s"
    refine ⟨pS p, rfl, ?_⟩
    refine for_src (src_str (x := pS p)) (fun i σ H' => ∃ v5 g, σ = [some (.str (pS p)), some (.int (dif (p.take i))), some (.int g), v5] ∧ Same H3 H' ∧ prdA (p.drop i) g (dif (p.take i)) = prdA p 1 0) (fun _ _ _ _ => trivial) ⟨none, 1, by rw [List.take_zero] <;> rfl, Same.refl _, by rw [List.take_zero, List.drop_zero] <;> rfl⟩ ?_ ?_
    · rintro i v σ H4 H5 hi ⟨v5, g, rfl, s4, e⟩ ⟨rfl, ch, hch, rfl⟩
      obtain ⟨bb, hb, eb⟩ := pS_at hch
      rw [eb]
      have ed : dif (p.take (i + 1)) = dif (p.take i) + (if bb then 1 else -1) := by rw [take_succ hb, dif_app]
      rw [pS_drop hb] at e
      have d0 := hP.pos i
      have d1 : dif (p.take i) ≤ 200 := by
        have h2 := tks_take_le p i
        have h3 := hP.tks
        have h4 := hP.top
        have h7 : ∀ q : List Bool, (dif q : Int) ≤ tks q := fun q => by
          induction q with
          | nil => exact Int.le_refl _
          | cons b q ih => show (if b then 1 else -1) + dif q ≤ (((if b then 1 else 0) + tks q : Nat) : Int); cases b <;> simp <;> omega
        have := h7 (p.take i)
        omega
      walk_at "s"
      rw [sB_T]
      cases bb with
      | true =>
        walk_at "s"
        exact ⟨_, g, by rw [ed]; rfl, s4, by rw [ed]; exact e⟩
      | false =>
        walk_at "s"
        exact ⟨_, _, by rw [ed]; rfl, s4, by rw [ed]; exact e⟩
    · rintro σ H4 ⟨v5, g, rfl, s4, e⟩
      rw [pS_size, List.drop_length] at e
      have e : g = prdA p 1 0 := e
      walk_at "s"
      rw [e]
      exact q _ (s3.trans s4)
def spResB : Sp := fun vs H Q _ => ∃ (a b : Addr) (ts rs : List Int) (p : List Bool), vs = [.ref a, .str (pS p), .ref b] ∧ Sq H a (vI ts) ∧ IsPl ts ∧ IsPat p ts.length ∧ Sq H b (vI rs) ∧ rs.Perm ts ∧ ∀ H', Same H H' → Q (.bl (resA (nb ts) p 0 rs)) H'
theorem ok_is_result {f : Addr} {fd : FuncData} (B : Bn mg) (c_TAKING : Gc mg "TAKING" (.str "T")) (D_checked_places : Df P w K mg base 3 "checked_places" [] spCheckedPlaces) (D_check_pattern : Df P w K mg base 2 "check_pattern" [] spCheckPattern) (D_is_place_list : Df P w K mg base 2 "is_place_list" [] spIsPlaceList) (D_numbered : Df P w K mg base 1 "numbered" [] spNumbered) (F : Fun K "is_result" "is_result" Sis_result f fd) : FnG P w K mg base 4 f fd ["takes", "pattern", "books"] spResB := by
  refine gok F scis_result (fun vs H Q E h => ?_) (fun cdv A fs s H vs Q E hG hr h => ?_)
  · obtain ⟨_, _, _, _, _, rfl, _⟩ := h; rfl
  · obtain ⟨a, b, ts, rs, p, rfl, hA, hL, hP, hB, hp, q⟩ := h
    have hu := hr.units
    refine ⟨_, (pss_cons (ps_set (i := 3) scis_result.nd rfl (Or.inl rfl) (pe_df D_checked_places hG (hr.mono (by first | decide | omega)) passL (by rfl) (pa_cons (pv 0) pa_nil))) (pss_cons (ps_expr (pe_df D_check_pattern hG (hr.mono (by first | decide | omega)) passL (by rfl) (pa_cons (pv 1) (pa_cons (pe_callB (k_len K) (by rfl) B.len Blen (pa_cons (pv 3) pa_nil)) pa_nil)))) (pss_cons (ps_if (pw_or (pt_not (pt_val (pe_df D_is_place_list hG (hr.mono (by first | decide | omega)) passL (by rfl) (pa_cons (pv 2) pa_nil)))) (pw_or1 (pt_cmpR (k_neD K hu) (pe_callB (call_or (k_sorted K) (k_sortedU K)) (by rfl) B.sorted Bsorted (pa_cons (pv 2) pa_nil)) (pe_callB (k_sorted K) (by rfl) B.sorted Bsorted (pa_cons (pv 3) pa_nil)) (nomark _)))).pt (pss_one ps_never) pss_nil) (pss_cons (ps_set (i := 4) scis_result.nd rfl (Or.inl rfl) (pe_df D_numbered hG (hr.mono (by first | decide | omega)) passL (by rfl) (pa_cons (pv 3) pa_nil))) (pss_cons (ps_asg (pe_tup (pa_cons pe_int (pa_cons pe_int pa_nil))) (k_gtup (n := 2) K rfl (pgs_cons (pg_name (i := 5) scis_result.nd rfl (Or.inl rfl)) (pgs_cons (pg_name (i := 6) scis_result.nd rfl (Or.inl rfl)) pgs_nil)))) (pss_cons (ps_for (passes_of rfl) rfl (pi_str (pv 1)) (pg_name (i := 7) scis_result.nd rfl (Or.inl rfl)) (pss_one (ps_if (pt_cmpR op_eq (pv 7) (pe_gc c_TAKING (by rfl)) (nomark _)) (pss_one (ps_aug (i := 5) scis_result.nd rfl (Or.inl rfl) pe_int ip_add)) (pss_cons (ps_if (pt_cmpR op_ge (pe_dget (hu1 hu) (pv 4) (pe_ix (ix_or (k_ixL K) (k_ixT K)) (pv 2) (pv 6) (fun _ _ => rfl)) (fun _ _ => rfl)) (pv 5) (nomark _)) (pss_one (ps_ret pe_bl)) pss_nil) (pss_one (ps_aug (i := 6) scis_result.nd rfl (Or.inl rfl) pe_int ip_add)))))) (pss_one (ps_ret pe_bl)))))))), ?_⟩
    walk_at "s"
    refine ⟨a, ts, rfl, hA, hL, fun H1 c s1 nc hc => ?_⟩
    walk_at "s"
    rw [vI_len]
    refine ⟨p, ts.length, rfl, hP, fun H2 s2 => ?_⟩
    walk_at "s"
    refine ⟨b, rs, rfl, (s1.trans s2).sq hB, (⟨by rw [hp.length_eq]; exact hL.top, fun x hx => hL.rng x (hp.mem_iff.mp hx), hp.nodup_iff.mpr hL.nd⟩ : IsPl rs), fun H3 s3 => ?_⟩
    have s13 := (s1.trans s2).trans s3
    have hB3 := s13.sq hB
    have hc3 := (s2.trans s3) _ _ hc
    walk_at "s"
    refine r_sortSq hB3 fun l1 u1 hl1 hs1 nu1 => ?_
    have s4 := same_new (o := .lst (vI l1)) nu1
    have hu1 : upd H3 u1 (.lst (vI l1)) u1 = some (.lst (vI l1)) := upd_same
    have hc4 := s4 _ _ hc3
    generalize upd H3 u1 (.lst (vI l1)) = H4 at *
    walk_at "s"
    refine r_sortI (lst_of hc4) fun l2 u2 hl2 hs2 nu2 => ?_
    have s5 := same_new (o := .lst (vI l2)) nu2
    have hu2 : upd H4 u2 (.lst (vI l2)) u2 = some (.lst (vI l2)) := upd_same
    have hu15 := s5 _ _ hu1
    have hc5 := s5 _ _ hc4
    have hB5 := (s4.trans s5).sq hB3
    have s15 := (s13.trans s4).trans s5
    generalize upd H4 u2 (.lst (vI l2)) = H5 at *
    have el : l1 = l2 := sorted_one hs1 hs2 ((hl1.trans hp).trans hl2.symm)
    refine r_neLI (lst_of hu15) (lst_of hu2) ?_
    rw [decide_eq_true el]
    walk_at "s"
    have tl := hL.top
    refine ⟨c, ts, rfl, hc5, hL.nd, by omega, fun H6 d s6 nd hd => ?_⟩
    have hB6 := s6.sq hB5
    have s16 := s15.trans s6
    walk_at "s"
    intro u nu
    have s7 := same_new (o := .tup [.int 0, .int 0]) nu
    have hu7 : upd H6 u (.tup [.int 0, .int 0]) u = some (.tup [.int 0, .int 0]) := upd_same
    have hB7 := s7.sq hB6
    have hd7 := hd.same s7
    have s17 := s16.trans s7
    generalize upd H6 u (.tup [.int 0, .int 0]) = H7 at *
    walk_at "s"
    refine ⟨pS p, rfl, ?_⟩
    refine for_src (src_str (x := pS p)) (fun i σ H' => ∃ v7, σ = [some (.ref a), some (.str (pS p)), some (.ref b), some (.ref c), some (.ref d), some (.int ((tks (p.take i) : Nat) : Int)), some (.int (((i - tks (p.take i) : Nat)) : Int)), v7] ∧ Same H7 H' ∧ resA (nb ts) (p.drop i) (tks (p.take i)) (rs.drop (i - tks (p.take i))) = resA (nb ts) p 0 rs) (fun _ _ _ _ => trivial) ⟨none, by rw [List.take_zero] <;> rfl, Same.refl _, by rw [List.take_zero, List.drop_zero] <;> rfl⟩ ?_ ?_
    · rintro i v σ H8 H9 hi ⟨v7, rfl, s8, e⟩ ⟨rfl, ch, hch, rfl⟩
      rw [pS_size] at hi
      obtain ⟨bb, hb, eb⟩ := pS_at hch
      rw [eb]
      have et : tks (p.take (i + 1)) = tks (p.take i) + (if bb then 1 else 0) := by rw [take_succ hb, tks_app]
      have hB8 := s8.sq hB7
      have hd8 := hd7.same s8
      rw [pS_drop hb] at e
      have tle : tks (p.take i) ≤ i := by
        have h1 := dif_tks (p.take i)
        have h2 : (p.take i).length = i := by rw [List.length_take]; omega
        have h7 : ∀ q : List Bool, tks q ≤ q.length := fun q => by
          induction q with
          | nil => exact Nat.le_refl _
          | cons b q ih => show (if b then 1 else 0) + tks q ≤ q.length + 1; split <;> omega
        have := h7 (p.take i)
        omega
      walk_at "s"
      rw [sB_T]
      cases bb with
      | true =>
        walk_at "s"
        refine ⟨some (.str (sB true)), ?_, s8, ?_⟩
        · rw [et, show i + 1 - (tks (p.take i) + (if true = true then 1 else 0)) = i - tks (p.take i) by rw [if_pos rfl]; omega]; rfl
        · rw [et, show i + 1 - (tks (p.take i) + (if true = true then 1 else 0)) = i - tks (p.take i) by rw [if_pos rfl]; omega]; exact e
      | false =>
        have jl : i - tks (p.take i) < rs.length := by
          have h0 := hP.tks
          have h3 := hP.len
          have h5 := hp.length_eq
          have h6 := drop_tks hP (i := i) (by omega)
          rw [pS_drop hb] at h6
          have h8 : ∀ q : List Bool, tks q ≤ q.length := fun q => by
            induction q with
            | nil => exact Nat.le_refl _
            | cons b q ih => show (if b then 1 else 0) + tks q ≤ q.length + 1; split <;> omega
          have h9 := h8 (p.drop (i + 1))
          rw [List.length_drop] at h9
          have h10 : tks (false :: p.drop (i + 1)) = 0 + tks (p.drop (i + 1)) := rfl
          omega
        have hym : rs.getD (i - tks (p.take i)) 0 ∈ ts := hp.mem_iff.mp (by rw [getD_el jl]; exact List.getElem_mem jl)
        have ex : atI (vI rs) (((i - tks (p.take i) : Nat)) : Int) = some (.int (rs.getD (i - tks (p.take i)) 0)) := atI_ints (by omega) (by omega)
        have er : rs.drop (i - tks (p.take i)) = rs.getD (i - tks (p.take i)) 0 :: rs.drop (i - tks (p.take i) + 1) := by rw [drop_cons jl, getD_el jl]
        rw [er] at e
        generalize rs.getD (i - tks (p.take i)) 0 = y at *
        have e : (decide (nb ts y < ((tks (p.take i) : Nat) : Int)) && resA (nb ts) (p.drop (i + 1)) (tks (p.take i)) (rs.drop (i - tks (p.take i) + 1))) = resA (nb ts) p 0 rs := e
        walk_at "s"
        refine r_dget ?_
        walk_at "s"
        refine r_ixLT hB8 ex ?_
        refine hd8.get (ixO_mem hym) ?_
        walk_at "s"
        by_cases hc : nb ts y < ((tks (p.take i) : Nat) : Int)
        · rw [decide_eq_true hc, Bool.true_and] at e
          refine ifDF (by omega) ?_
          walk_at "s"
          refine ⟨some (.str (sB false)), ?_, s8, ?_⟩
          · rw [et, show i + 1 - (tks (p.take i) + (if false = true then 1 else 0)) = i - tks (p.take i) + 1 by rw [if_neg Bool.false_ne_true]; omega]; rfl
          · rw [et, show i + 1 - (tks (p.take i) + (if false = true then 1 else 0)) = i - tks (p.take i) + 1 by rw [if_neg Bool.false_ne_true]; omega]; exact e
        · rw [decide_eq_false hc, Bool.false_and] at e
          refine ifDT (by omega) ?_
          walk_at "s"
          rw [e]
          exact q _ (s17.trans s8)
    · rintro σ H8 ⟨v7, rfl, s8, e⟩
      rw [pS_size, List.drop_length] at e
      have e : true = resA (nb ts) p 0 rs := e
      walk_at "s"
      rw [e]
      exact q _ (s17.trans s8)
end

/-- a list of lists of ints -/
structure RowsAt (G : Addr → Prop) (H : Hp) (p : Addr) (as : List Addr) (rs : List (List Int)) : Prop where
  hp : H p = some (.lst (as.map V.ref))
  len : as.length = rs.length
  it : ∀ (i : Nat) (a : Addr) (r : List Int), as[i]? = some a → rs[i]? = some r → H a = some (.lst (vI r)) ∧ G a ∧ a ≠ p
theorem RowsAt.same {G : Addr → Prop} {H H' : Hp} {p : Addr} {as : List Addr} {rs : List (List Int)} (h : RowsAt G H p as rs) (s : Same H H') : RowsAt G H' p as rs :=
  ⟨s _ _ h.hp, h.len, fun i a r e1 e2 => ⟨s _ _ (h.it i a r e1 e2).1, (h.it i a r e1 e2).2⟩⟩
theorem RowsAt.nil {G : Addr → Prop} {H : Hp} {p : Addr} (h : H p = some (.lst [])) : RowsAt G H p [] [] := ⟨h, rfl, fun i a r e _ => by simp at e⟩
theorem RowsAt.app {G : Addr → Prop} {H : Hp} {p t : Addr} {as : List Addr} {rs : List (List Int)} {r : List Int} (h : RowsAt G H p as rs) (ht : H t = some (.lst (vI r))) (g : G t) (n : t ≠ p) : RowsAt G (upd H p (.lst (as.map V.ref ++ [.ref t]))) p (as ++ [t]) (rs ++ [r]) := by
  refine ⟨by rw [upd_same, List.map_append]; rfl, by rw [List.length_append, List.length_append, h.len]; rfl, fun i a q e1 e2 => ?_⟩
  by_cases hi : i < as.length
  · rw [List.getElem?_append_left hi] at e1
    rw [List.getElem?_append_left (by rw [← h.len]; exact hi)] at e2
    obtain ⟨x, y, z⟩ := h.it i a q e1 e2
    exact ⟨(upd_ne z).trans x, y, z⟩
  · have hi' : i = as.length := by
      have := (List.getElem?_eq_some_iff.mp e1).1
      rw [List.length_append, List.length_singleton] at this
      omega
    subst hi'
    rw [List.getElem?_append_right (Nat.le_refl _), Nat.sub_self] at e1
    rw [List.getElem?_append_right (by rw [h.len]; exact Nat.le_refl _), h.len, Nat.sub_self] at e2
    cases e1; cases e2
    exact ⟨(upd_ne n).trans ht, g, n⟩
theorem RowsAt.at {G : Addr → Prop} {H : Hp} {p : Addr} {as : List Addr} {rs : List (List Int)} (h : RowsAt G H p as rs) {i : Nat} (hi : i < rs.length) : ∃ t, (as.map V.ref)[i]? = some (.ref t) ∧ H t = some (.lst (vI rs[i])) ∧ G t := by
  have hi' : i < as.length := by rw [h.len]; exact hi
  have e := List.getElem?_eq_getElem hi'
  have e2 := List.getElem?_eq_getElem hi
  exact ⟨as[i], by rw [List.getElem?_map, e]; rfl, (h.it i _ _ e e2).1, (h.it i _ _ e e2).2.1⟩
theorem RowsAt.cat {G : Addr → Prop} {H : Hp} {p p2 u : Addr} {as as2 : List Addr} {rs rs2 : List (List Int)} (h : RowsAt G H p as rs) (h2 : RowsAt G H p2 as2 rs2) (nu : H u = none) : RowsAt G (upd H u (.lst (as.map V.ref ++ as2.map V.ref))) u (as ++ as2) (rs ++ rs2) := by
  refine ⟨by rw [upd_same, List.map_append], by rw [List.length_append, List.length_append, h.len, h2.len], fun i a r e1 e2 => ?_⟩
  have key : ∀ (b : Addr) (q : List Int), H b = some (.lst (vI q)) ∧ G b → upd H u (.lst (as.map V.ref ++ as2.map V.ref)) b = some (.lst (vI q)) ∧ G b ∧ b ≠ u := fun b q e => by
    have ne : b ≠ u := fun z => by rw [z, nu] at e; cases e.1
    exact ⟨(upd_ne ne).trans e.1, e.2, ne⟩
  by_cases hi : i < as.length
  · rw [List.getElem?_append_left hi] at e1
    rw [List.getElem?_append_left (by rw [← h.len]; exact hi)] at e2
    obtain ⟨x, y, _⟩ := h.it i a r e1 e2
    exact key a r ⟨x, y⟩
  · rw [List.getElem?_append_right (by omega)] at e1
    rw [List.getElem?_append_right (by rw [← h.len]; omega), ← h.len] at e2
    obtain ⟨x, y, _⟩ := h2.it _ a r e1 e2
    exact key a r ⟨x, y⟩
section
variable {K : PySem.W.Frag} {a : Addr} {g : TG} {tt : TT} {te : TE} {vs : List Nat} {σ : L2.St} {H1 : Hp} {Dl : Addr} {Qd : Hp → Prop}
/-- over a list of lists of ints -/
theorem lc_rows {G : Addr → Prop} {as : List Addr} {rs : List (List Int)} (h : RowsAt G H1 a as rs) (hl : rs.length ≤ 100000) (F : List Int → V)
    (hs : ∀ (t : Addr) (r : List Int) (H' : Hp) (Yes : V → Hp → Prop) (No : Hp → Prop), Same H1 H' → r ∈ rs → H' t = some (.lst (vI r)) → (∀ H4, Same H' H4 → Yes (F r) H4) →
      g (.ref t) (wipe σ vs) H' fun σ2 H2 => wipe σ2 vs = wipe σ vs ∧ tt σ2 H2 fun b H3 => if b = true then te σ2 H3 Yes else No H3)
    (hD : H1 Dl = none) (q : ∀ H', Same H1 H' → H' Dl = some (.lst (rs.map F)) → Qd H') :
    ∃ W : Nat → Nat → Hp → Prop, (∃ m, W 0 m (upd H1 Dl (.lst []))) ∧ ∀ i m H, W i m H →
      ((Itl K a).stop i H ∧ Qd H) ∨ ((Itl K a).go i H ∧ ∃ Nx : Hp → Prop, (∀ H', Nx H' → ∃ m', m' < m ∧ W (i + 1) m' H') ∧ ∀ x H', (Itl K a).yld i H x H' → g x (wipe σ vs) H' fun σ2 H2 => wipe σ2 vs = wipe σ vs ∧ tt σ2 H2 fun b H3 =>
        if b = true then te σ2 H3 fun y H4 => ∃ acc, H4 Dl = some (.lst acc) ∧ acc.length < sizeLine ∧ Nx (upd H4 Dl (.lst (acc ++ [y]))) else Nx H3) := by
  refine lc_pure (src_list (xs := as.map V.ref)) (fun _ => true) (fun i => F (rs.getD i [])) (by rw [List.length_map, h.len]; exact hl) (fun H' s' => lst_of (s' _ _ h.hp)) ?_ hD fun H' s' hd => q H' s' ?_
  · rintro i x H' H'' Yes No hi s' ⟨rfl, hx⟩ hY hN
    rw [List.length_map, h.len] at hi
    obtain ⟨t, e1, e2, _⟩ := h.at hi
    rw [e1] at hx
    cases hx
    rw [getD_el hi] at hY
    exact hs t _ _ Yes No s' (List.getElem_mem hi) (s' _ _ e2) (hY rfl)
  · have e : giv (as.map V.ref).length (fun _ => true) (fun i => F (rs.getD i [])) = rs.map F := by
      rw [List.length_map, h.len, giv_of rs [] (fun _ => true) F, List.filter_eq_self.mpr fun _ _ => rfl]
    rw [hd, e]
end

abbrev Slaw_due : Stmt := topS 29
abbrev Nlaw_due : List Str := ["takes", "pattern", "books", "taken", "at", "spot", "letter"]
theorem sclaw_due : FnScope Nlaw_due ["takes", "pattern", "books"] (defScope Slaw_due) := ⟨rfl, rfl, rfl, by decide +kernel, rfl, by decide +kernel, by decide +kernel⟩
abbrev Slaw_drawn : Stmt := topS 31
abbrev Nlaw_drawn : List Str := ["bag", "takes", "pattern", "out", "found", "at", "letter"]
theorem sclaw_drawn : FnScope Nlaw_drawn ["bag", "takes", "pattern"] (defScope Slaw_drawn) := ⟨rfl, rfl, rfl, by decide +kernel, rfl, by decide +kernel, by decide +kernel⟩
abbrev Slaw_orders : Stmt := topS 28
abbrev Nlaw_orders : List Str := ["items", "found", "step", "longer", "row", "item"]
theorem sclaw_orders : FnScope Nlaw_orders ["items"] (defScope Slaw_orders) := ⟨rfl, rfl, rfl, by decide +kernel, rfl, by decide +kernel, by decide +kernel⟩

theorem ordN_len {items : List Int} : ∀ k, (ordN items k).length ≤ items.length ^ k
  | 0 => Nat.le_refl 1
  | k + 1 => by
    have ih := ordN_len (items := items) k
    have h : ∀ rows : List (List Int), (rows.flatMap (growR items)).length ≤ rows.length * items.length := fun rows => by
      induction rows with
      | nil => exact Nat.le_refl 0 |> fun h => by simp
      | cons r rows ih =>
        rw [List.flatMap_cons, List.length_append, List.length_cons, Nat.add_mul, Nat.one_mul]
        have : (growR items r).length ≤ items.length := by unfold growR; rw [List.length_map]; exact List.length_filter_le _ _
        omega
    show ((ordN items k).flatMap (growR items)).length ≤ _
    rw [Nat.pow_succ]
    exact Nat.le_trans (h _) (Nat.mul_le_mul_right _ ih)
theorem okT_short {nm : Int → Int} {T F : List Int} {t : Int} (h : F.length ≤ T.length) : okT nm (T ++ [t]) F = okT nm T F := by
  rw [Bool.eq_iff_iff, okT_iff, okT_iff]
  constructor
  · intro g j x y h1 h2
    exact g j x y (by rw [List.getElem?_append_left (List.getElem?_eq_some_iff.mp h1).1]; exact h1) h2
  · intro g j x y h1 h2
    have := (List.getElem?_eq_some_iff.mp h2).1
    rw [List.getElem?_append_left (by omega)] at h1
    exact g j x y h1 h2
theorem vI_erI : ∀ (a : List Int) (k : Nat), (vI a).eraseIdx k = vI (a.eraseIdx k)
  | [], _ => rfl
  | _ :: _, 0 => rfl
  | x :: a, k + 1 => congrArg (V.int x :: ·) (vI_erI a k)
theorem perm_erI : ∀ {l : List Int} {i : Nat} (h : i < l.length), (l[i] :: l.eraseIdx i).Perm l
  | [], _, h => by simp at h
  | x :: l, 0, _ => .refl _
  | x :: l, i + 1, h => ((List.Perm.swap _ _ _).trans ((perm_erI (l := l) (i := i) (by simpa using h)).cons x))
theorem tks_ln : ∀ q : List Bool, tks q ≤ q.length
  | [] => Nat.le_refl _
  | b :: q => by have := tks_ln q; show (if b then 1 else 0) + tks q ≤ q.length + 1; split <;> omega
theorem tms_ln : ∀ (p : List Bool) (k : Nat), (tmsF k p).length + tks p = p.length
  | [], _ => rfl
  | true :: p, k => by have := tms_ln p (k + 1); show (tmsF (k + 1) p).length + (1 + tks p) = p.length + 1; omega
  | false :: p, k => by have := tms_ln p k; show ((k : Int) :: tmsF k p).length + (0 + tks p) = p.length + 1; rw [List.length_cons]; omega
section
variable {P : Program} {w : World} {K : PySem.W.Frag} {mg : Str → Option Value} {base : Heap}
def spDue11 : Sp := fun vs H Q _ => ∃ (a b : Addr) (ts rs : List Int) (p : List Bool), vs = [.ref a, .str (pS p), .ref b] ∧ H a = some (.lst (vI ts)) ∧ ts.Nodup ∧ IsPat p ts.length ∧ H b = some (.lst (vI rs)) ∧ rs.Perm ts ∧ ∀ H', Same H H' → Q (.bl (resA (nb ts) p 0 rs)) H'
theorem ok_law_due {f : Addr} {fd : FuncData} {k : Nat} (B : Bn mg) (F : Fun K "_law_due" "_law_due" Slaw_due f fd) : FnG P w K mg base (k + 1) f fd ["takes", "pattern", "books"] spDue11 := by
  refine gok F sclaw_due (fun vs H Q E h => ?_) (fun cdv A fs s H vs Q E hG hr h => ?_)
  · obtain ⟨_, _, _, _, _, rfl, _⟩ := h; rfl
  · obtain ⟨a, b, ts, rs, p, rfl, hA, hn, hP, hB, hp, q⟩ := h
    have hu := hr.units
    refine ⟨_, (pss_cons (ps_par3 (i := 3) (j := 4) (l := 5) rfl sclaw_due.nd rfl rfl rfl (by decide) (by decide) (by decide) rfl rfl rfl (pa_cons (pe_lst pa_nil) (pa_cons pe_int (pa_cons pe_int pa_nil))) (by with_unfolding_all rfl)) (pss_cons (ps_for (passes_of rfl) rfl (pi_str (pv 1)) (pg_name (i := 6) sclaw_due.nd rfl (Or.inl rfl)) (pss_one (ps_if (pt_cmpR op_eq (pv 6) pe_str (nomark _)) (pss_cons (ps_expr (k_bmP K (pe_bm PySem.F.plainAttrs_list PySem.F.slot_list_append PySem.F.type_list_append mt_append (pv 3) (pa_cons (pe_ix (k_ixL K) (pv 0) (pv 4) (fun _ _ => rfl)) pa_nil)))) (pss_one (ps_set (i := 4) sclaw_due.nd rfl (Or.inl rfl) (pe_op op_add (pv 4) pe_int)))) (pss_cons (ps_if (pt_cmpR (k_notIn K) (pe_ix (k_ixL K) (pv 2) (pv 5) (fun _ _ => rfl)) (pv 3) rfl) (pss_one (ps_ret pe_bl)) pss_nil) (pss_one (ps_set (i := 5) sclaw_due.nd rfl (Or.inl rfl) (pe_op op_add (pv 5) pe_int))))))) (pss_one (ps_ret pe_bl)))), ?_⟩
    walk_at "s"
    intro o no
    have s1 := same_new (o := .lst []) no
    have ho1 : upd H o (.lst []) o = some (.lst (vI [])) := upd_same
    have hA1 := s1 _ _ hA
    have hB1 := s1 _ _ hB
    have nao : a ≠ o := ne_new no hA
    have nbo : b ≠ o := ne_new no hB
    generalize upd H o (.lst []) = H1 at *
    walk_at "s"
    refine ⟨pS p, rfl, ?_⟩
    refine for_src (src_str (x := pS p)) (fun i σ H' => ∃ v6, σ = [some (.ref a), some (.str (pS p)), some (.ref b), some (.ref o), some (.int ((tks (p.take i) : Nat) : Int)), some (.int (((i - tks (p.take i) : Nat)) : Int)), v6] ∧ Same H H' ∧ H' o = some (.lst (vI (ts.take (tks (p.take i))))) ∧ resA (nb ts) (p.drop i) (tks (p.take i)) (rs.drop (i - tks (p.take i))) = resA (nb ts) p 0 rs) (fun _ _ _ _ => trivial) ⟨none, by rw [List.take_zero] <;> rfl, s1, by rw [List.take_zero]; exact ho1, by rw [List.take_zero, List.drop_zero] <;> rfl⟩ ?_ ?_
    · rintro i v σ H8 H9 hi ⟨v6, rfl, s8, ho8, e⟩ ⟨rfl, ch, hch, rfl⟩
      rw [pS_size] at hi
      obtain ⟨bb, hb, eb⟩ := pS_at hch
      rw [eb]
      have et : tks (p.take (i + 1)) = tks (p.take i) + (if bb then 1 else 0) := by rw [take_succ hb, tks_app]
      have hA8 := s8 _ _ hA
      have hB8 := s8 _ _ hB
      rw [pS_drop hb] at e
      have tle : tks (p.take i) ≤ i := by
        have := tks_ln (p.take i)
        rw [List.length_take] at this
        omega
      have htk := tks_take_le p (i + 1)
      have hptk := hP.tks
      have htop := hP.top
      walk_at "s"
      rw [sB_T]
      cases bb with
      | true =>
        walk_at "s"
        rw [et, if_pos rfl] at htk
        have tl : tks (p.take i) < ts.length := by omega
        have hx : atI (vI ts) ((tks (p.take i) : Nat) : Int) = some (.int (ts.getD (tks (p.take i)) 0)) := atI_ints (by omega) (by omega)
        refine r_ixL (lst_of hA8) hx ?_
        have e2 : ts.take (tks (p.take i) + 1) = ts.take (tks (p.take i)) ++ [ts.getD (tks (p.take i)) 0] := by rw [List.take_add_one, List.getElem?_eq_getElem tl, getD_el tl]; rfl
        have ll : (ts.take (tks (p.take i))).length ≤ 1000 := by rw [List.length_take]; omega
        walk_at "s"
        refine ⟨some (.str (sB true)), ?_, same_set s8 no, ?_, ?_⟩
        · rw [et, show i + 1 - (tks (p.take i) + (if true = true then 1 else 0)) = i - tks (p.take i) by rw [if_pos rfl]; omega]; rfl
        · rw [upd_same, et, if_pos rfl, e2]
          exact congrArg (fun l => some (HO.lst l)) (vI_app _ [_])
        · rw [et, show i + 1 - (tks (p.take i) + (if true = true then 1 else 0)) = i - tks (p.take i) by rw [if_pos rfl]; omega]; exact e
      | false =>
        have jl : i - tks (p.take i) < rs.length := by
          have h3 := hP.len
          have h5 := hp.length_eq
          have h6 := drop_tks hP (i := i) (by omega)
          rw [pS_drop hb] at h6
          have h9 := tks_ln (p.drop (i + 1))
          rw [List.length_drop] at h9
          have h10 : tks (false :: p.drop (i + 1)) = 0 + tks (p.drop (i + 1)) := rfl
          omega
        have hym : rs.getD (i - tks (p.take i)) 0 ∈ ts := hp.mem_iff.mp (by rw [getD_el jl]; exact List.getElem_mem jl)
        have ex : atI (vI rs) (((i - tks (p.take i) : Nat)) : Int) = some (.int (rs.getD (i - tks (p.take i)) 0)) := atI_ints (by omega) (by omega)
        have er : rs.drop (i - tks (p.take i)) = rs.getD (i - tks (p.take i)) 0 :: rs.drop (i - tks (p.take i) + 1) := by rw [drop_cons jl, getD_el jl]
        rw [er] at e
        generalize rs.getD (i - tks (p.take i)) 0 = y at *
        have e : (decide (nb ts y < ((tks (p.take i) : Nat) : Int)) && resA (nb ts) (p.drop (i + 1)) (tks (p.take i)) (rs.drop (i - tks (p.take i) + 1))) = resA (nb ts) p 0 rs := e
        have tl : tks (p.take i) ≤ ts.length := by have := tks_take_le p i; omega
        have hk := take_nb hn tl hym
        walk_at "s"
        refine r_notIn (.inl (lst_of ho8)) rfl (flat_ints _) ?_
        rw [inV_ints]
        by_cases hc : nb ts y < ((tks (p.take i) : Nat) : Int)
        · rw [decide_eq_true (hk.mp hc)]
          rw [decide_eq_true hc, Bool.true_and] at e
          walk_at "s"
          refine ⟨some (.str (sB false)), ?_, s8, ?_, ?_⟩
          · rw [et, show i + 1 - (tks (p.take i) + (if false = true then 1 else 0)) = i - tks (p.take i) + 1 by rw [if_neg Bool.false_ne_true]; omega]; rfl
          · rw [et, if_neg Bool.false_ne_true]; exact ho8
          · rw [et, show i + 1 - (tks (p.take i) + (if false = true then 1 else 0)) = i - tks (p.take i) + 1 by rw [if_neg Bool.false_ne_true]; omega]; exact e
        · rw [decide_eq_false fun z => hc (hk.mpr z)]
          rw [decide_eq_false hc, Bool.false_and] at e
          walk_at "s"
          rw [e]
          exact q _ s8
    · rintro σ H8 ⟨v6, rfl, s8, ho8, e⟩
      rw [pS_size, List.drop_length] at e
      have e : true = resA (nb ts) p 0 rs := e
      walk_at "s"
      rw [e]
      exact q _ s8
def spDrawn11 : Sp := fun vs H Q _ => ∃ (r l a : Addr) (n : Nat) (ts : List Int) (p : List Bool), vs = [.ref r, .ref a, .str (pS p)] ∧ BagAt H r l n ∧ n < 10000000000 ∧ a ≠ r ∧ H a = some (.lst (vI ts)) ∧ ts.Nodup ∧ IsPat p ts.length ∧
  ∀ H' u rs, BagAt H' r l (n + 1000) → Kp r H H' → H u = none → H' u = some (.lst (vI rs)) → rs.Perm ts → resA (nb ts) p 0 rs = true → Q (.ref u) H'
theorem ok_law_drawn {f : Addr} {fd : FuncData} (B : Bn mg) (D_law_draw : Df P w K mg base 2 "_law_draw" [] spDraw) (F : Fun K "_law_drawn" "_law_drawn" Slaw_drawn f fd) : FnG P w K mg base 3 f fd ["bag", "takes", "pattern"] spDrawn11 := by
  refine gok F sclaw_drawn (fun vs H Q E h => ?_) (fun cdv A fs s H vs Q E hG hr h => ?_)
  · obtain ⟨_, _, _, _, _, _, rfl, _⟩ := h; rfl
  · obtain ⟨r, l, a, n, ts, p, rfl, hS, hn, nar, hA, hnd, hP, q⟩ := h
    have hu := hr.units
    refine ⟨_, (pss_cons (ps_par3 (i := 3) (j := 4) (l := 5) rfl sclaw_drawn.nd rfl rfl rfl (by decide) (by decide) (by decide) rfl rfl rfl (pa_cons (pe_lst pa_nil) (pa_cons (pe_lst pa_nil) (pa_cons pe_int pa_nil))) (by with_unfolding_all rfl)) (pss_cons (ps_for (passes_of rfl) rfl (pi_str (pv 2)) (pg_name (i := 6) sclaw_drawn.nd rfl (Or.inl rfl)) (pss_one (ps_if (pt_cmpR op_eq (pv 6) pe_str (nomark _)) (pss_cons (ps_expr (k_bmP K (pe_bm PySem.F.plainAttrs_list PySem.F.slot_list_append PySem.F.type_list_append mt_append (pv 3) (pa_cons (pe_ix (k_ixL K) (pv 1) (pv 5) (fun _ _ => rfl)) pa_nil)))) (pss_one (ps_set (i := 5) sclaw_drawn.nd rfl (Or.inl rfl) (pe_op op_add (pv 5) pe_int)))) (pss_one (ps_expr (k_bmP K (pe_bm PySem.F.plainAttrs_list PySem.F.slot_list_append PySem.F.type_list_append mt_append (pv 4) (pa_cons (k_bmP K (pe_bm PySem.F.plainAttrs_list PySem.F.slot_list_pop PySem.F.type_list_pop mt_popAt (pv 3) (pa_cons (pe_df D_law_draw hG (hr.mono (by first | decide | omega)) passL (by rfl) (pa_cons (pv 0) (pa_cons (pe_callB (k_len K) (by rfl) B.len Blen (pa_cons (pv 3) pa_nil)) pa_nil))) pa_nil))) pa_nil)))))))) (pss_one (ps_ret (pv 4))))), ?_⟩
    walk_at "s"
    intro o no
    have s1 := same_new (o := .lst []) no
    have hS1 := hS.same s1
    have hA1 := s1 _ _ hA
    have nor := hS.ne no
    have ho1 : upd H o (.lst []) o = some (.lst (vI [])) := upd_same
    have nao : a ≠ o := ne_new no hA
    generalize upd H o (.lst []) = H1 at *
    walk_at "s"
    intro u nu
    have s2 := same_new (o := .lst []) nu
    have hS2 := hS1.same s2
    have hA2 := s2 _ _ hA1
    have ho2 := s2 _ _ ho1
    have nur := hS1.ne nu
    have nou : o ≠ u := ne_new nu ho1
    have nau : a ≠ u := ne_new nu hA1
    have hu2 : upd H1 u (.lst []) u = some (.lst (vI [])) := upd_same
    have nu0 : H u = none := s1.free nu
    have s12 := s1.trans s2
    generalize upd H1 u (.lst []) = H2 at *
    walk_at "s"
    refine ⟨pS p, rfl, ?_⟩
    have pl := hP.len
    have ptop := hP.top
    have hptk := hP.tks
    refine for_src (src_str (x := pS p)) (fun i σ H' => ∃ v6 O R, σ = [some (.ref r), some (.ref a), some (.str (pS p)), some (.ref o), some (.ref u), some (.int ((tks (p.take i) : Nat) : Int)), v6] ∧ BagAt H' r l (n + i) ∧ Kp r H H' ∧ H' a = some (.lst (vI ts)) ∧ H' o = some (.lst (vI O)) ∧ H' u = some (.lst (vI R)) ∧ (R ++ O).Perm (ts.take (tks (p.take i))) ∧ R.length = i - tks (p.take i) ∧ okT (nb ts) (tmsF 0 (p.take i)) R = true) (fun _ _ _ _ => trivial) ⟨none, [], [], by rw [List.take_zero] <;> rfl, hS2, Kp.of s12, hA2, ho2, hu2, by rw [List.take_zero]; exact .refl _, by rw [List.take_zero] <;> rfl, by rw [List.take_zero] <;> rfl⟩ ?_ ?_
    · rintro i v σ H4 H5 hi ⟨v6, O, R, rfl, hS4, hK4, hA4, ho4, hu4, hpm, hRl, hok⟩ ⟨rfl, ch, hch, rfl⟩
      rw [pS_size] at hi
      obtain ⟨bb, hb, eb⟩ := pS_at hch
      rw [eb]
      have et : tks (p.take (i + 1)) = tks (p.take i) + (if bb then 1 else 0) := by rw [take_succ hb, tks_app]
      have em : tmsF 0 (p.take (i + 1)) = tmsF 0 (p.take i) ++ (if bb then [] else [((0 + tks (p.take i) : Nat) : Int)]) := by rw [take_succ hb, tmsF_app]
      have htk := tks_take_le p (i + 1)
      have ilen : (p.take i).length = i := by rw [List.length_take]; omega
      have tle := tks_ln (p.take i)
      rw [ilen] at tle
      have hl := hpm.length_eq
      have tl' : tks (p.take i) ≤ ts.length := by have := tks_take_le p i; omega
      rw [List.length_append, List.length_take, Nat.min_eq_left tl'] at hl
      have Ol : (vI O).length ≤ 1000 := by rw [vI_len]; omega
      have Rl : (vI R).length ≤ 1000 := by rw [vI_len]; omega
      walk_at "s"
      rw [sB_T]
      cases bb with
      | true =>
        walk_at "s"
        rw [et, if_pos rfl] at htk
        have tl : tks (p.take i) < ts.length := by omega
        have hx : atI (vI ts) ((tks (p.take i) : Nat) : Int) = some (.int (ts.getD (tks (p.take i)) 0)) := atI_ints (by omega) (by omega)
        have e2 : ts.take (tks (p.take i) + 1) = ts.take (tks (p.take i)) ++ [ts.getD (tks (p.take i)) 0] := by rw [List.take_add_one, List.getElem?_eq_getElem tl, getD_el tl]; rfl
        refine r_ixL (lst_of hA4) hx ?_
        walk_at "s"
        refine ⟨some (.str (sB true)), O ++ [ts.getD (tks (p.take i)) 0], R, ?_, (hS4.upd nor).mono (by omega), hK4.put no, (upd_ne nao).trans hA4, ?_, (upd_ne nou.symm).trans hu4, ?_, ?_, ?_⟩
        · rw [et]; rfl
        · rw [upd_same]; exact congrArg (fun l => some (HO.lst l)) (vI_app O [_])
        · rw [et, if_pos rfl, e2, ← List.append_assoc]
          exact hpm.append_right _
        · rw [et, if_pos rfl]; omega
        · rw [em, if_pos rfl, List.append_nil]; exact hok
      | false =>
        walk_at "s"
        rw [vI_len]
        have hpos := hP.pos (i + 1)
        have ed := dif_tks (p.take (i + 1))
        have ilen1 : (p.take (i + 1)).length = i + 1 := by rw [List.length_take]; omega
        have et' : tks (p.take (i + 1)) = tks (p.take i) := by rw [et, if_neg Bool.false_ne_true]; rfl
        rw [ilen1, et'] at ed
        have O0 : 0 < O.length := by omega
        refine ⟨r, l, _, _, rfl, hS4, by omega, by omega, two200 (by omega), fun d H6 d0 d1 hS6 hK6 => ?_⟩
        have hA6 := hK6.get nar hA4
        have ho6 := hK6.get nor.1.symm ho4
        have hu6 := hK6.get nur.1.symm hu4
        have hK06 := hK4.trans hK6
        obtain ⟨d, rfl⟩ := Int.eq_ofNat_of_zero_le d0
        have dl : d < O.length := by omega
        have hdx : (vI O)[((d : Nat) : Int).toNat]? = some (.int O[d]) := by rw [Int.toNat_natCast]; exact vI_at dl
        have hmem : O[d] ∈ ts.take (tks (p.take i)) := hpm.mem_iff.mp (List.mem_append_right _ (List.getElem_mem dl))
        have hlt := (take_nb hnd tl' (List.mem_of_mem_take hmem)).mpr hmem
        have hpo : (O[d] :: O.eraseIdx d).Perm O := perm_erI dl
        generalize O[d] = x at *
        walk_at "s"
        refine r_popAt ho6 (by omega) (by rw [vI_len]; omega) (by rw [vI_len]; omega) hdx ?_
        rw [Int.toNat_natCast, vI_erI]
        have hu7 : upd H6 o (.lst (vI (O.eraseIdx d))) u = some (.lst (vI R)) := (upd_ne nou.symm).trans hu6
        have ho7 : upd H6 o (.lst (vI (O.eraseIdx d))) o = some (.lst (vI (O.eraseIdx d))) := upd_same
        have hA7 : upd H6 o (.lst (vI (O.eraseIdx d))) a = some (.lst (vI ts)) := (upd_ne nao).trans hA6
        have hS7 := hS6.upd (o := .lst (vI (O.eraseIdx d))) nor
        have hK7 : Kp r H (upd H6 o (.lst (vI (O.eraseIdx d)))) := hK06.put no
        generalize upd H6 o (.lst (vI (O.eraseIdx d))) = H7 at *
        walk_at "s"
        refine ⟨some (.str (sB false)), O.eraseIdx d, R ++ [x], ?_, (hS7.upd nur).mono (by omega), hK7.put nu0, (upd_ne nau).trans hA7, (upd_ne nou).trans ho7, ?_, ?_, ?_, ?_⟩
        · rw [et']; rfl
        · rw [upd_same]; exact congrArg (fun l => some (HO.lst l)) (vI_app R [x])
        · rw [et', List.append_assoc]
          exact (hpo.append_left R).trans hpm
        · rw [et', List.length_append, hRl]; show _ + 1 = _; omega
        · have tml := tms_ln (p.take i) 0
          rw [ilen] at tml
          have hR2 : R.length = (tmsF 0 (p.take i)).length := by omega
          rw [em, if_neg Bool.false_ne_true, okT_app (t := ((0 + tks (p.take i) : Nat) : Int)) (by rw [hR2, List.getElem?_append_right (Nat.le_refl _), Nat.sub_self]; rfl), okT_short (by omega), hok, Bool.true_and]
          exact decide_eq_true (by omega)
    · rintro σ H4 ⟨v6, O, R, rfl, hS4, hK4, hA4, ho4, hu4, hpm, hRl, hok⟩
      rw [pS_size, List.take_length, hptk] at hRl
      rw [pS_size, List.take_length] at hok hpm
      rw [hptk, List.take_length] at hpm
      have hl := hpm.length_eq
      rw [List.length_append] at hl
      have O0 : O = [] := List.length_eq_zero_iff.mp (by omega)
      subst O0
      rw [List.append_nil] at hpm
      walk_at "s"
      exact q _ u R (hS4.mono (by rw [pS_size]; omega)) hK4 nu0 hu4 hpm (by rw [resA_ok]; exact hok)
def spOrders : Sp := fun vs H Q _ => ∃ (a : Addr) (ts : List Int), vs = [.ref a] ∧ H a = some (.lst (vI ts)) ∧ ts.length ≤ 5 ∧ ∀ H' u as, Same H H' → H u = none → RowsAt (fun _ => True) H' u as (ordN ts ts.length) → Q (.ref u) H'
theorem ok_law_orders {f : Addr} {fd : FuncData} {k : Nat} (B : Bn mg) (F : Fun K "_law_orders" "_law_orders" Slaw_orders f fd) : FnG P w K mg base (k + 1) f fd ["items"] spOrders := by
  refine gok F sclaw_orders (fun vs H Q E h => ?_) (fun cdv A fs s H vs Q E hG hr h => ?_)
  · obtain ⟨_, _, rfl, _⟩ := h; rfl
  · obtain ⟨a, ts, rfl, hA, hl, q⟩ := h
    have hu := hr.units
    refine ⟨_, (pss_cons (ps_set (i := 1) sclaw_orders.nd rfl (Or.inl rfl) (pe_lst (pa_cons (pe_lst pa_nil) pa_nil))) (pss_cons (ps_for (passes_of rfl) rfl (pi_range1 (by rfl) B.range (pa_cons (pe_callB (k_len K) (by rfl) B.len Blen (pa_cons (pv 0) pa_nil)) pa_nil)) (pg_name (i := 2) sclaw_orders.nd rfl (Or.inl rfl)) (pss_cons (ps_set (i := 3) sclaw_orders.nd rfl (Or.inl rfl) (pe_lst pa_nil)) (pss_cons (ps_for (passes_of rfl) rfl (k_piL K (pv 1)) (pg_name (i := 4) sclaw_orders.nd rfl (Or.inr rfl)) (pss_one (ps_set (i := 3) sclaw_orders.nd rfl (Or.inl rfl) (pe_op op_cat (pv 3) (pe_lc (own := [("item", 5)]) rfl sclaw_orders.nd (k_piL K (pv 0)) (blkOk_by (own := [("item", 5)]) (N := Nlaw_orders) (sc := defScope Slaw_orders) (by decide +kernel)) (fun _ _ _ _ _ => (pg_name (i := 5) sclaw_orders.nd rfl (Or.inl rfl))) (fun _ _ _ _ _ => (pts_one (pt_cmpR (k_notIn K) (pv 5) (pv 4) rfl))) (fun _ _ _ _ _ => (pe_op op_cat (pv 4) (pe_lst (pa_cons (pv 5) pa_nil))))))))) (pss_one (ps_set (i := 1) sclaw_orders.nd rfl (Or.inl rfl) (pv 3)))))) (pss_one (ps_ret (pv 1))))), ?_⟩
    walk_at "s"
    intro e ne
    have s1 := same_new (o := .lst []) ne
    have he : upd H e (.lst []) e = some (.lst (vI [])) := upd_same
    have hA1 := s1 _ _ hA
    generalize upd H e (.lst []) = H1 at *
    walk_at "s"
    intro fo nfo
    have s2 := same_new (o := .lst [.ref e]) nfo
    have hfo : RowsAt (fun _ => True) (upd H1 fo (.lst [.ref e])) fo [e] (ordN ts 0) := by
      refine ⟨upd_same, rfl, fun i b r e1 e2 => ?_⟩
      match i, e1, e2 with
      | 0, e1, e2 =>
        cases e1; cases e2
        exact ⟨s2 _ _ he, trivial, ne_new nfo he⟩
      | i + 1, e1, e2 => simp at e1
    have hA2 := s2 _ _ hA1
    have s12 := s1.trans s2
    have nfo0 := s1.free nfo
    generalize upd H1 fo (.lst [.ref e]) = H2 at *
    walk_at "s"
    rw [vI_len]
    refine ⟨_, rfl, by omega, by omega, ?_⟩
    refine for_src src_range (fun i σ H' => ∃ fo as v2 v3 v4 v5, σ = [some (.ref a), some (.ref fo), v2, v3, v4, v5] ∧ Same H H' ∧ H fo = none ∧ RowsAt (fun _ => True) H' fo as (ordN ts i)) (fun _ _ _ _ => trivial) ⟨fo, [e], none, none, none, none, rfl, s12, nfo0, hfo⟩ ?_ ?_
    · rintro i v σ H3' H3 hi ⟨fo, as, v2, v3, v4, v5, rfl, s3, nfo, hfo⟩ ⟨rfl, rfl⟩
      have hi5 : i < 5 := by omega
      have rl : (ordN ts i).length ≤ 3125 := Nat.le_trans (ordN_len i) (Nat.le_trans (Nat.pow_le_pow_left hl i) (Nat.le_trans (Nat.pow_le_pow_right (by decide) (show i ≤ 5 by omega)) (by decide)))
      walk_at "s"
      intro lo nlo
      have s4 := same_new (o := .lst []) nlo
      have hlo : RowsAt (fun _ => True) (upd H3 lo (.lst []) ) lo [] [] := .nil upd_same
      have hfo4 := hfo.same s4
      have s34 := s3.trans s4
      have nlo0 := s3.free nlo
      generalize upd H3 lo (.lst []) = H4 at *
      have hfop := hfo4.hp
      walk_at "s"
      refine ⟨fo, rfl, ⟨_, lst_of hfop⟩, ?_⟩
      refine for_src (src_list (xs := as.map V.ref)) (fun j σ H' => ∃ lo ls v4 v5, σ = [some (.ref a), some (.ref fo), some (.int (0 + (i : Nat))), some (.ref lo), v4, v5] ∧ Same H H' ∧ H lo = none ∧ RowsAt (fun _ => True) H' fo as (ordN ts i) ∧ RowsAt (fun _ => True) H' lo ls (((ordN ts i).take j).flatMap (growR ts))) (fun j σ H' h => by
        obtain ⟨_, _, _, _, _, _, _, h, _⟩ := h
        exact lst_of h.hp) ⟨lo, [], _, _, rfl, s34, nlo0, hfo4, by rw [List.take_zero]; exact hlo⟩ ?_ ?_
      · rintro j v σ H5' H5 hj ⟨lo, ls, v4, v5, rfl, s5, nlo, hfo5, hlo5⟩ ⟨rfl, hx⟩
        rw [List.length_map, hfo5.len] at hj
        obtain ⟨t, e1, e2, _⟩ := hfo5.at hj
        rw [e1] at hx
        cases hx
        have hA5 := s5 _ _ hA
        have hloP := hlo5.hp
        have ej : (ordN ts i).take (j + 1) = (ordN ts i).take j ++ [(ordN ts i)[j]] := by rw [List.take_add_one, List.getElem?_eq_getElem hj]; rfl
        have hrow := ordN_row (List.getElem_mem hj)
        have ll : ls.length ≤ 15625 := by
          rw [hlo5.len]
          have h : ∀ rows : List (List Int), (rows.flatMap (growR ts)).length ≤ rows.length * 5 := fun rows => by
            induction rows with
            | nil => exact Nat.zero_le _
            | cons r rows ih =>
              rw [List.flatMap_cons, List.length_append, List.length_cons, Nat.add_mul, Nat.one_mul]
              have : (growR ts r).length ≤ ts.length := by unfold growR; rw [List.length_map]; exact List.length_filter_le _ _
              omega
          have := h ((ordN ts i).take j)
          rw [List.length_take] at this
          omega
        generalize (ordN ts i)[j] = row at *
        walk_at "s"
        refine ⟨a, rfl, ⟨_, lst_of hA5⟩, fun D nD => ?_⟩
        refine lc_src (src_list (xs := vI ts)) (fun m H' => ∃ bs : List Addr, Same H5 H' ∧ RowsAt (fun _ => True) H' D bs (((ts.take m).filter fun x => decide (x ∉ row)).map fun x => row ++ [x])) (fun m H' h => by
          obtain ⟨_, k, _⟩ := h
          exact lst_of (k _ _ hA5)) ⟨[], same_new nD, .nil upd_same⟩ ?_ ?_
        · rintro m v H6' H6 hm ⟨bs, s6, hR⟩ ⟨rfl, hx⟩
          rw [vI_len] at hm
          rw [vI_getD hm] at hx
          cases hx
          have e26 := s6 _ _ e2
          have em : ts.take (m + 1) = ts.take m ++ [ts.getD m 0] := by rw [List.take_add_one, List.getElem?_eq_getElem hm, getD_el hm]; rfl
          have bl : bs.length ≤ 5 := by
            rw [hR.len, List.length_map]
            have := List.length_filter_le (fun x => decide (x ∉ row)) (ts.take m)
            rw [List.length_take] at this
            omega
          rw [em, List.filter_append, List.map_append]
          generalize ts.getD m 0 = x at *
          walk_at "s"
          refine ⟨rfl, ?_⟩
          walk_at "s"
          refine r_notIn (.inl (lst_of e26)) rfl (flat_ints _) ?_
          rw [inV_ints]
          by_cases hc : x ∈ row
          · rw [decide_eq_true hc]
            walk_at "s"
            refine ⟨bs, s6, ?_⟩
            rw [List.filter_cons_of_neg (by simpa using hc)]
            simpa using hR
          · rw [decide_eq_false hc]
            walk_at "s"
            intro y ny
            have sy := same_new (o := .lst [.int x]) ny
            walk_at "s"
            refine r_cat (sy _ _ e26) upd_same (by rw [vI_len, hrow.1]; exact sz (by show _ + 1 ≤ _; omega)) fun z nz => ?_
            have sz' := same_new (o := .lst (vI row ++ [.int x])) nz
            have hR2 := (hR.same sy).same sz'
            have hz : upd (upd H6 y (.lst [.int x])) z (.lst (vI row ++ [.int x])) z = some (.lst (vI (row ++ [x]))) := by rw [upd_same]; exact congrArg (fun l => some (HO.lst l)) (vI_app row [x])
            refine ⟨_, hR2.hp, szl (by rw [List.length_map]; omega), bs ++ [z], same_set ((s6.trans sy).trans sz') nD, ?_⟩
            rw [List.filter_cons_of_pos (by simpa using hc)]
            exact hR2.app hz trivial (ne_new nz ((hR.same sy).hp)).symm
        · rintro H6 ⟨bs, s6, hR⟩
          rw [vI_len, List.take_length] at hR
          have hlo6 := hlo5.same s6
          have bl : bs.length ≤ 5 := by
            rw [hR.len, List.length_map]
            have := List.length_filter_le (fun x => decide (x ∉ row)) ts
            omega
          refine r_cat hlo6.hp hR.hp (by rw [List.length_map, List.length_map]; exact sz (by omega)) fun u nu => ?_
          have hcat := hlo6.cat (p2 := D) hR nu
          have su := same_new (o := .lst (ls.map V.ref ++ bs.map V.ref)) nu
          walk_at "s"
          refine ⟨u, ls ++ bs, _, _, rfl, (s5.trans s6).trans su, (s5.trans s6).free nu, (hfo5.same s6).same su, ?_⟩
          rw [ej, List.flatMap_append]
          have ef : [row].flatMap (growR ts) = growR ts row := by rw [List.flatMap_cons]; simp
          rw [ef]
          exact hcat
      · rintro σ H5 ⟨lo, ls, v4, v5, rfl, s5, nlo, hfo5, hlo5⟩
        rw [List.length_map, hfo5.len, List.take_length] at hlo5
        walk_at "s"
        exact ⟨lo, ls, _, _, _, _, rfl, s5, nlo, hlo5⟩
    · rintro σ H3 ⟨fo, as, v2, v3, v4, v5, rfl, s3, nfo, hfo⟩
      walk_at "s"
      exact q _ fo as s3 nfo hfo
end

abbrev Slaw_either : Stmt := topS 25
abbrev Nlaw_either : List Str := ["bag", "items"]
theorem sclaw_either : FnScope Nlaw_either ["bag", "items"] (defScope Slaw_either) := ⟨rfl, rfl, rfl, by decide +kernel, rfl, by decide +kernel, by decide +kernel⟩

section
variable {P : Program} {w : World} {K : PySem.W.Frag} {mg : Str → Option Value} {base : Heap}
def spEither : Sp := fun vs H Q _ => ∃ (r l a : Addr) (n : Nat) (xs : List V), vs = [.ref r, .ref a] ∧ BagAt H r l n ∧ n < 10000000000 ∧ Sq H a xs ∧ xs.length ≤ 100000 ∧ a ≠ r ∧ ∀ p H', BagAt H' r l (n + 1) → Kp r H H' → p ≠ r → Sq H' p xs → Q (.ref p) H'
theorem ok_law_either {f : Addr} {fd : FuncData} (B : Bn mg) (D_law_draw : Df P w K mg base 2 "_law_draw" [] spDraw) (F : Fun K "_law_either" "_law_either" Slaw_either f fd) : FnG P w K mg base 3 f fd ["bag", "items"] spEither := by
  refine gok F sclaw_either (fun vs H Q E h => ?_) (fun cdv A fs s H vs Q E hG hr h => ?_)
  · obtain ⟨_, _, _, _, _, rfl, _⟩ := h; rfl
  · obtain ⟨r, l, a, n, xs, rfl, hS, hn, hA, hz, nar, q⟩ := h
    have hu := hr.units
    refine ⟨_, (pss_one (ps_ret (pe_ix (k_ixL K) (pe_lst (pa_cons (pe_callTy (k_list K) (by rfl) B.list Tlist (pa_cons (pv 1) pa_nil)) (pa_cons (pe_callTy (k_tuple K) (by rfl) B.tuple Ttuple (pa_cons (pv 1) pa_nil)) pa_nil))) (pe_df D_law_draw hG (hr.mono (by first | decide | omega)) passL (by rfl) (pa_cons (pv 0) (pa_cons pe_int pa_nil))) (fun _ _ => rfl)))), ?_⟩
    walk_at "s"
    intro b nb
    have s1 := same_new (o := .lst xs) nb
    have nrb := (hS.ne nb).1
    walk_at "s"
    have fin : ∀ (c : Addr) (H2 : Hp), Same (upd H b (.lst xs)) H2 → H2 c = some (.tup xs) → c ≠ r → ∀ (p : Addr), H2 p = none → ∀ (d : Int) (H3 : Hp), 0 ≤ d → d < 2 → BagAt H3 r l (n + 1) → Kp r (upd H2 p (.lst [.ref b, .ref c])) H3 →
        rIxL K (.ref p) (.int d) H3 Q := by
      intro c H2 s2 hc ncr p np d H3 d0 d1 hS3 hK3
      have s12 := s1.trans s2
      have sp := same_new (o := .lst [.ref b, .ref c]) np
      have npr : p ≠ r := ((hS.same s12).ne np).1.symm
      have hp := hK3.get npr upd_same
      have hb := hK3.get nrb.symm ((s2.trans sp) _ _ upd_same)
      have hc3 := hK3.get ncr (sp _ _ hc)
      have hK : Kp r H H3 := (Kp.of (s12.trans sp)).trans hK3
      have cases2 : d = 0 ∨ d = 1 := by omega
      rcases cases2 with rfl | rfl
      · exact r_ixL (lst_of hp) rfl (q b H3 hS3 hK nrb.symm (.inl hb))
      · exact r_ixL (lst_of hp) rfl (q c H3 hS3 hK ncr (.inr hc3))
    rcases id hA with hL | hT
    · refine r_tupleL (lst_of (s1 _ _ hL)) fun c nc => ?_
      walk_at "s"
      have s2 := same_new (o := .tup xs) nc
      intro p np
      walk_at "s"
      refine ⟨r, l, 2, n, rfl, (hS.same (s1.trans s2)).same (same_new np), by omega, by decide, by decide, fun d H3 d0 d1 hS3 hK3 => ?_⟩
      exact fin c _ s2 upd_same ((hS.same s1).ne nc).1.symm p np d H3 d0 d1 hS3 hK3
    · refine r_tupleT (tup_of (s1 _ _ hT)) ?_
      walk_at "s"
      intro p np
      walk_at "s"
      refine ⟨r, l, 2, n, rfl, (hS.same s1).same (same_new np), by omega, by decide, by decide, fun d H3 d0 d1 hS3 hK3 => ?_⟩
      exact fin a _ (Same.refl _) (s1 _ _ hT) nar p np d H3 d0 d1 hS3 hK3
end

/-! what is shown -/
def InR (x : Int) : Prop := 0 ≤ x ∧ x ≤ 1000000000000000000000000000000
theorem dI_len (ns : List Int) : (dI ns).length = ns.length := List.length_map ..
theorem shows_pl {ns : List Int} (h : ∀ x ∈ ns, InR x) (hl : ns.length ≤ 200) : Shows (.list (dI ns)) 1 7000 ∧ Shows (.tuple (dI ns)) 1 7000 := by
  have a : ∀ d ∈ dI ns, Shows d 0 31 := fun d hd => by
    obtain ⟨x, hx, rfl⟩ := dI_mem hd
    have := h x hx
    exact shows_int (by decide) (by decide) this.1 (Int.lt_of_le_of_lt this.2 (by decide))
  have b := shows_list (n := 200) a (by rw [dI_len]; exact hl)
  have c := shows_tup (n := 200) a (by rw [dI_len]; exact hl)
  exact ⟨⟨b.s, b.n, b.k, Nat.le_trans b.z (by decide)⟩, ⟨c.s, c.n, c.k, Nat.le_trans c.z (by decide)⟩⟩
/-- a list or a tuple of ints, shown -/
theorem sq_shown {H : Hp} {a : Addr} {ns : List Int} (h : Sq H a (vI ns)) (hr : ∀ x ∈ ns, InR x) (hl : ns.length ≤ 200) (K : PySem.W.Frag) : ∃ d : PyData, Shows d 1 7000 ∧ ∀ H', Same H H' → Dp K H' (.ref a) d := by
  have s := shows_pl hr hl
  rcases h with h | h
  · exact ⟨_, s.1, fun H' k => dp_listI (lst_of (k _ _ h))⟩
  · exact ⟨_, s.2, fun H' k => dp_tupI (tup_of (k _ _ h))⟩
theorem sq_shownK {H : Hp} {a : Addr} {ns : List Int} (h : Sq H a (vI ns)) (hr : ∀ x ∈ ns, InR x) (hl : ns.length ≤ 200) (K : PySem.W.Frag) : ∃ d : PyData, Shows d 1 7000 ∧ ∀ H' : Hp, (∀ o, H a = some o → H' a = some o) → Dp K H' (.ref a) d := by
  have s := shows_pl hr hl
  rcases h with h | h
  · exact ⟨_, s.1, fun H' k => dp_listI (lst_of (k _ h))⟩
  · exact ⟨_, s.2, fun H' k => dp_tupI (tup_of (k _ h))⟩

abbrev Slaw_large_right : Stmt := topS 32
abbrev Nlaw_large_right : List Str := ["bag", "takes", "pattern", "passed", "books", "kept", "step", "one", "two"]
theorem sclaw_large_right : FnScope Nlaw_large_right ["bag", "takes", "pattern"] (defScope Slaw_large_right) := ⟨rfl, rfl, rfl, by decide +kernel, rfl, by decide +kernel, by decide +kernel⟩

theorem prd_shows {p : List Bool} {n : Nat} (h : IsPat p n) : Shows (.int (prdA p 1 0)) 0 500 := by
  have hl := h.len
  have ht := h.top
  have hk := h.tks
  obtain ⟨a, b⟩ := prdA_rng (p := p) (f := 1) (o := 0) (Int.le_refl _) (Int.le_refl _) (fun k => by have := h.pos k; omega) (by omega)
  refine shows_nat (by omega) (Int.lt_of_le_of_lt b ?_)
  rw [Int.one_mul]
  have e : p.length - tks p ≤ 200 := by omega
  have e2 : (200 : Nat) ^ (p.length - tks p) ≤ 200 ^ 200 := Nat.pow_le_pow_right (by decide) e
  have e3 : (200 : Nat) ^ 200 < 10 ^ 500 := by set_option exponentiation.threshold 3000 in decide +kernel
  have e4 : (200 : Nat) ^ (p.length - tks p) < 10 ^ 500 := Nat.lt_of_le_of_lt e2 e3
  exact_mod_cast e4
theorem vI_setI (xs : List Int) (i : Nat) (x : Int) : (vI xs).set i (.int x) = vI (xs.set i x) := by unfold vI; rw [List.map_set]
theorem BagAt.ctx {H : Hp} {r l : Addr} {n : Nat} (h : BagAt H r l n) : ∃ ys, H r = some (.lst ys) := by
  obtain ⟨cs, i, x, c, t, h, _⟩ := h
  exact ⟨_, h⟩
section
variable {P : Program} {w : World} {K : PySem.W.Frag} {mg : Str → Option Value} {base : Heap}
def spLarge : Sp := fun vs H Q _ => ∃ (r l a : Addr) (n : Nat) (ts : List Int) (p : List Bool), vs = [.ref r, .ref a, .str (pS p)] ∧ BagAt H r l n ∧ n < 100000000 ∧ a ≠ r ∧ H a = some (.lst (vI ts)) ∧ IsPl ts ∧ IsPat p ts.length ∧
  ∀ H', BagAt H' r l (n + 2000) → Kp r H H' → Q (.bl true) H'
theorem ok_law_large_right {f : Addr} {fd : FuncData} (B : Bn mg) (D_law_draw : Df P w K mg base 2 "_law_draw" [] spDraw) (D_law_either : Df P w K mg base 3 "_law_either" [] spEither) (D_law_drawn : Df P w K mg base 3 "_law_drawn" [] spDrawn11) (D_count_results : Df P w K mg base 4 "count_results" [] spCount) (D_law_product : Df P w K mg base 1 "_law_product" [] spProduct) (D_is_result : Df P w K mg base 4 "is_result" [] spResB) (D_law_due : Df P w K mg base 1 "_law_due" [] spDue11) (F : Fun K "_law_large_right" "_law_large_right" Slaw_large_right f fd) : FnG P w K mg base 5 f fd ["bag", "takes", "pattern"] spLarge := by
  refine gok F sclaw_large_right (fun vs H Q E h => ?_) (fun cdv A fs s H vs Q E hG hr h => ?_)
  · obtain ⟨_, _, _, _, _, _, rfl, _⟩ := h; rfl
  · obtain ⟨r, l, a, n, ts, p, rfl, hS, hn, nar, hA, hP, hp, q⟩ := h
    have hu := hr.units
    have tl := hP.top
    refine ⟨_, (pss_cons (ps_par (i := 3) (j := 4) rfl sclaw_large_right.nd rfl rfl (by decide) rfl rfl (pa_cons (pe_df D_law_either hG (hr.mono (by first | decide | omega)) passL (by rfl) (pa_cons (pv 0) (pa_cons (pv 1) pa_nil))) (pa_cons (pe_df D_law_drawn hG (hr.mono (by first | decide | omega)) passL (by rfl) (pa_cons (pv 0) (pa_cons (pv 1) (pa_cons (pv 2) pa_nil)))) pa_nil)) (by with_unfolding_all rfl)) (pss_cons (ps_set (i := 5) sclaw_large_right.nd rfl (Or.inl rfl) (pe_callB (k_repr K hG hu) (by rfl) B.repr Brepr (pa_cons (pe_lst (pa_cons (pv 3) (pa_cons (pv 4) pa_nil))) pa_nil))) (pss_cons (ps_if (pt_cmpR op_ne (pe_callB (k_repr K hG hu) (by rfl) B.repr Brepr (pa_cons (pe_df D_count_results hG (hr.mono (by first | decide | omega)) passL (by rfl) (pa_cons (pv 3) (pa_cons (pv 2) pa_nil))) pa_nil)) (pe_callB (k_repr K hG hu) (by rfl) B.repr Brepr (pa_cons (pe_df D_law_product hG (hr.mono (by first | decide | omega)) passL (by rfl) (pa_cons (pv 2) pa_nil)) pa_nil)) (nomark _)) (pss_one (ps_ret pe_bl)) pss_nil) (pss_cons (ps_if (pw_or (pt_cmpR op_notB (pe_df D_is_result hG (hr.mono (by first | decide | omega)) passL (by rfl) (pa_cons (pv 3) (pa_cons (pv 2) (pa_cons (pe_df D_law_either hG (hr.mono (by first | decide | omega)) passL (by rfl) (pa_cons (pv 0) (pa_cons (pv 4) pa_nil))) pa_nil)))) pe_bl (nomark _)) (pw_or1 (pt_cmpR op_ne (pe_callB (k_repr K hG hu) (by rfl) B.repr Brepr (pa_cons (pe_lst (pa_cons (pv 3) (pa_cons (pv 4) pa_nil))) pa_nil)) (pv 5) (nomark _)))).pt (pss_one (ps_ret pe_bl)) pss_nil) (pss_cons (ps_for (passes_of rfl) rfl (pi_range1 (by rfl) B.range (pa_cons (pe_op op_mul pe_int (pe_callTy call_int1' (by rfl) B.int Tint (pa_cons (pe_cmpR op_gt (pe_callB (k_len K) (by rfl) B.len Blen (pa_cons (pv 4) pa_nil)) pe_int (nomark _)) pa_nil))) pa_nil)) (pg_name (i := 6) sclaw_large_right.nd rfl (Or.inl rfl)) (pss_cons (ps_par (i := 7) (j := 8) rfl sclaw_large_right.nd rfl rfl (by decide) rfl rfl (pa_cons (pe_df D_law_draw hG (hr.mono (by first | decide | omega)) passL (by rfl) (pa_cons (pv 0) (pa_cons (pe_callB (k_len K) (by rfl) B.len Blen (pa_cons (pv 4) pa_nil)) pa_nil))) (pa_cons (pe_df D_law_draw hG (hr.mono (by first | decide | omega)) passL (by rfl) (pa_cons (pv 0) (pa_cons (pe_callB (k_len K) (by rfl) B.len Blen (pa_cons (pv 4) pa_nil)) pa_nil))) pa_nil)) (by with_unfolding_all rfl)) (pss_cons (ps_asg (pe_tup (pa_cons (pe_ix (k_ixL K) (pv 4) (pv 8) (fun _ _ => rfl)) (pa_cons (pe_ix (k_ixL K) (pv 4) (pv 7) (fun _ _ => rfl)) pa_nil))) (k_gtup (n := 2) K rfl (pgs_cons (pg_sub (pv 4) (pv 7) set_list) (pgs_cons (pg_sub (pv 4) (pv 8) set_list) pgs_nil)))) (pss_one (ps_if (pt_cmpR op_ne (pe_callB (k_repr K hG hu) (by rfl) B.repr Brepr (pa_cons (pe_df D_is_result hG (hr.mono (by first | decide | omega)) passL (by rfl) (pa_cons (pv 1) (pa_cons (pv 2) (pa_cons (pv 4) pa_nil)))) pa_nil)) (pe_callB (k_repr K hG hu) (by rfl) B.repr Brepr (pa_cons (pe_df D_law_due hG (hr.mono (by first | decide | omega)) passL (by rfl) (pa_cons (pv 1) (pa_cons (pv 2) (pa_cons (pv 4) pa_nil)))) pa_nil)) (nomark _)) (pss_one (ps_ret pe_bl)) pss_nil))))) (pss_one (ps_ret pe_bl))))))), ?_⟩
    walk_at "s"
    refine ⟨r, l, a, n, _, rfl, hS, by omega, .inl hA, by rw [vI_len]; omega, nar, fun x1 H4 hS4 hK4 nx1 hx1 => ?_⟩
    have hA4 := hK4.get nar hA
    walk_at "s"
    refine ⟨r, l, a, _, ts, p, rfl, hS4, by omega, nar, hA4, hP.nd, hp, fun H5 b rs hS5 hK5 nb0 hb hpm hok => ?_⟩
    have nbr : b ≠ r := (hS4.ne nb0).1.symm
    have hx15 := hK5.sq nx1 hx1
    have hA5 := hK5.get nar hA4
    have hK05 := hK4.trans hK5
    walk_at "s"
    intro pp npp
    have sp := same_new (o := .lst [.ref x1, .ref b]) npp
    have hpp : upd H5 pp (.lst [.ref x1, .ref b]) pp = some (.lst [.ref x1, .ref b]) := upd_same
    have hx16 := sp.sq hx15
    have hb6 := sp _ _ hb
    have hA6 := sp _ _ hA5
    have hS6 := hS5.same sp
    have hK06 := hK05.trans (Kp.of sp)
    generalize upd H5 pp (.lst [.ref x1, .ref b]) = H6 at *
    have hbr : ∀ x ∈ rs, InR x := fun x hx => hP.rng x (hpm.mem_iff.mp hx)
    obtain ⟨d1, sd1, hd1⟩ := sq_shownK hx16 hP.rng tl K
    obtain ⟨d2, sd2, hd2⟩ := sq_shownK (.inl hb6) hbr (by rw [hpm.length_eq]; exact tl) K
    have sd : Shows (.list [d1, d2]) 3 100000 := by
      have z := shows_list (k := 1) (m := 7000) (n := 2) (ds := [d1, d2]) (fun e he => by
        have : e = d1 ∨ e = d2 := by simpa using he
        rcases this with rfl | rfl
        · exact sd1
        · exact sd2) (Nat.le_refl _)
      exact ⟨z.s, z.n, Nat.le_trans z.k (by decide), Nat.le_trans z.z (by decide)⟩
    have hd : ∀ H', Same H6 H' → Dp K H' (.ref pp) (.list [d1, d2]) := fun H' k => .lst (lst_of (k _ _ hpp)) (.cons (hd1 H' fun o h => k _ _ h) (.cons (hd2 H' fun o h => k _ _ h) .nil))
    walk_at "s"
    refine r_repr (hd _ (Same.refl _)) sd (by decide) (by decide) ?_
    walk_at "s"
    refine ⟨x1, ts, p, rfl, hx16, hP, hp, fun H7 s7 => ?_⟩
    walk_at "s"
    refine r_repr (.int _) (prd_shows hp) (by decide) (by decide) ?_
    walk_at "s"
    refine ⟨p, ts.length, rfl, hp, fun H8 s8 => ?_⟩
    walk_at "s"
    refine r_repr (.int _) (prd_shows hp) (by decide) (by decide) ?_
    walk_at "s"
    have s68 := s7.trans s8
    have hS8 := hS6.same s68
    have hK08 := hK06.trans (Kp.of s68)
    have hb8 := s68 _ _ hb6
    have hA8 := s68 _ _ hA6
    refine ⟨r, l, b, _, _, rfl, hS8, by omega, .inl hb8, by rw [vI_len, hpm.length_eq]; omega, nbr, fun x2 H9 hS9 hK9 nx2 hx2 => ?_⟩
    have hx19 := hK9.sq nx1 (s68.sq hx16)
    have hb9 := hK9.get nbr hb8
    have hA9 := hK9.get nar hA8
    have npr : pp ≠ r := (hS5.ne npp).1.symm
    have hpp9 := hK9.get npr (s68 _ _ hpp)
    walk_at "s"
    refine ⟨x1, x2, ts, rs, p, rfl, hx19, hP, hp, hx2, hpm, fun H10 s10 => ?_⟩
    rw [hok]
    walk_at "s"
    refine r_notB ?_
    walk_at "s"
    intro pq npq
    have sq := same_new (o := .lst [.ref x1, .ref b]) npq
    have hpq : upd H10 pq (.lst [.ref x1, .ref b]) pq = some (.lst [.ref x1, .ref b]) := upd_same
    have s1011 := s10.trans sq
    generalize upd H10 pq (.lst [.ref x1, .ref b]) = H11 at *
    have kx1 : ∀ o, H6 x1 = some o → H11 x1 = some o := fun o h => s1011 _ _ (hK9 _ _ nx1 (s68 _ _ h))
    have kb : ∀ o, H6 b = some o → H11 b = some o := fun o h => s1011 _ _ (hK9 _ _ nbr (s68 _ _ h))
    have hS11 := hS9.same s1011
    have hA11 := s1011 _ _ hA9
    have hb11 := s1011 _ _ hb9
    have hK11 := (hK08.trans hK9).trans (Kp.of s1011)
    walk_at "s"
    refine r_repr (.lst (lst_of hpq) (.cons (hd1 H11 kx1) (.cons (hd2 H11 kb) .nil))) sd (by decide) (by decide) ?_
    walk_at "s"
    have lB : rs.length = ts.length := hpm.length_eq
    rw [vI_len]
    have hc : ∃ c : Nat, (6 * (if decide ((1 : Int) < ((rs.length : Nat) : Int)) = true then (1 : Int) else 0)) = (c : Int) ∧ c ≤ 6 ∧ (0 < c → 1 < rs.length) := by
      by_cases h : (1 : Int) < ((rs.length : Nat) : Int)
      · exact ⟨6, by rw [decide_eq_true h, if_pos rfl]; rfl, by decide, fun _ => by omega⟩
      · exact ⟨0, by rw [decide_eq_false h, if_neg Bool.false_ne_true]; rfl, by decide, fun z => by omega⟩
    obtain ⟨c, hc, c6, c1⟩ := hc
    rw [hc]
    refine ⟨_, rfl, by omega, by omega, ?_⟩
    have nb00 : H b = none := hK4.free nb0 nbr
    have nba : a ≠ b := fun z => by rw [z, nb00] at hA; cases hA
    refine for_src src_range (fun i σ H' => ∃ rs v6 v7 v8, σ = [some (.ref r), some (.ref a), some (.str (pS p)), some (.ref x1), some (.ref b), some (.str (PyData.list [d1, d2]).shown), v6, v7, v8] ∧ BagAt H' r l (n + 1002 + 2 * i) ∧ Kp r H H' ∧ H' a = some (.lst (vI ts)) ∧ H' b = some (.lst (vI rs)) ∧ rs.Perm ts) (fun _ _ _ _ => trivial) ⟨rs, none, none, none, rfl, hS11.mono (by omega), hK11, hA11, hb11, hpm⟩ ?_ ?_
    · rintro i v σ H12' H12 hi ⟨fl, v6, v7, v8, rfl, hS12, hK12, hA12, hb12, hpm2⟩ ⟨rfl, rfl⟩
      have hic : i < c := by omega
      have lF : fl.length = ts.length := hpm2.length_eq
      walk_at "s"
      rw [vI_len]
      refine ⟨r, l, _, _, rfl, hS12, by omega, by omega, two200 (by omega), fun d1 H14 i0 i1 hS14 hK14 => ?_⟩
      have hb14 := hK14.get nbr hb12
      walk_at "s"
      rw [vI_len]
      refine ⟨r, l, _, _, rfl, hS14, by omega, by omega, two200 (by omega), fun d2 H15 j0 j1 hS15 hK15 => ?_⟩
      have hb15 := hK15.get nbr hb14
      have hta15 := hK15.get nar (hK14.get nar hA12)
      have hK615 := (hK12.trans hK14).trans hK15
      have i2 : d1.toNat < fl.length := by omega
      have j2 : d2.toNat < fl.length := by omega
      have a1 : atI (vI fl) d1 = some (.int fl[d1.toNat]) := atI_ok i0 (vI_at i2)
      have a2 : atI (vI fl) d2 = some (.int fl[d2.toNat]) := atI_ok j0 (vI_at j2)
      have e1 : ixN (vI fl).length d1 = some d1.toNat := by rw [vI_len]; exact ixN_ok i0 (by omega)
      have e2 : ixN (vI (fl.set d1.toNat fl[d2.toNat])).length d2 = some d2.toNat := by rw [vI_len, List.length_set]; exact ixN_ok j0 (by omega)
      walk_at "s"
      intro t nt
      have nbt : b ≠ t := ne_new nt hb15
      have st := same_new (o := .tup [.int fl[d2.toNat], .int fl[d1.toNat]]) nt
      have hb16 := st _ _ hb15
      have hta16 := st _ _ hta15
      have hS16 := hS15.same st
      have hK16 := hK615.trans (Kp.of st)
      have hT : upd H15 t (.tup [.int fl[d2.toNat], .int fl[d1.toNat]]) t = some (.tup [.int fl[d2.toNat], .int fl[d1.toNat]]) := upd_same
      generalize upd H15 t (.tup [.int fl[d2.toNat], .int fl[d1.toNat]]) = H16 at *
      walk_at "s"
      rw [vI_setI]
      refine r_setL upd_same e2 ?_
      rw [vI_setI]
      have hpm3 : ((fl.set d1.toNat fl[d2.toNat]).set d2.toNat fl[d1.toNat]).Perm ts := (List.set_set_perm i2 j2).trans hpm2
      generalize (fl.set d1.toNat fl[d2.toNat]) = fl1 at *
      have hb18 : upd (upd H16 b (.lst (vI fl1))) b (.lst (vI (fl1.set d2.toNat fl[d1.toNat]))) b = some (.lst (vI (fl1.set d2.toNat fl[d1.toNat]))) := upd_same
      have hta18 : upd (upd H16 b (.lst (vI fl1))) b (.lst (vI (fl1.set d2.toNat fl[d1.toNat]))) a = some (.lst (vI ts)) := (upd_ne nba).trans ((upd_ne nba).trans hta16)
      have nrb := (hS4.ne nb0)
      have hS18 : BagAt (upd (upd H16 b (.lst (vI fl1))) b (.lst (vI (fl1.set d2.toNat fl[d1.toNat])))) r l _ := (hS16.upd nrb).upd nrb
      have hK18 : Kp r H (upd (upd H16 b (.lst (vI fl1))) b (.lst (vI (fl1.set d2.toNat fl[d1.toNat])))) := (hK16.put nb00).put nb00
      generalize upd (upd H16 b (.lst (vI fl1))) b (.lst (vI (fl1.set d2.toNat fl[d1.toNat]))) = H18 at *
      generalize (fl1.set d2.toNat fl[d1.toNat]) = fl2 at *
      walk_at "s"
      refine ⟨a, b, ts, fl2, p, rfl, .inl hta18, hP, hp, .inl hb18, hpm3, fun H19 s19 => ?_⟩
      walk_at "s"
      have sb : ∀ x : Bool, Shows (.bool x) 0 5 := fun x => by cases x <;> exact ⟨rfl, rfl, Nat.le_refl _, by decide⟩
      refine r_repr (.bl _) (sb _) (by decide) (by decide) ?_
      walk_at "s"
      refine ⟨a, b, ts, fl2, p, rfl, s19 _ _ hta18, hP.nd, hp, s19 _ _ hb18, hpm3, fun H20 s20 => ?_⟩
      walk_at "s"
      refine r_repr (.bl _) (sb _) (by decide) (by decide) ?_
      walk_at "s"
      have s20' := s19.trans s20
      exact ⟨fl2, _, _, _, rfl, (hS18.same s20').mono (by omega), hK18.trans (Kp.of s20'), s20' _ _ hta18, s20' _ _ hb18, hpm3⟩
    · rintro σ H12 ⟨rs, v6, v7, v8, rfl, hS12, hK12, _⟩
      walk_at "s"
      exact q _ (hS12.mono (by omega)) hK12
end

abbrev Slaw_pattern : Stmt := topS 26
abbrev Nlaw_pattern : List Str := ["bag", "count", "found", "left", "out", "share", "step"]
theorem sclaw_pattern : FnScope Nlaw_pattern ["bag", "count"] (defScope Slaw_pattern) := ⟨rfl, rfl, rfl, by decide +kernel, rfl, by decide +kernel, by decide +kernel⟩

section
variable {P : Program} {w : World} {K : PySem.W.Frag} {mg : Str → Option Value} {base : Heap}
def spPattern : Sp := fun vs H Q _ => ∃ (r l : Addr) (n c : Nat), vs = [.ref r, .int c] ∧ BagAt H r l n ∧ n < 10000000000 ∧ c ≤ 200 ∧ ∀ p H', IsPat p c → BagAt H' r l (n + 1000) → Kp r H H' → Q (.str (pS p)) H'
theorem ok_law_pattern {f : Addr} {fd : FuncData} (B : Bn mg) (D_law_draw : Df P w K mg base 2 "_law_draw" [] spDraw) (F : Fun K "_law_pattern" "_law_pattern" Slaw_pattern f fd) : FnG P w K mg base 3 f fd ["bag", "count"] spPattern := by
  refine gok F sclaw_pattern (fun vs H Q E h => ?_) (fun cdv A fs s H vs Q E hG hr h => ?_)
  · obtain ⟨_, _, _, _, rfl, _⟩ := h; rfl
  · obtain ⟨r, l, n, c, rfl, hS, hn, hc, q⟩ := h
    have hu := hr.units
    refine ⟨_, (pss_cons (ps_asg (pe_tup (pa_cons pe_str (pa_cons (pv 1) (pa_cons pe_int (pa_cons (pe_op op_add pe_int (pe_df D_law_draw hG (hr.mono (by first | decide | omega)) passL (by rfl) (pa_cons (pv 0) (pa_cons pe_int pa_nil)))) pa_nil))))) (k_gtup (n := 4) K rfl (pgs_cons (pg_name (i := 2) sclaw_pattern.nd rfl (Or.inl rfl)) (pgs_cons (pg_name (i := 3) sclaw_pattern.nd rfl (Or.inl rfl)) (pgs_cons (pg_name (i := 4) sclaw_pattern.nd rfl (Or.inl rfl)) (pgs_cons (pg_name (i := 5) sclaw_pattern.nd rfl (Or.inl rfl)) pgs_nil)))))) (pss_cons (ps_for (passes_of rfl) rfl (pi_range1 (by rfl) B.range (pa_cons (pe_op op_mul pe_int (pv 1)) pa_nil)) (pg_name (i := 6) sclaw_pattern.nd rfl (Or.inl rfl)) (pss_one (ps_if (pw_and (pt_cmpR op_gt (pv 3) pe_int (nomark _)) (pw_and1 (pw_or (pt_cmpR op_eq (pv 4) pe_int (nomark _)) (pw_or1 (pt_cmpR op_lt (pe_df D_law_draw hG (hr.mono (by first | decide | omega)) passL (by rfl) (pa_cons (pv 0) (pa_cons pe_int pa_nil))) (pv 5) (nomark _)))).pt)).pt (pss_one (ps_par3 (i := 2) (j := 3) (l := 4) rfl sclaw_pattern.nd rfl rfl rfl (by decide) (by decide) (by decide) rfl rfl rfl (pa_cons (pe_op op_addS (pv 2) pe_str) (pa_cons (pe_op op_sub (pv 3) pe_int) (pa_cons (pe_op op_add (pv 4) pe_int) pa_nil))) (by with_unfolding_all rfl))) (pss_one (ps_par (i := 2) (j := 4) rfl sclaw_pattern.nd rfl rfl (by decide) rfl rfl (pa_cons (pe_op op_addS (pv 2) pe_str) (pa_cons (pe_op op_sub (pv 4) pe_int) pa_nil)) (by with_unfolding_all rfl)))))) (pss_one (ps_ret (pv 2))))), ?_⟩
    walk_at "s"
    refine ⟨r, l, 5, n, rfl, hS, by omega, by decide, by decide, fun sh H1 d0 d1 hS1 hK1 => ?_⟩
    walk_at "s"
    intro t nt
    have nrt := hS1.ne nt
    walk_at "s"
    refine ⟨_, rfl, by omega, by omega, ?_⟩
    rw [show (2 * (c : Int)).toNat = 2 * c by omega]
    refine for_src src_range (fun i σ H' => ∃ p v6, σ = [some (.ref r), some (.int c), some (.str (pS p)), some (.int ((c : Int) - (tks p : Nat))), some (.int (dif p)), some (.int (1 + sh)), v6] ∧ Way p c i ∧ BagAt H' r l (n + 1 + i) ∧ Kp r H H')
      (fun _ _ _ _ => trivial) ⟨[], none, rfl, Way.nil c, hS1.upd nrt, hK1.put (hK1.free nt nrt.1.symm)⟩ ?_ ?_
    · rintro i v σ H2 H3 hi ⟨p, v6, rfl, hW, hS2, hK2⟩ ⟨rfl, rfl⟩
      have hl := hW.len
      have hpl : (pS p).length + 1 ≤ sizeLine := sz (by rw [pS_len]; omega)
      have e1 := dif_tks p
      have hf := hW.few
      have hz : 0 ≤ dif p := by have := hW.pos p.length; rwa [List.take_length] at this
      have eS : pS p ++ ("T" : Str) = pS (p ++ [true]) := pS_app p true
      have eR : pS p ++ ("R" : Str) = pS (p ++ [false]) := pS_app p false
      have kS : tks (p ++ [true]) = tks p + 1 := tks_app p true
      have kR : tks (p ++ [false]) = tks p := tks_app p false
      have eL : (c : Int) - (tks p : Nat) - 1 = (c : Int) - (tks (p ++ [true]) : Nat) := by rw [kS]; omega
      have eL2 : (c : Int) - (tks p : Nat) = (c : Int) - (tks (p ++ [false]) : Nat) := by rw [kR]
      have eD : dif p + 1 = dif (p ++ [true]) := (dif_app p true).symm
      have eD2 : dif p - 1 = dif (p ++ [false]) := (dif_app p false).symm
      walk_at "s"
      refine ifD (fun h1 => ?_) (fun h1 => ?_)
      · walk_at "s"
        refine ifD (fun h2 => ?_) (fun h2 => ?_)
        · walk_at "s"
          rw [eS, eL, eD]
          exact ⟨_, _, rfl, hW.add (by omega) (by omega), hS2.mono (by omega), hK2⟩
        · walk_at "s"
          refine ⟨r, l, 6, _, rfl, hS2, by omega, by decide, by decide, fun d H4 d0 d1 hS4 hK4 => ?_⟩
          walk_at "s"
          refine ifD (fun h3 => ?_) (fun h3 => ?_)
          · walk_at "s"
            rw [eS, eL, eD]
            exact ⟨_, _, rfl, hW.add (by omega) (by omega), hS4.mono (by omega), hK2.trans hK4⟩
          · walk_at "s"
            rw [eR, eL2, eD2]
            exact ⟨_, _, rfl, hW.add (by omega) (by omega), hS4.mono (by omega), hK2.trans hK4⟩
      · walk_at "s"
        rw [eR, eL2, eD2]
        exact ⟨_, _, rfl, hW.add (by omega) (by omega), hS2.mono (by omega), hK2⟩
    · rintro σ H2 ⟨p, v6, rfl, hW, hS2, hK2⟩
      walk_at "s"
      exact q p _ (hW.all hc) (hS2.mono (by omega)) hK2
end

abbrev Slaw_places : Stmt := topS 27
abbrev Nlaw_places : List Str := ["bag", "count", "way", "order", "found", "k"]
theorem sclaw_places : FnScope Nlaw_places ["bag", "count"] (defScope Slaw_places) := ⟨rfl, rfl, rfl, by decide +kernel, rfl, by decide +kernel, by decide +kernel⟩

section
variable {P : Program} {w : World} {K : PySem.W.Frag} {mg : Str → Option Value} {base : Heap}
def plc (way : Int) (k : Int) : Int := if way = 0 then k else if way = 1 then 7 * k + 3 else if way = 2 then 1000000000000000000000000000000 - k else k * 1000000000000000000000000000 + k
theorem plc_inj {way a b : Int} (h : plc way a = plc way b) : a = b := by
  unfold plc at h
  split at h
  · exact h
  · split at h
    · omega
    · split at h <;> omega
theorem plc_rg {way k : Int} (h0 : 0 ≤ k) (h1 : k < 200) : 0 ≤ plc way k ∧ plc way k ≤ 1000000000000000000000000000000 := by
  unfold plc
  split
  · omega
  · split
    · omega
    · split <;> omega
def plcs (way : Int) (c : Nat) : List Int := (List.range c).map fun k : Nat => plc way (k : Int)
theorem plcs_pl {way : Int} {c : Nat} (h : c ≤ 200) : IsPl (plcs way c) ∧ (plcs way c).length = c := by
  have e : (plcs way c).length = c := by unfold plcs; rw [List.length_map, List.length_range]
  refine ⟨⟨by omega, fun x hx => ?_, ?_⟩, e⟩
  · obtain ⟨k, hk, rfl⟩ := List.mem_map.mp hx
    have := List.mem_range.mp hk
    exact plc_rg (by omega) (by omega)
  · unfold plcs List.Nodup
    rw [List.pairwise_map]
    refine List.nodup_range.imp fun {a b} hne e => hne ?_
    have := plc_inj e
    omega
theorem IsPl.perm {a b : List Int} (h : IsPl a) (p : b.Perm a) : IsPl b := ⟨by rw [p.length_eq]; exact h.top, fun x hx => h.rng x (p.mem_iff.mp hx), p.nodup_iff.mpr h.nd⟩
def spPlaces : Sp := fun vs H Q _ => ∃ (r l : Addr) (n c : Nat), vs = [.ref r, .int c] ∧ BagAt H r l n ∧ n < 10000000000 ∧ c ≤ 200 ∧ ∀ ns p H', IsPl ns → ns.length = c → BagAt H' r l (n + 1000) → Kp r H H' → H p = none → H' p = some (.lst (vI ns)) → Q (.ref p) H'
theorem ok_law_places {f : Addr} {fd : FuncData} (B : Bn mg) (D_law_draw : Df P w K mg base 2 "_law_draw" [] spDraw) (D_law_shuffled : Df P w K mg base 3 "_law_shuffled" [] spShuffled) (F : Fun K "_law_places" "_law_places" Slaw_places f fd) : FnG P w K mg base 4 f fd ["bag", "count"] spPlaces := by
  refine gok F sclaw_places (fun vs H Q E h => ?_) (fun cdv A fs s H vs Q E hG hr h => ?_)
  · obtain ⟨_, _, _, _, rfl, _⟩ := h; rfl
  · obtain ⟨r, l, n, c, rfl, hS, hn, hc, q⟩ := h
    have hu := hr.units
    refine ⟨_, (pss_cons (ps_asg (pe_tup (pa_cons (pe_df D_law_draw hG (hr.mono (by first | decide | omega)) passL (by rfl) (pa_cons (pv 0) (pa_cons pe_int pa_nil))) (pa_cons (pe_df D_law_draw hG (hr.mono (by first | decide | omega)) passL (by rfl) (pa_cons (pv 0) (pa_cons pe_int pa_nil))) pa_nil))) (k_gtup (n := 2) K rfl (pgs_cons (pg_name (i := 2) sclaw_places.nd rfl (Or.inr rfl)) (pgs_cons (pg_name (i := 3) sclaw_places.nd rfl (Or.inl rfl)) pgs_nil)))) (pss_cons (ps_setLc (i := 4) (own := [("k", 5)]) rfl sclaw_places.nd rfl rfl (sw_true rfl rfl rfl (by decide +kernel)) (pi_range1 (by rfl) B.range (pa_cons (pv 1) pa_nil)) (blkOk_by (own := [("k", 5)]) (N := Nlaw_places) (sc := defScope Slaw_places) (by decide +kernel)) (fun _ _ _ _ _ => (pg_name (i := 5) sclaw_places.nd rfl (Or.inl rfl))) (fun _ _ _ _ _ => pts_nil) (fun _ _ _ _ _ => (pe_ix (k_ixL K) (pe_lst (pa_cons (pv 5) (pa_cons (pe_op op_add (pe_op op_mul pe_int (pv 5)) pe_int) (pa_cons (pe_op op_sub (pe_op op_pow pe_int pe_int) (pv 5)) (pa_cons (pe_op op_add (pe_op op_mul (pv 5) (pe_op op_pow pe_int pe_int)) (pv 5)) pa_nil))))) (pv 2) (fun _ _ => rfl)))) (pss_cons (ps_if (pt_cmpR op_eq (pv 3) pe_int (nomark _)) (pss_one (ps_ret (pe_callB (k_sorted K) (by rfl) B.sorted Bsorted (pa_cons (pv 4) pa_nil)))) pss_nil) (pss_one (ps_ret (pe_ifExp (pt_cmpR op_eq (pv 3) pe_int (nomark _)) (k_rev K (pe_callB (k_sorted K) (by rfl) B.sorted Bsorted (pa_cons (pv 4) pa_nil))) (pe_df D_law_shuffled hG (hr.mono (by first | decide | omega)) passL (by rfl) (pa_cons (pv 0) (pa_cons (pv 4) pa_nil))))))))), ?_⟩
    walk_at "s"
    refine ⟨r, l, 4, n, rfl, hS, by omega, by decide, by decide, fun way H1 w0 w1 hS1 hK1 => ?_⟩
    walk_at "s"
    refine ⟨r, l, 4, n + 1, rfl, hS1, by omega, by decide, by decide, fun ord H2 o0 o1 hS2 hK2 => ?_⟩
    walk_at "s"
    intro t nt
    have nrt := hS2.ne nt
    have hS3 := hS2.upd (o := .tup [.int way, .int ord]) nrt
    have hK3 := (hK1.trans hK2).put (o := .tup [.int way, .int ord]) ((hK1.trans hK2).free nt nrt.1.symm)
    walk_at "s"
    refine ⟨_, rfl, by omega, by omega, fun Dl nD => ?_⟩
    rw [Int.toNat_natCast]
    refine lc_pure src_range (fun _ => true) (fun k => .int (plc way (k : Int))) (by omega) (fun _ _ => trivial) ?_ nD fun H4 s4 hD => ?_
    · rintro i v H4 H5 Yes No hi s ⟨rfl, rfl⟩ hY hN
      walk_at "s"
      refine ⟨rfl, ?_⟩
      walk_at "s"
      intro p np
      walk_at "s"
      have e30 : (10 : Int) ^ Int.toNat 30 = 1000000000000000000000000000000 := by decide +kernel
      have e27 : (10 : Int) ^ Int.toNat 27 = 1000000000000000000000000000 := by decide +kernel
      rw [e30, e27]
      refine r_ixL (lst_of upd_same) (v := .int (plc way (i : Int))) ?_ (hY rfl _ (same_new np))
      have w4 : way = 0 ∨ way = 1 ∨ way = 2 ∨ way = 3 := by omega
      rcases w4 with rfl | rfl | rfl | rfl
      · exact congrArg (fun x => some (V.int x)) (show (0 + (i : Int)) = (i : Int) by omega)
      · exact congrArg (fun x => some (V.int x)) (show 7 * (0 + (i : Int)) + 3 = 7 * (i : Int) + 3 by omega)
      · exact congrArg (fun x => some (V.int x)) (show 1000000000000000000000000000000 - (0 + (i : Int)) = 1000000000000000000000000000000 - (i : Int) by omega)
      · exact congrArg (fun x => some (V.int x)) (show (0 + (i : Int)) * 1000000000000000000000000000 + (0 + (i : Int)) = (i : Int) * 1000000000000000000000000000 + (i : Int) by omega)
    · have pl := plcs_pl (way := way) hc
      have ev : giv c (fun _ => true) (fun k => V.int (plc way (k : Int))) = vI (plcs way c) := by
        rw [giv_all]
        unfold vI plcs
        rw [List.map_map]
        rfl
      rw [ev] at hD
      have hS4 := hS3.same s4
      have hK4 := hK3.trans (Kp.of s4)
      have nrD := hS3.ne nD
      have nD0 := hK3.free nD nrD.1.symm
      walk_at "s"
      refine ifD (fun h1 => ?_) (fun h1 => ?_)
      · walk_at "s"
        refine r_sortI (lst_of hD) fun ns' p hp hs np => ?_
        walk_at "s"
        exact q ns' p _ (pl.1.perm hp) (hp.length_eq.trans pl.2) ((hS4.upd (hS4.ne np)).mono (by omega)) (hK4.put (hK4.free np (hS4.ne np).1.symm)) (hK4.free np (hS4.ne np).1.symm) upd_same
      · walk_at "s"
        refine ifD (fun h2 => ?_) (fun h2 => ?_)
        · walk_at "s"
          refine r_sortI (lst_of hD) fun ns' p hp hs np => ?_
          walk_at "s"
          refine ⟨p, _, rfl, lst_of upd_same, fun u nu => ?_⟩
          rw [vI_rev]
          have s6 := (same_new (o := .lst (vI ns')) np).trans (same_new (o := .lst (vI ns'.reverse)) nu)
          have hS6 := hS4.same s6
          have nu4 : H4 u = none := (same_new np).free nu
          exact q ns'.reverse u _ (pl.1.perm ((List.reverse_perm _).trans hp)) (by rw [List.length_reverse]; exact hp.length_eq.trans pl.2) (hS6.mono (by omega)) (hK4.trans (Kp.of s6)) (hK4.free nu4 (hS4.ne nu4).1.symm) upd_same
        · walk_at "s"
          refine ⟨r, l, Dl, n + 1 + 1, vI (plcs way c), rfl, hS4, by rw [vI_len, pl.2]; omega, .inl hD, nrD.1.symm, by rw [vI_len, pl.2]; omega, fun ys p H5 hp hS5 hK5 np hy => ?_⟩
          obtain ⟨ms, rfl, hm⟩ := perm_vI hp
          rw [vI_len, pl.2] at hS5
          walk_at "s"
          exact q ms p H5 (pl.1.perm hm) (hm.length_eq.trans pl.2) (hS5.mono (by omega)) (hK4.trans hK5) (hK4.free np (hS4.ne np).1.symm) hy
end

abbrev Slaw : Stmt := topS 33
abbrev Nlaw : List Str := ["script", "bag", "turn", "count", "takes", "pattern", "number", "books", "due"]
theorem sclaw : FnScope Nlaw ["script"] (defScope Slaw) := ⟨rfl, rfl, rfl, by decide +kernel, rfl, by decide +kernel, by decide +kernel⟩

theorem isPat_of {p : List Bool} {n : Nat} (h1 : p.length = 2 * n) (h2 : n ≤ 200) (h3 : dif p = 0) (h4 : ∀ k, k ≤ p.length → 0 ≤ dif (p.take k)) : IsPat p n := ⟨h1, h2, h3, fun k => by
  rcases Nat.lt_or_ge p.length k with h | h
  · rw [List.take_of_length_le (Nat.le_of_lt h), h3]; exact Int.le_refl _
  · exact h4 k h⟩
theorem perm_of_nodup : ∀ {a b : List Int}, a.Nodup → b.Nodup → a.length = b.length → (∀ x ∈ a, x ∈ b) → a.Perm b
  | [], b, _, _, hl, _ => by
    have : b = [] := List.length_eq_zero_iff.mp hl.symm
    rw [this]
  | x :: a, b, ha, hb, hl, h => by
    have hx : x ∈ b := h x List.mem_cons_self
    rw [List.nodup_cons] at ha
    have ih := perm_of_nodup (b := b.erase x) ha.2 (hb.erase x) (by rw [List.length_erase_of_mem hx]; rw [List.length_cons] at hl; omega) fun y hy => by
      rw [hb.mem_erase_iff]
      exact ⟨fun e => ha.1 (e ▸ hy), h y (List.mem_cons_of_mem _ hy)⟩
    exact (ih.cons x).trans (List.perm_cons_erase hx).symm
theorem tmsF_rng : ∀ (p : List Bool) (k : Nat) (x : Int), x ∈ tmsF k p → (k : Int) ≤ x ∧ x ≤ ((k + tks p : Nat) : Int)
  | [], _, _, h => by cases h
  | true :: p, k, x, h => by
    have := tmsF_rng p (k + 1) x h
    have e : tks (true :: p) = 1 + tks p := rfl
    omega
  | false :: p, k, x, h => by
    have e : tks (false :: p) = 0 + tks p := rfl
    rcases List.mem_cons.mp (show x ∈ (k : Int) :: tmsF k p from h) with z | z
    · omega
    · have := tmsF_rng p k x z
      omega
theorem tmsF_upw : ∀ (p : List Bool) (k : Nat), (tmsF k p).Pairwise (· ≤ ·)
  | [], _ => .nil
  | true :: p, k => tmsF_upw p (k + 1)
  | false :: p, k => .cons (fun x hx => (tmsF_rng p k x hx).1) (tmsF_upw p k)
section
variable {P : Program} {w : World} {K : PySem.W.Frag} {mg : Str → Option Value} {base : Heap}
def spLaw (K : PySem.W.Frag) : Sp := fun vs H Q _ => ∃ (a : Addr) (ns : List Int), vs = [.ref a] ∧ SqL K H a (ns.map V.int) ∧ ns.length ≤ 63 ∧ ∀ H', Q (.bl true) H'
theorem ok_law {f : Addr} {fd : FuncData} (B : Bn mg) (D_law_bag : Df P w K mg base 1 "_law_bag" [] (spBag K)) (D_law_draw : Df P w K mg base 2 "_law_draw" [] spDraw) (D_law_places : Df P w K mg base 4 "_law_places" [] spPlaces) (D_law_pattern : Df P w K mg base 3 "_law_pattern" [] spPattern) (D_law_large_right : Df P w K mg base 5 "_law_large_right" [] spLarge) (D_law_orders : Df P w K mg base 1 "_law_orders" [] spOrders) (D_law_due : Df P w K mg base 1 "_law_due" [] spDue11) (D_is_result : Df P w K mg base 4 "is_result" [] spResB) (D_count_results : Df P w K mg base 4 "count_results" [] spCount) (F : Fun K "law" "law" Slaw f fd) : FnG P w K mg base 6 f fd ["script"] (spLaw K) := by
  refine gok F sclaw (fun vs H Q E h => ?_) (fun cdv A fs s H vs Q E hG hr h => ?_)
  · obtain ⟨_, _, rfl, _⟩ := h; rfl
  · obtain ⟨a, ns, rfl, hN, hl, q⟩ := h
    have hu := hr.units
    refine ⟨_, (pss_cons (ps_set (i := 1) sclaw.nd rfl (Or.inl rfl) (pe_df D_law_bag hG (hr.mono (by first | decide | omega)) passL (by rfl) (pa_cons (pv 0) pa_nil))) (pss_cons (ps_for (passes_of rfl) rfl (pi_range1 (by rfl) B.range (pa_cons (pe_op op_add pe_int (pe_callB (call_min2' rfl) (by rfl) B.min Bmin (pa_cons pe_int (pa_cons (pe_callB (k_len K) (by rfl) B.len Blen (pa_cons (pv 0) pa_nil)) pa_nil)))) pa_nil)) (pg_name (i := 2) sclaw.nd rfl (Or.inl rfl)) (pss_cons (ps_set (i := 3) sclaw.nd rfl (Or.inl rfl) (pe_ix (k_ixL K) (pe_lst (pa_cons pe_int (pa_cons (pe_df D_law_draw hG (hr.mono (by first | decide | omega)) passL (by rfl) (pa_cons (pv 1) (pa_cons pe_int pa_nil))) (pa_cons (pe_df D_law_draw hG (hr.mono (by first | decide | omega)) passL (by rfl) (pa_cons (pv 1) (pa_cons pe_int pa_nil))) pa_nil)))) (pe_callB (call_min2' rfl) (by rfl) B.min Bmin (pa_cons (pv 2) (pa_cons pe_int pa_nil))) (fun _ _ => rfl))) (pss_cons (ps_if (pt_not (pt_val (pe_df D_law_large_right hG (hr.mono (by first | decide | omega)) passL (by rfl) (pa_cons (pv 1) (pa_cons (pe_df D_law_places hG (hr.mono (by first | decide | omega)) passL (by rfl) (pa_cons (pv 1) (pa_cons (pv 3) pa_nil))) (pa_cons (pe_df D_law_pattern hG (hr.mono (by first | decide | omega)) passL (by rfl) (pa_cons (pv 1) (pa_cons (pv 3) pa_nil))) pa_nil)))))) (pss_one (ps_ret pe_bl)) pss_nil) (pss_cons (ps_set (i := 3) sclaw.nd rfl (Or.inl rfl) (pe_df D_law_draw hG (hr.mono (by first | decide | omega)) passL (by rfl) (pa_cons (pv 1) (pa_cons pe_int pa_nil)))) (pss_cons (ps_par (i := 4) (j := 5) rfl sclaw.nd rfl rfl (by decide) rfl rfl (pa_cons (pe_df D_law_places hG (hr.mono (by first | decide | omega)) passL (by rfl) (pa_cons (pv 1) (pa_cons (pv 3) pa_nil))) (pa_cons (pe_df D_law_pattern hG (hr.mono (by first | decide | omega)) passL (by rfl) (pa_cons (pv 1) (pa_cons (pv 3) pa_nil))) pa_nil)) (by with_unfolding_all rfl)) (pss_cons (ps_set (i := 6) sclaw.nd rfl (Or.inl rfl) pe_int) (pss_cons (ps_for (passes_of rfl) rfl (k_piL K (pe_df D_law_orders hG (hr.mono (by first | decide | omega)) passL (by rfl) (pa_cons (pv 4) pa_nil))) (pg_name (i := 7) sclaw.nd rfl (Or.inl rfl)) (pss_cons (ps_set (i := 8) sclaw.nd rfl (Or.inl rfl) (pe_df D_law_due hG (hr.mono (by first | decide | omega)) passL (by rfl) (pa_cons (pv 4) (pa_cons (pv 5) (pa_cons (pv 7) pa_nil))))) (pss_cons (ps_if (pt_cmpR op_ne (pe_callB (k_repr K hG hu) (by rfl) B.repr Brepr (pa_cons (pe_df D_is_result hG (hr.mono (by first | decide | omega)) passL (by rfl) (pa_cons (pv 4) (pa_cons (pv 5) (pa_cons (pv 7) pa_nil)))) pa_nil)) (pe_callB (k_repr K hG hu) (by rfl) B.repr Brepr (pa_cons (pv 8) pa_nil)) (nomark _)) (pss_one (ps_ret pe_bl)) pss_nil) (pss_one (ps_set (i := 6) sclaw.nd rfl (Or.inl rfl) (pe_op op_add (pv 6) (pe_callTy call_int1' (by rfl) B.int Tint (pa_cons (pv 8) pa_nil)))))))) (pss_one (ps_if (pt_cmpR op_ne (pe_callB (k_repr K hG hu) (by rfl) B.repr Brepr (pa_cons (pe_df D_count_results hG (hr.mono (by first | decide | omega)) passL (by rfl) (pa_cons (pv 4) (pa_cons (pv 5) pa_nil))) pa_nil)) (pe_callB (k_repr K hG hu) (by rfl) B.repr Brepr (pa_cons (pv 6) pa_nil)) (nomark _)) (pss_one (ps_ret pe_bl)) pss_nil))))))))) (pss_one (ps_ret (pe_and (pe_cmpR op_eq (pe_df D_count_results hG (hr.mono (by first | decide | omega)) passL (by rfl) (pa_cons (pe_lst pa_nil) (pa_cons pe_str pa_nil))) pe_int (nomark _)) (pe_and (pe_cmpR op_isB (pe_df D_is_result hG (hr.mono (by first | decide | omega)) passL (by rfl) (pa_cons (pe_lst pa_nil) (pa_cons pe_str (pa_cons (pe_lst pa_nil) pa_nil)))) pe_bl (nomark _)) (pe_one (pe_cmpR op_eq (pe_df D_count_results hG (hr.mono (by first | decide | omega)) passL (by rfl) (pa_cons (pe_lst (pa_cons pe_int (pa_cons pe_int (pa_cons pe_int (pa_cons pe_int pa_nil))))) (pa_cons pe_str pa_nil))) pe_int (nomark _))))))))), ?_⟩
    walk_at "s"
    refine ⟨a, ns, rfl, hN, hl, fun H1 r l s1 nr hS1 => ?_⟩
    have hN1 := s1.seq hN
    walk_at "s"
    rw [List.length_map]
    have hc : 3 ≤ 3 + (if (6 : Int) < (ns.length : Int) then (6 : Int) else (ns.length : Int)) ∧ 3 + (if (6 : Int) < (ns.length : Int) then (6 : Int) else (ns.length : Int)) ≤ 9 := by split <;> omega
    have hc' : 3 ≤ 3 + (if (ns.length : Int) < (6 : Int) then (ns.length : Int) else (6 : Int)) ∧ 3 + (if (ns.length : Int) < (6 : Int) then (ns.length : Int) else (6 : Int)) ≤ 9 := by split <;> omega
    have sb : ∀ x : Bool, Shows (.bool x) 0 5 := fun x => by cases x <;> exact ⟨rfl, rfl, Nat.le_refl _, by decide⟩
    refine ⟨_, rfl, by omega, by omega, ?_⟩
    refine for_src src_range (fun i σ H' => ∃ v2 v3 v4 v5 v6 v7 v8, σ = [some (.ref a), some (.ref r), v2, v3, v4, v5, v6, v7, v8] ∧ BagAt H' r l (10000 * i)) (fun _ _ _ _ => trivial) ⟨none, none, none, none, none, none, none, rfl, hS1⟩ ?_ ?_
    · rintro i v σ H2' H2 hi ⟨v2, v3, v4, v5, v6, v7, v8, rfl, hS2⟩ ⟨rfl, rfl⟩
      have hi9 : i < 9 := by omega
      walk_at "s"
      refine ⟨r, l, 201, _, rfl, hS2, by omega, by decide, by decide, fun d1 H3 d1a d1b hS3 hK3 => ?_⟩
      walk_at "s"
      refine ⟨r, l, 20, _, rfl, hS3, by omega, by decide, by decide, fun d2 H4 d2a d2b hS4 hK4 => ?_⟩
      walk_at "s"
      intro z nz
      have sz1 := same_new (o := .lst [.int 200, .int d1, .int d2]) nz
      have hz : upd H4 z (.lst [.int 200, .int d1, .int d2]) z = some (.lst [.int 200, .int d1, .int d2]) := upd_same
      have hS5 := hS4.same sz1
      generalize upd H4 z _ = H5 at *
      walk_at "s"
      have hct : ∃ ct : Nat, atI [V.int 200, V.int d1, V.int d2] (if (2 : Int) < 0 + (i : Int) then 2 else 0 + (i : Int)) = some (.int (ct : Nat)) ∧ ct ≤ 200 := by
        obtain ⟨m1, rfl⟩ := Int.eq_ofNat_of_zero_le d1a
        obtain ⟨m2, rfl⟩ := Int.eq_ofNat_of_zero_le d2a
        match i, hi9 with
        | 0, _ => exact ⟨200, rfl, by decide⟩
        | 1, _ => exact ⟨m1, rfl, by omega⟩
        | 2, _ => exact ⟨m2, rfl, by omega⟩
        | k + 3, _ => refine ⟨m2, ?_, by omega⟩; rw [if_pos (by omega)]; rfl
      obtain ⟨ct, hct, ct200⟩ := hct
      refine r_ixL (lst_of hz) hct ?_
      walk_at "s"
      refine ⟨r, l, _, ct, rfl, hS5, by omega, ct200, fun ts tp H6 hP tlen hS6 hK6 ntp htp => ?_⟩
      have ntpr : tp ≠ r := (hS5.ne ntp).1.symm
      walk_at "s"
      refine ⟨r, l, _, ct, rfl, hS6, by omega, ct200, fun p H7 hp hS7 hK7 => ?_⟩
      walk_at "s"
      refine ⟨r, l, tp, _, ts, p, rfl, hS7, by omega, ntpr, hK7.get ntpr htp, hP, by rw [tlen]; exact hp, fun H8 hS8 hK8 => ?_⟩
      clear hP tlen hp htp ntp ntpr
      clear tp ts p
      walk_at "s"
      refine ⟨r, l, 6, _, rfl, hS8, by omega, by decide, by decide, fun d3 H9 d3a d3b hS9 hK9 => ?_⟩
      obtain ⟨m, rfl⟩ := Int.eq_ofNat_of_zero_le d3a
      walk_at "s"
      refine ⟨r, l, _, m, rfl, hS9, by omega, by omega, fun ts tp H10 hP tlen hS10 hK10 ntp htp => ?_⟩
      have ntpr : tp ≠ r := (hS9.ne ntp).1.symm
      walk_at "s"
      refine ⟨r, l, _, m, rfl, hS10, by omega, by omega, fun p H11 hp hS11 hK11 => ?_⟩
      have htp11 := hK11.get ntpr htp
      rw [← tlen] at hp
      walk_at "s"
      refine ⟨tp, ts, rfl, htp11, by omega, fun H12 u as s12 nu hu12 => ?_⟩
      have htp12 := s12 _ _ htp11
      have hS12 := hS11.same s12
      have hup := hu12.hp
      walk_at "s"
      refine ⟨u, rfl, ⟨_, lst_of hup⟩, ?_⟩
      refine for_src (src_list (xs := as.map V.ref)) (fun j σ H' => ∃ v7 v8, σ = [some (.ref a), some (.ref r), some (.int (0 + (i : Nat))), some (.int (m : Nat)), some (.ref tp), some (.str (pS p)), some (.int (((((ordN ts ts.length).take j).filter (resA (nb ts) p 0)).length : Nat) : Int)), v7, v8] ∧ Same H12 H') (fun j σ H' h => by
        obtain ⟨_, _, _, h⟩ := h
        exact lst_of (h _ _ hup)) ⟨_, _, by rw [List.take_zero]; rfl, Same.refl _⟩ ?_ ?_
      · rintro j v σ H13' H13 hj ⟨v7, v8, rfl, s13⟩ ⟨rfl, hx⟩
        rw [List.length_map, hu12.len] at hj
        obtain ⟨t, e1, e2, _⟩ := hu12.at hj
        rw [e1] at hx
        cases hx
        have htp13 := s13 _ _ htp12
        have e23 := s13 _ _ e2
        have hrow := ordN_row (List.getElem_mem hj)
        have ej : (ordN ts ts.length).take (j + 1) = (ordN ts ts.length).take j ++ [(ordN ts ts.length)[j]] := by rw [List.take_add_one, List.getElem?_eq_getElem hj]; rfl
        have hpm : ((ordN ts ts.length)[j]).Perm ts := by
          obtain ⟨a1, a2, a3⟩ := hrow
          exact perm_of_nodup a2 hP.nd a1 a3
        rw [ej, List.filter_append, List.length_append]
        generalize (ordN ts ts.length)[j] = row at *
        walk_at "s"
        refine ⟨tp, t, ts, row, p, rfl, htp13, hP.nd, hp, e23, hpm, fun H14 s14 => ?_⟩
        walk_at "s"
        refine ⟨tp, t, ts, row, p, rfl, .inl (s14 _ _ htp13), hP, hp, .inl (s14 _ _ e23), hpm, fun H15 s15 => ?_⟩
        walk_at "s"
        refine r_repr (.bl _) (sb _) (by decide) (by decide) ?_
        walk_at "s"
        refine r_repr (.bl _) (sb _) (by decide) (by decide) ?_
        walk_at "s"
        refine ⟨some (.ref t), some (.bl (resA (nb ts) p 0 row)), ?_, (s13.trans s14).trans s15⟩
        rw [List.filter_cons]
        cases hres : resA (nb ts) p 0 row with
        | true => rw [if_pos rfl]; rfl
        | false => rw [if_neg Bool.false_ne_true]; simp
      · rintro σ H13 ⟨v7, v8, rfl, s13⟩
        rw [List.length_map, hu12.len, List.take_length]
        have key : ((((ordN ts ts.length).filter (resA (nb ts) p 0)).length : Nat) : Int) = prdA p 1 0 := by
          have tlen2 := tms_ln p 0
          have hlp := hp.len
          have htk := hp.tks
          have hT : (tmsF 0 p).length = ts.length := by omega
          have ef : (ordN ts ts.length).filter (resA (nb ts) p 0) = (ordN ts ts.length).filter (okT (nb ts) (tmsF 0 p)) := List.filter_congr fun x _ => resA_ok (nb ts) p 0 x
          have hcnt := ord_count (T := tmsF 0 p) hP.nd (tmsF_upw p 0) (fun x hx => by
            have := tmsF_rng p 0 x hx
            omega) ts.length (by omega)
          have hpr := prdA_T p 1 0 0
          rw [ef, hcnt, ← hT, List.take_length]
          rw [Int.one_mul] at hpr
          exact hpr.symm
        rw [key]
        have htp13 := s13 _ _ htp12
        walk_at "s"
        refine ⟨tp, ts, p, rfl, .inl htp13, hP, hp, fun H14 s14 => ?_⟩
        walk_at "s"
        refine r_repr (.int _) (prd_shows hp) (by decide) (by decide) ?_
        walk_at "s"
        refine r_repr (.int _) (prd_shows hp) (by decide) (by decide) ?_
        walk_at "s"
        exact ⟨_, _, _, _, _, _, _, rfl, (hS12.same (s13.trans s14)).mono (by omega)⟩
    · rintro σ H2 ⟨v2, v3, v4, v5, v6, v7, v8, rfl, hS2⟩
      walk_at "s"
      intro c1 m1
      have g1 : upd H2 c1 (.lst []) c1 = some (.lst (vI [])) := upd_same
      generalize upd H2 c1 (.lst []) = H3 at *
      walk_at "s"
      have hP0 : IsPl [] := ⟨by decide, by decide, by decide⟩
      have p0 : IsPat [] ([] : List Int).length := isPat_of rfl (by decide) rfl (by decide)
      refine ⟨c1, [], [], rfl, .inl g1, hP0, p0, fun H4 s4 => ?_⟩
      walk_at "s"
      intro c2 m2
      have g2 : upd H4 c2 (.lst []) c2 = some (.lst (vI [])) := upd_same
      generalize upd H4 c2 (.lst []) = H5 at *
      walk_at "s"
      intro c3 m3
      have s6 := same_new (o := .lst []) m3
      have g3 : upd H5 c3 (.lst []) c3 = some (.lst (vI [])) := upd_same
      have g26 := s6 _ _ g2
      generalize upd H5 c3 (.lst []) = H6 at *
      refine ⟨c2, c3, [], [], [], rfl, .inl g26, hP0, p0, .inl g3, .refl _, fun H7 s7 => ?_⟩
      walk_at "s"
      refine r_isB ?_
      walk_at "s"
      intro c4 m4
      have g4 : upd H7 c4 (.lst [.int 2, .int 0, .int 3, .int 1]) c4 = some (.lst (vI [2, 0, 3, 1])) := upd_same
      generalize upd H7 c4 (.lst [.int 2, .int 0, .int 3, .int 1]) = H8 at *
      walk_at "s"
      have hP2 : IsPl [2, 0, 3, 1] := ⟨by decide, by decide, by decide⟩
      have p2 : IsPat [true, true, false, true, false, true, false, false] ([2, 0, 3, 1] : List Int).length := isPat_of rfl (by decide) rfl (by decide)
      refine ⟨c4, [2, 0, 3, 1], [true, true, false, true, false, true, false, false], by rw [show Str.ofString "TTRTRTRR" = pS [true, true, false, true, false, true, false, false] from by decide +kernel]; rfl, .inl g4, hP2, p2, fun H9 s9 => ?_⟩
      walk_at "s"
      rw [decide_eq_true (show prdA [true, true, false, true, false, true, false, false] 1 0 = 8 from by decide +kernel)]
      exact q _
end

theorem all_mk {l : PySem.W.OpenLaw} {w : World} {K : PySem.W.Frag} {h : Heap} {mg : Str → Option Value} {fa : Addr} (X : K.In h) (G : h.Ns mainGlobals mg) (hfa : mg "law" = some (.ref fa))
    {f_is_integer : Addr} {od_is_integer an_is_integer : Option Addr} {sl_is_integer : Array (Option Value)} {oc_is_integer kV_is_integer dc_is_integer pm_is_integer cd_is_integer ct_is_integer : Value}
    {T_is_integer : Addr} {oT_is_integer : Value} {dT_is_integer : Option Addr} {nT_is_integer : Nat} {sT_is_integer : Array (Option Value)}
    {f_is_listed : Addr} {od_is_listed an_is_listed : Option Addr} {sl_is_listed : Array (Option Value)} {oc_is_listed kV_is_listed dc_is_listed pm_is_listed cd_is_listed ct_is_listed : Value}
    {f_is_place_list : Addr} {od_is_place_list an_is_place_list : Option Addr} {sl_is_place_list : Array (Option Value)} {oc_is_place_list kV_is_place_list dc_is_place_list pm_is_place_list cd_is_place_list ct_is_place_list : Value}
    {f_checked_places : Addr} {od_checked_places an_checked_places : Option Addr} {sl_checked_places : Array (Option Value)} {oc_checked_places kV_checked_places dc_checked_places pm_checked_places cd_checked_places ct_checked_places : Value}
    {f_is_pattern : Addr} {od_is_pattern an_is_pattern : Option Addr} {sl_is_pattern : Array (Option Value)} {oc_is_pattern kV_is_pattern dc_is_pattern pm_is_pattern cd_is_pattern ct_is_pattern : Value}
    {f_check_pattern : Addr} {od_check_pattern an_check_pattern : Option Addr} {sl_check_pattern : Array (Option Value)} {oc_check_pattern kV_check_pattern dc_check_pattern pm_check_pattern cd_check_pattern ct_check_pattern : Value}
    {f_numbered : Addr} {od_numbered an_numbered : Option Addr} {sl_numbered : Array (Option Value)} {oc_numbered kV_numbered dc_numbered pm_numbered cd_numbered ct_numbered : Value}
    {f_count_results : Addr} {od_count_results an_count_results : Option Addr} {sl_count_results : Array (Option Value)} {oc_count_results kV_count_results dc_count_results pm_count_results cd_count_results ct_count_results : Value}
    {f_is_result : Addr} {od_is_result an_is_result : Option Addr} {sl_is_result : Array (Option Value)} {oc_is_result kV_is_result dc_is_result pm_is_result cd_is_result ct_is_result : Value}
    {f_law_bag : Addr} {od_law_bag an_law_bag : Option Addr} {sl_law_bag : Array (Option Value)} {oc_law_bag kV_law_bag dc_law_bag pm_law_bag cd_law_bag ct_law_bag : Value}
    {f_law_stir : Addr} {od_law_stir an_law_stir : Option Addr} {sl_law_stir : Array (Option Value)} {oc_law_stir kV_law_stir dc_law_stir pm_law_stir cd_law_stir ct_law_stir : Value}
    {f_law_draw : Addr} {od_law_draw an_law_draw : Option Addr} {sl_law_draw : Array (Option Value)} {oc_law_draw kV_law_draw dc_law_draw pm_law_draw cd_law_draw ct_law_draw : Value}
    {f_law_shuffled : Addr} {od_law_shuffled an_law_shuffled : Option Addr} {sl_law_shuffled : Array (Option Value)} {oc_law_shuffled kV_law_shuffled dc_law_shuffled pm_law_shuffled cd_law_shuffled ct_law_shuffled : Value}
    {f_law_either : Addr} {od_law_either an_law_either : Option Addr} {sl_law_either : Array (Option Value)} {oc_law_either kV_law_either dc_law_either pm_law_either cd_law_either ct_law_either : Value}
    {f_law_pattern : Addr} {od_law_pattern an_law_pattern : Option Addr} {sl_law_pattern : Array (Option Value)} {oc_law_pattern kV_law_pattern dc_law_pattern pm_law_pattern cd_law_pattern ct_law_pattern : Value}
    {f_law_places : Addr} {od_law_places an_law_places : Option Addr} {sl_law_places : Array (Option Value)} {oc_law_places kV_law_places dc_law_places pm_law_places cd_law_places ct_law_places : Value}
    {f_law_orders : Addr} {od_law_orders an_law_orders : Option Addr} {sl_law_orders : Array (Option Value)} {oc_law_orders kV_law_orders dc_law_orders pm_law_orders cd_law_orders ct_law_orders : Value}
    {f_law_due : Addr} {od_law_due an_law_due : Option Addr} {sl_law_due : Array (Option Value)} {oc_law_due kV_law_due dc_law_due pm_law_due cd_law_due ct_law_due : Value}
    {f_law_product : Addr} {od_law_product an_law_product : Option Addr} {sl_law_product : Array (Option Value)} {oc_law_product kV_law_product dc_law_product pm_law_product cd_law_product ct_law_product : Value}
    {f_law_drawn : Addr} {od_law_drawn an_law_drawn : Option Addr} {sl_law_drawn : Array (Option Value)} {oc_law_drawn kV_law_drawn dc_law_drawn pm_law_drawn cd_law_drawn ct_law_drawn : Value}
    {f_law_large_right : Addr} {od_law_large_right an_law_large_right : Option Addr} {sl_law_large_right : Array (Option Value)} {oc_law_large_right kV_law_large_right dc_law_large_right pm_law_large_right cd_law_large_right ct_law_large_right : Value}
    {f_law : Addr} {od_law an_law : Option Addr} {sl_law : Array (Option Value)} {oc_law kV_law dc_law pm_law cd_law ct_law : Value}
    {t_MAX_SIZE : Tok}
    {t_MAX_PLACE : Tok}
    {t_TAKING : Tok}
    {t_RETURNING : Tok}
    (a_is_integer : PySem.W.nsIn K mainGlobals "is_integer" = some (some (.ref f_is_integer)))
    (l_is_integer : K.lookup f_is_integer = some ⟨oc_is_integer, od_is_integer, .func (PySem.W.fnOf "is_integer" "is_integer" (defArgs Sis_integer) (defBody Sis_integer) (defScope Sis_integer) (.ref T_is_integer) kV_is_integer dc_is_integer pm_is_integer an_is_integer cd_is_integer ct_is_integer), sl_is_integer⟩)
    (t_is_integer : K.lookup T_is_integer = some ⟨oT_is_integer, dT_is_integer, .seq #[.none] nT_is_integer, sT_is_integer⟩)
    (c_is_integer : PySem.W.codeIn K cd_is_integer "is_integer" = true)
    (k_is_integer : PySem.W.keepIn K (.ref f_is_integer) = true)
    (a_is_listed : PySem.W.nsIn K mainGlobals "is_listed" = some (some (.ref f_is_listed)))
    (l_is_listed : K.lookup f_is_listed = some ⟨oc_is_listed, od_is_listed, .func (PySem.W.fnOf "is_listed" "is_listed" (defArgs Sis_listed) (defBody Sis_listed) (defScope Sis_listed) .none kV_is_listed dc_is_listed pm_is_listed an_is_listed cd_is_listed ct_is_listed), sl_is_listed⟩)
    (c_is_listed : PySem.W.codeIn K cd_is_listed "is_listed" = true)
    (k_is_listed : PySem.W.keepIn K (.ref f_is_listed) = true)
    (a_is_place_list : PySem.W.nsIn K mainGlobals "is_place_list" = some (some (.ref f_is_place_list)))
    (l_is_place_list : K.lookup f_is_place_list = some ⟨oc_is_place_list, od_is_place_list, .func (PySem.W.fnOf "is_place_list" "is_place_list" (defArgs Sis_place_list) (defBody Sis_place_list) (defScope Sis_place_list) .none kV_is_place_list dc_is_place_list pm_is_place_list an_is_place_list cd_is_place_list ct_is_place_list), sl_is_place_list⟩)
    (c_is_place_list : PySem.W.codeIn K cd_is_place_list "is_place_list" = true)
    (k_is_place_list : PySem.W.keepIn K (.ref f_is_place_list) = true)
    (a_checked_places : PySem.W.nsIn K mainGlobals "checked_places" = some (some (.ref f_checked_places)))
    (l_checked_places : K.lookup f_checked_places = some ⟨oc_checked_places, od_checked_places, .func (PySem.W.fnOf "checked_places" "checked_places" (defArgs Schecked_places) (defBody Schecked_places) (defScope Schecked_places) .none kV_checked_places dc_checked_places pm_checked_places an_checked_places cd_checked_places ct_checked_places), sl_checked_places⟩)
    (c_checked_places : PySem.W.codeIn K cd_checked_places "checked_places" = true)
    (k_checked_places : PySem.W.keepIn K (.ref f_checked_places) = true)
    (a_is_pattern : PySem.W.nsIn K mainGlobals "is_pattern" = some (some (.ref f_is_pattern)))
    (l_is_pattern : K.lookup f_is_pattern = some ⟨oc_is_pattern, od_is_pattern, .func (PySem.W.fnOf "is_pattern" "is_pattern" (defArgs Sis_pattern) (defBody Sis_pattern) (defScope Sis_pattern) .none kV_is_pattern dc_is_pattern pm_is_pattern an_is_pattern cd_is_pattern ct_is_pattern), sl_is_pattern⟩)
    (c_is_pattern : PySem.W.codeIn K cd_is_pattern "is_pattern" = true)
    (k_is_pattern : PySem.W.keepIn K (.ref f_is_pattern) = true)
    (a_check_pattern : PySem.W.nsIn K mainGlobals "check_pattern" = some (some (.ref f_check_pattern)))
    (l_check_pattern : K.lookup f_check_pattern = some ⟨oc_check_pattern, od_check_pattern, .func (PySem.W.fnOf "check_pattern" "check_pattern" (defArgs Scheck_pattern) (defBody Scheck_pattern) (defScope Scheck_pattern) .none kV_check_pattern dc_check_pattern pm_check_pattern an_check_pattern cd_check_pattern ct_check_pattern), sl_check_pattern⟩)
    (c_check_pattern : PySem.W.codeIn K cd_check_pattern "check_pattern" = true)
    (k_check_pattern : PySem.W.keepIn K (.ref f_check_pattern) = true)
    (a_numbered : PySem.W.nsIn K mainGlobals "numbered" = some (some (.ref f_numbered)))
    (l_numbered : K.lookup f_numbered = some ⟨oc_numbered, od_numbered, .func (PySem.W.fnOf "numbered" "numbered" (defArgs Snumbered) (defBody Snumbered) (defScope Snumbered) .none kV_numbered dc_numbered pm_numbered an_numbered cd_numbered ct_numbered), sl_numbered⟩)
    (c_numbered : PySem.W.codeIn K cd_numbered "numbered" = true)
    (k_numbered : PySem.W.keepIn K (.ref f_numbered) = true)
    (a_count_results : PySem.W.nsIn K mainGlobals "count_results" = some (some (.ref f_count_results)))
    (l_count_results : K.lookup f_count_results = some ⟨oc_count_results, od_count_results, .func (PySem.W.fnOf "count_results" "count_results" (defArgs Scount_results) (defBody Scount_results) (defScope Scount_results) .none kV_count_results dc_count_results pm_count_results an_count_results cd_count_results ct_count_results), sl_count_results⟩)
    (c_count_results : PySem.W.codeIn K cd_count_results "count_results" = true)
    (k_count_results : PySem.W.keepIn K (.ref f_count_results) = true)
    (a_is_result : PySem.W.nsIn K mainGlobals "is_result" = some (some (.ref f_is_result)))
    (l_is_result : K.lookup f_is_result = some ⟨oc_is_result, od_is_result, .func (PySem.W.fnOf "is_result" "is_result" (defArgs Sis_result) (defBody Sis_result) (defScope Sis_result) .none kV_is_result dc_is_result pm_is_result an_is_result cd_is_result ct_is_result), sl_is_result⟩)
    (c_is_result : PySem.W.codeIn K cd_is_result "is_result" = true)
    (k_is_result : PySem.W.keepIn K (.ref f_is_result) = true)
    (a_law_bag : PySem.W.nsIn K mainGlobals "_law_bag" = some (some (.ref f_law_bag)))
    (l_law_bag : K.lookup f_law_bag = some ⟨oc_law_bag, od_law_bag, .func (PySem.W.fnOf "_law_bag" "_law_bag" (defArgs Slaw_bag) (defBody Slaw_bag) (defScope Slaw_bag) .none kV_law_bag dc_law_bag pm_law_bag an_law_bag cd_law_bag ct_law_bag), sl_law_bag⟩)
    (c_law_bag : PySem.W.codeIn K cd_law_bag "_law_bag" = true)
    (k_law_bag : PySem.W.keepIn K (.ref f_law_bag) = true)
    (a_law_stir : PySem.W.nsIn K mainGlobals "_law_stir" = some (some (.ref f_law_stir)))
    (l_law_stir : K.lookup f_law_stir = some ⟨oc_law_stir, od_law_stir, .func (PySem.W.fnOf "_law_stir" "_law_stir" (defArgs Slaw_stir) (defBody Slaw_stir) (defScope Slaw_stir) .none kV_law_stir dc_law_stir pm_law_stir an_law_stir cd_law_stir ct_law_stir), sl_law_stir⟩)
    (c_law_stir : PySem.W.codeIn K cd_law_stir "_law_stir" = true)
    (k_law_stir : PySem.W.keepIn K (.ref f_law_stir) = true)
    (a_law_draw : PySem.W.nsIn K mainGlobals "_law_draw" = some (some (.ref f_law_draw)))
    (l_law_draw : K.lookup f_law_draw = some ⟨oc_law_draw, od_law_draw, .func (PySem.W.fnOf "_law_draw" "_law_draw" (defArgs Slaw_draw) (defBody Slaw_draw) (defScope Slaw_draw) .none kV_law_draw dc_law_draw pm_law_draw an_law_draw cd_law_draw ct_law_draw), sl_law_draw⟩)
    (c_law_draw : PySem.W.codeIn K cd_law_draw "_law_draw" = true)
    (k_law_draw : PySem.W.keepIn K (.ref f_law_draw) = true)
    (a_law_shuffled : PySem.W.nsIn K mainGlobals "_law_shuffled" = some (some (.ref f_law_shuffled)))
    (l_law_shuffled : K.lookup f_law_shuffled = some ⟨oc_law_shuffled, od_law_shuffled, .func (PySem.W.fnOf "_law_shuffled" "_law_shuffled" (defArgs Slaw_shuffled) (defBody Slaw_shuffled) (defScope Slaw_shuffled) .none kV_law_shuffled dc_law_shuffled pm_law_shuffled an_law_shuffled cd_law_shuffled ct_law_shuffled), sl_law_shuffled⟩)
    (c_law_shuffled : PySem.W.codeIn K cd_law_shuffled "_law_shuffled" = true)
    (k_law_shuffled : PySem.W.keepIn K (.ref f_law_shuffled) = true)
    (a_law_either : PySem.W.nsIn K mainGlobals "_law_either" = some (some (.ref f_law_either)))
    (l_law_either : K.lookup f_law_either = some ⟨oc_law_either, od_law_either, .func (PySem.W.fnOf "_law_either" "_law_either" (defArgs Slaw_either) (defBody Slaw_either) (defScope Slaw_either) .none kV_law_either dc_law_either pm_law_either an_law_either cd_law_either ct_law_either), sl_law_either⟩)
    (c_law_either : PySem.W.codeIn K cd_law_either "_law_either" = true)
    (k_law_either : PySem.W.keepIn K (.ref f_law_either) = true)
    (a_law_pattern : PySem.W.nsIn K mainGlobals "_law_pattern" = some (some (.ref f_law_pattern)))
    (l_law_pattern : K.lookup f_law_pattern = some ⟨oc_law_pattern, od_law_pattern, .func (PySem.W.fnOf "_law_pattern" "_law_pattern" (defArgs Slaw_pattern) (defBody Slaw_pattern) (defScope Slaw_pattern) .none kV_law_pattern dc_law_pattern pm_law_pattern an_law_pattern cd_law_pattern ct_law_pattern), sl_law_pattern⟩)
    (c_law_pattern : PySem.W.codeIn K cd_law_pattern "_law_pattern" = true)
    (k_law_pattern : PySem.W.keepIn K (.ref f_law_pattern) = true)
    (a_law_places : PySem.W.nsIn K mainGlobals "_law_places" = some (some (.ref f_law_places)))
    (l_law_places : K.lookup f_law_places = some ⟨oc_law_places, od_law_places, .func (PySem.W.fnOf "_law_places" "_law_places" (defArgs Slaw_places) (defBody Slaw_places) (defScope Slaw_places) .none kV_law_places dc_law_places pm_law_places an_law_places cd_law_places ct_law_places), sl_law_places⟩)
    (c_law_places : PySem.W.codeIn K cd_law_places "_law_places" = true)
    (k_law_places : PySem.W.keepIn K (.ref f_law_places) = true)
    (a_law_orders : PySem.W.nsIn K mainGlobals "_law_orders" = some (some (.ref f_law_orders)))
    (l_law_orders : K.lookup f_law_orders = some ⟨oc_law_orders, od_law_orders, .func (PySem.W.fnOf "_law_orders" "_law_orders" (defArgs Slaw_orders) (defBody Slaw_orders) (defScope Slaw_orders) .none kV_law_orders dc_law_orders pm_law_orders an_law_orders cd_law_orders ct_law_orders), sl_law_orders⟩)
    (c_law_orders : PySem.W.codeIn K cd_law_orders "_law_orders" = true)
    (k_law_orders : PySem.W.keepIn K (.ref f_law_orders) = true)
    (a_law_due : PySem.W.nsIn K mainGlobals "_law_due" = some (some (.ref f_law_due)))
    (l_law_due : K.lookup f_law_due = some ⟨oc_law_due, od_law_due, .func (PySem.W.fnOf "_law_due" "_law_due" (defArgs Slaw_due) (defBody Slaw_due) (defScope Slaw_due) .none kV_law_due dc_law_due pm_law_due an_law_due cd_law_due ct_law_due), sl_law_due⟩)
    (c_law_due : PySem.W.codeIn K cd_law_due "_law_due" = true)
    (k_law_due : PySem.W.keepIn K (.ref f_law_due) = true)
    (a_law_product : PySem.W.nsIn K mainGlobals "_law_product" = some (some (.ref f_law_product)))
    (l_law_product : K.lookup f_law_product = some ⟨oc_law_product, od_law_product, .func (PySem.W.fnOf "_law_product" "_law_product" (defArgs Slaw_product) (defBody Slaw_product) (defScope Slaw_product) .none kV_law_product dc_law_product pm_law_product an_law_product cd_law_product ct_law_product), sl_law_product⟩)
    (c_law_product : PySem.W.codeIn K cd_law_product "_law_product" = true)
    (k_law_product : PySem.W.keepIn K (.ref f_law_product) = true)
    (a_law_drawn : PySem.W.nsIn K mainGlobals "_law_drawn" = some (some (.ref f_law_drawn)))
    (l_law_drawn : K.lookup f_law_drawn = some ⟨oc_law_drawn, od_law_drawn, .func (PySem.W.fnOf "_law_drawn" "_law_drawn" (defArgs Slaw_drawn) (defBody Slaw_drawn) (defScope Slaw_drawn) .none kV_law_drawn dc_law_drawn pm_law_drawn an_law_drawn cd_law_drawn ct_law_drawn), sl_law_drawn⟩)
    (c_law_drawn : PySem.W.codeIn K cd_law_drawn "_law_drawn" = true)
    (k_law_drawn : PySem.W.keepIn K (.ref f_law_drawn) = true)
    (a_law_large_right : PySem.W.nsIn K mainGlobals "_law_large_right" = some (some (.ref f_law_large_right)))
    (l_law_large_right : K.lookup f_law_large_right = some ⟨oc_law_large_right, od_law_large_right, .func (PySem.W.fnOf "_law_large_right" "_law_large_right" (defArgs Slaw_large_right) (defBody Slaw_large_right) (defScope Slaw_large_right) .none kV_law_large_right dc_law_large_right pm_law_large_right an_law_large_right cd_law_large_right ct_law_large_right), sl_law_large_right⟩)
    (c_law_large_right : PySem.W.codeIn K cd_law_large_right "_law_large_right" = true)
    (k_law_large_right : PySem.W.keepIn K (.ref f_law_large_right) = true)
    (a_law : PySem.W.nsIn K mainGlobals "law" = some (some (.ref f_law)))
    (l_law : K.lookup f_law = some ⟨oc_law, od_law, .func (PySem.W.fnOf "law" "law" (defArgs Slaw) (defBody Slaw) (defScope Slaw) .none kV_law dc_law pm_law an_law cd_law ct_law), sl_law⟩)
    (c_law : PySem.W.codeIn K cd_law "law" = true)
    (k_law : PySem.W.keepIn K (.ref f_law) = true)
    (g_MAX_SIZE : PySem.W.nsIn K mainGlobals "MAX_SIZE" = some (some (.int (200) t_MAX_SIZE)))
    (g_MAX_PLACE : PySem.W.nsIn K mainGlobals "MAX_PLACE" = some (some (.int (1000000000000000000000000000000) t_MAX_PLACE)))
    (g_TAKING : PySem.W.nsIn K mainGlobals "TAKING" = some (some (.str "T" t_TAKING)))
    (g_RETURNING : PySem.W.nsIn K mainGlobals "RETURNING" = some (some (.str "R" t_RETURNING)))
    (z_len : PySem.W.nsIn K mainGlobals "len" = some none)
    (z_range : PySem.W.nsIn K mainGlobals "range" = some none)
    (z_isinstance : PySem.W.nsIn K mainGlobals "isinstance" = some none)
    (z_int : PySem.W.nsIn K mainGlobals "int" = some none)
    (z_bool : PySem.W.nsIn K mainGlobals "bool" = some none)
    (z_str : PySem.W.nsIn K mainGlobals "str" = some none)
    (z_list : PySem.W.nsIn K mainGlobals "list" = some none)
    (z_tuple : PySem.W.nsIn K mainGlobals "tuple" = some none)
    (z_set : PySem.W.nsIn K mainGlobals "set" = some none)
    (z_sorted : PySem.W.nsIn K mainGlobals "sorted" = some none)
    (z_min : PySem.W.nsIn K mainGlobals "min" = some none)
    (z_max : PySem.W.nsIn K mainGlobals "max" = some none)
    (z_sum : PySem.W.nsIn K mainGlobals "sum" = some none)
    (z_all : PySem.W.nsIn K mainGlobals "all" = some none)
    (z_any : PySem.W.nsIn K mainGlobals "any" = some none)
    (z_abs : PySem.W.nsIn K mainGlobals "abs" = some none)
    (z_repr : PySem.W.nsIn K mainGlobals "repr" = some none)
    (z_enumerate : PySem.W.nsIn K mainGlobals "enumerate" = some none)
    (z_zip : PySem.W.nsIn K mainGlobals "zip" = some none)
    (z_reversed : PySem.W.nsIn K mainGlobals "reversed" = some none)
    (z_dict : PySem.W.nsIn K mainGlobals "dict" = some none) :
    ∃ fd : FuncData, (∀ (s : Shared) (v : Value), BindsTo s fd ⟨[v], []⟩ [("script", v)]) ∧ ∀ base : Heap, K.In base → base.Ns mainGlobals mg → FnG l.prog w K mg base 6 fa fd ["script"] (spLaw K) := by
  have e := hfa.symm.trans (PySem.W.mg_of X G a_law)
  cases e
  have B : Bn mg := ⟨PySem.W.mg_none_of X G z_len, PySem.W.mg_none_of X G z_range, PySem.W.mg_none_of X G z_isinstance, PySem.W.mg_none_of X G z_int, PySem.W.mg_none_of X G z_bool, PySem.W.mg_none_of X G z_str, PySem.W.mg_none_of X G z_list, PySem.W.mg_none_of X G z_tuple, PySem.W.mg_none_of X G z_set, PySem.W.mg_none_of X G z_sorted, PySem.W.mg_none_of X G z_min, PySem.W.mg_none_of X G z_max, PySem.W.mg_none_of X G z_sum, PySem.W.mg_none_of X G z_all, PySem.W.mg_none_of X G z_any, PySem.W.mg_none_of X G z_abs, PySem.W.mg_none_of X G z_repr, PySem.W.mg_none_of X G z_enumerate, PySem.W.mg_none_of X G z_zip, PySem.W.mg_none_of X G z_reversed, PySem.W.mg_none_of X G z_dict⟩
  have c_MAX_SIZE : Gc mg "MAX_SIZE" (.int (200)) := ⟨_, PySem.W.mg_of X G g_MAX_SIZE, ⟨_, rfl⟩⟩
  have c_MAX_PLACE : Gc mg "MAX_PLACE" (.int (1000000000000000000000000000000)) := ⟨_, PySem.W.mg_of X G g_MAX_PLACE, ⟨_, rfl⟩⟩
  have c_TAKING : Gc mg "TAKING" (.str "T") := ⟨_, PySem.W.mg_of X G g_TAKING, ⟨_, rfl⟩⟩
  have c_RETURNING : Gc mg "RETURNING" (.str "R") := ⟨_, PySem.W.mg_of X G g_RETURNING, ⟨_, rfl⟩⟩
  have F_is_integer : FunD K "is_integer" "is_integer" (defArgs Sis_integer) (defBody Sis_integer) (defScope Sis_integer) [.non] [] f_is_integer _ := ⟨⟨_, _, _, _, _, _, _, _, _, _, rfl, l_is_integer, c_is_integer, .inr ⟨List.cons_ne_nil _ _, _, _, [.none], _, rfl, t_is_integer, rfl, .cons rfl (.nil)⟩, .inl rfl⟩, k_is_integer⟩
  have b_is_integer := F_is_integer.binds1 (ps := ["value", "low", "high"]) 3 1 (List.cons_ne_nil _ _) rfl fun T kV doc pm an cdv ct us its hl hi => match us, its, hl, hi with | [_, _, _], [_], _, _ => ⟨_, rfl, rfl⟩
  obtain ⟨ds_is_integer, v_is_integer, b_is_integer⟩ := b_is_integer
  have bd1_is_integer := F_is_integer.binds1 (ps := ["value", "low", "high"]) 2 0 (List.cons_ne_nil _ _) rfl fun T kV doc pm an cdv ct us its hl hi => match us, its, hl, hi with | [_, _], [_], _, _ => ⟨_, rfl, rfl⟩
  obtain ⟨ds1_is_integer, v1_is_integer, b1_is_integer⟩ := bd1_is_integer
  have F_is_listed := fun_mk (st := Sis_listed) l_is_listed c_is_listed k_is_listed
  have b_is_listed := F_is_listed.binds (ps := ["value"]) fun _ _ _ _ _ _ us hl => match us, hl with | [_], _ => rfl
  have F_is_place_list := fun_mk (st := Sis_place_list) l_is_place_list c_is_place_list k_is_place_list
  have b_is_place_list := F_is_place_list.binds (ps := ["value"]) fun _ _ _ _ _ _ us hl => match us, hl with | [_], _ => rfl
  have F_checked_places := fun_mk (st := Schecked_places) l_checked_places c_checked_places k_checked_places
  have b_checked_places := F_checked_places.binds (ps := ["value"]) fun _ _ _ _ _ _ us hl => match us, hl with | [_], _ => rfl
  have F_is_pattern := fun_mk (st := Sis_pattern) l_is_pattern c_is_pattern k_is_pattern
  have b_is_pattern := F_is_pattern.binds (ps := ["value"]) fun _ _ _ _ _ _ us hl => match us, hl with | [_], _ => rfl
  have F_check_pattern := fun_mk (st := Scheck_pattern) l_check_pattern c_check_pattern k_check_pattern
  have b_check_pattern := F_check_pattern.binds (ps := ["value", "count"]) fun _ _ _ _ _ _ us hl => match us, hl with | [_, _], _ => rfl
  have F_numbered := fun_mk (st := Snumbered) l_numbered c_numbered k_numbered
  have b_numbered := F_numbered.binds (ps := ["places"]) fun _ _ _ _ _ _ us hl => match us, hl with | [_], _ => rfl
  have F_count_results := fun_mk (st := Scount_results) l_count_results c_count_results k_count_results
  have b_count_results := F_count_results.binds (ps := ["takes", "pattern"]) fun _ _ _ _ _ _ us hl => match us, hl with | [_, _], _ => rfl
  have F_is_result := fun_mk (st := Sis_result) l_is_result c_is_result k_is_result
  have b_is_result := F_is_result.binds (ps := ["takes", "pattern", "books"]) fun _ _ _ _ _ _ us hl => match us, hl with | [_, _, _], _ => rfl
  have F_law_bag := fun_mk (st := Slaw_bag) l_law_bag c_law_bag k_law_bag
  have b_law_bag := F_law_bag.binds (ps := ["script"]) fun _ _ _ _ _ _ us hl => match us, hl with | [_], _ => rfl
  have F_law_stir := fun_mk (st := Slaw_stir) l_law_stir c_law_stir k_law_stir
  have b_law_stir := F_law_stir.binds (ps := ["number", "place"]) fun _ _ _ _ _ _ us hl => match us, hl with | [_, _], _ => rfl
  have F_law_draw := fun_mk (st := Slaw_draw) l_law_draw c_law_draw k_law_draw
  have b_law_draw := F_law_draw.binds (ps := ["bag", "bound"]) fun _ _ _ _ _ _ us hl => match us, hl with | [_, _], _ => rfl
  have F_law_shuffled := fun_mk (st := Slaw_shuffled) l_law_shuffled c_law_shuffled k_law_shuffled
  have b_law_shuffled := F_law_shuffled.binds (ps := ["bag", "items"]) fun _ _ _ _ _ _ us hl => match us, hl with | [_, _], _ => rfl
  have F_law_either := fun_mk (st := Slaw_either) l_law_either c_law_either k_law_either
  have b_law_either := F_law_either.binds (ps := ["bag", "items"]) fun _ _ _ _ _ _ us hl => match us, hl with | [_, _], _ => rfl
  have F_law_pattern := fun_mk (st := Slaw_pattern) l_law_pattern c_law_pattern k_law_pattern
  have b_law_pattern := F_law_pattern.binds (ps := ["bag", "count"]) fun _ _ _ _ _ _ us hl => match us, hl with | [_, _], _ => rfl
  have F_law_places := fun_mk (st := Slaw_places) l_law_places c_law_places k_law_places
  have b_law_places := F_law_places.binds (ps := ["bag", "count"]) fun _ _ _ _ _ _ us hl => match us, hl with | [_, _], _ => rfl
  have F_law_orders := fun_mk (st := Slaw_orders) l_law_orders c_law_orders k_law_orders
  have b_law_orders := F_law_orders.binds (ps := ["items"]) fun _ _ _ _ _ _ us hl => match us, hl with | [_], _ => rfl
  have F_law_due := fun_mk (st := Slaw_due) l_law_due c_law_due k_law_due
  have b_law_due := F_law_due.binds (ps := ["takes", "pattern", "books"]) fun _ _ _ _ _ _ us hl => match us, hl with | [_, _, _], _ => rfl
  have F_law_product := fun_mk (st := Slaw_product) l_law_product c_law_product k_law_product
  have b_law_product := F_law_product.binds (ps := ["pattern"]) fun _ _ _ _ _ _ us hl => match us, hl with | [_], _ => rfl
  have F_law_drawn := fun_mk (st := Slaw_drawn) l_law_drawn c_law_drawn k_law_drawn
  have b_law_drawn := F_law_drawn.binds (ps := ["bag", "takes", "pattern"]) fun _ _ _ _ _ _ us hl => match us, hl with | [_, _, _], _ => rfl
  have F_law_large_right := fun_mk (st := Slaw_large_right) l_law_large_right c_law_large_right k_law_large_right
  have b_law_large_right := F_law_large_right.binds (ps := ["bag", "takes", "pattern"]) fun _ _ _ _ _ _ us hl => match us, hl with | [_, _, _], _ => rfl
  have F_law := fun_mk (st := Slaw) l_law c_law k_law
  refine ⟨PySem.W.fnOf "law" "law" (defArgs Slaw) (defBody Slaw) (defScope Slaw) .none kV_law dc_law pm_law an_law cd_law ct_law, fun s v => .of_eq rfl, fun base _ _ => ?_⟩
  have D_is_integer : Df l.prog w K mg base 1 "is_integer" [] spIsInteger := ⟨_, _, _, _, ok_is_integer (k := 0) B F_is_integer, PySem.W.mg_of X G a_is_integer, k_is_integer, b_is_integer, v_is_integer⟩
  have D_is_listed : Df l.prog w K mg base 1 "is_listed" [] spIsListed := ⟨_, _, _, _, ok_is_listed (k := 0) B F_is_listed, PySem.W.mg_of X G a_is_listed, k_is_listed, b_is_listed, .nil⟩
  have D_is_place_list : Df l.prog w K mg base 2 "is_place_list" [] spIsPlaceList := ⟨_, _, _, _, ok_is_place_list B c_MAX_SIZE c_MAX_PLACE D_is_listed D_is_integer F_is_place_list, PySem.W.mg_of X G a_is_place_list, k_is_place_list, b_is_place_list, .nil⟩
  have D_checked_places : Df l.prog w K mg base 3 "checked_places" [] spCheckedPlaces := ⟨_, _, _, _, ok_checked_places B D_is_place_list F_checked_places, PySem.W.mg_of X G a_checked_places, k_checked_places, b_checked_places, .nil⟩
  have D_is_pattern : Df l.prog w K mg base 1 "is_pattern" [] spIsPattern := ⟨_, _, _, _, ok_is_pattern (k := 0) B c_MAX_SIZE c_TAKING c_RETURNING F_is_pattern, PySem.W.mg_of X G a_is_pattern, k_is_pattern, b_is_pattern, .nil⟩
  have D_check_pattern : Df l.prog w K mg base 2 "check_pattern" [] spCheckPattern := ⟨_, _, _, _, ok_check_pattern B D_is_pattern F_check_pattern, PySem.W.mg_of X G a_check_pattern, k_check_pattern, b_check_pattern, .nil⟩
  have D_numbered : Df l.prog w K mg base 1 "numbered" [] spNumbered := ⟨_, _, _, _, ok_numbered (k := 0) B F_numbered, PySem.W.mg_of X G a_numbered, k_numbered, b_numbered, .nil⟩
  have D_count_results : Df l.prog w K mg base 4 "count_results" [] spCount := ⟨_, _, _, _, ok_count_results B c_TAKING D_checked_places D_check_pattern F_count_results, PySem.W.mg_of X G a_count_results, k_count_results, b_count_results, .nil⟩
  have D_is_result : Df l.prog w K mg base 4 "is_result" [] spResB := ⟨_, _, _, _, ok_is_result B c_TAKING D_checked_places D_check_pattern D_is_place_list D_numbered F_is_result, PySem.W.mg_of X G a_is_result, k_is_result, b_is_result, .nil⟩
  have D_law_bag : Df l.prog w K mg base 1 "_law_bag" [] (spBag K) := ⟨_, _, _, _, ok_law_bag (k := 0) B F_law_bag, PySem.W.mg_of X G a_law_bag, k_law_bag, b_law_bag, .nil⟩
  have D_law_stir : Df l.prog w K mg base 1 "_law_stir" [] spStir := ⟨_, _, _, _, ok_law_stir (k := 0) F_law_stir, PySem.W.mg_of X G a_law_stir, k_law_stir, b_law_stir, .nil⟩
  have D_law_draw : Df l.prog w K mg base 2 "_law_draw" [] spDraw := ⟨_, _, _, _, ok_law_draw B D_law_stir F_law_draw, PySem.W.mg_of X G a_law_draw, k_law_draw, b_law_draw, .nil⟩
  have D_law_shuffled : Df l.prog w K mg base 3 "_law_shuffled" [] spShuffled := ⟨_, _, _, _, ok_law_shuffled B D_law_draw F_law_shuffled, PySem.W.mg_of X G a_law_shuffled, k_law_shuffled, b_law_shuffled, .nil⟩
  have D_law_either : Df l.prog w K mg base 3 "_law_either" [] spEither := ⟨_, _, _, _, ok_law_either B D_law_draw F_law_either, PySem.W.mg_of X G a_law_either, k_law_either, b_law_either, .nil⟩
  have D_law_pattern : Df l.prog w K mg base 3 "_law_pattern" [] spPattern := ⟨_, _, _, _, ok_law_pattern B D_law_draw F_law_pattern, PySem.W.mg_of X G a_law_pattern, k_law_pattern, b_law_pattern, .nil⟩
  have D_law_places : Df l.prog w K mg base 4 "_law_places" [] spPlaces := ⟨_, _, _, _, ok_law_places B D_law_draw D_law_shuffled F_law_places, PySem.W.mg_of X G a_law_places, k_law_places, b_law_places, .nil⟩
  have D_law_product : Df l.prog w K mg base 1 "_law_product" [] spProduct := ⟨_, _, _, _, ok_law_product (k := 0) B F_law_product, PySem.W.mg_of X G a_law_product, k_law_product, b_law_product, .nil⟩
  have D_law_due : Df l.prog w K mg base 1 "_law_due" [] spDue11 := ⟨_, _, _, _, ok_law_due (k := 0) B F_law_due, PySem.W.mg_of X G a_law_due, k_law_due, b_law_due, .nil⟩
  have D_law_drawn : Df l.prog w K mg base 3 "_law_drawn" [] spDrawn11 := ⟨_, _, _, _, ok_law_drawn B D_law_draw F_law_drawn, PySem.W.mg_of X G a_law_drawn, k_law_drawn, b_law_drawn, .nil⟩
  have D_law_orders : Df l.prog w K mg base 1 "_law_orders" [] spOrders := ⟨_, _, _, _, ok_law_orders (k := 0) B F_law_orders, PySem.W.mg_of X G a_law_orders, k_law_orders, b_law_orders, .nil⟩
  have D_law_large_right : Df l.prog w K mg base 5 "_law_large_right" [] spLarge := ⟨_, _, _, _, ok_law_large_right B D_law_draw D_law_either D_law_drawn D_count_results D_law_product D_is_result D_law_due F_law_large_right, PySem.W.mg_of X G a_law_large_right, k_law_large_right, b_law_large_right, .nil⟩
  exact ok_law B D_law_bag D_law_draw D_law_places D_law_pattern D_law_large_right D_law_orders D_law_due D_is_result D_count_results F_law
theorem the_walk {l : PySem.W.OpenLaw} {q : Program} {loose : List Str} {XP : (Str → Option Value) → Heap → Prop} {YP : World → Heap → Prop} {d : DefRec} {K : Params → PySem.W.Frag} (hn : l.most = some 63) (hdf : d.params.defaults = [])
    (hY : ∀ (w : World) (h : Heap), YP w h → (K w.params).In h)
    (F : ∀ (w : World) (mg : Str → Option Value) (fa : Addr) (h : Heap), (K w.params).In h → h.Ns mainGlobals mg → mg d.name = some (.ref fa) →
      ∃ fd : FuncData, (∀ (s : Shared) (u : Value), BindsTo s fd ⟨[u], []⟩ [("script", u)]) ∧ ∀ base : Heap, (K w.params).In base → base.Ns mainGlobals mg → FnG l.prog w (K w.params) mg base 6 fa fd ["script"] (spLaw (K w.params))) :
    PySem.W.WalkO q loose XP YP l.row.toRowW d [] (fun f vs => PySem.call f vs) :=
  Lx.gwalk (n := 63) (k := 6) (x := "script") (sp := fun w => spLaw (K w.params)) hn (by decide) hdf ⟨rfl, by decide, by decide⟩ hY F (fun _ _ a ns hl hb hS => ⟨a, ns, rfl, hS, hl, fun _ => rfl⟩)
end My
open PySem PySem.W PyProof.Rows in
set_option maxRecDepth 100000 in
set_option maxHeartbeats 0 in
theorem PySem.Challenge.cw_leftreturn_k11_results_of_patterns_holds : PySem.Challenge.rw_leftreturn_k11_results_of_patterns.Holds := by
  w_on; o_law; k_head; (case hw => w_witness2)
  k_fill
  refine My.the_walk (l := PySem.Challenge.rw_leftreturn_k11_results_of_patterns) rfl rfl (fun w h Y => PySem.W.kIn_of Y) ?F
  case F =>
    intro w mg fa h KX G hmg
    refine' My.all_mk KX G hmg ?a_is_integer ?l_is_integer ?t_is_integer ?c_is_integer ?k_is_integer ?a_is_listed ?l_is_listed ?c_is_listed ?k_is_listed ?a_is_place_list ?l_is_place_list ?c_is_place_list ?k_is_place_list ?a_checked_places ?l_checked_places ?c_checked_places ?k_checked_places ?a_is_pattern ?l_is_pattern ?c_is_pattern ?k_is_pattern ?a_check_pattern ?l_check_pattern ?c_check_pattern ?k_check_pattern ?a_numbered ?l_numbered ?c_numbered ?k_numbered ?a_count_results ?l_count_results ?c_count_results ?k_count_results ?a_is_result ?l_is_result ?c_is_result ?k_is_result ?a_law_bag ?l_law_bag ?c_law_bag ?k_law_bag ?a_law_stir ?l_law_stir ?c_law_stir ?k_law_stir ?a_law_draw ?l_law_draw ?c_law_draw ?k_law_draw ?a_law_shuffled ?l_law_shuffled ?c_law_shuffled ?k_law_shuffled ?a_law_either ?l_law_either ?c_law_either ?k_law_either ?a_law_pattern ?l_law_pattern ?c_law_pattern ?k_law_pattern ?a_law_places ?l_law_places ?c_law_places ?k_law_places ?a_law_orders ?l_law_orders ?c_law_orders ?k_law_orders ?a_law_due ?l_law_due ?c_law_due ?k_law_due ?a_law_product ?l_law_product ?c_law_product ?k_law_product ?a_law_drawn ?l_law_drawn ?c_law_drawn ?k_law_drawn ?a_law_large_right ?l_law_large_right ?c_law_large_right ?k_law_large_right ?a_law ?l_law ?c_law ?k_law ?g_MAX_SIZE ?g_MAX_PLACE ?g_TAKING ?g_RETURNING ?z_len ?z_range ?z_isinstance ?z_int ?z_bool ?z_str ?z_list ?z_tuple ?z_set ?z_sorted ?z_min ?z_max ?z_sum ?z_all ?z_any ?z_abs ?z_repr ?z_enumerate ?z_zip ?z_reversed ?z_dict
    (case a_is_integer => k_is)
    (case l_is_integer => k_is)
    (case t_is_integer => k_is)
    (case c_is_integer => k_is)
    (case k_is_integer => k_is)
    (case a_is_listed => k_is)
    (case l_is_listed => k_is)
    (case c_is_listed => k_is)
    (case k_is_listed => k_is)
    (case a_is_place_list => k_is)
    (case l_is_place_list => k_is)
    (case c_is_place_list => k_is)
    (case k_is_place_list => k_is)
    (case a_checked_places => k_is)
    (case l_checked_places => k_is)
    (case c_checked_places => k_is)
    (case k_checked_places => k_is)
    (case a_is_pattern => k_is)
    (case l_is_pattern => k_is)
    (case c_is_pattern => k_is)
    (case k_is_pattern => k_is)
    (case a_check_pattern => k_is)
    (case l_check_pattern => k_is)
    (case c_check_pattern => k_is)
    (case k_check_pattern => k_is)
    (case a_numbered => k_is)
    (case l_numbered => k_is)
    (case c_numbered => k_is)
    (case k_numbered => k_is)
    (case a_count_results => k_is)
    (case l_count_results => k_is)
    (case c_count_results => k_is)
    (case k_count_results => k_is)
    (case a_is_result => k_is)
    (case l_is_result => k_is)
    (case c_is_result => k_is)
    (case k_is_result => k_is)
    (case a_law_bag => k_is)
    (case l_law_bag => k_is)
    (case c_law_bag => k_is)
    (case k_law_bag => k_is)
    (case a_law_stir => k_is)
    (case l_law_stir => k_is)
    (case c_law_stir => k_is)
    (case k_law_stir => k_is)
    (case a_law_draw => k_is)
    (case l_law_draw => k_is)
    (case c_law_draw => k_is)
    (case k_law_draw => k_is)
    (case a_law_shuffled => k_is)
    (case l_law_shuffled => k_is)
    (case c_law_shuffled => k_is)
    (case k_law_shuffled => k_is)
    (case a_law_either => k_is)
    (case l_law_either => k_is)
    (case c_law_either => k_is)
    (case k_law_either => k_is)
    (case a_law_pattern => k_is)
    (case l_law_pattern => k_is)
    (case c_law_pattern => k_is)
    (case k_law_pattern => k_is)
    (case a_law_places => k_is)
    (case l_law_places => k_is)
    (case c_law_places => k_is)
    (case k_law_places => k_is)
    (case a_law_orders => k_is)
    (case l_law_orders => k_is)
    (case c_law_orders => k_is)
    (case k_law_orders => k_is)
    (case a_law_due => k_is)
    (case l_law_due => k_is)
    (case c_law_due => k_is)
    (case k_law_due => k_is)
    (case a_law_product => k_is)
    (case l_law_product => k_is)
    (case c_law_product => k_is)
    (case k_law_product => k_is)
    (case a_law_drawn => k_is)
    (case l_law_drawn => k_is)
    (case c_law_drawn => k_is)
    (case k_law_drawn => k_is)
    (case a_law_large_right => k_is)
    (case l_law_large_right => k_is)
    (case c_law_large_right => k_is)
    (case k_law_large_right => k_is)
    (case a_law => k_is)
    (case l_law => k_is)
    (case c_law => k_is)
    (case k_law => k_is)
    (case g_MAX_SIZE => k_is)
    (case g_MAX_PLACE => k_is)
    (case g_TAKING => k_is)
    (case g_RETURNING => k_is)
    (case z_len => k_is)
    (case z_range => k_is)
    (case z_isinstance => k_is)
    (case z_int => k_is)
    (case z_bool => k_is)
    (case z_str => k_is)
    (case z_list => k_is)
    (case z_tuple => k_is)
    (case z_set => k_is)
    (case z_sorted => k_is)
    (case z_min => k_is)
    (case z_max => k_is)
    (case z_sum => k_is)
    (case z_all => k_is)
    (case z_any => k_is)
    (case z_abs => k_is)
    (case z_repr => k_is)
    (case z_enumerate => k_is)
    (case z_zip => k_is)
    (case z_reversed => k_is)
    (case z_dict => k_is)
