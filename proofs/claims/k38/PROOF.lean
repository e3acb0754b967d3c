import PyProof.Rows.All
import Wide.All
import OpenK.AllK
import Wide.FinOn
import HandS.ForMost
import HandS.WordsExc
import HandS.Wide
import HandS.Defaults
import HandS.SortInts
import HandS.IsInst
import HandS.EndBits
import PyProof.ReprRoads
import HandS.Conv
import HandS.Style
import HandS.NoneIn
import HandS.TupAny
import PyProof.Rows.ChunkEnd
import PySem.Challenge.RW_leftreturn_k38_cycles_of_orders
set_option Elab.async false
set_option linter.all false
set_option maxRecDepth 100000
set_option maxHeartbeats 4000000
namespace Lx
open PySem PySem.Spec PyProof.Rows L2

/-! ### a def's promise where no repr runs around it -/
structure FnG (P : Program) (w : World) (K : PySem.W.Frag) (mg : Str → Option Value) (base : Heap) (k : Nat) (f : Addr) (fd : FuncData) (ps : List Str) (sp : Sp) : Prop where
  ln : ∀ us H Q E, sp us H Q E → us.length = ps.length
  go : ∀ (A : Around) (fs : List Env) (s : Shared) (H : Hp) (ar : Args) (us : List Value) (vs : List V) (Q : VK) (E : XK), A.guards = some [] → Room k A → Env0 P w K mg base A fs s H →
    BindsTo s fd ar (ps.zip us) → Vals vs us → sp vs H Q E → codeAny (model P w) A (.call (.ref f) ar) (CR (L2.CX P w) fs P w H s Q E) s
section
variable {P : Program} {w : World} {K : PySem.W.Frag} {mg : Str → Option Value} {base : Heap}
theorem FnG.up {j k : Nat} {f : Addr} {fd : FuncData} {ps : List Str} {sp : Sp} (F : FnG P w K mg base j f fd ps sp) (h : j ≤ k) : FnG P w K mg base k f fd ps sp :=
  ⟨F.ln, fun A fs s H ar us vs Q E hg hr => F.go A fs s H ar us vs Q E hg (hr.mono h)⟩
theorem FnG.imp {k : Nat} {f : Addr} {fd : FuncData} {ps : List Str} {sp sp' : Sp} (F : FnG P w K mg base k f fd ps sp) (h : ∀ vs H Q E, sp' vs H Q E → sp vs H Q E) : FnG P w K mg base k f fd ps sp' :=
  ⟨fun vs H Q E z => F.ln vs H Q E (h _ _ _ _ z), fun A fs s H ar us vs Q E hg hr e b v z => F.go A fs s H ar us vs Q E hg hr e b v (h _ _ _ _ z)⟩
theorem FnG.of {k : Nat} {f : Addr} {fd : FuncData} {ps : List Str} {sp : Sp} (F : FnOk P w K mg base (L2.CX P w) k f fd ps sp) : FnG P w K mg base k f fd ps sp :=
  ⟨F.len, fun A fs s H ar us vs Q E _ hr => F.run A fs s H ar us vs Q E hr⟩

/-- the rule for a def: its body's term, read where no repr runs -/
theorem graw {x qual : Str} {st : Stmt} {f : Addr} {dV kV doc pm cdv ct oc : Value} {an od : Option Addr} {osl : Array (Option Value)} {N ps : List Str} {k : Nat} {sp : Sp}
    (lk : K.lookup f = some ⟨oc, od, .func (PySem.W.fnOf x qual (defArgs st) (defBody st) (defScope st) dV kV doc pm an cdv ct), osl⟩) (hcd : PySem.W.codeIn K cdv qual = true) (S : FnScope N ps (defScope st)) (ln : ∀ vs H Q E, sp vs H Q E → vs.length = ps.length)
    (hb : ∀ (A : Around) (fs : List Env) (s : Shared) (H : Hp) (vs : List V) (Q : VK) (E : XK), (A.deeper (envOfC qual (defScope st) s.heap.objs.size f cdv)).guards = some [] → Room k (A.deeper (envOfC qual (defScope st) s.heap.objs.size f cdv)) → sp vs H Q E →
      ∃ t, PSs (cxOf (L2.CX P w) P w K mg base N qual (defScope st) f cdv A fs s H E) (defBody st) t ∧ t { nx := fun _ H' => Q .non H', rt := Q } (start N vs) H) : FnG P w K mg base (k + 1) f (PySem.W.fnOf x qual (defArgs st) (defBody st) (defScope st) dV kV doc pm an cdv ct) ps sp := by
  refine ⟨ln, fun A fs s H ar us vs Q E hg hr e0 hbd rv hs => ?_⟩
  have hl := ln _ _ _ _ hs
  have inK : K.In s.heap := e0.mod.kin.keeps (fun b o z => (e0.bs b o z).1)
  have nl : s.heap.NoLimit := e0.mod.nolimit.keeps (fun b o z => (e0.bs b o z).1)
  have kinds : ∀ y ∈ ps.zip us, (defScope st).names.lookup y.1 = some .local ∨ ((defScope st).names.lookup y.1 = some .cell ∧ ((cellsFrom (s.heap.objs.size + 1) (defScope st).names []).lookup y.1).isSome = true) := by
    rintro ⟨n, v⟩ hy
    have hm := S.par n (List.of_mem_zip hy).1
    cases hm with
    | inl q => exact Or.inl q
    | inr q => exact Or.inr ⟨q, PySem.W.cellsFrom_some _ _ _ (Or.inl q)⟩
  apply codeAny_call_function hr.depth (inK _ _ lk) rfl S.co S.gen rfl (PySem.W.codeRec_of inK hcd)
  apply hbd
  apply wpAny_newFunctionEnv_cells S.kind kinds
  intro env he s1 x
  subst he
  refine ⟨nl.keeps x.toInCall.keep, codeAny_func ?_⟩
  obtain ⟨t, ht, hq⟩ := hb A fs s H vs Q E hg (hr.deeper _) hs
  have I := inv_start (CX := L2.CX P w) (P := P) (w := w) (K := K) (mg := mg) (base := base) (f := f) (cd := cdv) (qual := qual) (E := E) S hr.hd e0 hl rv x
  apply wpAny_mono (ht.run [] s1 (start N vs) H _ I hq)
  · intro fl s' z
    have done : ∀ {σ' : L2.St} {H' : Hp} {v : V} {u : Value}, Inv (cxOf (L2.CX P w) P w K mg base N qual (defScope st) f cdv A fs s H E) [] σ' H' s' → RelV v u → Q v H' → CE fs P w H s Q u s' := by
      intro σ' H' v u J r q
      exact ⟨v, H', J.os, J.bare, J.base, J.hok, r, q⟩
    cases fl with
    | next => exact let ⟨_, _, J, q⟩ := z; done (v := V.non) (u := Value.none) J rfl q
    | brk => exact let ⟨_, _, _, q⟩ := z; q.elim
    | cont => exact let ⟨_, _, _, q⟩ := z; q.elim
    | ret u => exact let ⟨_, _, _, J, r, q⟩ := z; done J r q
  · exact fun _ _ z => z
theorem gok {x qual : Str} {st : Stmt} {f : Addr} {fd : FuncData} {N ps : List Str} {k : Nat} {sp : Sp} (F : Fun K x qual st f fd) (S : FnScope N ps (defScope st)) (ln : ∀ vs H Q E, sp vs H Q E → vs.length = ps.length)
    (hb : ∀ (cdv : Value) (A : Around) (fs : List Env) (s : Shared) (H : Hp) (vs : List V) (Q : VK) (E : XK), (A.deeper (envOfC qual (defScope st) s.heap.objs.size f cdv)).guards = some [] → Room k (A.deeper (envOfC qual (defScope st) s.heap.objs.size f cdv)) → sp vs H Q E →
      ∃ t, PSs (cxOf (L2.CX P w) P w K mg base N qual (defScope st) f cdv A fs s H E) (defBody st) t ∧ t { nx := fun _ H' => Q .non H', rt := Q } (start N vs) H) : FnG P w K mg base (k + 1) f fd ps sp := by
  obtain ⟨oc, od, kV, doc, pm, an, cdv, ct, osl, rfl, lk, hcd⟩ := F.ex
  exact graw lk hcd S ln (hb cdv)
theorem gokD {x qual : Str} {st : Stmt} {f : Addr} {fd : FuncData} {N ps : List Str} {k : Nat} {sp : Sp} {dvs : List V} {kws : List (Str × V)} (F : FunD K x qual (defArgs st) (defBody st) (defScope st) dvs kws f fd) (S : FnScope N ps (defScope st)) (ln : ∀ vs H Q E, sp vs H Q E → vs.length = ps.length)
    (hb : ∀ (cdv : Value) (A : Around) (fs : List Env) (s : Shared) (H : Hp) (vs : List V) (Q : VK) (E : XK), (A.deeper (envOfC qual (defScope st) s.heap.objs.size f cdv)).guards = some [] → Room k (A.deeper (envOfC qual (defScope st) s.heap.objs.size f cdv)) → sp vs H Q E →
      ∃ t, PSs (cxOf (L2.CX P w) P w K mg base N qual (defScope st) f cdv A fs s H E) (defBody st) t ∧ t { nx := fun _ H' => Q .non H', rt := Q } (start N vs) H) : FnG P w K mg base (k + 1) f fd ps sp := by
  obtain ⟨oc, od, dV, kV, doc, pm, an, cdv, ct, osl, rfl, lk, hcd, _, _⟩ := F.ex
  exact graw lk hcd S ln (hb cdv)

/-- a def as callers see it: n values written, the defaults dvs fill up -/
structure Df (P : Program) (w : World) (K : PySem.W.Frag) (mg : Str → Option Value) (base : Heap) (k : Nat) (x : Str) (dvs : List V) (sp : Sp) : Prop where
  ex : ∃ (f : Addr) (fd : FuncData) (ps : List Str) (ds : List Value), FnG P w K mg base k f fd ps sp ∧ mg x = some (.ref f) ∧ PySem.W.keepIn K (.ref f) = true ∧ Binds K fd ps ds ∧ Vals dvs ds
theorem Df.up {j k : Nat} {x : Str} {dvs : List V} {sp : Sp} (D : Df P w K mg base j x dvs sp) (h : j ≤ k) : Df P w K mg base k x dvs sp :=
  let ⟨f, fd, ps, ds, F, r⟩ := D.ex; ⟨f, fd, ps, ds, F.up h, r⟩
theorem Df.imp {k : Nat} {x : Str} {dvs : List V} {sp sp' : Sp} (D : Df P w K mg base k x dvs sp) (h : ∀ vs H Q E, sp' vs H Q E → sp vs H Q E) : Df P w K mg base k x dvs sp' :=
  let ⟨f, fd, ps, ds, F, r⟩ := D.ex; ⟨f, fd, ps, ds, F.imp h, r⟩
end

/-! ### calls -/
section
variable {X : Cx} {k : Nat} {f C : Addr} {fd : FuncData} {ps : List Str} {sp : Sp} {dvs : List V} {ds : List Value} {E : XK} {x m : Str} {p pos apos : Pos} {e o : Expr} {es : List Expr} {ta : TE} {t : TA}
theorem grun {pins : List (Addr × Obj)} {σ : L2.St} {H : Hp} {s : Shared} {Q : VK} {us : List Value} {vs : List V} (F : FnG X.prog X.w X.K X.mg X.base k f fd ps sp) (hG : X.A.guards = some []) (hr : Room k X.A) (hb : Binds X.K fd ps ds) (hd : Vals dvs ds)
    (hx : Passes (L2.CX X.prog X.w) X E) (I : Inv X pins σ H s) (r : Vals vs us) (h : sp (vs ++ dvs) H Q E) : wpAny (model X.prog X.w) X.A (call (.ref f) us) (EP X pins σ Q) X.xe s := by
  have rv := r.append hd
  have z := F.go X.A X.stack s H ⟨us, []⟩ (us ++ ds) (vs ++ dvs) Q E hG hr I.env0 (hb s us I.kIn (rv.length.symm.trans (F.ln _ _ _ _ h))) rv h
  refine wpAny_call (codeAny_mono z ?_)
  intro r s' hq
  cases r with
  | error e => exact hx pins σ H s e s' I hq
  | ok fl => cases fl with
    | ret u => exact I.after hq
    | next => exact hq.elim
    | brk => exact hq.elim
    | cont => exact hq.elim
theorem gcall (F : FnG X.prog X.w X.K X.mg X.base k f fd ps sp) (hG : X.A.guards = some []) (hr : Room k X.A) (hg : Gl X x) (hm : X.mg x = some (.ref f)) (hk : PySem.W.keepIn X.K (.ref f) = true) (hb : Binds X.K fd ps ds) (hd : Vals dvs ds) (hx : Passes (L2.CX X.prog X.w) X E)
    (ha : PA X (e :: es) t) (hdb : (x == ("__debug__" : Str)) = false := by decide) (he : starEach (e :: es) X.env = (false, eval e X.env) :: starEach es X.env := by rfl) (hpl : (backTo pos (starEach es X.env)).any (·.1) = false := by rfl) :
    PE X (.Call (.Name x p) (e :: es) [] pos) (tCall sp dvs E t) := by
  constructor
  intro pins s σ H Q I h
  apply wpAny_Call_Name_kw
  refine ld_glob I hg hm ?_ hdb
  have z := ha.run pos pins s σ H _ I h
  exact PySem.W.callWith_K (h₀ := X.base) I.ok.mod.kin hk (thn z (fun us s1 y => let ⟨_, _, I1, r, q⟩ := y; ⟨I1.kIn, grun F hG hr hb hd hx I1 r q⟩)) he hpl
theorem gcall0 (F : FnG X.prog X.w X.K X.mg X.base k f fd ps sp) (hG : X.A.guards = some []) (hr : Room k X.A) (hg : Gl X x) (hm : X.mg x = some (.ref f)) (hk : PySem.W.keepIn X.K (.ref f) = true) (hb : Binds X.K fd ps ds) (hd : Vals dvs ds) (hx : Passes (L2.CX X.prog X.w) X E)
    (hdb : (x == ("__debug__" : Str)) = false := by decide) : PE X (.Call (.Name x p) [] [] pos) (tCall sp dvs E tNil) := by
  constructor
  intro pins s σ H Q I h
  apply wpAny_Call_Name_kw
  refine ld_glob I hg hm ?_ hdb
  exact PySem.W.callWith_K0 I.kIn hk (grun (us := []) F hG hr hb hd hx I .nil h)
/-- f(..), f a def of the text -/
theorem pe_df (D : Df X.prog X.w X.K X.mg X.base k x dvs sp) (hG : X.A.guards = some []) (hr : Room k X.A) (hx : Passes (L2.CX X.prog X.w) X E) (hg : Gl X x) (ha : PA X (e :: es) t)
    (hdb : (x == ("__debug__" : Str)) = false := by decide) (he : starEach (e :: es) X.env = (false, eval e X.env) :: starEach es X.env := by rfl) (hpl : (backTo pos (starEach es X.env)).any (·.1) = false := by rfl) :
    PE X (.Call (.Name x p) (e :: es) [] pos) (tCall sp dvs E t) :=
  let ⟨_, _, _, _, F, hm, hk, hb, hd⟩ := D.ex; gcall F hG hr hg hm hk hb hd hx ha hdb he hpl
theorem pe_df0 (D : Df X.prog X.w X.K X.mg X.base k x dvs sp) (hG : X.A.guards = some []) (hr : Room k X.A) (hx : Passes (L2.CX X.prog X.w) X E) (hg : Gl X x) (hdb : (x == ("__debug__" : Str)) = false := by decide) : PE X (.Call (.Name x p) [] [] pos) (tCall sp dvs E tNil) :=
  let ⟨_, _, _, _, F, hm, hk, hb, hd⟩ := D.ex; gcall0 F hG hr hg hm hk hb hd hx hdb
/-- a constant of the module -/
def Gc (mg : Str → Option Value) (x : Str) (v : V) : Prop := ∃ u, mg x = some u ∧ RelV v u
theorem pe_gc {v : V} (h : Gc X.mg x v) (hg : Gl X x) (hd : (x == ("__debug__" : Str)) = false := by decide) : PE X (.Name x pos) (tC v) :=
  ⟨fun pins s σ H Q I q => let ⟨_, hm, r⟩ := h; (pe_glob hg hm r hd).run pins s σ H Q I q⟩
end
end Lx

namespace Lx
open PySem PySem.Spec PyProof.Rows L2

/-- what the end wants of the heap told: at most the script -/
structure Told (K : PySem.W.Frag) (a : Addr) (H : Hp) : Prop where
  only : Only H
  one : ∀ b u, H b = some u → b = a ∧ K.lookup a = none
section
variable {P : Program} {w : World} {K : PySem.W.Frag} {mg mb : Str → Option Value} {k : Nat} {fa a : Addr} {fd : FuncData} {x : Str} {sp : Sp} {s : Shared} {vs : List Value} {ns : List Int}
theorem Told.low (T : Told K a H) {b : Addr} {o : Obj} (hb : s.heap.get? b = some o) (n : b ≠ a) : (hidT s.heap H).get? b = some o := by
  apply hidT_get hb
  cases q : H b with
  | none => rfl
  | some u => exact (n (T.one b u q).1).elim
theorem Told.lowK (T : Told K a H) (KX : K.In s.heap) : K.In (hidT s.heap H) := by
  intro b o e
  apply hidT_get (KX b o e)
  cases q : H b with
  | none => rfl
  | some u =>
    have z := T.one b u q
    rw [z.1, z.2] at e
    cases e
theorem Told.nsp (T : Told K a H) (hl : s.heap.get? a = some { cls := .type "list", data := .seq vs.toArray }) {b : Addr} {m : Str → Option Value} (h : s.heap.Ns b m) : (hidT s.heap H).Ns b m := by
  obtain ⟨o, es, ep, h1, h2, h3⟩ := h
  refine ⟨o, es, ep, T.low h1 ?_, h2, h3⟩
  rintro rfl
  rw [hl] at h1
  cases h1
  cases h2
theorem glaw1 {H : Hp} (T : Told K a H) (KX : K.In s.heap) (hm : s.heap.Ns mainGlobals mg) (hb : s.heap.Ns builtinsNs mb) (hbb : ∀ x : Str, x ≠ "__name__" → mb x = bootBuiltins x) (lim : s.heap.NoLimit) (hg : s.gens = #[])
    (hl : s.heap.get? a = some { cls := .type "list", data := .seq vs.toArray }) (hr : Room k callerA)
    (F : ∀ base : Heap, K.In base → base.Ns mainGlobals mg → FnG P w K mg base k fa fd [x] sp) (bind : ∀ (s : Shared) (u : Value), BindsTo s fd ⟨[u], []⟩ [(x, u)])
    (ok : HOk P w H s.heap) (hsp : sp [.ref a] H (fun v _ => v = .bl true) fun _ _ _ => False) :
    codeAny (model P w) callerA (.call (.ref fa) ⟨[.ref a], []⟩) (fun r s' => r = .ok (.ret (.bool true)) ∧ OldK s.heap s'.heap ∧ s'.os = s.os ∧ AllBare s'.gens) s := by
  have KB := T.lowK KX
  have md : Mod K mg (hidT s.heap H) := ⟨KB, T.nsp hl hm, ⟨mb, T.nsp hl hb, hbb⟩, by
    obtain ⟨m, h1, h2⟩ := lim
    exact ⟨m, T.nsp hl h1, h2⟩⟩
  have noFr : ∀ b ∈ frs ([] : List Env), H b = none := by
    intro b z
    cases z
  have e0 : Env0 P w K mg (hidT s.heap H) callerA [] s H := { frames := rfl, mod := md, bs := fun b o e => of_hidT e, bsz := Nat.le_of_eq (hidT_size _ _), funs := trivial, frf := noFr, hok := ok, bare := .of_eq hg }
  have run := (F _ KB md.glob).go callerA [] s H ⟨[.ref a], []⟩ [.ref a] [.ref a] (fun v _ => v = .bl true) (fun _ _ _ => False) rfl hr e0 (bind s (.ref a)) (.cons rfl .nil) hsp
  refine codeAny_mono run ?_
  intro r s' q
  match r, q with
  | .error e, q => exact (by obtain ⟨_, _, _, _, _, _, _, _, _, _, _, _, z⟩ := q; exact z.elim)
  | .ok .next, q => exact q.elim
  | .ok .brk, q => exact q.elim
  | .ok .cont, q => exact q.elim
  | .ok (.ret u), q =>
    obtain ⟨v, H', os, bare, un, ok', rv, e⟩ := q
    have e' : v = V.bl true := e
    subst e'
    have eu : u = Value.bool true := rv
    refine ⟨by rw [eu], OldK.of_keep ?_, os, bare⟩
    intro b o hb
    cases z : H b with
    | none => exact un.keep b o hb z (fun y => by cases y) (fun y => by cases y)
    | some u =>
      cases T.only b with
      | inl y => rw [z] at y; cases y
      | inr y =>
        obtain ⟨ob, xs, y⟩ := y
        have w1 := (ok b _ y).1
        have w2 := (ok' b _ (un.frzs b ob _ y)).1
        rw [hb] at w1
        rw [Option.some.inj w1]
        exact w2
theorem glaw (KX : K.In s.heap) (hm : s.heap.Ns mainGlobals mg) (hb : s.heap.Ns builtinsNs mb) (hbb : ∀ x : Str, x ≠ "__name__" → mb x = bootBuiltins x) (lim : s.heap.NoLimit) (hg : s.gens = #[])
    (hl : s.heap.get? a = some { cls := .type "list", data := .seq vs.toArray }) (hi : IntsAre vs ns) (hz : ns.length ≤ sizeLine) (hr : Room k callerA)
    (F : ∀ base : Heap, K.In base → base.Ns mainGlobals mg → FnG P w K mg base k fa fd [x] sp) (bind : ∀ (s : Shared) (u : Value), BindsTo s fd ⟨[u], []⟩ [(x, u)])
    (hsp : ∀ H : Hp, SqL K H a (ns.map V.int) → sp [.ref a] H (fun v _ => v = .bl true) fun _ _ _ => False) :
    codeAny (model P w) callerA (.call (.ref fa) ⟨[.ref a], []⟩) (fun r s' => r = .ok (.ret (.bool true)) ∧ OldK s.heap s'.heap ∧ s'.os = s.os ∧ AllBare s'.gens) s := by
  have rv := vals_ints hi
  have lv : vs.length = ns.length := hi.length
  by_cases hk : K.lookup a = none
  · have tell : ∀ b, (fun b => if b = a then some (HO.frz { cls := .type "list", data := .seq vs.toArray } (.lst (ns.map V.int))) else none : Hp) b = none ∨ b = a := by
      intro b
      by_cases e : b = a
      · exact .inr e
      · exact .inl (if_neg e)
    refine glaw1 (H := fun b => if b = a then some (.frz { cls := .type "list", data := .seq vs.toArray } (.lst (ns.map V.int))) else none) ⟨?_, ?_⟩ KX hm hb hbb lim hg hl hr F bind ?_ (hsp _ (.inl (.inr ⟨_, if_pos rfl⟩)))
    · intro b
      cases tell b with
      | inl e => exact .inl e
      | inr e => exact .inr ⟨_, _, if_pos e⟩
    · intro b u e
      cases tell b with
      | inl z => exact absurd (z.symm.trans e) (by simp)
      | inr z => exact ⟨z, hk⟩
    · intro b u e
      cases tell b with
      | inl z => exact absurd (z.symm.trans e) (by simp)
      | inr z =>
        subst z
        have eu := Option.some.inj ((if_pos rfl).symm.trans e)
        subst eu
        exact ⟨hl, (by rw [List.length_map]; exact hz), vs, 0, rv, hl⟩
  · obtain ⟨o, ho⟩ := Option.ne_none_iff_exists'.mp hk
    have e := KX a o ho
    rw [hl] at e
    have eo := Option.some.inj e
    subst eo
    have noH : ∀ (b : Addr) (u : HO), ((fun _ => none : Hp) b = some u) → False := by
      intro b u z
      cases z
    refine glaw1 (H := fun _ => none) ⟨fun b => .inl rfl, fun b u z => (noH b u z).elim⟩ KX hm hb hbb lim hg hl hr F bind (fun b u z => (noH b u z).elim) (hsp _ (.inr ?_))
    exact ⟨_, vs.toArray, _, ho, rfl, rfl, rfl, by rw [List.size_toArray, lv]; exact hz, by simpa using rv⟩
end
theorem gwalk {l : PySem.W.OpenLaw} {n k : Nat} {q : Program} {loose : List Str} {XP : (Str → Option Value) → Heap → Prop} {YP : World → Heap → Prop} {d : DefRec} {K : Params → PySem.W.Frag} {sp : World → Sp} {x : Str}
    (hn : l.most = some n) (hn2 : n ≤ sizeLine) (hdf : d.params.defaults = []) (hr : Room k callerA) (hY : ∀ (w : World) (h : Heap), YP w h → (K w.params).In h)
    (F : ∀ (w : World) (mg : Str → Option Value) (fa : Addr) (h : Heap), (K w.params).In h → h.Ns mainGlobals mg → mg d.name = some (.ref fa) →
      ∃ fd : FuncData, (∀ (s : Shared) (u : Value), BindsTo s fd ⟨[u], []⟩ [(x, u)]) ∧ ∀ base : Heap, (K w.params).In base → base.Ns mainGlobals mg → FnG l.prog w (K w.params) mg base k fa fd [x] (sp w))
    (hsp : ∀ (w : World) (H : Hp) (a : Addr) (ns : List Int), ns.length ≤ n → (∀ z ∈ ns, Builtin.Int.intBits z ≤ 1048576) → SqL (K w.params) H a (ns.map V.int) → sp w [.ref a] H (fun v _ => v = .bl true) fun _ _ _ => False) :
    PySem.W.WalkO q loose XP YP l.row.toRowW d [] (fun f vs => PySem.call f vs) := by
  apply Att.attach_callB hn hdf
  intro w s₀ s₁ mg mb fa o pm cd doc a vs ns G Y ho hd hcd hmg hobj hints hlen hbits hg
  obtain ⟨fd, b, hF⟩ := F w mg fa _ (hY w _ Y) G.T.g hmg
  exact glaw (hY w _ Y) G.T.g G.T.b G.T.builtins G.T.nolimit hg hobj hints (Nat.le_trans hlen hn2) hr hF b (fun H hS => hsp w H a ns hlen hbits hS)
end Lx

namespace Lx
open PySem PySem.Spec PyProof.Rows L2

/-! ### built-in names -/
theorem Blen : bootBuiltins "len" = some (.builtin "len") := by decide +kernel
theorem Bisinstance : bootBuiltins "isinstance" = some (.builtin "isinstance") := by decide +kernel
theorem Babs : bootBuiltins "abs" = some (.builtin "abs") := by decide +kernel
theorem Bmin : bootBuiltins "min" = some (.builtin "min") := by decide +kernel
theorem Bmax : bootBuiltins "max" = some (.builtin "max") := by decide +kernel
theorem Bsorted : bootBuiltins "sorted" = some (.builtin "sorted") := by decide +kernel
theorem Bsum : bootBuiltins "sum" = some (.builtin "sum") := by decide +kernel
theorem Ball : bootBuiltins "all" = some (.builtin "all") := by decide +kernel
theorem Bany : bootBuiltins "any" = some (.builtin "any") := by decide +kernel
theorem Brepr : bootBuiltins "repr" = some (.builtin "repr") := by decide +kernel
theorem Tint : bootBuiltins "int" = some (.type "int") := by decide +kernel
theorem Tbool : bootBuiltins "bool" = some (.type "bool") := by decide +kernel
theorem Tstr : bootBuiltins "str" = some (.type "str") := by decide +kernel
theorem Tlist : bootBuiltins "list" = some (.type "list") := by decide +kernel
theorem Ttuple : bootBuiltins "tuple" = some (.type "tuple") := by decide +kernel
theorem Tset : bootBuiltins "set" = some (.type "set") := by decide +kernel
theorem Tdict : bootBuiltins "dict" = some (.type "dict") := by decide +kernel
/-- the module gives none of these names a meaning of its own -/
structure Bn (mg : Str → Option Value) : Prop where
  len : mg "len" = none
  range : mg "range" = none
  isinstance : mg "isinstance" = none
  int : mg "int" = none
  bool : mg "bool" = none
  str : mg "str" = none
  list : mg "list" = none
  tuple : mg "tuple" = none
  set : mg "set" = none
  sorted : mg "sorted" = none
  min : mg "min" = none
  max : mg "max" = none
  sum : mg "sum" = none
  all : mg "all" = none
  any : mg "any" = none
  abs : mg "abs" = none
  repr : mg "repr" = none
  enumerate : mg "enumerate" = none
  zip : mg "zip" = none
  reversed : mg "reversed" = none

/-! ### repr of data -/
def rRepr (K : PySem.W.Frag) : List V → Hp → VK → Prop := fun xs H Q => ∃ x d, xs = [x] ∧ Dp K H x d ∧ d.showable = true ∧ d.hasDict = false ∧ d.depth ≤ 32 ∧ d.shown.length ≤ sizeLine ∧ Q (.str d.shown) H
theorem call_reprD {X : Cx} (hG : X.A.guards = some []) (hu : X.A.units + 64 < cLine) : CallR X (.builtin "repr") (rRepr X.K) := by
  intro pins s σ H xs us Q I r h
  obtain ⟨x, d, rfl, hd, hs, hn, hp, hz, q⟩ := h
  cases r with
  | cons r rr =>
    cases rr
    rename_i u
    obtain ⟨as, rd⟩ := Dp.reads I d x u hd r
    cases hd with
    | non => cases r; exact P.repr_of_none ⟨.str _, H, I.tok _, ⟨_, rfl⟩, q⟩
    | bl b => cases r; exact P.repr_of_bool ⟨.str _, H, I.tok _, ⟨_, rfl⟩, q⟩
    | int i =>
      obtain ⟨t, rfl⟩ := r
      exact P.repr_of_int (of_decide_eq_true hs) ⟨.str _, H, I.tok _, ⟨_, rfl⟩, q⟩
    | str y =>
      obtain ⟨t, rfl⟩ := r
      exact P.repr_of_str ⟨.str _, H, I.tok _, ⟨_, rfl⟩, q⟩ hz
    | lst h1 h2 =>
      cases r
      exact repr_of_reads' rd hs (fun e => by rw [hn] at e; cases e) hG (by omega) (fun _ _ e => e) (fun h' v tk k => ⟨.str _, H, I.kept (t' := tk) k, ⟨_, rfl⟩, q⟩) hz
    | tup h1 h2 =>
      cases r
      exact repr_of_reads' rd hs (fun e => by rw [hn] at e; cases e) hG (by omega) (fun _ _ e => e) (fun h' v tk k => ⟨.str _, H, I.kept (t' := tk) k, ⟨_, rfl⟩, q⟩) hz
/-! ### how long a shown datum is -/
theorem textFrom_le (m : Nat) : ∀ (ts : List Str) (k : Nat) (acc : Str), (∀ t ∈ ts, t.length ≤ m) → (textFrom k acc ts).length ≤ acc.length + ts.length * (m + 2)
  | [], k, acc, _ => Nat.le_add_right _ _
  | t :: r, k, acc, h => by
    have ih := textFrom_le m r (k + 1) (acc ++ (if k > 0 then ", " else "" : String) ++ t) fun u hu => h u (List.mem_cons_of_mem _ hu)
    have ht := h t List.mem_cons_self
    have e : (acc ++ (if k > 0 then ", " else "" : String) ++ t).length ≤ acc.length + 2 + t.length := by
      rw [strLen_append, strLen_append]
      split <;> exact Nat.add_le_add_right (Nat.add_le_add_left (by decide) _) _
    rw [List.length_cons, Nat.succ_mul]
    show (textFrom (k + 1) _ r).length ≤ _
    omega
theorem shownAll_mem : ∀ {ds : List PyData} {t : Str}, t ∈ PyData.shownAll ds → ∃ d ∈ ds, t = d.shown
  | [], t, h => by cases h
  | d :: ds, t, h => by
    rcases List.mem_cons.mp (show t ∈ d.shown :: PyData.shownAll ds from h) with e | h
    · exact ⟨d, List.mem_cons_self, e⟩
    · obtain ⟨x, hx, e⟩ := shownAll_mem h
      exact ⟨x, List.mem_cons_of_mem _ hx, e⟩
theorem shownAll_len : ∀ ds : List PyData, (PyData.shownAll ds).length = ds.length
  | [] => rfl
  | _ :: ds => congrArg Nat.succ (shownAll_len ds)
theorem piled_le (m : Nat) : ∀ ts : List Str, (∀ t ∈ ts, t.length ≤ m) → piled ts ≤ ts.length * (m + 2)
  | [], _ => by rw [piled_nil]; exact Nat.zero_le _
  | t :: r, h => by
    have ih := piled_le m r fun u hu => h u (List.mem_cons_of_mem _ hu)
    have ht := h t List.mem_cons_self
    rw [piled_cons, List.length_cons, Nat.succ_mul]
    omega
theorem list_shown {ds : List PyData} {m : Nat} (h : ∀ d ∈ ds, d.shown.length ≤ m) : (PyData.list ds).shown.length ≤ ds.length * (m + 2) + 2 := by
  have z := textFrom_le m (PyData.shownAll ds) 0 "[" fun t ht => by
    obtain ⟨d, hd, e⟩ := shownAll_mem ht
    rw [e]
    exact h d hd
  rw [shownAll_len] at z
  show (textFrom 0 "[" (PyData.shownAll ds) ++ "]" : Str).length ≤ _
  rw [strLen_append]
  have e1 : (("[" : String) : Str).length = 1 := rfl
  have e2 : (("]" : String) : Str).length = 1 := rfl
  omega
theorem tuple_shown {ds : List PyData} {m : Nat} (h : ∀ d ∈ ds, d.shown.length ≤ m) : (PyData.tuple ds).shown.length ≤ ds.length * (m + 2) + 3 := by
  have hm : ∀ t ∈ PyData.shownAll ds, t.length ≤ m := fun t ht => by
    obtain ⟨d, hd, e⟩ := shownAll_mem ht
    rw [e]
    exact h d hd
  have z := piled_le m (PyData.shownAll ds) hm
  rw [shownAll_len] at z
  show (("(" : Str) ++ Str.join ", " (PyData.shownAll ds) ++ (if (PyData.shownAll ds).length == 1 then ",)" else ")" : String)).length ≤ _
  rw [strLen_append, strLen_append]
  have e1 : (("(" : String) : Str).length = 1 := rfl
  have e3 : (((if (PyData.shownAll ds).length == 1 then ",)" else ")" : String) : Str)).length ≤ 2 := by split <;> decide
  by_cases e : PyData.shownAll ds = []
  · rw [e] at e3 ⊢
    have e4 : (Str.join ", " ([] : List Str)).length = 0 := rfl
    rw [e4]
    omega
  · have j := join_length_add _ e
    omega
theorem int_shown {i : Int} {k : Nat} (hk : 0 < k) (h0 : 0 ≤ i) (h : i < 10 ^ k) : (PyData.int i).shown.length ≤ k := toString_length_le h0 hk h

/-! ### heaps -/
theorem _root_.L2.Same.get {H H' : Hp} {a : Addr} {o : HO} (s : Same H H') (h : H a = some o) : H' a = some o := s a o h
theorem same_new {H : Hp} {p : Addr} {o : HO} (n : H p = none) : Same H (upd H p o) := by
  intro b u e
  rw [upd_ne (ne_of_none e n)]
  exact e
theorem same_set {H H' : Hp} {p : Addr} {o : HO} (s : Same H H') (n : H p = none) : Same H (upd H' p o) := by
  intro b u e
  rw [upd_ne (ne_of_none e n)]
  exact s b u e
theorem ne_new {H : Hp} {a b : Addr} {o : HO} (n : H b = none) (h : H a = some o) : a ≠ b := ne_of_none h n
/-- all but what stands at r is as it was -/
def Kp (r : Addr) (H H' : Hp) : Prop := ∀ b o, b ≠ r → H b = some o → H' b = some o
theorem Kp.refl (r : Addr) (H : Hp) : Kp r H H := fun _ _ _ h => h
theorem Kp.of {r : Addr} {H H' : Hp} (s : Same H H') : Kp r H H' := fun b o _ h => s b o h
theorem Kp.trans {r : Addr} {H H1 H2 : Hp} (a : Kp r H H1) (b : Kp r H1 H2) : Kp r H H2 := fun c o n h => b c o n (a c o n h)
theorem Kp.set {r : Addr} {H : Hp} {o : HO} : Kp r H (upd H r o) := fun b u n e => by rw [upd_ne n]; exact e
theorem Kp.put {r p : Addr} {H H' : Hp} {o : HO} (k : Kp r H H') (n : H p = none) : Kp r H (upd H' p o) := fun b u m e => by
  rw [upd_ne (ne_of_none e n)]
  exact k b u m e
theorem Kp.free {r p : Addr} {H H' : Hp} (k : Kp r H H') (n : H' p = none) (m : p ≠ r) : H p = none := by
  cases q : H p with
  | none => rfl
  | some o => rw [k p o m q] at n; cases n
theorem Kp.get {r a : Addr} {H H' : Hp} {o : HO} (k : Kp r H H') (n : a ≠ r) (h : H a = some o) : H' a = some o := k a o n h
theorem lst_of {K : PySem.W.Frag} {H : Hp} {a : Addr} {xs : List V} (h : H a = some (.lst xs)) : SqL K H a xs := .inl (.inl h)
theorem tup_of {K : PySem.W.Frag} {H : Hp} {a : Addr} {xs : List V} (h : H a = some (.tup xs)) : SqT K H a xs := .inl (.inl h)
theorem Kp.seq {K : PySem.W.Frag} {r : Addr} {H H' : Hp} {a : Addr} {xs : List V} (k : Kp r H H') (n : a ≠ r) (h : SqL K H a xs) : SqL K H' a xs := by
  rcases h with (h | ⟨o, h⟩) | h
  · exact .inl (.inl (k _ _ n h))
  · exact .inl (.inr ⟨o, k _ _ n h⟩)
  · exact .inr h
theorem Kp.seqT {K : PySem.W.Frag} {r : Addr} {H H' : Hp} {a : Addr} {xs : List V} (k : Kp r H H') (n : a ≠ r) (h : SqT K H a xs) : SqT K H' a xs := by
  rcases h with (h | ⟨o, h⟩) | h
  · exact .inl (.inl (k _ _ n h))
  · exact .inl (.inr ⟨o, k _ _ n h⟩)
  · exact .inr h
theorem _root_.L2.Same.seqT {K : PySem.W.Frag} {H H' : Hp} {a : Addr} {xs : List V} (k : Same H H') (h : SqT K H a xs) : SqT K H' a xs := by
  rcases h with (h | ⟨o, h⟩) | h
  · exact .inl (.inl (k _ _ h))
  · exact .inl (.inr ⟨o, k _ _ h⟩)
  · exact .inr h

/-! ### the layer's rules whose readings have no name, named -/
def rIsN' : R2 := fun x y H Q => y = .non ∧ Q (.bl (decide (x = .non))) H
def rNotN' : R2 := fun x y H Q => y = .non ∧ Q (.bl (!decide (x = .non))) H
def rLen (K : PySem.W.Frag) : List V → Hp → VK → Prop := fun xs H Q => ∃ p ys, xs = [.ref p] ∧ (SqL K H p ys ∨ SqT K H p ys) ∧ Q (.int ys.length) H
def rLenS : List V → Hp → VK → Prop := fun xs H Q => ∃ z, xs = [.str z] ∧ z.length ≤ sizeLine ∧ Q (.int z.length) H
def rAbs : List V → Hp → VK → Prop := fun xs H Q => ∃ i, xs = [.int i] ∧ Q (.int (if i < 0 then -i else i)) H
def rMax2 : List V → Hp → VK → Prop := fun xs H Q => ∃ i j, xs = [.int i, .int j] ∧ Q (.int (if j > i then j else i)) H
def rMin2 : List V → Hp → VK → Prop := fun xs H Q => ∃ i j, xs = [.int i, .int j] ∧ Q (.int (if j < i then j else i)) H
def rInt1 : List V → Hp → VK → Prop := fun xs H Q => (∃ i, xs = [.int i] ∧ Q (.int i) H) ∨ ∃ k, xs = [.bl k] ∧ Q (.int (if k then 1 else 0)) H
def rStrI : List V → Hp → VK → Prop := fun xs H Q => ∃ i, xs = [.int i] ∧ i.natAbs.log2 < 1920 ∧ Q (.str (toString i)) H
def rListOf (K : PySem.W.Frag) : List V → Hp → VK → Prop := fun xs H Q => ∃ p ys, xs = [.ref p] ∧ (SqL K H p ys ∨ SqT K H p ys) ∧ ∀ l, H l = none → Q (.ref l) (upd H l (.lst ys))
def rTupleOf (K : PySem.W.Frag) : List V → Hp → VK → Prop := fun xs H Q => ∃ p ys, xs = [.ref p] ∧ ((SqL K H p ys ∧ ∀ l, H l = none → Q (.ref l) (upd H l (.tup ys))) ∨ (SqT K H p ys ∧ Q (.ref p) H))
section
variable {X : Cx}
theorem op_isN' : OpR X (compareOp .Is) rIsN' := op_isN
theorem op_notN' : OpR X (compareOp .IsNot) rNotN' := op_notN
theorem call_len' : CallR X (.builtin "len") (rLen X.K) := call_len_seq
theorem call_lenS' : CallR X (.builtin "len") rLenS := call_len_str
theorem call_abs' : CallR X (.builtin "abs") rAbs := call_abs
theorem call_max2' (hc : X.calm = true) : CallR X (.builtin "max") rMax2 := call_max2 hc
theorem call_min2' (hc : X.calm = true) : CallR X (.builtin "min") rMin2 := call_min2 hc
theorem call_int1' : CallR X (.type "int") rInt1 := call_int1
theorem call_str' : CallR X (.type "str") rStrI := call_str_int
theorem call_list' : CallR X (.type "list") (rListOf X.K) := call_list_of
theorem call_tuple' : CallR X (.type "tuple") (rTupleOf X.K) := call_tuple_of
end
/-! ### readings, one rule a word -/
section
variable {σ : L2.St} {H : Hp} {Q : VK} {D : Ends} {ta tb tc te : TE} {t u : TT} {ts tu : TS} {tA tB' : TA} {i j : Nat} {x y v : V} {R : L2.St → Hp → Prop} {B : Bool → Hp → Prop} {L : List V → Hp → Prop}
theorem r_seq (h : ts { D with nx := tu D } σ H) : tSeq ts tu D σ H := h
theorem r_next (h : D.nx σ H) : tNext D σ H := h
theorem r_nx {n b c : L2.St → Hp → Prop} {r : VK} (h : n σ H) : Ends.nx ⟨n, r, b, c⟩ σ H := h
theorem r_rt {n b c : L2.St → Hp → Prop} {r : VK} (h : r v H) : Ends.rt ⟨n, r, b, c⟩ v H := h
theorem r_bk {n b c : L2.St → Hp → Prop} {r : VK} (h : b σ H) : Ends.bk ⟨n, r, b, c⟩ σ H := h
theorem r_ct {n b c : L2.St → Hp → Prop} {r : VK} (h : c σ H) : Ends.ct ⟨n, r, b, c⟩ σ H := h
theorem r_brk (h : D.bk σ H) : tBreak D σ H := h
theorem r_cont (h : D.ct σ H) : tCont D σ H := h
theorem r_ret (h : te σ H D.rt) : tRet te D σ H := h
theorem r_retN (h : D.rt .non H) : tRetN D σ H := h
theorem r_drop (h : te σ H fun _ H1 => D.nx σ H1) : tDrop te D σ H := h
theorem r_if (h : t σ H fun b H1 => if b = true then ts D σ H1 else tu D σ H1) : tIfS t ts tu D σ H := h
theorem r_asg {g : TG} (h : te σ H fun x H1 => g x σ H1 D.nx) : tAsg te g D σ H := h
theorem r_par (h : tA σ H fun vs H1 => ∃ v w, vs = [v, w] ∧ D.nx ((σ.set i (some v)).set j (some w)) H1) : tPar i j tA D σ H := h
theorem r_par3 {l : Nat} (h : tA σ H fun vs H1 => ∃ u v w, vs = [u, v, w] ∧ D.nx (((σ.set i (some u)).set j (some v)).set l (some w)) H1) : tPar3 i j l tA D σ H := h
theorem r_two {P : V → V → Prop} (h : P x y) : ∃ v w, [x, y] = [v, w] ∧ P v w := ⟨x, y, rfl, h⟩
theorem r_three {z : V} {P : V → V → V → Prop} (h : P x y z) : ∃ u v w, [x, y, z] = [u, v, w] ∧ P u v w := ⟨x, y, z, rfl, h⟩
theorem r_name (h : R (σ.set i (some v)) H) : gName i v σ H R := h
theorem r_sub {ti to : TE} {s : TSet} (h : to σ H fun o H1 => ti σ H1 fun i H2 => s o i v H2 fun H3 => R σ H3) : gSub to ti s v σ H R := h
theorem r_setL {p : Addr} {xs : List V} {k : Int} {n : Nat} {R : Hp → Prop} (h : H p = some (.lst xs)) (e : ixN xs.length k = some n) (q : R (upd H p (.lst (xs.set n v)))) : rSetL (.ref p) (.int k) v H R := ⟨p, xs, k, n, rfl, rfl, h, e, q⟩
theorem r_gtup {K : PySem.W.Frag} {n : Nat} {g : TGs} {a : Addr} {xs : List V} (h : SqT K H a xs) (e : xs.length = n) (q : g xs σ H R) : gTup K n g (.ref a) σ H R := ⟨a, xs, rfl, h, e, q⟩
theorem r_gunl {K : PySem.W.Frag} {n : Nat} {g : TGs} {a : Addr} {xs : List V} (h : SqL K H a xs) (e : xs.length = n) (q : g xs σ H R) : gUnl K n g (.ref a) σ H R := ⟨a, xs, rfl, h, e, q⟩
theorem r_gcons {g : TG} {gs : TGs} {xs : List V} (h : g x σ H fun σ' H' => gs xs σ' H' R) : gCons g gs (x :: xs) σ H R := ⟨x, xs, rfl, h⟩
theorem r_gnil (h : R σ H) : gNil [] σ H R := ⟨rfl, h⟩
theorem r_var (h : σ[i]? = some (some v)) (q : Q v H) : tVar i σ H Q := ⟨v, h, q⟩
theorem r_c (q : Q v H) : tC v σ H Q := q
theorem r_op {r : R2} (h : ta σ H fun x H1 => tb σ H1 fun y H2 => r x y H2 Q) : tOp r ta tb σ H Q := h
theorem r_un {r : V → Hp → VK → Prop} (h : ta σ H fun x H1 => r x H1 Q) : tUn r ta σ H Q := h
theorem r_test (h : te σ H fun x H' => ∃ k, x = .bl k ∧ B k H') : tTest te σ H B := h
theorem r_B (h : te σ H fun x H' => ∃ k, x = .bl k ∧ B k H') : tB te σ H B := h
theorem r_bl {k : Bool} {P : Bool → Prop} (h : P k) : ∃ k', V.bl k = .bl k' ∧ P k' := ⟨k, rfl, h⟩
theorem r_and (h : t σ H fun c H1 => if c = true then u σ H1 B else B false H1) : tAnd t u σ H B := h
theorem r_or (h : t σ H fun c H1 => if c = true then B true H1 else u σ H1 B) : tOr t u σ H B := h
theorem r_not (h : t σ H fun c H1 => B (!c) H1) : tNot t σ H B := h
theorem r_andV (h : ta σ H fun x H1 => ∃ c, x = .bl c ∧ if c = true then tb σ H1 Q else Q (.bl false) H1) : tAndV ta tb σ H Q := h
theorem r_orV (h : ta σ H fun x H1 => ∃ c, x = .bl c ∧ if c = true then Q (.bl true) H1 else tb σ H1 Q) : tOrV ta tb σ H Q := h
theorem r_notV (h : ta σ H fun x H1 => ∃ c, x = .bl c ∧ Q (.bl (!c)) H1) : tNotV ta σ H Q := h
theorem r_ifE (h : t σ H fun c H1 => if c = true then ta σ H1 Q else tb σ H1 Q) : tIf t ta tb σ H Q := h
theorem r_chain {r r' : R2} (h : ta σ H fun x H1 => tb σ H1 fun y H2 => r x y H2 fun z H3 => ∃ k, z = .bl k ∧ (if k = true then tc σ H3 fun w' H4 => r' y w' H4 Q else Q (.bl false) H3)) : tChain r r' ta tb tc σ H Q := h
theorem r_nil (h : L [] H) : tNil σ H L := h
theorem r_cons (h : ta σ H fun x H1 => tA σ H1 fun xs H2 => L (x :: xs) H2) : tCons ta tA σ H L := h
theorem r_CB {r : List V → Hp → VK → Prop} (h : tA σ H fun vs H1 => r vs H1 Q) : tCB r tA σ H Q := h
theorem r_call {sp : Sp} {dvs : List V} {E : XK} (h : tA σ H fun vs H1 => sp (vs ++ dvs) H1 Q E) : tCall sp dvs E tA σ H Q := h
theorem r_tup (h : tA σ H fun xs H1 => xs.length ≤ sizeLine ∧ ∀ p, H1 p = none → Q (.ref p) (upd H1 p (.tup xs))) : tTup tA σ H Q := h
theorem r_lst (h : tA σ H fun xs H1 => xs.length ≤ sizeLine ∧ ∀ p, H1 p = none → Q (.ref p) (upd H1 p (.lst xs))) : tLst tA σ H Q := h
theorem r_new {n : Nat} {P : Prop} (hn : n ≤ 1000) (h : P) : n ≤ sizeLine ∧ P := ⟨Nat.le_trans hn (by decide), h⟩
theorem r_BM {K : PySem.W.Frag} {T : String} {r : V → List V → Hp → VK → Prop} (h : te σ H fun x H1 => tyV K T x H1 ∧ tA σ H1 fun xs H2 => r x xs H2 Q) : tBM K T r te tA σ H Q := h
theorem r_BM0 {K : PySem.W.Frag} {T : String} {r : V → List V → Hp → VK → Prop} (h : te σ H fun x H1 => tyV K T x H1 ∧ r x [] H1 Q) : tBM0 K T r te σ H Q := h
theorem r_ty {K : PySem.W.Frag} {p : Addr} {xs : List V} {P : Prop} (h : H p = some (.lst xs)) (q : P) : tyV K "list" (.ref p) H ∧ P := ⟨.inl ⟨rfl, xs, .inl (.inl h)⟩, q⟩
theorem r_tyS {K : PySem.W.Frag} {z : Str} {P : Prop} (q : P) (h : tyV K "str" (.str z) H := by exact ⟨_, rfl⟩) : tyV K "str" (.str z) H ∧ P := ⟨h, q⟩
theorem r_I0 {g : Int → Int → V} {a b : Int} (q : Q (g a b) H) : rI0 g (.int a) (.int b) H Q := ⟨a, b, rfl, rfl, q⟩
theorem r_I {C : Int → Int → Prop} {g : Int → Int → V} {a b : Int} (c : C a b) (q : Q (g a b) H) : rI C g (.int a) (.int b) H Q := ⟨a, b, rfl, rfl, c, q⟩
theorem r_U {g : Int → V} {a : Int} (q : Q (g a) H) : rU g (.int a) H Q := ⟨a, rfl, q⟩
theorem r_eqI {a b : Int} (q : Q (.bl (decide (a = b))) H) : rEq (.int a) (.int b) H Q := by
  refine ⟨rfl, ?_⟩
  rw [show decide (V.int a = V.int b) = decide (a = b) by simp]
  exact q
theorem r_neI {a b : Int} (q : Q (.bl (!decide (a = b))) H) : rNe (.int a) (.int b) H Q := by
  refine ⟨rfl, ?_⟩
  rw [show decide (V.int a = V.int b) = decide (a = b) by simp]
  exact q
theorem r_eqS {a b : Str} (q : Q (.bl (decide (a = b))) H) : rEq (.str a) (.str b) H Q := by
  refine ⟨rfl, ?_⟩
  rw [show decide (V.str a = V.str b) = decide (a = b) by simp]
  exact q
theorem r_neS {a b : Str} (q : Q (.bl (!decide (a = b))) H) : rNe (.str a) (.str b) H Q := by
  refine ⟨rfl, ?_⟩
  rw [show decide (V.str a = V.str b) = decide (a = b) by simp]
  exact q
theorem r_eqB {a b : Bool} (q : Q (.bl (decide (a = b))) H) : rEq (.bl a) (.bl b) H Q := by
  refine ⟨rfl, ?_⟩
  rw [show decide (V.bl a = V.bl b) = decide (a = b) by simp]
  exact q
theorem r_neB {a b : Bool} (q : Q (.bl (!decide (a = b))) H) : rNe (.bl a) (.bl b) H Q := by
  refine ⟨rfl, ?_⟩
  rw [show decide (V.bl a = V.bl b) = decide (a = b) by simp]
  exact q
theorem r_ixL {K : PySem.W.Frag} {p : Addr} {xs : List V} {a : Int} (h : SqL K H p xs) (e : atI xs a = some v) (q : Q v H) : rIxL K (.ref p) (.int a) H Q := ⟨p, xs, a, v, rfl, rfl, h, e, q⟩
theorem r_ixT {K : PySem.W.Frag} {p : Addr} {xs : List V} {a : Int} (h : SqT K H p xs) (e : atI xs a = some v) (q : Q v H) : rIxT K (.ref p) (.int a) H Q := ⟨p, xs, a, v, rfl, rfl, h, e, q⟩
theorem r_app {p : Addr} {xs : List V} (h : H p = some (.lst xs)) (z : xs.length < sizeLine) (q : Q .non (upd H p (.lst (xs ++ [v])))) : rAppend (.ref p) [v] H Q := ⟨p, xs, v, rfl, rfl, h, z, q⟩
theorem r_sl {r : V → Option Int → Option Int → Hp → VK → Prop} {tl th : TO} (h : te σ H fun x H1 => tl σ H1 fun l H2 => th σ H2 fun u H3 => r x l u H3 Q) : tSl r te tl th σ H Q := h
theorem r_nop {O : Option Int → Hp → Prop} (h : O none H) : tNoPart σ H O := h
theorem r_part {O : Option Int → Hp → Prop} (h : te σ H fun x H1 => ∃ i, x = .int i ∧ O (some i) H1) : tPart te σ H O := h
theorem r_int {a : Int} {P : Int → Prop} (h : P a) : ∃ i, V.int a = .int i ∧ P i := ⟨a, rfl, h⟩
theorem r_slL {K : PySem.W.Frag} {p : Addr} {xs : List V} {lo hi : Option Int} (h : SqL K H p xs) (q : ∀ n, H n = none → Q (.ref n) (upd H n (.lst (cutV xs lo hi)))) : rSlL K (.ref p) lo hi H Q := ⟨p, xs, rfl, h, q⟩
theorem r_cat {a b : Addr} {xs zs : List V} (h : H a = some (.lst xs)) (h' : H b = some (.lst zs)) (z : xs.length + zs.length ≤ sizeLine) (q : ∀ p, H p = none → Q (.ref p) (upd H p (.lst (xs ++ zs)))) : rCat (.ref a) (.ref b) H Q := ⟨a, b, xs, zs, rfl, rfl, h, h', z, q⟩
theorem r_revL {K : PySem.W.Frag} (h : te σ H fun x H1 => ∃ a xs, x = .ref a ∧ SqL K H1 a xs ∧ ∀ p, H1 p = none → Q (.ref p) (upd H1 p (.lst xs.reverse))) : tRevL K te σ H Q := h
theorem r_lstRg {tr : L2.St → Hp → (Int → Int → Hp → Prop) → Prop} (h : tr σ H fun a b H1 => RgOk a b ∧ ∀ q, H1 q = none → Q (.ref q) (upd H1 q (.lst (rgV a b)))) : tLstRg tr σ H Q := h
theorem r_rg1 {P : Int → Int → Hp → Prop} (h : te σ H fun x H1 => ∃ n, x = .int n ∧ P 0 n H1) : tRg1 te σ H P := h
theorem r_aug {ti : TIp} (h : σ[i]? = some (some x)) (q : te σ H fun y H1 => ti x y H1 fun z H2 => D.nx (σ.set i (some z)) H2) : tAug i te ti D σ H := ⟨x, h, q⟩
theorem r_ip {f : Int → Int → Int} {a b : Int} (q : Q (.int (f a b)) H) : ipI f (.int a) (.int b) H Q := ⟨a, b, rfl, rfl, q⟩
theorem r_isN0 (q : Q (.bl true) H) : rIsN' .non .non H Q := ⟨rfl, q⟩
theorem r_isNi {a : Int} (q : Q (.bl false) H) : rIsN' (.int a) .non H Q := ⟨rfl, q⟩
theorem r_isNr {a : Addr} (q : Q (.bl false) H) : rIsN' (.ref a) .non H Q := ⟨rfl, q⟩
theorem r_isNb {a : Bool} (q : Q (.bl false) H) : rIsN' (.bl a) .non H Q := ⟨rfl, q⟩
theorem r_isNs {a : Str} (q : Q (.bl false) H) : rIsN' (.str a) .non H Q := ⟨rfl, q⟩
theorem r_isN {a : V} (q : Q (.bl (decide (a = .non))) H) : rIsN' a .non H Q := ⟨rfl, q⟩
theorem r_notN0 (q : Q (.bl false) H) : rNotN' .non .non H Q := ⟨rfl, q⟩
theorem r_notNi {a : Int} (q : Q (.bl true) H) : rNotN' (.int a) .non H Q := ⟨rfl, q⟩
theorem r_notNr {a : Addr} (q : Q (.bl true) H) : rNotN' (.ref a) .non H Q := ⟨rfl, q⟩
theorem r_notN {a : V} (q : Q (.bl (!decide (a = .non))) H) : rNotN' a .non H Q := ⟨rfl, q⟩
theorem r_len {K : PySem.W.Frag} {p : Addr} {xs : List V} (h : SqL K H p xs ∨ SqT K H p xs) (q : Q (.int xs.length) H) : rLen K [.ref p] H Q := ⟨p, xs, rfl, h, q⟩
theorem r_lenS {z : Str} (h : z.length ≤ sizeLine) (q : Q (.int z.length) H) : rLenS [.str z] H Q := ⟨z, rfl, h, q⟩
theorem r_abs {a : Int} (q : Q (.int (if a < 0 then -a else a)) H) : rAbs [.int a] H Q := ⟨a, rfl, q⟩
theorem r_max2 {a b : Int} (q : Q (.int (if b > a then b else a)) H) : rMax2 [.int a, .int b] H Q := ⟨a, b, rfl, q⟩
theorem r_min2 {a b : Int} (q : Q (.int (if b < a then b else a)) H) : rMin2 [.int a, .int b] H Q := ⟨a, b, rfl, q⟩
theorem r_inti {a : Int} (q : Q (.int a) H) : rInt1 [.int a] H Q := .inl ⟨a, rfl, q⟩
theorem r_intb {b : Bool} (q : Q (.int (if b then 1 else 0)) H) : rInt1 [.bl b] H Q := .inr ⟨b, rfl, q⟩
theorem r_listOf {K : PySem.W.Frag} {p : Addr} {xs : List V} (h : SqL K H p xs ∨ SqT K H p xs) (q : ∀ l, H l = none → Q (.ref l) (upd H l (.lst xs))) : rListOf K [.ref p] H Q := ⟨p, xs, rfl, h, q⟩
theorem r_tupleL {K : PySem.W.Frag} {p : Addr} {xs : List V} (h : SqL K H p xs) (q : ∀ l, H l = none → Q (.ref l) (upd H l (.tup xs))) : rTupleOf K [.ref p] H Q := ⟨p, xs, rfl, .inl ⟨h, q⟩⟩
theorem r_tupleT {K : PySem.W.Frag} {p : Addr} {xs : List V} (h : SqT K H p xs) (q : Q (.ref p) H) : rTupleOf K [.ref p] H Q := ⟨p, xs, rfl, .inr ⟨h, q⟩⟩
/-- an if whose test is a decided proposition -/
theorem ifD {c A B : Prop} [Decidable c] (h1 : c → A) (h2 : ¬ c → B) : if decide c = true then A else B := by
  by_cases h : c
  · rw [decide_eq_true h]; exact iteT (h1 h)
  · rw [decide_eq_false h]; exact iteF (h2 h)
theorem ifN {c A B : Prop} [Decidable c] (h1 : ¬ c → A) (h2 : c → B) : if (!decide c) = true then A else B := by
  by_cases h : c
  · rw [decide_eq_true h]; exact iteF (h2 h)
  · rw [decide_eq_false h]; exact iteT (h1 h)
theorem ifB {b : Bool} {A B : Prop} (h1 : b = true → A) (h2 : b = false → B) : if b = true then A else B := by
  cases b with
  | true => exact iteT (h1 rfl)
  | false => exact iteF (h2 rfl)
theorem ifNB {b : Bool} {A B : Prop} (h1 : b = false → A) (h2 : b = true → B) : if (!b) = true then A else B := by
  cases b with
  | true => exact iteF (h2 rfl)
  | false => exact iteT (h1 rfl)
theorem ifDT {c A B : Prop} [Decidable c] (hc : c) (h : A) : if decide c = true then A else B := ifD (fun _ => h) fun n => (n hc).elim
theorem ifDF {c A B : Prop} [Decidable c] (hc : ¬ c) (h : B) : if decide c = true then A else B := ifD (fun n => (hc n).elim) fun _ => h
theorem ifNT {c A B : Prop} [Decidable c] (hc : ¬ c) (h : A) : if (!decide c) = true then A else B := ifN (fun _ => h) fun n => (hc n).elim
theorem ifNF {c A B : Prop} [Decidable c] (hc : c) (h : B) : if (!decide c) = true then A else B := ifN (fun n => (n hc).elim) fun _ => h
end
theorem sz {n : Nat} (h : n ≤ 100000) : n ≤ sizeLine := Nat.le_trans h (by decide)
theorem szl {n : Nat} (h : n ≤ 100000) : n < sizeLine := Nat.lt_of_le_of_lt h (by decide)
end Lx

namespace Lx
open PySem PySem.Spec PyProof.Rows L2
section
variable {prog : Program} {w : World} {A : Around} {E : Value → Shared → Prop} {s : Shared}
/-- the items of a tuple, gathered into a new list -/
theorem gather_tup {t : Addr} {o : Obj} {vs : List Value} {n : Nat} {Q : List Value → Shared → Prop} (ho : s.heap.get? t = some o) (hc : o.cls = .type "tuple") (hd : o.data = .seq vs.toArray n) (hz : vs.length ≤ sizeLine)
    (h : Q vs { s with heap := (s.heap.push (seqObj "list" #[] 0)).update s.heap.objs.size (Obj.mapSeq (· ++ vs.toArray)) }) : wpAny (model prog w) A (collect (.ref t)) Q E s := by
  have old : (s.heap.push (seqObj "list" #[] 0)).get? t = some o := Heap.get?_push_of_some _ ho
  have new : (s.heap.push (seqObj "list" #[] 0)).get? s.heap.objs.size = some (seqObj "list" #[] 0) := Heap.get?_push_size _ rfl
  have et : (Value.type "tuple" == Value.type "tuple") = true := by rfl
  unfold collect
  apply wpAny_bind
  apply wpAny_runValue
  apply codeAny_builtin entry_proto_collect'
  show wpAny _ _ (do again (.builtin "list.__iadd__" ⟨[← newList [], .ref t], []⟩)) _ _ s
  apply wpAny_bind
  refine wpAny_newList ?_
  refine wpAny_pure ⟨Code.quiet_builtin _ (by decide +kernel), codeAny_builtin entry_list_iadd' ?_⟩
  show wpAny _ _ (Builtin.List.listExtendWith (.ref s.heap.objs.size) (.ref t) (.ref s.heap.objs.size)) _ _ { s with heap := s.heap.push (seqObj "list" #[] 0) }
  unfold Builtin.List.listExtendWith
  refine wpAny_bind (wpAny_typeOf (T := "tuple") ⟨o, old, hc⟩ ?_)
  rw [if_pos (by rw [et]; simp)]
  apply wpAny_bind
  refine listItems_at old hd ?_
  apply wpAny_bind
  refine listItems_at (xs := #[]) (n := 0) new rfl ?_
  rw [if_neg (by simp)]
  apply wpAny_bind
  refine listUpdate_at (xs := #[]) (n := 0) new rfl ?_ (Nat.zero_le _) (by simp only [Array.size_append, List.size_toArray, List.length_nil]; show 0 + vs.length ≤ sizeLine + 1; omega)
  apply wpAny_pure
  show wpAny (model prog w) A (do
    let o' ← load s.heap.objs.size
    match o'.data with
    | .seq xs _ => pure xs.toList
    | _ => unsupported "internal:collect") Q E _
  refine wpAny_bind (wpAny_load (get?_update_seq new _) ?_)
  have e : ((#[] : Array Value) ++ vs.toArray).toList = vs := by simp
  show wpAny _ _ (pure ((#[] : Array Value) ++ vs.toArray).toList) Q E _
  rw [e]
  exact wpAny_pure h
/-- sorted of a tuple of ints -/
theorem sorted_tupI {t : Addr} {o : Obj} {vs : List Value} {ns : List Int} {n : Nat} {Q : Value → Shared → Prop} (ho : s.heap.get? t = some o) (hc : o.cls = .type "tuple") (hd : o.data = .seq vs.toArray n) (hz : vs.length ≤ sizeLine) (hi : IntsAre vs ns)
    (h : ∀ out : List Value, SrtO.Srtd SrtO.ltIv out → SrtO.Stb SrtO.ltIv out vs → Q (.ref (s.heap.objs.size + 1)) { s with heap := sortedAll s.heap vs out.toArray }) : wpAny (model prog w) A (call (.builtin "sorted") [.ref t]) Q E s := by
  have size1 : ((s.heap.push (seqObj "list" #[] 0)).update s.heap.objs.size (Obj.mapSeq (· ++ vs.toArray))).objs.size = s.heap.objs.size + 1 := by rw [Heap.size_update, size_push']
  have made : (((s.heap.push (seqObj "list" #[] 0)).update s.heap.objs.size (Obj.mapSeq (· ++ vs.toArray))).push (seqObj "list" vs.toArray 0)).get? (s.heap.objs.size + 1) = some (seqObj "list" vs.toArray 0) := by
    rw [← size1]
    exact Heap.get?_push_size _ rfl
  apply Calls.call_function_entry kind_sorted plain_sorted entry_sorted (args_sorted1 _)
  unfold Builtin.«sorted»
  refine wpAny_bind (m := checkCount "sorted" 1 1 _) (wpAny_pure ?_)
  apply wpAny_bind
  apply gather_tup ho hc hd hz
  apply wpAny_bind
  refine wpAny_newList ?_ hz
  show wpAny _ _ _ _ _ { s with heap := ((s.heap.push (seqObj "list" #[] 0)).update s.heap.objs.size (Obj.mapSeq (· ++ vs.toArray))).push (seqObj "list" vs.toArray 0) }
  rw [size1]
  apply wpAny_bind
  apply wpAny_holding
  refine wpAny_call_entry slot_list_sort ⟨_, made, rfl⟩ entry_list_sort (SrtO.list_sort_ord SrtO.swo_int made hz (fun h2 => SrtO.ints_sortable hi h2) ?_) (args_list_sort _)
  intro out h1 h2
  exact ⟨_, rfl, wpAny_pure ⟨_, rfl, h out h1 h2⟩⟩
end
/-- sorted(t), t a tuple of ints of any length -/
def rSortedU (K : PySem.W.Frag) : List V → Hp → VK → Prop := fun vs H Q => ∃ (a : Addr) (ns : List Int), vs = [V.ref a] ∧ SqT K H a (ns.map V.int) ∧ ∀ (ns' : List Int) (p : Addr), ns'.Perm ns → ns'.Pairwise (· ≤ ·) → H p = none → Q (.ref p) (upd H p (.lst (ns'.map V.int)))
theorem cr_sortedU {X : Cx} : CallR X (.builtin "sorted") (rSortedU X.K) := by
  intro pins s σ H vs us Q I r h
  obtain ⟨a, ns, rfl, hs, q⟩ := h
  obtain ⟨its, rv, ⟨o, ho, hc, n, hd⟩, hz⟩ := I.tuple hs
  have hi := rv.ints
  rw [Vals.ref1 r]
  refine sorted_tupI ho hc hd (by rw [← rv.length]; exact hz) hi ?_
  intro out h1 h2
  have k := SrtO.ints_out hi h1 h2
  obtain ⟨ep, he⟩ := sortedAll_at s.heap its out.toArray
  refine ⟨.ref _, upd H (s.heap.objs.size + 1) (.lst ((out.map SrtO.iv).map V.int)), ?_, rfl, q _ _ k.2.1 k.2.2 (I.hok.fresh (Nat.le_succ _))⟩
  refine I.laid (t' := s.toks) (fun _ _ => sortedAll_old) (Nat.le_succ _) ⟨?_, out, ep, vals_of_ints k.1, he⟩
  rw [List.length_map, k.2.1.length_eq]
  rw [List.length_map] at hz
  exact hz

/-! ### one of two -/
def iOr (w1 w2 : TI) : TI := fun σ H R => w1 σ H R ∨ w2 σ H R
theorem pi_or {X : Cx} {tg l : Expr} {w1 w2 : TI} (h1 : PI X tg l w1) (h2 : PI X tg l w2) : PI X tg l (iOr w1 w2) :=
  ⟨fun pins s σ H R I h => h.elim (h1.run pins s σ H R I) (h2.run pins s σ H R I)⟩
def cOr (r1 r2 : List V → Hp → VK → Prop) : List V → Hp → VK → Prop := fun xs H Q => r1 xs H Q ∨ r2 xs H Q
theorem call_or {X : Cx} {f : Value} {r1 r2 : List V → Hp → VK → Prop} (h1 : CallR X f r1) (h2 : CallR X f r2) : CallR X f (cOr r1 r2) :=
  fun pins s σ H vs us Q I r h => h.elim (h1 pins s σ H vs us Q I r) (h2 pins s σ H vs us Q I r)
def oOr (r1 r2 : R2) : R2 := fun x y H Q => r1 x y H Q ∨ r2 x y H Q
theorem op_or {X : Cx} {f : Value → Value → Sem Value} {r1 r2 : R2} (h1 : OpR X f r1) (h2 : OpR X f r2) : OpR X f (oOr r1 r2) :=
  fun pins s σ H x y v u Q I rx ry h => h.elim (h1 pins s σ H x y v u Q I rx ry) (h2 pins s σ H x y v u Q I rx ry)
theorem ix_or {X : Cx} {r1 r2 : R2} (h1 : IxR X r1) (h2 : IxR X r2) : IxR X (oOr r1 r2) := IxR.or h1 h2
end Lx

namespace Lx
open PySem PySem.Spec PyProof.Rows L2
/-- a list or a tuple that stands at a -/
def Sq (H : Hp) (a : Addr) (xs : List V) : Prop := H a = some (.lst xs) ∨ H a = some (.tup xs)
theorem _root_.L2.Same.sq {H H' : Hp} {a : Addr} {xs : List V} (s : Same H H') (h : Sq H a xs) : Sq H' a xs := h.elim (fun h => .inl (s _ _ h)) fun h => .inr (s _ _ h)
theorem Kp.sq {r : Addr} {H H' : Hp} {a : Addr} {xs : List V} (k : Kp r H H') (n : a ≠ r) (h : Sq H a xs) : Sq H' a xs := h.elim (fun h => .inl (k _ _ n h)) fun h => .inr (k _ _ n h)
theorem Sq.or {K : PySem.W.Frag} {H : Hp} {a : Addr} {xs : List V} (h : Sq H a xs) : SqL K H a xs ∨ SqT K H a xs := h.elim (fun h => .inl (lst_of h)) fun h => .inr (tup_of h)
/-! ### data of ints -/
def dI (ns : List Int) : List PyData := ns.map PyData.int
def vI (ns : List Int) : List V := ns.map V.int
theorem vI_len (ns : List Int) : (vI ns).length = ns.length := List.length_map ..
theorem dpAll_ints {K : PySem.W.Frag} {H : Hp} : ∀ ns : List Int, DpAll K H (vI ns) (dI ns)
  | [] => .nil
  | n :: ns => .cons (.int n) (dpAll_ints ns)
theorem dp_listI {K : PySem.W.Frag} {H : Hp} {a : Addr} {ns : List Int} (h : SqL K H a (vI ns)) : Dp K H (.ref a) (.list (dI ns)) := .lst h (dpAll_ints ns)
theorem dp_tupI {K : PySem.W.Frag} {H : Hp} {a : Addr} {ns : List Int} (h : SqT K H a (vI ns)) : Dp K H (.ref a) (.tuple (dI ns)) := .tup h (dpAll_ints ns)
theorem eqv_int (a b : Int) : PyData.eqv (.int a) (.int b) = decide (a = b) := by
  unfold PyData.eqv
  by_cases h : a = b
  · subst h; simp
  · simp [h]
theorem eqvAll_ints : ∀ xs ys : List Int, PyData.eqvAll (dI xs) (dI ys) = decide (xs = ys)
  | [], [] => by simp [dI, PyData.eqvAll]
  | [], _ :: _ => by simp [dI, PyData.eqvAll]
  | _ :: _, [] => by simp [dI, PyData.eqvAll]
  | x :: xs, y :: ys => by
    have ih := eqvAll_ints xs ys
    show (PyData.eqv (.int x) (.int y) && PyData.eqvAll (dI xs) (dI ys)) = _
    rw [ih, eqv_int]
    by_cases h : x = y <;> by_cases h2 : xs = ys <;> simp [h, h2]
theorem eqv_listI (xs ys : List Int) : PyData.eqv (.list (dI xs)) (.list (dI ys)) = decide (xs = ys) := by
  unfold PyData.eqv
  exact eqvAll_ints xs ys
theorem depthAll_ints : ∀ ns : List Int, PyData.depthAll (dI ns) = 0
  | [] => rfl
  | n :: ns => by show max 0 (PyData.depthAll (dI ns)) = 0; rw [depthAll_ints ns]; rfl
theorem canLay_ints : ∀ ns : List Int, PyData.canLayAll0 (dI ns) = true
  | [] => rfl
  | n :: ns => by
    have ih := canLay_ints ns
    simp only [dI, List.map_cons, PyData.canLayAll0, PyData.canLay0, Bool.true_and] at ih ⊢
    exact ih
theorem shaped_listI (ns : List Int) : SeqAt.shaped (.list (dI ns)) = true := by
  unfold SeqAt.shaped
  have h1 : PyData.canLay0 (.list (dI ns)) = true := by unfold PyData.canLay0; exact canLay_ints ns
  have h2 : PyData.depth (.list (dI ns)) ≤ 64 := by show PyData.depthAll (dI ns) + 1 ≤ 64; rw [depthAll_ints]; decide
  rw [h1, decide_eq_true h2]
  rfl
theorem dI_mem {ns : List Int} {d : PyData} (h : d ∈ dI ns) : ∃ n ∈ ns, d = .int n := by
  obtain ⟨n, hn, e⟩ := List.mem_map.mp h
  exact ⟨n, hn, e.symm⟩
theorem showableAll_of {ds : List PyData} (h : ∀ d ∈ ds, d.showable = true) : PyData.showableAll ds = true := by
  induction ds with
  | nil => rfl
  | cons d ds ih =>
    show (d.showable && PyData.showableAll ds) = true
    rw [h d List.mem_cons_self, ih fun x hx => h x (List.mem_cons_of_mem _ hx)]
    rfl
theorem hasDictAll_of {ds : List PyData} (h : ∀ d ∈ ds, d.hasDict = false) : PyData.hasDictAll ds = false := by
  induction ds with
  | nil => rfl
  | cons d ds ih =>
    show (d.hasDict || PyData.hasDictAll ds) = false
    rw [h d List.mem_cons_self, ih fun x hx => h x (List.mem_cons_of_mem _ hx)]
    rfl
theorem depthAll_le {ds : List PyData} {m : Nat} (h : ∀ d ∈ ds, d.depth ≤ m) : PyData.depthAll ds ≤ m := by
  induction ds with
  | nil => exact Nat.zero_le _
  | cons d ds ih =>
    show max d.depth (PyData.depthAll ds) ≤ m
    exact Nat.max_le.mpr ⟨h d List.mem_cons_self, ih fun x hx => h x (List.mem_cons_of_mem _ hx)⟩
/-- what repr asks of a datum: to show it takes at most m signs, depth at most k -/
structure Shows (d : PyData) (k m : Nat) : Prop where
  s : d.showable = true
  n : d.hasDict = false
  k : d.depth ≤ k
  z : d.shown.length ≤ m
theorem shows_int {i : Int} {k : Nat} (hk : 0 < k) (hk2 : k ≤ 250) (h0 : 0 ≤ i) (h : i < 10 ^ k) : Shows (.int i) 0 k := by
  refine ⟨?_, rfl, Nat.le_refl _, int_shown hk h0 h⟩
  show decide (i.natAbs.log2 < 1920) = true
  have h1 : i.natAbs < 10 ^ k := by
    have e : ((i.natAbs : Nat) : Int) < ((10 ^ k : Nat) : Int) := by
      rw [Int.natAbs_of_nonneg h0, Int.natCast_pow]
      exact h
    exact Int.ofNat_lt.mp e
  have h2 : (10 : Nat) ^ k ≤ 10 ^ 250 := Nat.pow_le_pow_right (by decide) hk2
  have h3 : i.natAbs < 2 ^ 1920 := Nat.lt_of_lt_of_le (Nat.lt_of_lt_of_le h1 h2) (by decide)
  exact decide_eq_true (PySem.Flt.log2_lt_of (by decide) h3)
theorem shows_none : Shows .none 0 4 := ⟨rfl, rfl, Nat.le_refl _, by decide⟩
theorem shows_list {ds : List PyData} {k m n : Nat} (h : ∀ d ∈ ds, Shows d k m) (hl : ds.length ≤ n) : Shows (.list ds) (k + 1) (n * (m + 2) + 2) := by
  refine ⟨showableAll_of fun d hd => (h d hd).s, hasDictAll_of fun d hd => (h d hd).n, Nat.succ_le_succ (depthAll_le fun d hd => (h d hd).k), ?_⟩
  exact Nat.le_trans (list_shown fun d hd => (h d hd).z) (Nat.add_le_add_right (Nat.mul_le_mul_right _ hl) _)
theorem shows_tup {ds : List PyData} {k m n : Nat} (h : ∀ d ∈ ds, Shows d k m) (hl : ds.length ≤ n) : Shows (.tuple ds) (k + 1) (n * (m + 2) + 3) := by
  refine ⟨showableAll_of fun d hd => (h d hd).s, hasDictAll_of fun d hd => (h d hd).n, Nat.succ_le_succ (depthAll_le fun d hd => (h d hd).k), ?_⟩
  exact Nat.le_trans (tuple_shown fun d hd => (h d hd).z) (Nat.add_le_add_right (Nat.mul_le_mul_right _ hl) _)
theorem r_repr {K : PySem.W.Frag} {H : Hp} {Q : VK} {x : V} {d : PyData} {k m : Nat} (h : Dp K H x d) (s : Shows d k m) (hk : k ≤ 32) (hm : m ≤ 1000000) (q : Q (.str d.shown) H) : rRepr K [x] H Q :=
  ⟨x, d, rfl, h, s.s, s.n, Nat.le_trans s.k hk, Nat.le_trans s.z (Nat.le_trans hm (by decide)), q⟩
theorem r_sortSq {K : PySem.W.Frag} {H : Hp} {Q : VK} {a : Addr} {ns : List Int} (h : Sq H a (vI ns)) (q : ∀ (ns' : List Int) (p : Addr), ns'.Perm ns → ns'.Pairwise (· ≤ ·) → H p = none → Q (.ref p) (upd H p (.lst (vI ns')))) :
    cOr (rSortedI K) (rSortedU K) [.ref a] H Q := h.elim (fun h => .inl ⟨a, ns, rfl, lst_of h, q⟩) fun h => .inr ⟨a, ns, rfl, tup_of h, q⟩
theorem r_neLI {K : PySem.W.Frag} {H : Hp} {Q : VK} {a b : Addr} {xs ys : List Int} (h : SqL K H a (vI xs)) (h' : SqL K H b (vI ys)) (q : Q (.bl (!decide (xs = ys))) H) : rNeD K (.ref a) (.ref b) H Q := by
  refine ⟨_, _, dp_listI h, dp_listI h', shaped_listI xs, shaped_listI ys, ?_⟩
  rw [eqv_listI]
  exact q
theorem r_eqLI {K : PySem.W.Frag} {H : Hp} {Q : VK} {a b : Addr} {xs ys : List Int} (h : SqL K H a (vI xs)) (h' : SqL K H b (vI ys)) (q : Q (.bl (decide (xs = ys))) H) : rEqD K (.ref a) (.ref b) H Q := by
  refine ⟨_, _, dp_listI h, dp_listI h', shaped_listI xs, shaped_listI ys, ?_⟩
  rw [eqv_listI]
  exact q
theorem r_rep {H : Hp} {Q : VK} {l : Addr} {xs : List V} {n : Nat} (h : H l = some (.lst xs)) (h1 : xs.length * n ≤ 100000) (h2 : n ≤ 100000) (q : ∀ p, H p = none → Q (.ref p) (upd H p (.lst (List.replicate n xs).flatten))) : rRep (.ref l) (.int ((n : Nat) : Int)) H Q := by
  refine ⟨l, _, xs, rfl, rfl, h, by omega, by omega, ?_, ?_⟩
  · rw [Int.toNat_natCast]; exact sz h1
  · rw [Int.toNat_natCast]; exact q
/-! ### in a list of ints -/
theorem inV_ints (p : Int) (ns : List Int) : inV (.int p) (vI ns) = decide (p ∈ ns) := by
  unfold inV vI
  rw [List.any_map]
  induction ns with
  | nil => simp
  | cons n ns ih =>
    rw [List.any_cons, ih]
    have e : ((fun y => eqV y (V.int p)) ∘ V.int) n = decide (n = p) := by
      show eqV (.int n) (.int p) = _
      by_cases h : n = p <;> simp [eqV, h]
    rw [e]
    by_cases h : n = p
    · subst h; simp
    · have h' : ¬ p = n := fun z => h z.symm
      simp [h, h']
theorem flat_ints (ns : List Int) : (vI ns).all flatV = true := by
  unfold vI
  rw [List.all_map]
  exact List.all_eq_true.mpr fun x _ => rfl
theorem ixN_ok {n : Nat} {i : Int} (h0 : 0 ≤ i) (h1 : i < n) : ixN n i = some i.toNat := by
  unfold ixN
  rw [if_pos h0, if_pos h1]
theorem atI_ok {α : Type} {xs : List α} {i : Int} {v : α} (h0 : 0 ≤ i) (h : xs[i.toNat]? = some v) : atI xs i = some v := by
  have e : i = ((i.toNat : Nat) : Int) := (Int.toNat_of_nonneg h0).symm
  rw [e]
  exact atI_nat h
theorem vI_at {ns : List Int} {j : Nat} (h : j < ns.length) : (vI ns)[j]? = some (.int ns[j]) := by
  unfold vI
  rw [List.getElem?_map, List.getElem?_eq_getElem h]
  rfl
theorem atI_ints {ns : List Int} {i : Int} (h0 : 0 ≤ i) (h1 : i < ns.length) : atI (vI ns) i = some (.int (ns.getD i.toNat 0)) := by
  have hj : i.toNat < ns.length := by omega
  refine atI_ok h0 ?_
  rw [vI_at hj, List.getD_eq_getElem?_getD, List.getElem?_eq_getElem hj]
  rfl
end Lx

namespace Lx
open PySem PySem.Spec PyProof.Rows L2
/-! ### isinstance -/
section
variable {K : PySem.W.Frag} {H : Hp} {Q : VK} {a tp : Addr} {xs : List V} {i : Int} {z : Str} {b : Bool}
theorem isi_of {x : V} {t T : String} {b : Bool} (ty : TyX K H x (.type t)) (e : kitB t T = some b) (q : Q (.bl b) H) : rIsi K [x, .ty T] H Q := ⟨x, .ty T, .type t, .type T, b, rfl, .ty T, ty, kit_ty e, q⟩
theorem k_ii : kitB "int" "int" = some true := by decide +kernel
theorem k_ib : kitB "int" "bool" = some false := by decide +kernel
theorem k_is : kitB "int" "str" = some false := by decide +kernel
theorem k_il : kitB "int" "list" = some false := by decide +kernel
theorem k_it : kitB "int" "tuple" = some false := by decide +kernel
theorem k_bi : kitB "bool" "int" = some true := by decide +kernel
theorem k_bb : kitB "bool" "bool" = some true := by decide +kernel
theorem k_bs : kitB "bool" "str" = some false := by decide +kernel
theorem k_bl : kitB "bool" "list" = some false := by decide +kernel
theorem k_bt : kitB "bool" "tuple" = some false := by decide +kernel
theorem k_si : kitB "str" "int" = some false := by decide +kernel
theorem k_sb : kitB "str" "bool" = some false := by decide +kernel
theorem k_ss : kitB "str" "str" = some true := by decide +kernel
theorem k_sl : kitB "str" "list" = some false := by decide +kernel
theorem k_st : kitB "str" "tuple" = some false := by decide +kernel
theorem k_ni : kitB "NoneType" "int" = some false := by decide +kernel
theorem k_nb : kitB "NoneType" "bool" = some false := by decide +kernel
theorem k_ns : kitB "NoneType" "str" = some false := by decide +kernel
theorem k_nl : kitB "NoneType" "list" = some false := by decide +kernel
theorem k_nt : kitB "NoneType" "tuple" = some false := by decide +kernel
theorem k_li : kitB "list" "int" = some false := by decide +kernel
theorem k_lb : kitB "list" "bool" = some false := by decide +kernel
theorem k_ls : kitB "list" "str" = some false := by decide +kernel
theorem k_ll : kitB "list" "list" = some true := by decide +kernel
theorem k_lt : kitB "list" "tuple" = some false := by decide +kernel
theorem k_ti : kitB "tuple" "int" = some false := by decide +kernel
theorem k_tb : kitB "tuple" "bool" = some false := by decide +kernel
theorem k_ts : kitB "tuple" "str" = some false := by decide +kernel
theorem k_tl : kitB "tuple" "list" = some false := by decide +kernel
theorem k_tt : kitB "tuple" "tuple" = some true := by decide +kernel
theorem ty_int : TyX K H (.int i) (.type "int") := .base (.int i)
theorem ty_bl : TyX K H (.bl b) (.type "bool") := .base (.bl b)
theorem ty_str : TyX K H (.str z) (.type "str") := .base (.str z)
theorem ty_non : TyX K H .non (.type "NoneType") := .base .non
theorem ty_lst (h : H a = some (.lst xs)) : TyX K H (.ref a) (.type "list") := .base (.lst h)
theorem ty_tup (h : H a = some (.tup xs)) : TyX K H (.ref a) (.type "tuple") := .base (.tup h)
/-- isinstance(x, (list, tuple)), the pair just laid -/
theorem isiLT {x : V} {t : String} {b1 b2 : Bool} (hT : H tp = some (.tup [.ty "list", .ty "tuple"])) (ty : TyX K H x (.type t)) (e1 : kitB t "list" = some b1) (e2 : kitB t "tuple" = some b2) (q : Q (.bl (b1 || b2)) H) : rIsiT K [x, .ref tp] H Q := by
  refine ⟨x, tp, _, .type t, [.type "list", .type "tuple"], b1 || b2, rfl, hT, .cons (.ty _) (.cons (.ty _) .nil), ty, kitAny_cons (kit_ty e1) (fun h1 => ?_) (fun h1 => by rw [h1]; rfl), q⟩
  refine kitAny_cons (kit_ty e2) (fun h2 => ?_) (fun h2 => by rw [h1, h2]; rfl)
  rw [h1, h2]
  exact kitAny_nil
theorem isiLT_l {x : V} {t : String} (hT : H tp = some (.tup [.ty "list", .ty "tuple"])) (ty : TyX K H x (.type t)) (e1 : kitB t "list" = some true) (e2 : kitB t "tuple" = some false) (q : Q (.bl true) H) : rIsiT K [x, .ref tp] H Q := isiLT hT ty e1 e2 q
theorem isiLT_t {x : V} {t : String} (hT : H tp = some (.tup [.ty "list", .ty "tuple"])) (ty : TyX K H x (.type t)) (e1 : kitB t "list" = some false) (e2 : kitB t "tuple" = some true) (q : Q (.bl true) H) : rIsiT K [x, .ref tp] H Q := isiLT hT ty e1 e2 q
theorem isiLT_o {x : V} {t : String} (hT : H tp = some (.tup [.ty "list", .ty "tuple"])) (ty : TyX K H x (.type t)) (e1 : kitB t "list" = some false) (e2 : kitB t "tuple" = some false) (q : Q (.bl false) H) : rIsiT K [x, .ref tp] H Q := isiLT hT ty e1 e2 q
end
theorem ifnT {A B : Prop} (h : B) : if (!true) = true then A else B := iteF h
theorem ifnF {A B : Prop} (h : A) : if (!false) = true then A else B := iteT h
end Lx

namespace Lx
open PySem PySem.Spec PyProof.Rows L2
/-- what an iterator gives: n turns while OK holds; item says what a turn yields -/
structure Src (J : It) (n : Nat) (OK : Hp → Prop) (item : Nat → V → Hp → Hp → Prop) : Prop where
  go : ∀ i H, OK H → i < n → J.go i H
  stop : ∀ H, OK H → J.stop n H
  yld : ∀ i H v H', OK H → i < n → J.yld i H v H' → item i v H H'
section
variable {K : PySem.W.Frag} {a b : Addr} {xs ys : List V}
theorem src_list : Src (Itl K a) xs.length (fun H => SqL K H a xs) (fun i v H H' => H' = H ∧ xs[i]? = some v) where
  go := fun i H h hi => ⟨xs, xs[i], h, by simp [hi]⟩
  stop := fun H h => ⟨xs, h, Nat.le_refl _⟩
  yld := fun i H v H' h _ y => ⟨y.1, y.2 xs h⟩
theorem src_tup : Src (Itt K a) xs.length (fun H => SqT K H a xs) (fun i v H H' => H' = H ∧ xs[i]? = some v) where
  go := fun i H h hi => ⟨xs, xs[i], h, by simp [hi]⟩
  stop := fun H h => ⟨xs, h, Nat.le_refl _⟩
  yld := fun i H v H' h _ y => ⟨y.1, y.2 xs h⟩
theorem src_range {lo : Int} {n : Nat} : Src (Itr lo n) n (fun _ => True) (fun i v H H' => H' = H ∧ v = .int (lo + i)) where
  go := fun i H _ hi => hi
  stop := fun H _ => Nat.le_refl n
  yld := fun i H v H' _ _ y => y
theorem src_step {lo c : Int} {n : Nat} : Src (Itc lo c n) n (fun _ => True) (fun i v H H' => H' = H ∧ v = .int (lo + (i : Nat) * c)) where
  go := fun i H _ hi => hi
  stop := fun H _ => Nat.le_refl n
  yld := fun i H v H' _ _ y => y
theorem src_enum : Src (Ite K a) xs.length (fun H => SqL K H a xs) (fun i v H H' => ∃ T x, v = .ref T ∧ H T = none ∧ H' = upd H T (.tup [.int (i : Nat), x]) ∧ xs[i]? = some x) where
  go := fun i H h hi => ⟨xs, xs[i], h, by simp [hi]⟩
  stop := fun H h => ⟨xs, h, Nat.le_refl _⟩
  yld := fun i H v H' h _ y => by
    obtain ⟨T, x, e, n, u, f⟩ := y
    exact ⟨T, x, e, n, u, f xs h⟩
theorem src_zip (hl : xs.length = ys.length) : Src (Itz K a b) xs.length (fun H => SqL K H a xs ∧ SqL K H b ys) (fun i v H H' => ∃ T x y, v = .ref T ∧ H T = none ∧ H' = upd H T (.tup [x, y]) ∧ xs[i]? = some x ∧ ys[i]? = some y) where
  go := fun i H h hi => ⟨xs, ys, xs[i], ys[i]'(by omega), h.1, h.2, by simp [hi], List.getElem?_eq_getElem (by omega)⟩
  stop := fun H h => ⟨xs, ys, h.1, h.2, .inl (Nat.le_refl _)⟩
  yld := fun i H v H' h _ y => by
    obtain ⟨T, x, z, e, n, u, f, g⟩ := y
    exact ⟨T, x, z, e, n, u, f xs h.1, g ys h.2⟩
theorem src_rev : Src (Itv K a xs.length) xs.length (fun H => SqL K H a xs) (fun i v H H' => H' = H ∧ xs[xs.length - 1 - i]? = some v) where
  go := fun i H h hi => ⟨hi, xs, xs[xs.length - 1 - i]'(by omega), h, List.getElem?_eq_getElem (by omega)⟩
  stop := fun H h => Nat.le_refl xs.length
  yld := fun i H v H' h _ y => ⟨y.1, y.2 xs h⟩
theorem src_str {x : Str} : Src (Its x) x.cps.size (fun _ => True) (fun i v H H' => H' = H ∧ ∃ c, x.cps[i]? = some c ∧ v = .str ⟨#[c]⟩) where
  go := fun i H _ hi => hi
  stop := fun H _ => Nat.le_refl x.cps.size
  yld := fun i H v H' _ _ y => y
end
section
variable {J : It} {n : Nat} {OK : Hp → Prop} {item : Nat → V → Hp → Hp → Prop} {g : TG} {tb : TS} {D : Ends} {σ : L2.St} {H : Hp}
/-- for, by a word over the turn, the slots, the heap -/
theorem for_src (S : Src J n OK item) (Pv : Nat → L2.St → Hp → Prop) (ok : ∀ i σ H, Pv i σ H → OK H) (h0 : Pv 0 σ H)
    (hs : ∀ i v σ H H', i < n → Pv i σ H → item i v H H' → g v σ H' fun σ2 H2 => tb { D with nx := Pv (i + 1), ct := Pv (i + 1), bk := D.nx } σ2 H2) (hd : ∀ σ H, Pv n σ H → D.nx σ H) :
    ∃ W : Nat → Nat → L2.St → Hp → Prop, (∃ m, W 0 m σ H) ∧ ∀ i m σ H, W i m σ H →
      (J.stop i H ∧ D.nx σ H) ∨ (J.go i H ∧ ∃ N : L2.St → Hp → Prop, (∀ σ' H', N σ' H' → ∃ m', m' < m ∧ W (i + 1) m' σ' H') ∧ ∀ x H', J.yld i H x H' → g x σ H' fun σ2 H2 => tb { D with nx := N, ct := N, bk := D.nx } σ2 H2) := by
  refine ⟨fun i m σ H => i + m = n ∧ Pv i σ H, ⟨n, Nat.zero_add n, h0⟩, ?_⟩
  rintro i m σ H ⟨e, p⟩
  have o := ok i σ H p
  by_cases hi : i < n
  · refine .inr ⟨S.go i H o hi, Pv (i + 1), ?_, ?_⟩
    · intro σ' H' p'
      exact ⟨m - 1, by omega, by omega, p'⟩
    · intro x H' y
      exact hs i x σ H H' hi p (S.yld i H x H' o hi y)
  · have ei : i = n := by omega
    subst ei
    exact .inl ⟨S.stop H o, hd σ H p⟩
variable {tt : TT} {te : TE} {vs : List Nat} {H1 : Hp} {Dl : Addr} {Qd : Hp → Prop}
/-- a comprehension, by a word over the turn and the heap -/
theorem lc_src (S : Src J n OK item) (Pv : Nat → Hp → Prop) (ok : ∀ i H, Pv i H → OK H) (h0 : Pv 0 (upd H1 Dl (.lst [])))
    (hs : ∀ i v H H', i < n → Pv i H → item i v H H' → g v (wipe σ vs) H' fun σ2 H2 => wipe σ2 vs = wipe σ vs ∧ tt σ2 H2 fun b H3 =>
      if b = true then te σ2 H3 fun y H4 => ∃ acc, H4 Dl = some (.lst acc) ∧ acc.length < sizeLine ∧ Pv (i + 1) (upd H4 Dl (.lst (acc ++ [y]))) else Pv (i + 1) H3) (hd : ∀ H, Pv n H → Qd H) :
    ∃ W : Nat → Nat → Hp → Prop, (∃ m, W 0 m (upd H1 Dl (.lst []))) ∧ ∀ i m H, W i m H →
      (J.stop i H ∧ Qd H) ∨ (J.go i H ∧ ∃ Nx : Hp → Prop, (∀ H', Nx H' → ∃ m', m' < m ∧ W (i + 1) m' H') ∧ ∀ x H', J.yld i H x H' → g x (wipe σ vs) H' fun σ2 H2 => wipe σ2 vs = wipe σ vs ∧ tt σ2 H2 fun b H3 =>
        if b = true then te σ2 H3 fun y H4 => ∃ acc, H4 Dl = some (.lst acc) ∧ acc.length < sizeLine ∧ Nx (upd H4 Dl (.lst (acc ++ [y]))) else Nx H3) := by
  refine ⟨fun i m H => i + m = n ∧ Pv i H, ⟨n, Nat.zero_add n, h0⟩, ?_⟩
  rintro i m H ⟨e, p⟩
  have o := ok i H p
  by_cases hi : i < n
  · refine .inr ⟨S.go i H o hi, Pv (i + 1), ?_, ?_⟩
    · intro H' p'
      exact ⟨m - 1, by omega, by omega, p'⟩
    · intro x H' y
      exact hs i x H H' hi p (S.yld i H x H' o hi y)
  · have ei : i = n := by omega
    subst ei
    exact .inl ⟨S.stop H o, hd H p⟩
/-- what the turns give: those of f, each v -/
def giv (n : Nat) (f : Nat → Bool) (v : Nat → V) : List V := ((List.range n).filter f).map v
theorem giv_yes {n : Nat} {f : Nat → Bool} {v : Nat → V} (h : f n = true) : giv (n + 1) f v = giv n f v ++ [v n] := by
  unfold giv
  rw [List.range_succ, List.filter_append, List.map_append]
  simp [h]
theorem giv_no {n : Nat} {f : Nat → Bool} {v : Nat → V} (h : f n = false) : giv (n + 1) f v = giv n f v := by
  unfold giv
  rw [List.range_succ, List.filter_append, List.map_append]
  simp [h]
theorem giv_len (n : Nat) (f : Nat → Bool) (v : Nat → V) : (giv n f v).length ≤ n := by
  unfold giv
  rw [List.length_map]
  exact Nat.le_trans (List.length_filter_le f (List.range n)) (by simp)
theorem giv_all (n : Nat) (v : Nat → V) : giv n (fun _ => true) v = (List.range n).map v := by
  unfold giv
  rw [List.filter_eq_self.mpr fun _ _ => rfl]
theorem giv_const (n : Nat) (x : V) : giv n (fun _ => true) (fun _ => x) = List.replicate n x := by
  rw [giv_all, List.map_const', List.length_range]
/-- a comprehension whose turns leave what stood as it was -/
theorem lc_pure (S : Src J n OK item) (p : Nat → Bool) (v : Nat → V) (hn : n ≤ 100000) (hok : ∀ H', Same H1 H' → OK H')
    (hs : ∀ i x H' H'' (Yes : V → Hp → Prop) (No : Hp → Prop), i < n → Same H1 H' → item i x H' H'' → (p i = true → ∀ H4, Same H' H4 → Yes (v i) H4) → (p i = false → ∀ H3, Same H' H3 → No H3) →
      g x (wipe σ vs) H'' fun σ2 H2 => wipe σ2 vs = wipe σ vs ∧ tt σ2 H2 fun b H3 => if b = true then te σ2 H3 Yes else No H3)
    (hD : H1 Dl = none) (q : ∀ H', Same H1 H' → H' Dl = some (.lst (giv n p v)) → Qd H') :
    ∃ W : Nat → Nat → Hp → Prop, (∃ m, W 0 m (upd H1 Dl (.lst []))) ∧ ∀ i m H, W i m H →
      (J.stop i H ∧ Qd H) ∨ (J.go i H ∧ ∃ Nx : Hp → Prop, (∀ H', Nx H' → ∃ m', m' < m ∧ W (i + 1) m' H') ∧ ∀ x H', J.yld i H x H' → g x (wipe σ vs) H' fun σ2 H2 => wipe σ2 vs = wipe σ vs ∧ tt σ2 H2 fun b H3 =>
        if b = true then te σ2 H3 fun y H4 => ∃ acc, H4 Dl = some (.lst acc) ∧ acc.length < sizeLine ∧ Nx (upd H4 Dl (.lst (acc ++ [y]))) else Nx H3) := by
  refine lc_src S (fun i H' => Same H1 H' ∧ H' Dl = some (.lst (giv i p v))) (fun i H' h => hok H' h.1) ⟨same_new hD, upd_same⟩ ?_ (fun H' h => q H' h.1 h.2)
  rintro i x H' H'' hi ⟨s, hl⟩ hit
  refine hs i x H' H'' _ _ hi s hit ?_ ?_
  · intro hp H4 s4
    refine ⟨giv i p v, s4 _ _ hl, ?_, same_set (s.trans s4) hD, ?_⟩
    · exact Nat.lt_of_le_of_lt (Nat.le_trans (giv_len i p v) (Nat.le_of_lt (Nat.lt_of_lt_of_le hi hn))) (by decide)
    · rw [giv_yes hp]; exact upd_same
  · intro hp H3 s3
    refine ⟨s.trans s3, ?_⟩
    rw [giv_no hp]
    exact s3 _ _ hl
end
/-! ### the shapes of loops' readings -/
section
variable {σ : L2.St} {H : Hp} {D : Ends} {K : PySem.W.Frag} {R : It → Hp → Prop} {tl : TE} {ta : TA}
theorem r_for {wi : TI} {g : TG} {tb : TS} (h : wi σ H fun J H1 => ∃ W : Nat → Nat → L2.St → Hp → Prop, (∃ m, W 0 m σ H1) ∧ ∀ i m σ H, W i m σ H →
  (J.stop i H ∧ D.nx σ H) ∨ (J.go i H ∧ ∃ N : L2.St → Hp → Prop, (∀ σ' H', N σ' H' → ∃ m', m' < m ∧ W (i + 1) m' σ' H') ∧ ∀ x H', J.yld i H x H' → g x σ H' fun σ2 H2 => tb { D with nx := N, ct := N, bk := D.nx } σ2 H2)) : tFor wi g tb D σ H := h
theorem r_lc {wi : TI} {g : TG} {tt : TT} {te : TE} {vs : List Nat} {Q : VK} (h : wi σ H fun J H1 => ∀ D, H1 D = none → ∃ W : Nat → Nat → Hp → Prop, (∃ m, W 0 m (upd H1 D (.lst []))) ∧ ∀ i m H, W i m H →
  (J.stop i H ∧ Q (.ref D) H) ∨ (J.go i H ∧ ∃ Nx : Hp → Prop, (∀ H', Nx H' → ∃ m', m' < m ∧ W (i + 1) m' H') ∧ ∀ x H', J.yld i H x H' → g x (wipe σ vs) H' fun σ2 H2 => wipe σ2 vs = wipe σ vs ∧ tt σ2 H2 fun b H3 =>
    if b = true then te σ2 H3 fun y H4 => ∃ acc, H4 D = some (.lst acc) ∧ acc.length < sizeLine ∧ Nx (upd H4 D (.lst (acc ++ [y]))) else Nx H3)) : tLc wi g tt te vs σ H Q := h
theorem r_yes {B : Bool → Hp → Prop} (h : B true H) : tYes σ H B := h
theorem r_iList (h : tl σ H fun x H1 => ∃ a, x = .ref a ∧ (∃ xs, SqL K H1 a xs) ∧ R (Itl K a) H1) : iList K tl σ H R := h
theorem r_iTup (h : tl σ H fun x H1 => ∃ a, x = .ref a ∧ (∃ xs, SqT K H1 a xs) ∧ R (Itt K a) H1) : iTup K tl σ H R := h
theorem r_iRng1 (h : ta σ H fun vs H1 => ∃ j : Int, vs = [.int j] ∧ -(2 ^ 62) ≤ j ∧ j < 2 ^ 62 ∧ R (Itr 0 j.toNat) H1) : iRng1 ta σ H R := h
theorem r_iRng2 (h : ta σ H fun vs H1 => ∃ i j : Int, vs = [.int i, .int j] ∧ (-(2 ^ 62) ≤ i ∧ i < 2 ^ 62 ∧ -(2 ^ 62) ≤ j ∧ j < 2 ^ 62) ∧ R (Itr i (j - i).toNat) H1) : iRng2 ta σ H R := h
theorem r_iRng3 (h : ta σ H fun vs H1 => ∃ (i j c : Int) (n : Nat), vs = [.int i, .int j, .int c] ∧ RgC i j c n ∧ R (Itc i c n) H1) : iRng3 ta σ H R := h
theorem r_iEnum (h : ta σ H fun vs H1 => ∃ a xs, vs = [.ref a] ∧ SqL K H1 a xs ∧ R (Ite K a) H1) : iEnum K ta σ H R := h
theorem r_iZip (h : ta σ H fun vs H1 => ∃ a b xs ys, vs = [.ref a, .ref b] ∧ SqL K H1 a xs ∧ SqL K H1 b ys ∧ R (Itz K a b) H1) : iZip K ta σ H R := h
theorem r_iStr (h : tl σ H fun v H1 => ∃ x, v = .str x ∧ R (Its x) H1) : iStr tl σ H R := h
theorem i_list {a : Addr} {xs : List V} {P : It → Prop} (h : SqL K H a xs) (q : P (Itl K a)) : ∃ a', V.ref a = .ref a' ∧ (∃ xs, SqL K H a' xs) ∧ P (Itl K a') := ⟨a, rfl, ⟨xs, h⟩, q⟩
theorem i_tup {a : Addr} {xs : List V} {P : It → Prop} (h : SqT K H a xs) (q : P (Itt K a)) : ∃ a', V.ref a = .ref a' ∧ (∃ xs, SqT K H a' xs) ∧ P (Itt K a') := ⟨a, rfl, ⟨xs, h⟩, q⟩
theorem i_rng1 {j : Int} {P : It → Prop} (h0 : -(2 ^ 62) ≤ j) (h1 : j < 2 ^ 62) (q : P (Itr 0 j.toNat)) : ∃ j' : Int, [V.int j] = [.int j'] ∧ -(2 ^ 62) ≤ j' ∧ j' < 2 ^ 62 ∧ P (Itr 0 j'.toNat) := ⟨j, rfl, h0, h1, q⟩
theorem r_wN {tb : TS} {I : Nat → L2.St → Hp → Prop} {m : Nat} (h : tb { D with nx := fun σ' H' => ∃ m', m' < m ∧ I m' σ' H', ct := fun σ' H' => ∃ m', m' < m ∧ I m' σ' H', bk := D.nx } σ H) :
    ∃ N : L2.St → Hp → Prop, (∀ σ' H', N σ' H' → ∃ m', m' < m ∧ I m' σ' H') ∧ tb { D with nx := N, ct := N, bk := D.nx } σ H := ⟨_, fun _ _ h => h, h⟩
end
end Lx

/-! the layer's rules with the written part named (within a comprehension's block a reading must not hang on the block) -/
namespace Lx
open PySem PySem.Spec PyProof.Rows L2
section
variable (K : PySem.W.Frag) {X : Cx}
theorem k_len (h : X.K = K := by rfl) : CallR X (.builtin "len") (rLen K) := h ▸ call_len'
theorem k_list (h : X.K = K := by rfl) : CallR X (.type "list") (rListOf K) := h ▸ call_list'
theorem k_tuple (h : X.K = K := by rfl) : CallR X (.type "tuple") (rTupleOf K) := h ▸ call_tuple'
theorem k_isi (h : X.K = K := by rfl) : CallR X (.builtin "isinstance") (rIsi K) := h ▸ call_isi
theorem k_isiT (h : X.K = K := by rfl) : CallR X (.builtin "isinstance") (rIsiT K) := h ▸ call_isiT
theorem k_all (h : X.K = K := by rfl) (hc : X.calm = true := by rfl) : CallR X (.builtin "all") (rAll K) := h ▸ cr_all hc
theorem k_any (h : X.K = K := by rfl) (hc : X.calm = true := by rfl) : CallR X (.builtin "any") (rAny K) := h ▸ cr_any hc
theorem k_sum (h : X.K = K := by rfl) (hc : X.calm = true := by rfl) : CallR X (.builtin "sum") (rSum K) := h ▸ cr_sum hc
theorem k_min (h : X.K = K := by rfl) (hc : X.calm = true := by rfl) : CallR X (.builtin "min") (rMin K) := h ▸ cr_min hc
theorem k_max (h : X.K = K := by rfl) (hc : X.calm = true := by rfl) : CallR X (.builtin "max") (rMax K) := h ▸ cr_max hc
theorem k_sorted (h : X.K = K := by rfl) : CallR X (.builtin "sorted") (rSortedI K) := h ▸ cr_sortedI
theorem k_sortedU (h : X.K = K := by rfl) : CallR X (.builtin "sorted") (rSortedU K) := h ▸ cr_sortedU
theorem k_repr (hG : X.A.guards = some []) (hu : X.A.units + 64 < cLine) (h : X.K = K := by rfl) : CallR X (.builtin "repr") (rRepr K) := h ▸ call_reprD hG hu
theorem k_ixL (h : X.K = K := by rfl) : IxR X (rIxL K) := h ▸ ix_list
theorem k_ixT (h : X.K = K := by rfl) : IxR X (rIxT K) := h ▸ ix_tup
theorem k_slL (h : X.K = K := by rfl) : SlR X (rSlL K) := h ▸ sl_list
theorem k_slT (h : X.K = K := by rfl) : SlR X (rSlA K) := h ▸ sl_tupA
theorem k_in (h : X.K = K := by rfl) : OpR X (compareOp .In) (rIn K false) := h ▸ op_in_seq
theorem k_notIn (h : X.K = K := by rfl) : OpR X (compareOp .NotIn) (rIn K true) := h ▸ op_notIn_seq
theorem k_eqD (hu : X.A.units + 64 < cLine) (h : X.K = K := by rfl) : OpR X (compareOp .Eq) (rEqD K) := h ▸ op_eqD hu
theorem k_neD (hu : X.A.units + 64 < cLine) (h : X.K = K := by rfl) : OpR X (compareOp .NotEq) (rNeD K) := h ▸ op_neD hu
theorem k_catT (h : X.K = K := by rfl) : OpR X (binaryOp .Add) (rCatT K) := h ▸ op_catT
theorem k_piL {tg l : Expr} {tl : TE} (hl : PE X l tl) (h : X.K = K := by rfl) : PI X tg l (iList K tl) := h ▸ pi_list hl
theorem k_piT {tg l : Expr} {tl : TE} (hl : PE X l tl) (h : X.K = K := by rfl) : PI X tg l (iTup K tl) := h ▸ pi_tup hl
theorem k_enum {e : Expr} {ta : TA} {p pos tpos : Pos} {elts : List Expr} {kk : Nat} (hg : Gl X "enumerate") (hm : X.mg "enumerate" = none) (ha : PA X [e] ta) (hs : starEach [e] X.env = [(false, eval e X.env)] := by rfl) (h : X.K = K := by rfl) :
    PI X (.Tuple elts kk tpos) (.Call (.Name "enumerate" p) [e] [] pos) (iEnum K ta) := h ▸ pi_enum hg hm ha hs
theorem k_zip {e e2 : Expr} {ta : TA} {p pos tpos : Pos} {elts : List Expr} {kk : Nat} (hg : Gl X "zip") (hm : X.mg "zip" = none) (ha : PA X [e, e2] ta)
    (hs : starEach [e, e2] X.env = (false, eval e X.env) :: starEach [e2] X.env := by rfl) (hpl : (backTo pos (starEach [e2] X.env)).any (·.1) = false := by rfl) (h : X.K = K := by rfl) :
    PI X (.Tuple elts kk tpos) (.Call (.Name "zip" p) [e, e2] [] pos) (iZip K ta) := h ▸ pi_zip hg hm ha hs hpl
theorem k_gtup {es : List Expr} {k : Nat} {t : TGs} {n : Nat} {pos : Pos} (hc : X.calm = true) (ht : PGs X es t) (hn : (assignEach es X.env).length = n := by rfl) (hst : (assignEach es X.env).findIdx? (·.1) = none := by rfl) (h : X.K = K := by rfl) :
    PG X (.Tuple es k pos) (gTup K n t) := h ▸ pg_tup hc ht hn hst
theorem k_gunl {es : List Expr} {k : Nat} {t : TGs} {n : Nat} {pos : Pos} (hc : X.calm = true) (ht : PGs X es t) (hn : (assignEach es X.env).length = n := by rfl) (hst : (assignEach es X.env).findIdx? (·.1) = none := by rfl) (h : X.K = K := by rfl) :
    PG X (.Tuple es k pos) (gUnl K n t) := h ▸ pg_unl hc ht hn hst
theorem k_rev {e : Expr} {te : TE} {k : Nat} {p1 p2 p3 pos : Pos} (he : PE X e te) (h : X.K = K := by rfl) : PE X (.Subscript e (.Slice none none (some (.UnaryOp .USub (.Constant (.int 1) k p1) p2)) p3) pos) (tRevL K te) := h ▸ pe_revL he
theorem k_fld {e : Expr} {ta : TE} {f : Str} {pos : Pos} (he : PE X e ta) (hb : attributeBase e f X.env (eval e X.env) = eval e X.env := by rfl) (h : X.K = K := by rfl) : PE X (.Attribute e f pos) (tFld K ta f) := h ▸ pe_fld he hb
theorem k_bm {T : String} {name : Str} {id : String} {r : V → List V → Hp → VK → Prop} {o e : Expr} {es : List Expr} {to : TE} {t : TA} {apos cpos : Pos} (pa : PlainAttrs T) (slot : Slot T name id) (hty : typeOf (.builtin id) = pure (.type "method_descriptor")) (hm : MtR X id r) (ho : PE X o to) (ha : PA X (e :: es) t)
    (p : PE X (.Call (.Attribute o name apos) (e :: es) [] cpos) (tBM X.K T r to t)) (h : X.K = K := by rfl) : PE X (.Call (.Attribute o name apos) (e :: es) [] cpos) (tBM K T r to t) := h ▸ p
theorem k_bmP {T : String} {r : V → List V → Hp → VK → Prop} {o : Expr} {to : TE} {t : TA} (p : PE X o (tBM X.K T r to t)) (h : X.K = K := by rfl) : PE X o (tBM K T r to t) := h ▸ p
theorem k_bm0P {T : String} {r : V → List V → Hp → VK → Prop} {o : Expr} {to : TE} (p : PE X o (tBM0 X.K T r to)) (h : X.K = K := by rfl) : PE X o (tBM0 K T r to) := h ▸ p
end
end Lx

namespace Lx
open PySem PySem.Spec PyProof.Rows L2
/-! ### data that stand told, each of their lists and tuples where G holds -/
mutual
inductive Tr (G : Addr → Prop) (H : Hp) : V → PyData → Prop
  | non : Tr G H .non .none
  | bl (b : Bool) : Tr G H (.bl b) (.bool b)
  | int (i : Int) : Tr G H (.int i) (.int i)
  | str (x : Str) : Tr G H (.str x) (.str x)
  | lst {a : Addr} {xs : List V} {ds : List PyData} : H a = some (.lst xs) → G a → xs.length ≤ 100000 → TrAll G H xs ds → Tr G H (.ref a) (.list ds)
  | tup {a : Addr} {xs : List V} {ds : List PyData} : H a = some (.tup xs) → G a → xs.length ≤ 100000 → TrAll G H xs ds → Tr G H (.ref a) (.tuple ds)
inductive TrAll (G : Addr → Prop) (H : Hp) : List V → List PyData → Prop
  | nil : TrAll G H [] []
  | cons {v : V} {vs : List V} {d : PyData} {ds : List PyData} : Tr G H v d → TrAll G H vs ds → TrAll G H (v :: vs) (d :: ds)
end
section
variable {K : PySem.W.Frag} {G G' : Addr → Prop} {H H' : Hp}
mutual
theorem Tr.dp : ∀ {v : V} {d : PyData}, Tr G H v d → Dp K H v d
  | _, _, .non => .non
  | _, _, .bl b => .bl b
  | _, _, .int i => .int i
  | _, _, .str x => .str x
  | _, _, .lst h _ _ t => .lst (lst_of h) t.dp
  | _, _, .tup h _ _ t => .tup (tup_of h) t.dp
theorem TrAll.dp : ∀ {v : List V} {d : List PyData}, TrAll G H v d → DpAll K H v d
  | _, _, .nil => .nil
  | _, _, .cons h t => .cons h.dp t.dp
end
mutual
theorem Tr.move (m : ∀ a o, G a → H a = some o → H' a = some o ∧ G' a) : ∀ {v : V} {d : PyData}, Tr G H v d → Tr G' H' v d
  | _, _, .non => .non
  | _, _, .bl b => .bl b
  | _, _, .int i => .int i
  | _, _, .str x => .str x
  | _, _, .lst h g l t => .lst (m _ _ g h).1 (m _ _ g h).2 l (t.move m)
  | _, _, .tup h g l t => .tup (m _ _ g h).1 (m _ _ g h).2 l (t.move m)
theorem TrAll.move (m : ∀ a o, G a → H a = some o → H' a = some o ∧ G' a) : ∀ {v : List V} {d : List PyData}, TrAll G H v d → TrAll G' H' v d
  | _, _, .nil => .nil
  | _, _, .cons h t => .cons (h.move m) (t.move m)
end
theorem Tr.same {v : V} {d : PyData} (h : Tr G H v d) (s : Same H H') : Tr G H' v d := h.move fun a o g e => ⟨s _ _ e, g⟩
theorem Tr.any {v : V} {d : PyData} (h : Tr G H v d) : Tr (fun _ => True) H v d := h.move fun a o g e => ⟨e, trivial⟩
theorem TrAll.same {v : List V} {d : List PyData} (h : TrAll G H v d) (s : Same H H') : TrAll G H' v d := h.move fun a o g e => ⟨s _ _ e, g⟩
theorem TrAll.len : ∀ {v : List V} {d : List PyData}, TrAll G H v d → v.length = d.length
  | _, _, .nil => rfl
  | _, _, .cons _ t => congrArg Nat.succ t.len
theorem TrAll.at : ∀ {vs : List V} {ds : List PyData}, TrAll G H vs ds → ∀ {i : Nat} {v : V}, vs[i]? = some v → ∃ d, ds[i]? = some d ∧ Tr G H v d
  | _, _, .nil, i, v, e => by simp at e
  | _, _, .cons h t, 0, v, e => by
    rw [List.getElem?_cons_zero] at e
    cases e
    exact ⟨_, rfl, h⟩
  | _, _, .cons h t, i + 1, v, e => by
    rw [List.getElem?_cons_succ] at e
    obtain ⟨d, e', z⟩ := t.at e
    exact ⟨d, by rw [List.getElem?_cons_succ]; exact e', z⟩
theorem TrAll.of : ∀ {vs : List V} {ds : List PyData}, vs.length = ds.length → (∀ (i : Nat) (v : V) (d : PyData), vs[i]? = some v → ds[i]? = some d → Tr G H v d) → TrAll G H vs ds
  | [], [], _, _ => .nil
  | v :: vs, d :: ds, e, h => .cons (h 0 v d rfl rfl) (TrAll.of (Nat.succ.inj e) fun i v d a b => h (i + 1) v d a b)
  | [], _ :: _, e, _ => by cases e
  | _ :: _, [], e, _ => by cases e
theorem TrAll.ints (ns : List Int) : TrAll G H (vI ns) (dI ns) := by
  induction ns with
  | nil => exact .nil
  | cons n ns ih => exact .cons (.int n) ih
end
theorem depth_mem {ds : List PyData} {d : PyData} (h : d ∈ ds) : d.depth ≤ PyData.depthAll ds := by
  induction ds with
  | nil => cases h
  | cons e ds ih =>
    show d.depth ≤ max e.depth (PyData.depthAll ds)
    rcases List.mem_cons.mp h with rfl | h
    · exact Nat.le_max_left _ _
    · exact Nat.le_trans (ih h) (Nat.le_max_right _ _)
/-! ### slices -/
theorem cut_lo {xs : List V} {k : Nat} : cutV xs (some ((k : Nat) : Int)) none = xs.drop k := by
  unfold cutV
  rw [HT.sIx_nat, HT.sIx_none]
  by_cases h : k ≤ xs.length
  · rw [Nat.min_eq_left h]
    exact List.take_of_length_le (by rw [List.length_drop]; exact Nat.le_refl _)
  · rw [Nat.min_eq_right (by omega), Nat.sub_self, List.take_zero, List.drop_eq_nil_of_le (by omega)]
theorem cut_hi {xs : List V} {k : Nat} : cutV xs none (some ((k : Nat) : Int)) = xs.take k := by
  unfold cutV
  rw [HT.sIx_nat, HT.sIx_none, List.drop_zero, Nat.sub_zero]
  by_cases h : k ≤ xs.length
  · rw [Nat.min_eq_left h]
  · rw [Nat.min_eq_right (by omega), List.take_length, List.take_of_length_le (by omega)]
theorem vI_drop (ns : List Int) (k : Nat) : (vI ns).drop k = vI (ns.drop k) := List.map_drop.symm
theorem vI_take (ns : List Int) (k : Nat) : (vI ns).take k = vI (ns.take k) := List.map_take.symm
theorem vI_app (a b : List Int) : vI a ++ vI b = vI (a ++ b) := List.map_append.symm
theorem vI_rev (a : List Int) : (vI a).reverse = vI a.reverse := List.map_reverse.symm
theorem vI_set (a : List Int) (n : Nat) (x : Int) : (vI a).set n (.int x) = vI (a.set n x) := List.map_set.symm
/-- a list of values that is a rearranged list of ints -/
theorem perm_vI {xs : List V} {ns : List Int} (h : xs.Perm (vI ns)) : ∃ ms : List Int, xs = vI ms ∧ ms.Perm ns := by
  have un : ∀ zs : List V, (∀ z ∈ zs, ∃ n : Int, z = .int n) → vI (zs.map fun z => match z with | .int n => n | _ => 0) = zs := by
    intro zs
    induction zs with
    | nil => intro _; rfl
    | cons z zs ih =>
      intro hz
      obtain ⟨n, rfl⟩ := hz z List.mem_cons_self
      have e := ih fun y hy => hz y (List.mem_cons_of_mem _ hy)
      show V.int n :: vI (zs.map _) = _
      rw [e]
  refine ⟨xs.map fun z => match z with | .int n => n | _ => 0, (un xs fun z hz => ?_).symm, ?_⟩
  · obtain ⟨n, _, e⟩ := List.mem_map.mp (h.mem_iff.mp hz)
    exact ⟨n, e.symm⟩
  · have p := h.map fun z : V => match z with | .int n => n | _ => 0
    have e : (vI ns).map (fun z : V => match z with | .int n => n | _ => 0) = ns := by
      unfold vI
      rw [List.map_map]
      exact List.map_id ns
    rw [e] at p
    exact p
theorem seq_ix {i : Int} {n : Nat} (h0 : 0 ≤ i) (h1 : i < n) : seqIndex? i n = some i.toNat := (ixN_seq (ixN_ok h0 h1)).1
theorem rgc_pos {j c : Int} (h0 : 0 ≤ j) (h1 : j < 2 ^ 40) (c0 : 1 ≤ c) (c1 : c < 1000000) : RgC 0 j c ((j + c - 1) / c).toNat := by
  have e := rangeSize_pos (len := j) (c := c) c0 h0
  have g0 : 0 ≤ (j + c - 1) / c := Int.ediv_nonneg (by omega) (by omega)
  have g2 : (j + c - 1) / c * c ≤ j + c - 1 := Int.ediv_mul_le _ (by omega)
  have g1 : (j + c - 1) / c ≤ j + c - 1 := by
    refine Int.le_trans ?_ g2
    have := Int.mul_le_mul_of_nonneg_left c0 g0
    rw [Int.mul_one] at this
    exact this
  refine ⟨by omega, by omega, ?_, by rw [e, Int.toNat_of_nonneg g0]⟩
  unfold Builtin.Range.small
  rw [e]
  simp only [Builtin.Range.rangeFitsLong, Bool.and_eq_true, Bool.or_eq_true, decide_eq_true_eq, beq_iff_eq, show c > 0 by omega, if_true]
  refine ⟨⟨⟨⟨by decide, by omega, by omega⟩, by omega, by omega⟩, by omega, by omega⟩, .inr ⟨by omega, by omega⟩⟩
/-! ### where ways join -/
section
variable {ts tu : TS} {R bk ct : L2.St → Hp → Prop} {rt : VK} {σ : L2.St} {H : Hp} {D : Ends}
theorem ifJ {c : Prop} [Decidable c] (J : L2.St → Hp → Prop) (h1 : ∀ R' : L2.St → Hp → Prop, (∀ σ H, J σ H → R' σ H) → c → ts ⟨R', rt, bk, ct⟩ σ H) (h2 : ∀ R' : L2.St → Hp → Prop, (∀ σ H, J σ H → R' σ H) → ¬ c → tu ⟨R', rt, bk, ct⟩ σ H) (hR : ∀ σ H, J σ H → R σ H) :
    if decide c = true then ts ⟨R, rt, bk, ct⟩ σ H else tu ⟨R, rt, bk, ct⟩ σ H := ifD (h1 R hR) (h2 R hR)
theorem seqJ (J : L2.St → Hp → Prop) (h1 : ∀ R' : L2.St → Hp → Prop, (∀ σ H, J σ H → R' σ H) → ts ⟨R', D.rt, D.bk, D.ct⟩ σ H) (hR : ∀ σ H, J σ H → tu D σ H) : tSeq ts tu D σ H := h1 _ hR
end
theorem r_ixLT {K : PySem.W.Frag} {H : Hp} {Q : VK} {v : V} {p : Addr} {xs : List V} {a : Int} (h : Sq H p xs) (e : atI xs a = some v) (q : Q v H) : oOr (rIxL K) (rIxT K) (.ref p) (.int a) H Q :=
  h.elim (fun h => .inl (r_ixL (lst_of h) e q)) fun h => .inr (r_ixT (tup_of h) e q)
/-! ### the same data, its lists and tuples dressed anew -/
mutual
inductive Drs : PyData → PyData → Prop
  | non : Drs .none .none
  | bl (b : Bool) : Drs (.bool b) (.bool b)
  | int (i : Int) : Drs (.int i) (.int i)
  | str (x : Str) : Drs (.str x) (.str x)
  | ll {ds es : List PyData} : DrsAll ds es → Drs (.list ds) (.list es)
  | lt {ds es : List PyData} : DrsAll ds es → Drs (.list ds) (.tuple es)
  | tl {ds es : List PyData} : DrsAll ds es → Drs (.tuple ds) (.list es)
  | tt {ds es : List PyData} : DrsAll ds es → Drs (.tuple ds) (.tuple es)
inductive DrsAll : List PyData → List PyData → Prop
  | nil : DrsAll [] []
  | cons {d e : PyData} {ds es : List PyData} : Drs d e → DrsAll ds es → DrsAll (d :: ds) (e :: es)
end
theorem DrsAll.snoc : ∀ {ds es : List PyData} {d e : PyData}, DrsAll ds es → Drs d e → DrsAll (ds ++ [d]) (es ++ [e])
  | _, _, _, _, .nil, h => .cons h .nil
  | _, _, _, _, .cons g t, h => .cons g (t.snoc h)
theorem DrsAll.len : ∀ {ds es : List PyData}, DrsAll ds es → ds.length = es.length
  | _, _, .nil => rfl
  | _, _, .cons _ t => congrArg Nat.succ t.len
theorem DrsAll.ints : ∀ {ns : List Int} {es : List PyData}, DrsAll (dI ns) es → es = dI ns
  | [], _, .nil => rfl
  | n :: ns, _, .cons h t => by
    cases h
    rw [t.ints]
    rfl
theorem Drs.ints {ns : List Int} {e : PyData} (h : Drs (.list (dI ns)) e) : e = .list (dI ns) ∨ e = .tuple (dI ns) := by
  cases h with
  | ll h => exact .inl (by rw [h.ints])
  | lt h => exact .inr (by rw [h.ints])
theorem TrAll.snoc {G : Addr → Prop} {H : Hp} : ∀ {vs : List V} {ds : List PyData} {v : V} {d : PyData}, TrAll G H vs ds → Tr G H v d → TrAll G H (vs ++ [v]) (ds ++ [d])
  | _, _, _, _, .nil, h => .cons h .nil
  | _, _, _, _, .cons g t, h => .cons g (t.snoc h)
theorem TrAll.val {G : Addr → Prop} {H : Hp} : ∀ {vs : List V} {ns : List Int}, TrAll G H vs (dI ns) → vs = vI ns
  | _, [], .nil => rfl
  | _, n :: ns, .cons h t => by
    cases h
    rw [t.val]
    rfl
theorem Tr.sq {G : Addr → Prop} {H : Hp} {v : V} {ns : List Int} {e : PyData} (h : Tr G H v e) (he : e = .list (dI ns) ∨ e = .tuple (dI ns)) : ∃ a, v = .ref a ∧ G a ∧ Sq H a (vI ns) := by
  rcases he with rfl | rfl
  · cases h with
    | lst h g _ t => rw [t.val] at h; exact ⟨_, rfl, g, .inl h⟩
  · cases h with
    | tup h g _ t => rw [t.val] at h; exact ⟨_, rfl, g, .inr h⟩
end Lx

namespace My
open PySem PySem.Spec PyProof.Rows L2 Lx
local macro_rules | `(tactic| walk_at "hp") => `(tactic| first
  | assumption
  | exact upd_same
  | (refine Eq.trans (upd_ne ?_) ?_; (focus (walk_at "ne")); walk_at "hp")
  | (refine Same.get (by assumption) ?_; walk_at "hp"))
local macro_rules | `(tactic| walk_at "ne") => `(tactic| first
  | assumption
  | exact Ne.symm (by assumption)
  | exact ne_new (by assumption) (by walk_at "hp")
  | exact (ne_new (by assumption) (by walk_at "hp")).symm)
local macro_rules | `(tactic| walk_at "sq") => `(tactic| first
  | assumption
  | exact lst_of (by walk_at "hp")
  | exact tup_of (by walk_at "hp")
  | (refine Same.seq (by assumption) ?_; walk_at "sq")
  | (refine Same.seqT (by assumption) ?_; walk_at "sq"))
local macro_rules | `(tactic| walk_at "lt") => `(tactic| first
  | assumption
  | exact Or.inl (by walk_at "sq")
  | exact Or.inr (by walk_at "sq")
  | exact Sq.or (by walk_at "q"))
local macro_rules | `(tactic| walk_at "q") => `(tactic| first
  | assumption
  | (refine Same.sq (by assumption) ?_; walk_at "q")
  | exact Or.inl (by walk_at "hp")
  | exact Or.inr (by walk_at "hp"))
local macro_rules | `(tactic| walk_at "s1") => `(tactic| with_reducible (first
  | refine r_seq ?_ | refine r_asg ?_ | refine r_name ?_ | refine r_c ?_ | refine r_op ?_ | refine r_if ?_ | refine r_test ?_ | refine r_bl ?_
  | refine r_I0 ?_ | refine r_eqI ?_ | refine r_neI ?_ | refine r_eqS ?_ | refine r_neS ?_ | refine r_eqB ?_ | refine r_neB ?_ | refine r_U ?_
  | refine r_cons ?_ | refine r_nil ?_ | refine r_CB ?_ | refine r_call ?_ | refine r_ret ?_ | refine r_nx ?_ | refine r_rt ?_ | refine r_next ?_ | refine r_retN ?_ | refine r_drop ?_
  | refine r_brk ?_ | refine r_cont ?_ | refine r_bk ?_ | refine r_ct ?_
  | refine r_lst ?_ | refine r_tup ?_ | refine r_new (Nat.le_of_ble_eq_true rfl) ?_ | refine r_sub ?_ | refine r_gcons ?_ | refine r_gnil ?_
  | refine r_B ?_ | refine r_and ?_ | refine r_or ?_ | refine r_not ?_ | refine r_andV ?_ | refine r_orV ?_ | refine r_notV ?_ | refine r_ifE ?_ | refine r_chain ?_
  | refine r_par ?_ | refine r_par3 ?_ | refine r_two ?_ | refine r_three ?_ | refine r_un ?_
  | refine r_BM ?_ | refine r_BM0 ?_ | refine r_tyS ?_ | refine r_sl ?_ | refine r_nop ?_ | refine r_part ?_ | refine r_int ?_ | refine r_revL ?_ | refine r_lstRg ?_ | refine r_rg1 ?_ | refine r_ip ?_ | refine r_isN0 ?_ | refine r_isNi ?_ | refine r_isNr ?_ | refine r_isNb ?_ | refine r_isNs ?_ | refine r_notN0 ?_ | refine r_notNi ?_ | refine r_notNr ?_ | refine r_abs ?_ | refine r_max2 ?_ | refine r_min2 ?_ | refine r_inti ?_ | refine r_intb ?_ | refine r_yes ?_ | refine r_for ?_ | refine r_lc ?_ | refine r_iList ?_ | refine r_iTup ?_ | refine r_iRng1 ?_ | refine r_iRng2 ?_ | refine r_iRng3 ?_ | refine r_iEnum ?_ | refine r_iZip ?_ | refine r_iStr ?_ | refine iteT ?_ | refine iteF ?_ | refine ifnT ?_ | refine ifnF ?_))
local macro_rules | `(tactic| walk_at "len") => `(tactic| first
  | assumption
  | exact szl (by (try simp only [vI_len, List.length_append, List.length_cons, List.length_nil, List.length_map, List.length_set, List.length_reverse]); omega)
  | exact sz (by (try simp only [vI_len, List.length_append, List.length_cons, List.length_nil, List.length_map, List.length_set, List.length_reverse]); omega))
local macro_rules | `(tactic| walk_at "side") => `(tactic| first
  | assumption
  | exact Or.inr ⟨by omega, by omega⟩
  | exact Or.inl ⟨by omega, by omega⟩
  | ((show (0 : Int) < _); first | assumption | decide | omega)
  | exact ⟨by decide, by decide⟩
  | exact ⟨by decide, by decide, by decide⟩
  | exact wide_div (b := 200) (by omega) (by omega) (by decide) (by decide))
local macro_rules | `(tactic| walk_at "ty") => `(tactic| first
  | exact ty_int | exact ty_bl | exact ty_str | exact ty_non | exact ty_lst (by walk_at "hp") | exact ty_tup (by walk_at "hp"))
local macro_rules | `(tactic| walk_at "kit") => `(tactic| first
  | exact k_ii | exact k_ib | exact k_is | exact k_il | exact k_it | exact k_bi | exact k_bb | exact k_bs | exact k_bl | exact k_bt | exact k_si | exact k_sb | exact k_ss | exact k_sl | exact k_st
  | exact k_ni | exact k_nb | exact k_ns | exact k_nl | exact k_nt | exact k_li | exact k_lb | exact k_ls | exact k_ll | exact k_lt | exact k_ti | exact k_tb | exact k_ts | exact k_tl | exact k_tt)
local macro_rules | `(tactic| walk_at "s2") => `(tactic| first
  | (with_reducible (first | refine ifNF rfl ?_ | refine ifDT rfl ?_))
  | refine ifDF (by decide) ?_
  | refine ifNT (by decide) ?_
  | ((with_reducible show tVar _ _ _ _); refine r_var rfl ?_)
  | ((with_reducible show tAug _ _ _ _ _ _); refine r_aug rfl ?_)
  | ((with_reducible show rI _ _ _ _ _ _); refine r_I (by walk_at "side") ?_)
  | ((with_reducible show rIxL _ _ _ _ _); refine r_ixL (by walk_at "sq") (by first | assumption | rfl) ?_)
  | ((with_reducible show rIxT _ _ _ _ _); refine r_ixT (by walk_at "sq") (by first | assumption | rfl) ?_)
  | ((with_reducible show rSetL _ _ _ _ _); refine r_setL (by walk_at "hp") (by first | assumption | rfl) ?_)
  | ((with_reducible show rSlL _ _ _ _ _ _); refine r_slL (by walk_at "sq") ?_)
  | ((with_reducible show rIsi _ _ _ _); refine isi_of (by walk_at "ty") (by walk_at "kit") ?_)
  | ((with_reducible show rIsiT _ _ _ _); first | refine isiLT_l (by walk_at "hp") (by walk_at "ty") (by walk_at "kit") (by walk_at "kit") ?_ | refine isiLT_t (by walk_at "hp") (by walk_at "ty") (by walk_at "kit") (by walk_at "kit") ?_ | refine isiLT_o (by walk_at "hp") (by walk_at "ty") (by walk_at "kit") (by walk_at "kit") ?_)
  | ((with_reducible show gTup _ _ _ _ _ _ _); refine r_gtup (by walk_at "sq") (by rfl) ?_)
  | ((with_reducible show gUnl _ _ _ _ _ _ _); refine r_gunl (by walk_at "sq") (by rfl) ?_)
  | ((with_reducible show tyV _ _ _ _ ∧ _); refine r_ty (by walk_at "hp") ?_)
  | ((with_reducible show rAppend _ _ _ _); refine r_app (by walk_at "hp") (by walk_at "len") ?_)
  | ((with_reducible show rLen _ _ _ _); refine r_len (by walk_at "lt") ?_)
  | ((with_reducible show rLenS _ _ _); refine r_lenS (by first | assumption | exact sz (by omega)) ?_)
  | ((with_reducible show rListOf _ _ _ _); refine r_listOf (by walk_at "lt") ?_))
local macro_rules | `(tactic| walk_at "s") => `(tactic| repeat (first | walk_at "s1" | walk_at "s2"))

def topS (i : Nat) : Stmt := PySem.Challenge.pw_leftreturn_k38_cycles_of_orders.main.body.getD i (.Pass ⟨0, 0, 0, 0⟩)
abbrev Sis_integer : Stmt := topS 5
abbrev Nis_integer : List Str := ["value", "low", "high"]
theorem scis_integer : FnScope Nis_integer ["value", "low", "high"] (defScope Sis_integer) := ⟨rfl, rfl, rfl, by decide +kernel, rfl, by decide +kernel, by decide +kernel⟩
abbrev Sis_listed : Stmt := topS 6
abbrev Nis_listed : List Str := ["value"]
theorem scis_listed : FnScope Nis_listed ["value"] (defScope Sis_listed) := ⟨rfl, rfl, rfl, by decide +kernel, rfl, by decide +kernel, by decide +kernel⟩
abbrev Sare_numbers : Stmt := topS 8
abbrev Nare_numbers : List Str := ["value", "number"]
theorem scare_numbers : FnScope Nare_numbers ["value"] (defScope Sare_numbers) := ⟨rfl, rfl, rfl, by decide +kernel, rfl, by decide +kernel, by decide +kernel⟩
abbrev Schecked_order : Stmt := topS 10
abbrev Nchecked_order : List Str := ["order"]
theorem scchecked_order : FnScope Nchecked_order ["order"] (defScope Schecked_order) := ⟨rfl, rfl, rfl, by decide +kernel, rfl, by decide +kernel, by decide +kernel⟩

section
variable {P : Program} {w : World} {K : PySem.W.Frag} {mg : Str → Option Value} {base : Heap}
def spIsInteger : Sp := fun vs H Q _ => ∃ (v l : Int) (h : V), vs = [.int v, .int l, h] ∧ ((∃ u : Int, h = .int u ∧ Q (.bl (decide (l ≤ v) && decide (v ≤ u))) H) ∨ (h = .non ∧ Q (.bl (decide (l ≤ v))) H))
theorem ok_is_integer {f : Addr} {fd : FuncData} {k : Nat} (B : Bn mg) (F : FunD K "is_integer" "is_integer" (defArgs Sis_integer) (defBody Sis_integer) (defScope Sis_integer) [.non] [] f fd) : FnG P w K mg base (k + 1) f fd ["value", "low", "high"] spIsInteger := by
  refine gokD F scis_integer (fun vs H Q E h => ?_) (fun cdv A fs s H vs Q E hG hr h => ?_)
  · obtain ⟨_, _, _, rfl, _⟩ := h; rfl
  · obtain ⟨v, l, h, rfl, h⟩ := h
    have hu := hr.units
    refine ⟨_, (pss_cons (ps_if (pw_or (pt_not (pt_val (pe_callB (k_isi K) (by rfl) B.isinstance Bisinstance (pa_cons (pv 0) (pa_cons (pe_bltn (v := .ty "int") (by rfl) B.int Tint rfl) pa_nil))))) (pw_or1 (pt_val (pe_callB (k_isi K) (by rfl) B.isinstance Bisinstance (pa_cons (pv 0) (pa_cons (pe_bltn (v := .ty "bool") (by rfl) B.bool Tbool rfl) pa_nil)))))).pt (pss_one (ps_ret pe_bl)) pss_nil) (pss_one (ps_ret (pe_and (pe_cmpR op_le (pv 1) (pv 0) (nomark _)) (pe_one (pe_or (pe_cmpR op_isN' (pv 2) pe_non (nomark _)) (pe_one (pe_cmpR op_le (pv 0) (pv 2) (nomark _))))))))), ?_⟩
    walk_at "s"
    refine ifD (fun h1 => ?_) (fun h1 => ?_)
    · walk_at "s"
      rcases h with ⟨u, rfl, q⟩ | ⟨rfl, q⟩
      · walk_at "s"
        rw [decide_eq_true h1] at q
        exact q
      · walk_at "s"
        rw [decide_eq_true h1] at q
        exact q
    · walk_at "s"
      rcases h with ⟨u, rfl, q⟩ | ⟨rfl, q⟩
      · rw [decide_eq_false h1] at q
        exact q
      · rw [decide_eq_false h1] at q
        exact q
def spIsListed : Sp := fun vs H Q _ => ∃ (a : Addr) (xs : List V), vs = [.ref a] ∧ Sq H a xs ∧ ∀ H', Same H H' → Q (.bl true) H'
theorem ok_is_listed {f : Addr} {fd : FuncData} {k : Nat} (B : Bn mg) (F : Fun K "is_listed" "is_listed" Sis_listed f fd) : FnG P w K mg base (k + 1) f fd ["value"] spIsListed := by
  refine gok F scis_listed (fun vs H Q E h => ?_) (fun cdv A fs s H vs Q E hG hr h => ?_)
  · obtain ⟨_, _, rfl, _⟩ := h; rfl
  · obtain ⟨a, xs, rfl, h, q⟩ := h
    have hu := hr.units
    refine ⟨_, (pss_one (ps_ret (pe_callB (k_isiT K) (by rfl) B.isinstance Bisinstance (pa_cons (pv 0) (pa_cons (pe_tup (pa_cons (pe_bltn (v := .ty "list") (by rfl) B.list Tlist rfl) (pa_cons (pe_bltn (v := .ty "tuple") (by rfl) B.tuple Ttuple rfl) pa_nil))) pa_nil))))), ?_⟩
    walk_at "s"
    intro p np
    have s1 := same_new (o := .tup [.ty "list", .ty "tuple"]) np
    rcases h with h | h
    · have h' := s1 _ _ h
      walk_at "s"
      exact q _ s1
    · have h' := s1 _ _ h
      walk_at "s"
      exact q _ s1
def spAreNumbers : Sp := fun vs H Q _ => ∃ (a : Addr) (ns : List Int), vs = [.ref a] ∧ Sq H a (vI ns) ∧ 1 ≤ ns.length ∧ ns.length ≤ 200 ∧ (∀ x ∈ ns, 0 ≤ x ∧ x < ns.length) ∧ ∀ H', Same H H' → Q (.bl true) H'
theorem ok_are_numbers {f : Addr} {fd : FuncData} (B : Bn mg) (c_MAX_SIZE : Gc mg "MAX_SIZE" (.int 200)) (D_is_listed : Df P w K mg base 1 "is_listed" [] spIsListed) (D_is_integer : Df P w K mg base 1 "is_integer" [] spIsInteger)
   (F : Fun K "are_numbers" "are_numbers" Sare_numbers f fd) : FnG P w K mg base 2 f fd ["value"] spAreNumbers := by
  refine gok F scare_numbers (fun vs H Q E h => ?_) (fun cdv A fs s H vs Q E hG hr h => ?_)
  · obtain ⟨_, _, rfl, _⟩ := h; rfl
  · obtain ⟨a, ns, rfl, h, h1, h2, h3, q⟩ := h
    have hu := hr.units
    refine ⟨_, (pss_cons (ps_if (pw_or (pt_not (pt_val (pe_df D_is_listed hG (hr.mono (by first | decide | omega)) passL (by rfl) (pa_cons (pv 0) pa_nil)))) (pw_or1 (pt_not (pt_chain op_le op_le pe_int (pe_callB (k_len K) (by rfl) B.len Blen (pa_cons (pv 0) pa_nil)) (pe_gc c_MAX_SIZE (by rfl)))))).pt (pss_one (ps_ret pe_bl)) pss_nil) (pss_one (ps_ret (pe_callB (k_all K) (by rfl) B.all Ball (pa_cons (pe_lc (own := [("number", 1)]) rfl scare_numbers.nd (pi_or (k_piL K (pv 0)) (k_piT K (pv 0))) (blkOk_by (own := [("number", 1)]) (N := Nare_numbers) (sc := defScope Sare_numbers) (by decide +kernel)) (fun _ _ _ _ _ => (pg_name (i := 1) scare_numbers.nd rfl (Or.inl rfl))) (fun _ _ _ _ _ => pts_nil) (fun _ _ _ _ _ => (pe_df D_is_integer hG (hr.mono (by first | decide | omega)) passL (by rfl) (pa_cons (pv 1) (pa_cons pe_int (pa_cons (pe_op op_sub (pe_callB (k_len K) (by rfl) B.len Blen (pa_cons (pv 0) pa_nil)) pe_int) pa_nil)))))) pa_nil))))), ?_⟩
    walk_at "s"
    refine ⟨a, _, rfl, h, fun H1 s1 => ?_⟩
    have hA := s1.sq h
    walk_at "s"
    refine ifDT (by rw [vI_len]; omega) ?_
    walk_at "s"
    refine ifNF (by rw [vI_len]; omega) ?_
    walk_at "s"
    have turn : ∀ (i : Nat) (x : V) (H' H'' : Hp) (Yes : V → Hp → Prop) (No : Hp → Prop), i < (vI ns).length → Same H1 H' → (H'' = H' ∧ (vI ns)[i]? = some x) → ((fun _ => true) i = true → ∀ H4, Same H' H4 → Yes ((fun _ => V.bl true) i) H4) → ((fun _ => true) i = false → ∀ H3, Same H' H3 → No H3) →
        gName 1 x (wipe (L2.start Nare_numbers [V.ref a]) [1]) H'' fun σ2 H2 => wipe σ2 [1] = wipe (L2.start Nare_numbers [V.ref a]) [1] ∧ tYes σ2 H2 fun b H3 => if b = true then (tCall spIsInteger [] E0 (tCons (tVar 1) (tCons (tC (.int 0)) (tCons (tOp (rI0 fun i j => V.int (i - j)) (tCB (rLen K) (tCons (tVar 0) tNil)) (tC (.int 1))) tNil)))) σ2 H3 Yes else No H3 := by
      rintro i x H' H'' Yes No hi s ⟨rfl, hx⟩ hY hN
      rw [vI_len] at hi
      rw [vI_at hi] at hx
      cases hx
      have hB := s.sq hA
      have hm := h3 _ (List.getElem_mem hi)
      walk_at "s"
      refine ⟨rfl, ?_⟩
      walk_at "s"
      refine ⟨_, _, _, rfl, .inl ⟨_, rfl, ?_⟩⟩
      rw [decide_eq_true (by omega : (0 : Int) ≤ ns[i]), decide_eq_true (show ns[i] ≤ ((vI ns).length : Int) - 1 by rw [vI_len]; omega)]
      exact hY rfl _ (Same.refl _)
    have fin : ∀ (Dl : Addr) (H' : Hp), H1 Dl = none → Same H1 H' → H' Dl = some (.lst (giv (vI ns).length (fun _ => true) fun _ => .bl true)) → rAll K [V.ref Dl] H' Q := by
      intro Dl H' nD s hD
      refine ⟨Dl, List.replicate (vI ns).length true, rfl, lst_of (hD.trans ?_), ?_⟩
      · rw [giv_const, List.map_replicate]
      · rw [show (List.replicate (vI ns).length true).all id = true by simp]
        exact q _ (s1.trans s)
    rcases id hA with hL | hL
    · refine .inl ?_
      walk_at "s"
      refine ⟨a, rfl, ⟨_, lst_of hL⟩, fun Dl nD => lc_pure (src_list (xs := vI ns)) _ _ (by rw [vI_len]; omega) (fun H' s => lst_of (s _ _ hL)) turn nD fun H' s hD => ?_⟩
      exact fin Dl H' nD s hD
    · refine .inr ?_
      walk_at "s"
      refine ⟨a, rfl, ⟨_, tup_of hL⟩, fun Dl nD => lc_pure (src_tup (xs := vI ns)) _ _ (by rw [vI_len]; omega) (fun H' s => tup_of (s _ _ hL)) turn nD fun H' s hD => ?_⟩
      exact fin Dl H' nD s hD
/-- an order -/
structure IsOrd (ns : List Int) : Prop where
  pos : 1 ≤ ns.length
  top : ns.length ≤ 200
  rng : ∀ x ∈ ns, 0 ≤ x ∧ x < ns.length
  nd : ns.Nodup
def iota (n : Nat) : List Int := (List.range n).map fun i => ((i : Nat) : Int)
theorem iota_len (n : Nat) : (iota n).length = n := by unfold iota; rw [List.length_map, List.length_range]
theorem iota_rg (n : Nat) : rgV 0 (n : Int) = vI (iota n) := by
  unfold rgV vI iota
  rw [List.map_map, show ((n : Int) - 0).toNat = n by omega]
  exact List.map_congr_left fun i _ => by show V.int (0 + (i : Int)) = V.int ((i : Nat) : Int); rw [Int.zero_add]
theorem pw_of_sorted {l : List Int} (h : l.Pairwise (· ≤ ·)) (nd : l.Nodup) : l.Pairwise (· < ·) := by
  induction l with
  | nil => exact .nil
  | cons a r ih =>
    rw [List.pairwise_cons] at h ⊢
    rw [List.nodup_cons] at nd
    refine ⟨fun b hb => ?_, ih h.2 nd.2⟩
    have := h.1 b hb
    have ne : a ≠ b := fun e => nd.1 (e ▸ hb)
    omega
/-- ascending and all in 0 .. n - 1, n of them -/
theorem sorted_iota : ∀ (n : Nat) (lo : Int) (l : List Int), l.length = n → l.Pairwise (· < ·) → (∀ x ∈ l, lo ≤ x ∧ x < lo + n) → l = (List.range n).map fun i => lo + ((i : Nat) : Int)
  | 0, lo, l, hl, _, _ => by rw [List.length_eq_zero_iff.mp hl]; rfl
  | n + 1, lo, [], hl, _, _ => by cases hl
  | n + 1, lo, a :: r, hl, hp, hr => by
    rw [List.pairwise_cons] at hp
    have hlen : r.length = n := Nat.succ.inj hl
    have ha := hr a List.mem_cons_self
    -- a is the least: all above are greater, and there are n of them below lo + n + 1
    have key : ∀ (k : Nat) (b : Int) (q : List Int), q.length = k → q.Pairwise (· < ·) → (∀ x ∈ q, b < x) → ∀ hi, (∀ x ∈ q, x < hi) → q ≠ [] → b + k < hi := by
      intro k
      induction k with
      | zero => intro b q hq _ _ hi _ hne; exact absurd (List.length_eq_zero_iff.mp hq) hne
      | succ k ih =>
        intro b q hq hp hb hi hh hne
        cases q with
        | nil => exact absurd rfl hne
        | cons c t =>
          rw [List.pairwise_cons] at hp
          have hc := hb c List.mem_cons_self
          have hc2 := hh c List.mem_cons_self
          cases t with
          | nil =>
            have : k = 0 := (Nat.succ.inj hq).symm
            subst this
            omega
          | cons d t =>
            have := ih c (d :: t) (Nat.succ.inj hq) hp.2 hp.1 hi (fun x hx => hh x (List.mem_cons_of_mem _ hx)) (List.cons_ne_nil _ _)
            omega
    have ea : a = lo := by
      cases r with
      | nil =>
        have : n = 0 := hlen.symm
        subst this
        omega
      | cons d t =>
        have := key n a (d :: t) hlen hp.2 hp.1 (lo + ((n + 1 : Nat) : Int)) (fun x hx => (hr x (List.mem_cons_of_mem _ hx)).2) (List.cons_ne_nil _ _)
        omega
    subst ea
    have ih := sorted_iota n (a + 1) r hlen hp.2 fun x hx => by
      have h1 := hp.1 x hx
      have h2 := (hr x (List.mem_cons_of_mem _ hx)).2
      constructor <;> omega
    rw [ih, List.range_succ_eq_map, List.map_cons, List.map_map]
    congr 1
    · simp
    · refine List.map_congr_left fun i _ => ?_
      show a + 1 + (i : Int) = a + ((i + 1 : Nat) : Int)
      omega
theorem IsOrd.sorted {ns l : List Int} (h : IsOrd ns) (p : l.Perm ns) (s : l.Pairwise (· ≤ ·)) : l = iota ns.length := by
  have z := sorted_iota ns.length 0 l p.length_eq (pw_of_sorted s (p.nodup_iff.mpr h.nd)) fun x hx => by
    have := h.rng x (p.mem_iff.mp hx)
    constructor <;> omega
  rw [z]
  unfold iota
  refine List.map_congr_left fun i _ => ?_
  show 0 + (i : Int) = (i : Int)
  omega
def spCheckedOrder : Sp := fun vs H Q _ => ∃ (a : Addr) (ns : List Int), vs = [.ref a] ∧ Sq H a (vI ns) ∧ IsOrd ns ∧ ∀ H' p, Same H H' → H p = none → H' p = some (.lst (vI ns)) → Q (.ref p) H'
theorem ok_checked_order {f : Addr} {fd : FuncData} (B : Bn mg) (D_are_numbers : Df P w K mg base 2 "are_numbers" [] spAreNumbers)
   (F : Fun K "checked_order" "checked_order" Schecked_order f fd) : FnG P w K mg base 3 f fd ["order"] spCheckedOrder := by
  refine gok F scchecked_order (fun vs H Q E h => ?_) (fun cdv A fs s H vs Q E hG hr h => ?_)
  · obtain ⟨_, _, rfl, _⟩ := h; rfl
  · obtain ⟨a, ns, rfl, h, hO, q⟩ := h
    have hu := hr.units
    refine ⟨_, (pss_cons (ps_if (pw_or (pt_not (pt_val (pe_df D_are_numbers hG (hr.mono (by first | decide | omega)) passL (by rfl) (pa_cons (pv 0) pa_nil)))) (pw_or1 (pt_cmpR (k_neD K hu) (pe_callB (call_or (k_sorted K) (k_sortedU K)) (by rfl) B.sorted Bsorted (pa_cons (pv 0) pa_nil)) (pe_listRg rfl (by rfl) B.list (prg_1 (by rfl) B.range (pe_callB (k_len K) (by rfl) B.len Blen (pa_cons (pv 0) pa_nil)))) (nomark _)))).pt (pss_one ps_never) pss_nil) (pss_one (ps_ret (pe_callTy (k_list K) (by rfl) B.list Tlist (pa_cons (pv 0) pa_nil))))), ?_⟩
    walk_at "s"
    refine ⟨a, _, rfl, h, hO.pos, hO.top, hO.rng, fun H1 s1 => ?_⟩
    have hA := s1.sq h
    walk_at "s"
    refine r_sortSq hA fun ns' p hp hs np => ?_
    have e := hO.sorted hp hs
    subst e
    have s2 := same_new (o := .lst (vI (iota ns.length))) np
    have hB := s2.sq hA
    walk_at "s"
    refine ⟨.of_le (by omega) (by rw [vI_len]; have := hO.top; omega) (by omega) (by omega), fun t nt => ?_⟩
    rw [vI_len, iota_rg]
    refine r_neLI (xs := iota ns.length) (ys := iota ns.length) (by walk_at "sq") (by walk_at "sq") ?_
    walk_at "s"
    have s3 := same_new (o := .lst (vI (iota ns.length))) nt
    have hC := s3.sq hB
    walk_at "s"
    intro u nu
    exact q _ u ((s1.trans s2).trans (s3.trans (same_new nu))) ((s1.trans s2).trans s3 |>.free nu) upd_same
end

abbrev Scycles_by : Stmt := topS 11
abbrev Ncycles_by : List Str := ["books", "found", "known", "start", "cycle", "place"]
theorem sccycles_by : FnScope Ncycles_by ["books"] (defScope Scycles_by) := ⟨rfl, rfl, rfl, by decide +kernel, rfl, by decide +kernel, by decide +kernel⟩
abbrev Scycles_of : Stmt := topS 12
abbrev Ncycles_of : List Str := ["order"]
theorem sccycles_of : FnScope Ncycles_of ["order"] (defScope Scycles_of) := ⟨rfl, rfl, rfl, by decide +kernel, rfl, by decide +kernel, by decide +kernel⟩
abbrev Slaw_cycles : Stmt := topS 20
abbrev Nlaw_cycles : List Str := ["order", "found", "known", "place", "cycle", "here"]
theorem sclaw_cycles : FnScope Nlaw_cycles ["order"] (defScope Slaw_cycles) := ⟨rfl, rfl, rfl, by decide +kernel, rfl, by decide +kernel, by decide +kernel⟩

/-! the mathematics of the cycles -/
def nx (ns : List Int) (p : Int) : Int := ns.getD p.toNat 0
def runC (ns : List Int) : Nat → List Int → List Int → Int → List Int × List Int
  | 0, kn, cy, _ => (kn, cy)
  | f + 1, kn, cy, p => if p ∈ kn then (kn, cy) else runC ns f (kn ++ [p]) (cy ++ [p]) (nx ns p)
def stepC (ns : List Int) (st : List Int × List (List Int)) (s : Int) : List Int × List (List Int) :=
  ((runC ns (ns.length + 1 - st.1.length) st.1 [] s).1, if 1 < (runC ns (ns.length + 1 - st.1.length) st.1 [] s).2.length then st.2 ++ [(runC ns (ns.length + 1 - st.1.length) st.1 [] s).2] else st.2)
def cycs (ns : List Int) : Nat → List Int × List (List Int)
  | 0 => ([], [])
  | i + 1 => stepC ns (cycs ns i) (i : Int)
structure Kn (n : Nat) (kn : List Int) : Prop where
  nd : kn.Nodup
  rg : ∀ x ∈ kn, 0 ≤ x ∧ x < n
theorem nodup_app {kn : List Int} {p : Int} (h : kn.Nodup) (hp : p ∉ kn) : (kn ++ [p]).Nodup := by
  rw [List.nodup_append]
  refine ⟨h, by simp, fun a ha b hb e => ?_⟩
  rw [List.mem_singleton] at hb
  subst hb; subst e
  exact hp ha
theorem Kn.add {n : Nat} {kn : List Int} {p : Int} (h : Kn n kn) (h0 : 0 ≤ p) (h1 : p < n) (hp : p ∉ kn) : Kn n (kn ++ [p]) := by
  refine ⟨nodup_app h.nd hp, fun x hx => ?_⟩
  rcases List.mem_append.mp hx with hx | hx
  · exact h.rg x hx
  · rw [List.mem_singleton] at hx; subst hx; exact ⟨h0, h1⟩
theorem len_of_rg : ∀ (n : Nat) (kn : List Int), kn.Nodup → (∀ x ∈ kn, 0 ≤ x ∧ x < n) → kn.length ≤ n
  | 0, kn, _, hr => by
    cases kn with
    | nil => exact Nat.le_refl _
    | cons x r => have := hr x List.mem_cons_self; omega
  | n + 1, kn, nd, hr => by
    by_cases h : ((n : Nat) : Int) ∈ kn
    · have ih := len_of_rg n (kn.erase (n : Int)) (nd.erase _) fun x hx => by
        have h1 := (nd.mem_erase_iff).mp hx
        have h2 := hr x h1.2
        have h3 := h1.1
        constructor <;> omega
      rw [List.length_erase_of_mem h] at ih
      omega
    · have ih := len_of_rg n kn nd fun x hx => by
        have h2 := hr x hx
        have h3 : x ≠ (n : Int) := fun e => h (e ▸ hx)
        constructor <;> omega
      omega
theorem Kn.len {n : Nat} {kn : List Int} (h : Kn n kn) : kn.length ≤ n := len_of_rg n kn h.nd h.rg
theorem IsOrd.nx {ns : List Int} (h : IsOrd ns) {p : Int} (h0 : 0 ≤ p) (h1 : p < ns.length) : 0 ≤ nx ns p ∧ nx ns p < ns.length := by
  unfold My.nx
  have hj : p.toNat < ns.length := by omega
  rw [List.getD_eq_getElem?_getD, List.getElem?_eq_getElem hj]
  exact h.rng _ (List.getElem_mem hj)
theorem runC_kn {ns : List Int} (h : IsOrd ns) : ∀ (f : Nat) (kn cy : List Int) (p : Int), Kn ns.length kn → 0 ≤ p → p < ns.length → Kn ns.length (runC ns f kn cy p).1
  | 0, kn, cy, p, k, _, _ => k
  | f + 1, kn, cy, p, k, h0, h1 => by
    unfold runC
    split
    · exact k
    · rename_i hp
      exact runC_kn h f _ _ _ (k.add h0 h1 hp) (h.nx h0 h1).1 (h.nx h0 h1).2
theorem runC_cy {ns : List Int} (h : IsOrd ns) : ∀ (f : Nat) (kn cy : List Int) (p : Int), Kn ns.length kn → 0 ≤ p → p < ns.length → (∀ x ∈ cy, x ∈ kn) → cy.Nodup → (runC ns f kn cy p).2.Nodup ∧ ∀ x ∈ (runC ns f kn cy p).2, x ∈ (runC ns f kn cy p).1
  | 0, kn, cy, p, k, _, _, hc, hn => ⟨hn, hc⟩
  | f + 1, kn, cy, p, k, h0, h1, hc, hn => by
    unfold runC
    split
    · exact ⟨hn, hc⟩
    · rename_i hp
      refine runC_cy h f _ _ _ (k.add h0 h1 hp) (h.nx h0 h1).1 (h.nx h0 h1).2 (fun x hx => ?_) (nodup_app hn fun z => hp (hc _ z))
      rcases List.mem_append.mp hx with hx | hx
      · exact List.mem_append_left _ (hc x hx)
      · exact List.mem_append_right _ hx
theorem cycs_kn {ns : List Int} (h : IsOrd ns) : ∀ i : Nat, i ≤ ns.length → Kn ns.length (cycs ns i).1
  | 0, _ => ⟨List.nodup_nil, fun x hx => by cases hx⟩
  | i + 1, hi => runC_kn h _ _ _ _ (cycs_kn h i (by omega)) (by omega) (by omega)
def bits (n : Nat) (kn : List Int) : List V := (List.range n).map fun j => V.bl (decide (((j : Nat) : Int) ∈ kn))
theorem bits_len (n : Nat) (kn : List Int) : (bits n kn).length = n := by unfold bits; rw [List.length_map, List.length_range]
theorem bits_at {n : Nat} {kn : List Int} {p : Int} (h0 : 0 ≤ p) (h1 : p < n) : atI (bits n kn) p = some (.bl (decide (p ∈ kn))) := by
  refine atI_ok h0 ?_
  unfold bits
  rw [List.getElem?_map, List.getElem?_range (by omega)]
  show some (V.bl (decide (((p.toNat : Nat) : Int) ∈ kn))) = _
  rw [Int.toNat_of_nonneg h0]
theorem bits_set {n : Nat} {kn : List Int} {p : Int} (h0 : 0 ≤ p) (h1 : p < n) : (bits n kn).set p.toNat (.bl true) = bits n (kn ++ [p]) := by
  unfold bits
  refine List.ext_getElem? fun j => ?_
  rw [List.getElem?_set, List.getElem?_map, List.getElem?_map, List.length_map, List.length_range]
  by_cases hj : j < n
  · rw [List.getElem?_range hj]
    by_cases e : p.toNat = j
    · rw [if_pos e, if_pos (by omega)]
      have : ((j : Nat) : Int) = p := by omega
      show some (V.bl true) = some (V.bl (decide (((j : Nat) : Int) ∈ kn ++ [p])))
      rw [this, decide_eq_true (List.mem_append_right _ (List.mem_singleton.mpr rfl))]
    · rw [if_neg e]
      have ne : ((j : Nat) : Int) ≠ p := by omega
      show some (V.bl (decide (((j : Nat) : Int) ∈ kn))) = some (V.bl (decide (((j : Nat) : Int) ∈ kn ++ [p])))
      have : (((j : Nat) : Int) ∈ kn ++ [p]) ↔ (((j : Nat) : Int) ∈ kn) := by
        rw [List.mem_append, List.mem_singleton]
        exact ⟨fun z => z.elim id fun e => absurd e ne, .inl⟩
      simp only [this]
  · rw [show (List.range n)[j]? = none from List.getElem?_eq_none_iff.mpr (by rw [List.length_range]; omega)]
    by_cases e : p.toNat = j
    · exfalso; omega
    · rw [if_neg e]; rfl
theorem bits_nil (n : Nat) : (List.replicate n [V.bl false]).flatten = bits n [] := by
  have e : (List.replicate n [V.bl false]).flatten = List.replicate n (V.bl false) := by
    induction n with
    | zero => rfl
    | succ n ih => rw [List.replicate_succ, List.flatten_cons, ih, List.replicate_succ]; rfl
  rw [e]
  unfold bits
  rw [show (fun j : Nat => V.bl (decide (((j : Nat) : Int) ∈ ([] : List Int)))) = fun _ => V.bl false from funext fun j => by simp, List.map_const', List.length_range]
/-- a list at p of lists of ints, these new since H0, none of them in bad -/
def LL (H0 H : Hp) (p : Addr) (bad : List Addr) (css : List (List Int)) : Prop := ∃ as : List Addr, H p = some (.lst (as.map V.ref)) ∧ as.length = css.length ∧
  ∀ (i : Nat) (a : Addr) (cs : List Int), as[i]? = some a → css[i]? = some cs → H a = some (.lst (vI cs)) ∧ H0 a = none ∧ a ∉ bad
theorem LL.same {H0 H H' : Hp} {p : Addr} {bad : List Addr} {css : List (List Int)} (h : LL H0 H p bad css) (s : Same H H') : LL H0 H' p bad css := by
  obtain ⟨as, h1, h2, h3⟩ := h
  exact ⟨as, s _ _ h1, h2, fun i a cs e1 e2 => ⟨s _ _ (h3 i a cs e1 e2).1, (h3 i a cs e1 e2).2⟩⟩
theorem LL.upd {H0 H : Hp} {p x : Addr} {o : HO} {bad : List Addr} {css : List (List Int)} (h : LL H0 H p bad css) (n : p ≠ x) (hx : x ∈ bad) : LL H0 (upd H x o) p bad css := by
  obtain ⟨as, h1, h2, h3⟩ := h
  refine ⟨as, by rw [upd_ne n]; exact h1, h2, fun i a cs e1 e2 => ?_⟩
  have z := h3 i a cs e1 e2
  refine ⟨?_, z.2⟩
  have ne : a ≠ x := fun e => z.2.2 (by rw [e]; exact hx)
  rw [upd_ne ne]
  exact z.1
theorem LL.less {H0 H : Hp} {p : Addr} {bad bad' : List Addr} {css : List (List Int)} (h : LL H0 H p bad css) (hb : ∀ x ∈ bad', x ∈ bad) : LL H0 H p bad' css := by
  obtain ⟨as, h1, h2, h3⟩ := h
  exact ⟨as, h1, h2, fun i a cs e1 e2 => ⟨(h3 i a cs e1 e2).1, (h3 i a cs e1 e2).2.1, fun z => (h3 i a cs e1 e2).2.2 (hb _ z)⟩⟩
theorem LL.more {H0 H : Hp} {p x : Addr} {bad : List Addr} {css : List (List Int)} (h : LL H0 H p bad css) (hx : H x = none) : LL H0 H p (x :: bad) css := by
  obtain ⟨as, h1, h2, h3⟩ := h
  refine ⟨as, h1, h2, fun i a cs e1 e2 => ⟨(h3 i a cs e1 e2).1, (h3 i a cs e1 e2).2.1, fun z => ?_⟩⟩
  rcases List.mem_cons.mp z with e | z
  · have := (h3 i a cs e1 e2).1
    rw [e, hx] at this
    cases this
  · exact (h3 i a cs e1 e2).2.2 z
theorem LL.app {H0 H : Hp} {p c : Addr} {bad : List Addr} {css : List (List Int)} {cs : List Int} (h : LL H0 H p bad css) (hp : p ∈ bad) (hc : H c = some (.lst (vI cs))) (h0 : H0 c = none) (hb : c ∉ bad) :
    ∃ xs, H p = some (.lst xs) ∧ xs.length = css.length ∧ LL H0 (L2.upd H p (.lst (xs ++ [.ref c]))) p bad (css ++ [cs]) := by
  obtain ⟨as, h1, h2, h3⟩ := h
  refine ⟨as.map V.ref, h1, by rw [List.length_map, h2], as ++ [c], ?_, by simp [h2], fun i a cs' e1 e2 => ?_⟩
  · rw [upd_same, List.map_append]; rfl
  · have np : ∀ a, a ∉ bad → a ≠ p := fun a n e => n (e ▸ hp)
    by_cases hi : i < as.length
    · rw [List.getElem?_append_left hi] at e1
      rw [List.getElem?_append_left (by omega)] at e2
      have z := h3 i a cs' e1 e2
      rw [upd_ne (np a z.2.2)]
      exact z
    · have hi' : i = as.length := by
        have := (List.getElem?_eq_some_iff.mp e1).1
        rw [List.length_append, List.length_singleton] at this
        omega
      subst hi'
      rw [List.getElem?_append_right (Nat.le_refl _), Nat.sub_self] at e1
      rw [List.getElem?_append_right (by omega), h2, Nat.sub_self] at e2
      cases e1; cases e2
      rw [upd_ne (np c hb)]
      exact ⟨hc, h0, hb⟩
theorem LL.nil {H0 H : Hp} {p : Addr} {bad : List Addr} (h : H p = some (.lst [])) : LL H0 H p bad [] := ⟨[], h, rfl, fun i a cs e1 _ => by simp at e1⟩
theorem cycs_len (ns : List Int) : ∀ i, (cycs ns i).2.length ≤ i
  | 0 => Nat.le_refl _
  | i + 1 => by
    have ih := cycs_len ns i
    show (stepC ns (cycs ns i) i).2.length ≤ i + 1
    unfold stepC
    dsimp only
    split
    · rw [List.length_append, List.length_singleton]; omega
    · omega
section
variable {P : Program} {w : World} {K : PySem.W.Frag} {mg : Str → Option Value} {base : Heap}
def spCyclesBy : Sp := fun vs H Q _ => ∃ (a : Addr) (ns : List Int), vs = [.ref a] ∧ H a = some (.lst (vI ns)) ∧ IsOrd ns ∧ ∀ H' p, Same H H' → H p = none → LL H H' p [p] (cycs ns ns.length).2 → Q (.ref p) H'
theorem ok_cycles_by {f : Addr} {fd : FuncData} {k : Nat} (B : Bn mg) (F : Fun K "cycles_by" "cycles_by" Scycles_by f fd) : FnG P w K mg base (k + 1) f fd ["books"] spCyclesBy := by
  refine gok F sccycles_by (fun vs H Q E h => ?_) (fun cdv A fs s H vs Q E hG hr h => ?_)
  · obtain ⟨_, _, rfl, _⟩ := h; rfl
  · obtain ⟨a, ns, rfl, hA, hO, q⟩ := h
    have hu := hr.units
    have hn := hO.top
    refine ⟨_, (pss_cons (ps_set (i := 1) sccycles_by.nd rfl (Or.inl rfl) (pe_lst pa_nil)) (pss_cons (ps_set (i := 2) sccycles_by.nd rfl (Or.inl rfl) (pe_op op_rep (pe_lst (pa_cons pe_bl pa_nil)) (pe_callB (k_len K) (by rfl) B.len Blen (pa_cons (pv 0) pa_nil)))) (pss_cons (ps_for (passes_of rfl) rfl (pi_range1 (by rfl) B.range (pa_cons (pe_callB (k_len K) (by rfl) B.len Blen (pa_cons (pv 0) pa_nil)) pa_nil)) (pg_name (i := 3) sccycles_by.nd rfl (Or.inl rfl)) (pss_cons (ps_set (i := 4) sccycles_by.nd rfl (Or.inl rfl) (pe_lst pa_nil)) (pss_cons (ps_set (i := 5) sccycles_by.nd rfl (Or.inl rfl) (pv 3)) (pss_cons (ps_while (passes_of rfl) (pt_not (pt_val (pe_ix (k_ixL K) (pv 2) (pv 5) (fun _ _ => rfl)))) (pss_cons (ps_asg pe_bl (pg_sub (pv 2) (pv 5) set_list)) (pss_cons (ps_expr (k_bmP K (pe_bm PySem.F.plainAttrs_list PySem.F.slot_list_append PySem.F.type_list_append mt_append (pv 4) (pa_cons (pv 5) pa_nil)))) (pss_one (ps_set (i := 5) sccycles_by.nd rfl (Or.inl rfl) (pe_ix (k_ixL K) (pv 0) (pv 5) (fun _ _ => rfl))))))) (pss_one (ps_if (pt_cmpR op_gt (pe_callB (k_len K) (by rfl) B.len Blen (pa_cons (pv 4) pa_nil)) pe_int (nomark _)) (pss_one (ps_expr (k_bmP K (pe_bm PySem.F.plainAttrs_list PySem.F.slot_list_append PySem.F.type_list_append mt_append (pv 1) (pa_cons (pv 4) pa_nil))))) pss_nil)))))) (pss_one (ps_ret (pv 1)))))), ?_⟩
    walk_at "s"
    intro found nf
    have s1 := same_new (o := .lst []) nf
    walk_at "s"
    intro t nt
    have s2 := same_new (o := .lst [V.bl false]) nt
    have hA2 := (s1.trans s2) _ _ hA
    walk_at "s"
    refine r_rep upd_same (by rw [vI_len]; simp; omega) (by rw [vI_len]; omega) fun known nk => ?_
    rw [vI_len, bits_nil]
    have s3 := same_new (o := .lst (bits ns.length [])) nk
    have hA3 := s3 _ _ hA2
    have hF : upd (upd (upd H found (.lst [])) t (.lst [V.bl false])) known (.lst (bits ns.length [])) found = some (.lst []) := s3 _ _ (s2 _ _ upd_same)
    have n0k : H known = none := (s1.trans s2).free nk
    have nfk : found ≠ known := ne_new nk (s2 _ _ upd_same)
    walk_at "s"
    refine ⟨_, rfl, by omega, by rw [vI_len]; omega, ?_⟩
    rw [Int.toNat_natCast, vI_len]
    refine for_src src_range (fun i σ H' => ∃ v3 v4 v5, σ = [some (.ref a), some (.ref found), some (.ref known), v3, v4, v5] ∧ Same H H' ∧ H' known = some (.lst (bits ns.length (cycs ns i).1)) ∧ LL H H' found [found, known] (cycs ns i).2)
      (fun _ _ _ _ => trivial) ⟨none, none, none, rfl, (s1.trans s2).trans s3, upd_same, LL.nil hF⟩ ?_ ?_
    · rintro i v σ H1 H1' hi ⟨v3, v4, v5, rfl, sA, hk, hL⟩ ⟨rfl, rfl⟩
      rw [Int.zero_add]
      have kn0 := cycs_kn hO i (by omega)
      walk_at "s"
      intro cycle nc
      have s4 := same_new (o := .lst []) nc
      have ncf : found ≠ cycle := by
        obtain ⟨as, h1, _⟩ := hL
        exact ne_new nc h1
      have nck : known ≠ cycle := ne_new nc hk
      walk_at "s"
      refine ⟨fun m σ H2 => ∃ (kn cy : List Int) (pl : Int), σ = [some (.ref a), some (.ref found), some (.ref known), some (.int (i : Int)), some (.ref cycle), some (.int pl)] ∧ Same H H2 ∧ H2 known = some (.lst (bits ns.length kn)) ∧ H2 cycle = some (.lst (vI cy)) ∧ LL H H2 found [cycle, found, known] (cycs ns i).2 ∧
          Kn ns.length kn ∧ 0 ≤ pl ∧ pl < ns.length ∧ m + kn.length = ns.length + 1 ∧ cy.length ≤ kn.length ∧ runC ns m kn cy pl = runC ns (ns.length + 1 - (cycs ns i).1.length) (cycs ns i).1 [] i,
        ⟨ns.length + 1 - (cycs ns i).1.length, (cycs ns i).1, [], (i : Int), rfl, same_set sA (sA.free nc), by rw [upd_ne nck]; exact hk, upd_same, (hL.more nc).same s4, kn0, by omega, by omega, by have := kn0.len; omega, Nat.zero_le _, rfl⟩, ?_⟩
      rintro m σ H2 ⟨kn, cy, pl, rfl, sB, hk2, hc2, hL2, kk, p0, p1, em, el, er⟩
      have hA2 := sB _ _ hA
      have e1 := bits_at (kn := kn) p0 p1
      have e2 : ixN (bits ns.length kn).length pl = some pl.toNat := ixN_ok p0 (by rw [bits_len]; exact p1)
      have kl := kk.len
      walk_at "s"
      refine ifN (fun hp => ?_) (fun hp => ?_)
      · refine r_wN (I := fun m σ H2 => ∃ (kn cy : List Int) (pl : Int), σ = [some (.ref a), some (.ref found), some (.ref known), some (.int (i : Int)), some (.ref cycle), some (.int pl)] ∧ Same H H2 ∧ H2 known = some (.lst (bits ns.length kn)) ∧ H2 cycle = some (.lst (vI cy)) ∧ LL H H2 found [cycle, found, known] (cycs ns i).2 ∧
          Kn ns.length kn ∧ 0 ≤ pl ∧ pl < ns.length ∧ m + kn.length = ns.length + 1 ∧ cy.length ≤ kn.length ∧ runC ns m kn cy pl = runC ns (ns.length + 1 - (cycs ns i).1.length) (cycs ns i).1 [] i) ?_
        have nak : a ≠ known := ne_new n0k hA
        have nac : a ≠ cycle := ne_new nc (sA _ _ hA)
        have e3 := atI_ints (ns := ns) p0 p1
        walk_at "s"
        have mp : m = (m - 1) + 1 := by omega
        have step : runC ns m kn cy pl = runC ns (m - 1) (kn ++ [pl]) (cy ++ [pl]) (nx ns pl) := by
          rw [mp]
          show (if pl ∈ kn then (kn, cy) else runC ns (m - 1) (kn ++ [pl]) (cy ++ [pl]) (nx ns pl)) = _
          rw [if_neg hp]
          rfl
        refine ⟨m - 1, by omega, kn ++ [pl], cy ++ [pl], nx ns pl, rfl, same_set (same_set sB n0k) (sA.free nc), ?_, ?_, (hL2.upd nfk (by simp)).upd ncf (by simp), kk.add p0 p1 hp, (hO.nx p0 p1).1, (hO.nx p0 p1).2, ?_, ?_, ?_⟩
        · rw [upd_ne nck, upd_same, bits_set p0 p1]
        · rw [upd_same]; unfold vI; rw [List.map_append]; rfl
        · rw [List.length_append, List.length_singleton]; omega
        · rw [List.length_append, List.length_append, List.length_singleton]; omega
        · rw [← step]; exact er
      · have fin : runC ns m kn cy pl = (kn, cy) := by
          cases m with
          | zero => rfl
          | succ m => show (if pl ∈ kn then (kn, cy) else _) = _; rw [if_pos hp]
        rw [fin] at er
        have c1 : (cycs ns (i + 1)).1 = kn := by show (runC ns _ _ _ _).1 = kn; rw [← er]
        walk_at "s"
        rw [vI_len]
        refine ifD (fun hc => ?_) (fun hc => ?_)
        · have c2 : (cycs ns (i + 1)).2 = (cycs ns i).2 ++ [cy] := by
            show (if 1 < (runC ns _ _ _ _).2.length then _ else _) = _
            rw [← er, if_pos (by show 1 < cy.length; omega)]
          obtain ⟨xs, h1, h2, h3⟩ := (hL2.less (bad' := [found, known]) (by simp)).app (c := cycle) (cs := cy) (by simp) hc2 (sA.free nc) (by simp; exact ⟨ncf.symm, nck.symm⟩)
          have xl := cycs_len ns i
          walk_at "s"
          refine ⟨_, _, _, rfl, same_set sB nf, ?_, ?_⟩
          · rw [upd_ne nfk.symm, c1]; exact hk2
          · rw [c2]; exact h3
        · have c2 : (cycs ns (i + 1)).2 = (cycs ns i).2 := by
            show (if 1 < (runC ns _ _ _ _).2.length then _ else _) = _
            rw [← er, if_neg (by show ¬ 1 < cy.length; omega)]
          walk_at "s"
          refine ⟨_, _, _, rfl, sB, ?_, ?_⟩
          · rw [c1]; exact hk2
          · rw [c2]; exact hL2.less (by simp)
    · rintro σ H1 ⟨v3, v4, v5, rfl, sA, hk, hL⟩
      walk_at "s"
      exact q _ _ sA nf (hL.less (by simp))
def spCyclesOf : Sp := fun vs H Q _ => ∃ (a : Addr) (ns : List Int), vs = [.ref a] ∧ Sq H a (vI ns) ∧ IsOrd ns ∧ ∀ H' p, Same H H' → H p = none → LL H H' p [p] (cycs ns ns.length).2 → Q (.ref p) H'
theorem LL.older {H0 H0' H : Hp} {p : Addr} {bad : List Addr} {css : List (List Int)} (h : LL H0' H p bad css) (s : Same H0 H0') : LL H0 H p bad css := by
  obtain ⟨as, h1, h2, h3⟩ := h
  exact ⟨as, h1, h2, fun i a cs e1 e2 => ⟨(h3 i a cs e1 e2).1, s.free (h3 i a cs e1 e2).2.1, (h3 i a cs e1 e2).2.2⟩⟩
theorem ok_cycles_of {f : Addr} {fd : FuncData} (D_cycles_by : Df P w K mg base 1 "cycles_by" [] spCyclesBy) (D_checked_order : Df P w K mg base 3 "checked_order" [] spCheckedOrder) (F : Fun K "cycles_of" "cycles_of" Scycles_of f fd) : FnG P w K mg base 4 f fd ["order"] spCyclesOf := by
  refine gok F sccycles_of (fun vs H Q E h => ?_) (fun cdv A fs s H vs Q E hG hr h => ?_)
  · obtain ⟨_, _, rfl, _⟩ := h; rfl
  · obtain ⟨a, ns, rfl, hA, hO, q⟩ := h
    refine ⟨_, (pss_one (ps_ret (pe_df D_cycles_by hG (hr.mono (by first | decide | omega)) passL (by rfl) (pa_cons (pe_df D_checked_order hG (hr.mono (by first | decide | omega)) passL (by rfl) (pa_cons (pv 0) pa_nil)) pa_nil)))), ?_⟩
    walk_at "s"
    refine ⟨a, ns, rfl, hA, hO, fun H1 p s1 np hp => ?_⟩
    walk_at "s"
    refine ⟨p, ns, rfl, hp, hO, fun H2 r s2 nr hL => ?_⟩
    walk_at "s"
    exact q H2 r (s1.trans s2) (s1.free nr) (hL.older s1)
def spLawCycles : Sp := fun vs H Q _ => ∃ (a : Addr) (ns : List Int), vs = [.ref a] ∧ H a = some (.lst (vI ns)) ∧ IsOrd ns ∧ ∀ H' p, Same H H' → H p = none → LL H H' p [p] (cycs ns ns.length).2 → Q (.ref p) H'
theorem ok_law_cycles {f : Addr} {fd : FuncData} {k : Nat} (B : Bn mg) (F : Fun K "_law_cycles" "_law_cycles" Slaw_cycles f fd) : FnG P w K mg base (k + 1) f fd ["order"] spLawCycles := by
  refine gok F sclaw_cycles (fun vs H Q E h => ?_) (fun cdv A fs s H vs Q E hG hr h => ?_)
  · obtain ⟨_, _, rfl, _⟩ := h; rfl
  · obtain ⟨a, ns, rfl, hA, hO, q⟩ := h
    have hu := hr.units
    have hn := hO.top
    refine ⟨_, (pss_cons (ps_par (i := 1) (j := 2) rfl sclaw_cycles.nd rfl rfl (by decide) rfl rfl (pa_cons (pe_lst pa_nil) (pa_cons (pe_lst pa_nil) pa_nil)) (by with_unfolding_all rfl)) (pss_cons (ps_for (passes_of rfl) rfl (pi_range1 (by rfl) B.range (pa_cons (pe_callB (k_len K) (by rfl) B.len Blen (pa_cons (pv 0) pa_nil)) pa_nil)) (pg_name (i := 3) sclaw_cycles.nd rfl (Or.inl rfl)) (pss_cons (ps_par (i := 4) (j := 5) rfl sclaw_cycles.nd rfl rfl (by decide) rfl rfl (pa_cons (pe_lst pa_nil) (pa_cons (pv 3) pa_nil)) (by with_unfolding_all rfl)) (pss_cons (ps_while (passes_of rfl) (pt_cmpR (k_notIn K) (pv 5) (pv 2) rfl) (pss_cons (ps_expr (k_bmP K (pe_bm PySem.F.plainAttrs_list PySem.F.slot_list_append PySem.F.type_list_append mt_append (pv 2) (pa_cons (pv 5) pa_nil)))) (pss_cons (ps_expr (k_bmP K (pe_bm PySem.F.plainAttrs_list PySem.F.slot_list_append PySem.F.type_list_append mt_append (pv 4) (pa_cons (pv 5) pa_nil)))) (pss_one (ps_set (i := 5) sclaw_cycles.nd rfl (Or.inl rfl) (pe_ix (k_ixL K) (pv 0) (pv 5) (fun _ _ => rfl))))))) (pss_one (ps_if (pt_cmpR op_gt (pe_callB (k_len K) (by rfl) B.len Blen (pa_cons (pv 4) pa_nil)) pe_int (nomark _)) (pss_one (ps_expr (k_bmP K (pe_bm PySem.F.plainAttrs_list PySem.F.slot_list_append PySem.F.type_list_append mt_append (pv 1) (pa_cons (pv 4) pa_nil))))) pss_nil))))) (pss_one (ps_ret (pv 1))))), ?_⟩
    walk_at "s"
    intro found nf
    have s1 := same_new (o := .lst []) nf
    walk_at "s"
    intro known nk
    have s2 := same_new (o := .lst []) nk
    have hA3 := (s1.trans s2) _ _ hA
    have n0k : H known = none := s1.free nk
    have nfk : found ≠ known := ne_new nk upd_same
    walk_at "s"
    refine ⟨_, rfl, by omega, by rw [vI_len]; omega, ?_⟩
    rw [Int.toNat_natCast, vI_len]
    refine for_src src_range (fun i σ H' => ∃ v3 v4 v5, σ = [some (.ref a), some (.ref found), some (.ref known), v3, v4, v5] ∧ Same H H' ∧ H' known = some (.lst (vI (cycs ns i).1)) ∧ LL H H' found [found, known] (cycs ns i).2)
      (fun _ _ _ _ => trivial) ⟨none, none, none, rfl, s1.trans s2, upd_same, LL.nil (s2 _ _ upd_same)⟩ ?_ ?_
    · rintro i v σ H1 H1' hi ⟨v3, v4, v5, rfl, sA, hk, hL⟩ ⟨rfl, rfl⟩
      rw [Int.zero_add]
      have kn0 := cycs_kn hO i (by omega)
      walk_at "s"
      intro cycle nc
      have s4 := same_new (o := .lst []) nc
      have ncf : found ≠ cycle := by
        obtain ⟨as, h1, _⟩ := hL
        exact ne_new nc h1
      have nck : known ≠ cycle := ne_new nc hk
      walk_at "s"
      refine ⟨fun m σ H2 => ∃ (kn cy : List Int) (pl : Int), σ = [some (.ref a), some (.ref found), some (.ref known), some (.int (i : Int)), some (.ref cycle), some (.int pl)] ∧ Same H H2 ∧ H2 known = some (.lst (vI kn)) ∧ H2 cycle = some (.lst (vI cy)) ∧ LL H H2 found [cycle, found, known] (cycs ns i).2 ∧
          Kn ns.length kn ∧ 0 ≤ pl ∧ pl < ns.length ∧ m + kn.length = ns.length + 1 ∧ cy.length ≤ kn.length ∧ runC ns m kn cy pl = runC ns (ns.length + 1 - (cycs ns i).1.length) (cycs ns i).1 [] i,
        ⟨ns.length + 1 - (cycs ns i).1.length, (cycs ns i).1, [], (i : Int), rfl, same_set sA (sA.free nc), by rw [upd_ne nck]; exact hk, upd_same, (hL.more nc).same s4, kn0, by omega, by omega, by have := kn0.len; omega, Nat.zero_le _, rfl⟩, ?_⟩
      rintro m σ H2 ⟨kn, cy, pl, rfl, sB, hk2, hc2, hL2, kk, p0, p1, em, el, er⟩
      have hA2 := sB _ _ hA
      have kl := kk.len
      walk_at "s"
      refine ⟨known, _, rfl, .inl (lst_of hk2), rfl, flat_ints kn, ?_⟩
      rw [inV_ints]
      walk_at "s"
      refine ifN (fun hp => ?_) (fun hp => ?_)
      · refine r_wN (I := fun m σ H2 => ∃ (kn cy : List Int) (pl : Int), σ = [some (.ref a), some (.ref found), some (.ref known), some (.int (i : Int)), some (.ref cycle), some (.int pl)] ∧ Same H H2 ∧ H2 known = some (.lst (vI kn)) ∧ H2 cycle = some (.lst (vI cy)) ∧ LL H H2 found [cycle, found, known] (cycs ns i).2 ∧
          Kn ns.length kn ∧ 0 ≤ pl ∧ pl < ns.length ∧ m + kn.length = ns.length + 1 ∧ cy.length ≤ kn.length ∧ runC ns m kn cy pl = runC ns (ns.length + 1 - (cycs ns i).1.length) (cycs ns i).1 [] i) ?_
        have nak : a ≠ known := ne_new n0k hA
        have nac : a ≠ cycle := ne_new nc (sA _ _ hA)
        have e3 := atI_ints (ns := ns) p0 p1
        walk_at "s"
        have mp : m = (m - 1) + 1 := by omega
        have step : runC ns m kn cy pl = runC ns (m - 1) (kn ++ [pl]) (cy ++ [pl]) (nx ns pl) := by
          rw [mp]
          show (if pl ∈ kn then (kn, cy) else runC ns (m - 1) (kn ++ [pl]) (cy ++ [pl]) (nx ns pl)) = _
          rw [if_neg hp]
          rfl
        refine ⟨m - 1, by omega, kn ++ [pl], cy ++ [pl], nx ns pl, rfl, same_set (same_set sB n0k) (sA.free nc), ?_, ?_, (hL2.upd nfk (by simp)).upd ncf (by simp), kk.add p0 p1 hp, (hO.nx p0 p1).1, (hO.nx p0 p1).2, ?_, ?_, ?_⟩
        · rw [upd_ne nck, upd_same]; unfold vI; rw [List.map_append]; rfl
        · rw [upd_same]; unfold vI; rw [List.map_append]; rfl
        · rw [List.length_append, List.length_singleton]; omega
        · rw [List.length_append, List.length_append, List.length_singleton]; omega
        · rw [← step]; exact er
      · have fin : runC ns m kn cy pl = (kn, cy) := by
          cases m with
          | zero => rfl
          | succ m => show (if pl ∈ kn then (kn, cy) else _) = _; rw [if_pos hp]
        rw [fin] at er
        have c1 : (cycs ns (i + 1)).1 = kn := by show (runC ns _ _ _ _).1 = kn; rw [← er]
        walk_at "s"
        rw [vI_len]
        refine ifD (fun hc => ?_) (fun hc => ?_)
        · have c2 : (cycs ns (i + 1)).2 = (cycs ns i).2 ++ [cy] := by
            show (if 1 < (runC ns _ _ _ _).2.length then _ else _) = _
            rw [← er, if_pos (by show 1 < cy.length; omega)]
          obtain ⟨xs, h1, h2, h3⟩ := (hL2.less (bad' := [found, known]) (by simp)).app (c := cycle) (cs := cy) (by simp) hc2 (sA.free nc) (by simp; exact ⟨ncf.symm, nck.symm⟩)
          have xl := cycs_len ns i
          walk_at "s"
          refine ⟨_, _, _, rfl, same_set sB nf, ?_, ?_⟩
          · rw [upd_ne nfk.symm, c1]; exact hk2
          · rw [c2]; exact h3
        · have c2 : (cycs ns (i + 1)).2 = (cycs ns i).2 := by
            show (if 1 < (runC ns _ _ _ _).2.length then _ else _) = _
            rw [← er, if_neg (by show ¬ 1 < cy.length; omega)]
          walk_at "s"
          refine ⟨_, _, _, rfl, sB, ?_, ?_⟩
          · rw [c1]; exact hk2
          · rw [c2]; exact hL2.less (by simp)
    · rintro σ H1 ⟨v3, v4, v5, rfl, sA, hk, hL⟩
      walk_at "s"
      exact q _ _ sA nf (hL.less (by simp))
end

abbrev Slaw_spring : Stmt := topS 14
abbrev Nlaw_spring : List Str := ["script", "digits", "seed", "cell"]
theorem sclaw_spring : FnScope Nlaw_spring ["script"] (defScope Slaw_spring) := ⟨rfl, rfl, rfl, by decide +kernel, rfl, by decide +kernel, by decide +kernel⟩
abbrev Slaw_draw : Stmt := topS 15
abbrev Nlaw_draw : List Str := ["spring", "many", "found", "mix"]
theorem sclaw_draw : FnScope Nlaw_draw ["spring", "many"] (defScope Slaw_draw) := ⟨rfl, rfl, rfl, by decide +kernel, rfl, by decide +kernel, by decide +kernel⟩
abbrev Slaw_mixed : Stmt := topS 18
abbrev Nlaw_mixed : List Str := ["spring", "row", "left", "k"]
theorem sclaw_mixed : FnScope Nlaw_mixed ["spring", "row"] (defScope Slaw_mixed) := ⟨rfl, rfl, rfl, by decide +kernel, rfl, by decide +kernel, by decide +kernel⟩

def SpringAt (H : Hp) (r : Addr) : Prop := ∃ dg sd c : Int, H r = some (.lst [.int dg, .int sd, .int c]) ∧ 0 ≤ dg ∧ 0 ≤ sd ∧ sd < 2305843009213693951
theorem SpringAt.same {H H' : Hp} {r : Addr} (h : SpringAt H r) (s : Same H H') : SpringAt H' r := by
  obtain ⟨dg, sd, c, h, z⟩ := h
  exact ⟨dg, sd, c, s _ _ h, z⟩
theorem SpringAt.upd {H : Hp} {r p : Addr} {o : HO} (h : SpringAt H r) (n : r ≠ p) : SpringAt (L2.upd H p o) r := by
  obtain ⟨dg, sd, c, h, z⟩ := h
  exact ⟨dg, sd, c, (upd_ne n).trans h, z⟩
theorem SpringAt.ne {H : Hp} {r p : Addr} (h : SpringAt H r) (n : H p = none) : r ≠ p := by
  obtain ⟨dg, sd, c, h, z⟩ := h
  exact ne_new n h
theorem SpringAt.got {H : Hp} {r : Addr} (h : SpringAt H r) : H r ≠ none := by
  obtain ⟨dg, sd, c, h, z⟩ := h
  rw [h]; simp
def spDraw : Sp := fun vs H Q _ => ∃ (r : Addr) (n : Int), vs = [.ref r, .int n] ∧ SpringAt H r ∧ 0 < n ∧ n < 2 ^ 200 ∧ ∀ d H', 0 ≤ d → d < n → SpringAt H' r → Kp r H H' → Q (.int d) H'
def spSpring (K : PySem.W.Frag) : Sp := fun vs H Q _ => ∃ (a : Addr) (ns : List Int), vs = [.ref a] ∧ SqL K H a (ns.map V.int) ∧ ∀ H' r, Same H H' → H r = none → SpringAt H' r → Q (.ref r) H'
section
variable {P : Program} {w : World} {K : PySem.W.Frag} {mg : Str → Option Value} {base : Heap}
theorem ok_law_draw {f : Addr} {fd : FuncData} {k : Nat} (F : Fun K "_law_draw" "_law_draw" Slaw_draw f fd) : FnG P w K mg base (k + 1) f fd ["spring", "many"] spDraw := by
  refine gok F sclaw_draw (fun vs H Q E h => ?_) (fun cdv A fs s H vs Q E hG hr h => ?_)
  · obtain ⟨r, n, rfl, _⟩ := h; rfl
  · obtain ⟨r, n, rfl, ⟨dg, sd, c, hR, h0, h1, h2⟩, hn, hn2, q⟩ := h
    have hu := hr.units
    refine ⟨_, (pss_cons (ps_if (pt_cmpR op_gt (pe_ix (k_ixL K) (pv 0) pe_int (fun _ _ => rfl)) pe_int (nomark _)) (pss_cons (ps_set (i := 2) sclaw_draw.nd rfl (Or.inl rfl) (pe_op op_mod (pe_ix (k_ixL K) (pv 0) pe_int (fun _ _ => rfl)) (pv 1))) (pss_cons (ps_asg (pe_op op_fdivW (pe_ix (k_ixL K) (pv 0) pe_int (fun _ _ => rfl)) (pv 1)) (pg_sub (pv 0) pe_int set_list)) (pss_one (ps_ret (pv 2))))) pss_nil) (pss_cons (ps_asg (pe_op op_add (pe_ix (k_ixL K) (pv 0) pe_int (fun _ _ => rfl)) pe_int) (pg_sub (pv 0) pe_int set_list)) (pss_cons (ps_set (i := 3) sclaw_draw.nd rfl (Or.inl rfl) (pe_op op_mod (pe_op op_mul (pe_ix (k_ixL K) (pv 0) pe_int (fun _ _ => rfl)) (pe_ix (k_ixL K) (pv 0) pe_int (fun _ _ => rfl))) pe_int)) (pss_cons (ps_asg (pe_op op_mod (pe_op op_add (pe_op op_add (pv 3) (pe_op op_mul (pe_op op_mul pe_int (pe_ix (k_ixL K) (pv 0) pe_int (fun _ _ => rfl))) (pe_ix (k_ixL K) (pv 0) pe_int (fun _ _ => rfl)))) pe_int) pe_int) (pg_sub (pv 0) pe_int set_list)) (pss_one (ps_ret (pe_op op_mod (pe_op op_fdivW (pe_ix (k_ixL K) (pv 0) pe_int (fun _ _ => rfl)) pe_int) (pv 1)))))))), ?_⟩
    walk_at "s"
    refine ifD (fun hd => ?_) (fun hd => ?_)
    · walk_at "s"
      refine q _ _ (Int.emod_nonneg _ (by omega)) (Int.emod_lt_of_pos _ hn) ⟨_, _, _, upd_same, Int.ediv_nonneg (by omega) (by omega), h1, h2⟩ Kp.set
    · walk_at "s"
      refine q _ _ (Int.emod_nonneg _ (by omega)) (Int.emod_lt_of_pos _ hn) ⟨_, _, _, upd_same, h0, Int.emod_nonneg _ (by decide), Int.emod_lt_of_pos _ (by decide)⟩ (Kp.set.trans Kp.set)
theorem dig (dg i : Nat) (x : Int) (h : dg < 10 ^ (60 * i)) (h0 : 0 ≤ x) (h1 : x < 10 ^ 60) : ∃ d : Nat, (dg : Int) * 10 ^ 60 + x = (d : Int) ∧ d < 10 ^ (60 * (i + 1)) := by
  refine ⟨dg * 10 ^ 60 + x.toNat, ?_, ?_⟩
  · have := Int.toNat_of_nonneg h0
    rw [Int.natCast_add, this, Int.natCast_mul]
    rfl
  · have hx : x.toNat < 10 ^ 60 := by omega
    rw [show (10 : Nat) ^ (60 * (i + 1)) = 10 ^ (60 * i) * 10 ^ 60 from by rw [Nat.mul_succ 60 i, Nat.pow_add]]
    generalize (10 : Nat) ^ (60 * i) = u at h ⊢
    generalize (10 : Nat) ^ 60 = v at hx ⊢
    have z : (dg + 1) * v ≤ u * v := Nat.mul_le_mul_right v h
    rw [Nat.succ_mul] at z
    omega
theorem ok_law_spring {f : Addr} {fd : FuncData} {k : Nat} (B : Bn mg) (F : Fun K "_law_spring" "_law_spring" Slaw_spring f fd) : FnG P w K mg base (k + 1) f fd ["script"] (spSpring K) := by
  refine gok F sclaw_spring (fun vs H Q E h => ?_) (fun cdv A fs s H vs Q E hG hr h => ?_)
  · obtain ⟨_, _, rfl, _⟩ := h; rfl
  · obtain ⟨a, ns, rfl, hA, q⟩ := h
    have hu := hr.units
    refine ⟨_, (pss_cons (ps_set (i := 1) sclaw_spring.nd rfl (Or.inl rfl) pe_int) (pss_cons (ps_set (i := 2) sclaw_spring.nd rfl (Or.inl rfl) pe_int) (pss_cons (ps_for (passes_of rfl) rfl (k_piL K (pe_slice (k_slL K) (pv 0) po_none (po_some pe_int))) (pg_name (i := 3) sclaw_spring.nd rfl (Or.inl rfl)) (pss_cons (ps_if (pt_cmpR op_ge (pe_callB call_abs' (by rfl) B.abs Babs (pa_cons (pv 3) pa_nil)) (pe_op op_pow pe_int pe_int) (nomark _)) (pss_one (ps_set (i := 1) sclaw_spring.nd rfl (Or.inl rfl) (pe_op op_add (pe_op op_mulW (pv 1) (pe_op op_pow pe_int pe_int)) (pe_op op_mod (pe_callB call_abs' (by rfl) B.abs Babs (pa_cons (pv 3) pa_nil)) (pe_op op_pow pe_int pe_int))))) pss_nil) (pss_one (ps_set (i := 2) sclaw_spring.nd rfl (Or.inl rfl) (pe_op op_mod (pe_op op_add (pe_op op_add (pe_op op_mul (pv 2) pe_int) (pe_op op_mod (pv 3) pe_int)) pe_int) pe_int))))) (pss_one (ps_ret (pe_lst (pa_cons (pv 1) (pa_cons (pv 2) (pa_cons pe_int pa_nil))))))))), ?_⟩
    walk_at "s"
    intro t nt
    rw [show cutV (ns.map V.int) none (some 63) = vI (ns.take 63) from (cut_hi (k := 63)).trans (vI_take ns 63)]
    have lc : (ns.take 63).length ≤ 63 := by rw [List.length_take]; omega
    generalize ns.take 63 = cs at lc
    have s1 := same_new (o := .lst (vI cs)) nt
    refine ⟨t, rfl, ⟨_, lst_of upd_same⟩, ?_⟩
    refine for_src (src_list (xs := vI cs)) (fun i σ H' => ∃ (dg : Nat) (sd : Int) (v3 : Option V), σ = [some (.ref a), some (.int (dg : Int)), some (.int sd), v3] ∧ Same H H' ∧ H' t = some (.lst (vI cs)) ∧ dg < 10 ^ (60 * i) ∧ 0 ≤ sd ∧ sd < 2305843009213693951)
      (fun i σ H h => by obtain ⟨_, _, _, _, _, h, _⟩ := h; exact lst_of h) ⟨0, 88651, none, rfl, s1, upd_same, by decide, by decide, by decide⟩ ?_ ?_
    · rintro i v σ H1 H1' hi ⟨dg, sd, v3, rfl, sA, hT, d1, s0, s1⟩ ⟨rfl, hv⟩
      rw [vI_len] at hi
      rw [vI_at hi] at hv
      cases hv
      have m0 : ∀ x : Int, 0 ≤ x % 2305843009213693951 ∧ x % 2305843009213693951 < 2305843009213693951 := fun x => ⟨Int.emod_nonneg _ (by decide), Int.emod_lt_of_pos _ (by decide)⟩
      walk_at "s"
      refine ifD (fun hd => ?_) (fun hd => ?_)
      · walk_at "s"
        have hc : CMulW (dg : Int) (10 ^ Int.toNat 60) := by
          refine wide_mul (a := 13000) (b := 200) ?_ ?_ (by decide) (by decide) (by decide)
          · have e1 : (10 : Nat) ^ (60 * i) ≤ 10 ^ 3780 := Nat.pow_le_pow_right (by decide) (by omega)
            have e2 : (10 : Nat) ^ 3780 < 2 ^ 13000 := by decide +kernel
            show dg < 2 ^ 13000
            exact Nat.lt_trans (Nat.lt_of_lt_of_le d1 e1) e2
          · decide +kernel
        refine r_I hc ?_
        walk_at "s"
        obtain ⟨d, e, d2⟩ := dig dg i ((if cs[i] < 0 then -cs[i] else cs[i]) % 10 ^ 60) d1 (Int.emod_nonneg _ (by decide)) (Int.emod_lt_of_pos _ (by decide))
        have e' : (dg : Int) * 10 ^ Int.toNat 60 + (if cs[i] < 0 then -cs[i] else cs[i]) % 10 ^ Int.toNat 60 = (d : Int) := e
        rw [e']
        exact ⟨d, _, _, rfl, sA, hT, d2, (m0 _).1, (m0 _).2⟩
      · walk_at "s"
        refine ⟨dg, _, _, rfl, sA, hT, Nat.lt_of_lt_of_le d1 (Nat.pow_le_pow_right (by decide) (by omega)), (m0 _).1, (m0 _).2⟩
    · rintro σ H1 ⟨dg, sd, v3, rfl, sA, hT, d1, s0, s1⟩
      walk_at "s"
      intro r nr
      exact q _ r (sA.trans (same_new nr)) (sA.free nr) ⟨_, _, _, upd_same, by omega, s0, s1⟩
theorem erase_perm {α : Type} : ∀ (l : List α) (i : Nat) (h : i < l.length), ([l[i]] ++ l.eraseIdx i).Perm l
  | x :: l, 0, _ => .refl _
  | x :: l, i + 1, h => by
    have ih := erase_perm l i (Nat.lt_of_succ_lt_succ h)
    exact (List.Perm.swap x _ _).trans (ih.cons x)
def spMixed : Sp := fun vs H Q _ => ∃ (r a : Addr) (xs : List V), vs = [.ref r, .ref a] ∧ SpringAt H r ∧ H a = some (.lst xs) ∧ a ≠ r ∧ xs.length ≤ 100000 ∧ ∀ ys p H', ys.Perm xs → SpringAt H' r → Kp r H H' → H p = none → H' p = some (.lst ys) → Q (.ref p) H'
theorem ok_law_mixed {f : Addr} {fd : FuncData} (B : Bn mg) (D_law_draw : Df P w K mg base 1 "_law_draw" [] spDraw) (F : Fun K "_law_mixed" "_law_mixed" Slaw_mixed f fd) : FnG P w K mg base 2 f fd ["spring", "row"] spMixed := by
  refine gok F sclaw_mixed (fun vs H Q E h => ?_) (fun cdv A fs s H vs Q E hG hr h => ?_)
  · obtain ⟨_, _, _, rfl, _⟩ := h; rfl
  · obtain ⟨r, a, xs, rfl, hS, hA, nar, hl, q⟩ := h
    have hu := hr.units
    refine ⟨_, (pss_cons (ps_set (i := 2) sclaw_mixed.nd rfl (Or.inr rfl) (pe_callTy (k_list K) (by rfl) B.list Tlist (pa_cons (pv 1) pa_nil))) (pss_one (ps_ret (pe_lc (own := [("k", 3)]) rfl sclaw_mixed.nd (pi_range1 (by rfl) B.range (pa_cons (pe_callB (k_len K) (by rfl) B.len Blen (pa_cons (pv 1) pa_nil)) pa_nil)) (blkOk_by (own := [("k", 3)]) (N := Nlaw_mixed) (sc := defScope Slaw_mixed) (by decide +kernel)) (fun _ _ _ _ _ => (pg_name (i := 3) sclaw_mixed.nd rfl (Or.inl rfl))) (fun _ _ _ _ _ => pts_nil) (fun _ _ _ _ _ => (k_bmP K (pe_bm PySem.F.plainAttrs_list PySem.F.slot_list_pop PySem.F.type_list_pop mt_popAt (pv 2) (pa_cons (pe_df D_law_draw hG (hr.mono (by first | decide | omega)) passL (by rfl) (pa_cons (pv 0) (pa_cons (pe_callB (k_len K) (by rfl) B.len Blen (pa_cons (pv 2) pa_nil)) pa_nil))) pa_nil)))))))), ?_⟩
    walk_at "s"
    intro left nl
    have s1 := same_new (o := .lst xs) nl
    have hA1 := s1 _ _ hA
    have hS1 := hS.same s1
    walk_at "s"
    refine ⟨_, rfl, by omega, by omega, fun Dl nD => ?_⟩
    rw [Int.toNat_natCast]
    have nr : r ≠ left := hS.ne nl
    have nrD : r ≠ Dl := hS1.ne nD
    have nlD : left ≠ Dl := ne_new nD upd_same
    refine lc_src src_range (fun i H' => ∃ acc lf, acc.length = i ∧ (acc ++ lf).Perm xs ∧ H' left = some (.lst lf) ∧ H' Dl = some (.lst acc) ∧ Kp r H H' ∧ SpringAt H' r) (fun _ _ _ => trivial) ⟨[], xs, rfl, .refl _, (upd_ne nlD).trans upd_same, upd_same, Kp.of (s1.trans (same_new nD)), hS1.same (same_new nD)⟩ ?_ ?_
    · rintro i v H1 H1' hi ⟨acc, lf, ha, hp, hL, hD, hK, hS2⟩ ⟨rfl, rfl⟩
      have ll : acc.length + lf.length = xs.length := by rw [← List.length_append]; exact hp.length_eq
      walk_at "s"
      refine ⟨rfl, ?_⟩
      walk_at "s"
      refine ⟨r, _, rfl, hS2, by omega, by have : (lf.length : Int) ≤ 100000 := by omega
                                           have e : (100000 : Int) < 2 ^ 200 := by decide
                                           omega, fun d H3 d0 d1 hS3 hK3 => ?_⟩
      have hL3 := hK3.get nr.symm hL
      have hD3 := hK3.get nrD.symm hD
      have hx : lf[d.toNat]? = some (lf[d.toNat]'(by omega)) := List.getElem?_eq_getElem (by omega)
      walk_at "s"
      refine ⟨left, lf, d, d.toNat, _, rfl, rfl, hL3, by omega, by omega, seq_ix d0 d1, hx, ?_⟩
      walk_at "s"
      refine ⟨acc, (upd_ne nlD.symm).trans hD3, szl (by omega), ?_⟩
      refine ⟨acc ++ [lf[d.toNat]'(by omega)], lf.eraseIdx d.toNat, by rw [List.length_append, ha]; rfl, ?_, (upd_ne nlD).trans upd_same, upd_same, ((hK.trans hK3).put nl).put (s1.free nD), (hS3.upd nr).upd nrD⟩
      refine List.Perm.trans ?_ hp
      rw [List.append_assoc]
      refine List.Perm.append_left acc ?_
      exact erase_perm _ _ (by omega)
    · rintro H1 ⟨acc, lf, ha, hp, hL, hD, hK, hS2⟩
      have ll : acc.length + lf.length = xs.length := by rw [← List.length_append]; exact hp.length_eq
      have e : lf = [] := List.length_eq_zero_iff.mp (by omega)
      subst e
      rw [List.append_nil] at hp
      exact q acc Dl H1 hp hS2 hK (s1.free nD) hD
end

abbrev Slaw_order : Stmt := topS 19
abbrev Nlaw_order : List Str := ["spring", "size", "way", "books", "row", "place", "book", "turn", "one", "other"]
theorem sclaw_order : FnScope Nlaw_order ["spring", "size"] (defScope Slaw_order) := ⟨rfl, rfl, rfl, by decide +kernel, rfl, by decide +kernel, by decide +kernel⟩

theorem iota_at {n i : Nat} (h : i < n) : (iota n)[i]? = some (i : Int) := by
  unfold iota
  rw [List.getElem?_map, List.getElem?_range h]
  rfl
theorem iota_mem {n : Nat} {x : Int} : x ∈ iota n ↔ 0 ≤ x ∧ x < n := by
  unfold iota
  rw [List.mem_map]
  constructor
  · rintro ⟨i, hi, rfl⟩
    have := List.mem_range.mp hi
    constructor <;> omega
  · rintro ⟨h0, h1⟩
    exact ⟨x.toNat, List.mem_range.mpr (by omega), by omega⟩
theorem iota_nd (n : Nat) : (iota n).Nodup := by
  unfold iota
  unfold List.Nodup
  rw [List.pairwise_map]
  exact List.nodup_range.imp fun h e => h (by omega)
theorem IsOrd.of {n : Nat} {ns : List Int} (h : ns.Perm (iota n)) (h1 : 1 ≤ n) (h2 : n ≤ 200) : IsOrd ns := by
  have e : ns.length = n := h.length_eq.trans (iota_len n)
  exact ⟨by omega, by omega, fun x hx => by rw [e]; exact iota_mem.mp (h.mem_iff.mp hx), h.nodup_iff.mpr (iota_nd n)⟩
theorem nodup_inj {l : List Int} (h : l.Nodup) {i j : Nat} (hi : i < l.length) (hj : j < l.length) (e : l[i] = l[j]) : i = j := by
  have p := List.pairwise_iff_getElem.mp h
  by_cases h1 : i < j
  · exact absurd e (p i j hi hj h1)
  · by_cases h2 : j < i
    · exact absurd e.symm (p j i hj hi h2)
    · omega
theorem swap_perm {n : Nat} {B : List Int} {i j x y : Int} (h : B.Perm (iota n)) (i0 : 0 ≤ i) (i1 : i < n) (j0 : 0 ≤ j) (j1 : j < n) (hx : B[i.toNat]? = some x) (hy : B[j.toNat]? = some y) : ((B.set i.toNat y).set j.toNat x).Perm (iota n) := by
  have e : B.length = n := h.length_eq.trans (iota_len n)
  have hi : i.toNat < B.length := by omega
  have hj : j.toNat < B.length := by omega
  rw [List.getElem?_eq_getElem hi] at hx
  rw [List.getElem?_eq_getElem hj] at hy
  cases hx; cases hy
  exact (List.set_set_perm hi hj).trans h
theorem turn_perm {n : Nat} {B ms sh : List Int} (hB : B.length = n) (hm : ms.Perm (iota n)) (hs : sh.Perm ms) (h : ∀ k : Nat, k < n → B[(ms.getD k 0).toNat]? = some (sh.getD k 0)) : B.Perm (iota n) := by
  have lm : ms.length = n := hm.length_eq.trans (iota_len n)
  have ls : sh.length = n := hs.length_eq.trans lm
  have e1 : B = (iota n).map fun p => B.getD p.toNat 0 := by
    apply List.ext_getElem?
    intro k
    rw [List.getElem?_map]
    by_cases hk : k < n
    · rw [iota_at hk]
      show B[k]? = some (B.getD (k : Int).toNat 0)
      rw [Int.toNat_natCast, List.getD_eq_getElem?_getD, List.getElem?_eq_getElem (by omega)]
      rfl
    · rw [List.getElem?_eq_none_iff.mpr (by omega), List.getElem?_eq_none_iff.mpr (by rw [iota_len]; omega)]
      rfl
  have e2 : ms.map (fun p => B.getD p.toNat 0) = sh := by
    apply List.ext_getElem?
    intro k
    rw [List.getElem?_map]
    by_cases hk : k < n
    · have z := h k hk
      rw [List.getD_eq_getElem?_getD, List.getElem?_eq_getElem (show k < ms.length by omega), List.getD_eq_getElem?_getD, List.getElem?_eq_getElem (show k < sh.length by omega)] at z
      rw [List.getElem?_eq_getElem (show k < ms.length by omega), List.getElem?_eq_getElem (show k < sh.length by omega)]
      show some (B.getD (ms[k]'(by omega)).toNat 0) = some _
      rw [List.getD_eq_getElem?_getD]
      exact congrArg some (by rw [show B[(ms[k]'(by omega)).toNat]? = some (sh[k]'(by omega)) from z]; rfl)
    · rw [List.getElem?_eq_none_iff.mpr (by omega), List.getElem?_eq_none_iff.mpr (by omega)]
      rfl
  rw [e1]
  refine (hm.symm.map fun p => B.getD p.toNat 0).trans ?_
  rw [e2]
  exact hs.trans hm
section
variable {P : Program} {w : World} {K : PySem.W.Frag} {mg : Str → Option Value} {base : Heap}
def spOrder : Sp := fun vs H Q _ => ∃ (r : Addr) (n : Nat), vs = [.ref r, .int n] ∧ SpringAt H r ∧ 1 ≤ n ∧ n ≤ 100000 ∧ ∀ ns p H', ns.Perm (iota n) → SpringAt H' r → Kp r H H' → H p = none → H' p = some (.lst (vI ns)) → Q (.ref p) H'
theorem ok_law_order {f : Addr} {fd : FuncData} (B : Bn mg) (D_law_draw : Df P w K mg base 1 "_law_draw" [] spDraw) (D_law_mixed : Df P w K mg base 2 "_law_mixed" [] spMixed) (F : Fun K "_law_order" "_law_order" Slaw_order f fd) : FnG P w K mg base 3 f fd ["spring", "size"] spOrder := by
  refine gok F sclaw_order (fun vs H Q E h => ?_) (fun cdv A fs s H vs Q E hG hr h => ?_)
  · obtain ⟨_, _, rfl, _⟩ := h; rfl
  · obtain ⟨r, n, rfl, hS, hn, hn2, q⟩ := h
    have hu := hr.units
    have two : ∀ x : Int, x ≤ 100000 → x < 2 ^ 200 := fun x h => Int.lt_of_le_of_lt h (by decide)
    refine ⟨_, (pss_cons (ps_par (i := 2) (j := 3) rfl sclaw_order.nd rfl rfl (by decide) rfl rfl (pa_cons (pe_df D_law_draw hG (hr.mono (by first | decide | omega)) passL (by rfl) (pa_cons (pv 0) (pa_cons pe_int pa_nil))) (pa_cons (pe_listRg rfl (by rfl) B.list (prg_1 (by rfl) B.range (pv 1))) pa_nil)) (by with_unfolding_all rfl)) (pss_cons (ps_if (pt_cmpR op_lt (pv 2) pe_int (nomark _)) (pss_one (ps_ret (pe_df D_law_mixed hG (hr.mono (by first | decide | omega)) passL (by rfl) (pa_cons (pv 0) (pa_cons (pv 3) pa_nil))))) pss_nil) (pss_cons (ps_if (pt_cmpR op_eq (pv 2) pe_int (nomark _)) (pss_cons (ps_set (i := 4) sclaw_order.nd rfl (Or.inl rfl) (pe_df D_law_mixed hG (hr.mono (by first | decide | omega)) passL (by rfl) (pa_cons (pv 0) (pa_cons (pv 3) pa_nil)))) (pss_one (ps_for (passes_of rfl) rfl (k_zip K (by rfl) B.zip (pa_cons (pv 4) (pa_cons (pe_op op_cat (pe_slice (k_slL K) (pv 4) (po_some pe_int) po_none) (pe_slice (k_slL K) (pv 4) po_none (po_some pe_int))) pa_nil))) (k_gtup K rfl (pgs_cons (pg_name (i := 5) sclaw_order.nd rfl (Or.inl rfl)) (pgs_cons (pg_name (i := 6) sclaw_order.nd rfl (Or.inl rfl)) pgs_nil))) (pss_one (ps_asg (pv 6) (pg_sub (pv 3) (pv 5) set_list)))))) pss_nil) (pss_cons (ps_if (pt_cmpR op_eq (pv 2) pe_int (nomark _)) (pss_one (ps_for (passes_of rfl) rfl (pi_range3 (by rfl) B.range (pa_cons pe_int (pa_cons (pe_op op_sub (pv 1) pe_int) (pa_cons pe_int pa_nil)))) (pg_name (i := 5) sclaw_order.nd rfl (Or.inl rfl)) (pss_one (ps_asg (pe_tup (pa_cons (pe_op op_add (pv 5) pe_int) (pa_cons (pv 5) pa_nil))) (k_gtup K rfl (pgs_cons (pg_sub (pv 3) (pv 5) set_list) (pgs_cons (pg_sub (pv 3) (pe_op op_add (pv 5) pe_int) set_list) pgs_nil))))))) pss_nil) (pss_cons (ps_if (pt_cmpR op_eq (pv 2) pe_int (nomark _)) (pss_one (ps_set (i := 3) sclaw_order.nd rfl (Or.inl rfl) (k_rev K (pv 3)))) pss_nil) (pss_cons (ps_for (passes_of rfl) rfl (pi_range1 (by rfl) B.range (pa_cons (pe_op op_mul pe_int (pe_callTy call_int1' (by rfl) B.int Tint (pa_cons (pe_cmpR op_eq (pv 2) pe_int (nomark _)) pa_nil))) pa_nil)) (pg_name (i := 7) sclaw_order.nd rfl (Or.inl rfl)) (pss_cons (ps_par (i := 8) (j := 9) rfl sclaw_order.nd rfl rfl (by decide) rfl rfl (pa_cons (pe_df D_law_draw hG (hr.mono (by first | decide | omega)) passL (by rfl) (pa_cons (pv 0) (pa_cons (pv 1) pa_nil))) (pa_cons (pe_df D_law_draw hG (hr.mono (by first | decide | omega)) passL (by rfl) (pa_cons (pv 0) (pa_cons (pv 1) pa_nil))) pa_nil)) (by with_unfolding_all rfl)) (pss_one (ps_asg (pe_tup (pa_cons (pe_ix (k_ixL K) (pv 3) (pv 9) (fun _ _ => rfl)) (pa_cons (pe_ix (k_ixL K) (pv 3) (pv 8) (fun _ _ => rfl)) pa_nil))) (k_gtup K rfl (pgs_cons (pg_sub (pv 3) (pv 8) set_list) (pgs_cons (pg_sub (pv 3) (pv 9) set_list) pgs_nil))))))) (pss_one (ps_ret (pv 3))))))))), ?_⟩
    walk_at "s"
    refine ⟨r, _, rfl, hS, by decide, two _ (by decide), fun d H1 d0 d1 hS1 hK1 => ?_⟩
    walk_at "s"
    refine ⟨.of_le (by omega) (by omega) (by omega) (by omega), fun b nb => ?_⟩
    rw [iota_rg]
    have s2 := same_new (o := .lst (vI (iota n))) nb
    have hS2 := hS1.same s2
    have nrb : r ≠ b := hS1.ne nb
    have nb0 := hK1.free nb nrb.symm
    have hK2 := hK1.put (o := .lst (vI (iota n))) nb0
    walk_at "s"
    refine ifD (fun hd => ?_) (fun hd => ?_)
    · walk_at "s"
      refine ⟨r, b, _, rfl, hS2, upd_same, nrb.symm, by rw [vI_len, iota_len]; omega, fun ys p H' hp hS3 hK3 np hD => ?_⟩
      obtain ⟨ms, rfl, hm⟩ := perm_vI hp
      walk_at "s"
      exact q ms p H' hm hS3 (hK2.trans hK3) (hK2.free np (hS2.ne np).symm) hD
    · walk_at "s"
      refine ifJ (fun σ H' => ∃ b B v4 v5 v6, σ = [some (.ref r), some (.int n), some (.int d), some (.ref b), v4, v5, v6, none, none, none] ∧ B.Perm (iota n) ∧ SpringAt H' r ∧ Kp r H H' ∧ H b = none ∧ H' b = some (.lst (vI B)) ∧ r ≠ b ∧ (d ≠ 2 → B = iota n)) (fun R hR h2 => ?_) (fun R hR h2 => ?_) ?_
      · subst h2
        walk_at "s"
        refine ⟨r, b, _, rfl, hS2, upd_same, nrb.symm, by rw [vI_len, iota_len]; omega, fun ys rp H3 hp hS3 hK3 nrp hrp => ?_⟩
        obtain ⟨ms, rfl, hm⟩ := perm_vI hp
        have lm : ms.length = n := hm.length_eq.trans (iota_len n)
        walk_at "s"
        intro t1 n1
        rw [show cutV (vI ms) (some 1) none = vI (ms.drop 1) from (cut_lo (k := 1)).trans (vI_drop ms 1)]
        walk_at "s"
        intro t2 n2
        rw [show cutV (vI ms) none (some 1) = vI (ms.take 1) from (cut_hi (k := 1)).trans (vI_take ms 1)]
        refine r_cat (xs := vI (ms.drop 1)) (zs := vI (ms.take 1)) (by walk_at "hp") (by walk_at "hp") (sz (by rw [vI_len, vI_len, List.length_drop, List.length_take]; omega)) fun z nz => ?_
        rw [vI_app]
        have hs : (ms.drop 1 ++ ms.take 1).Perm ms := List.perm_append_comm.trans (by rw [List.take_append_drop])
        generalize ms.drop 1 ++ ms.take 1 = sh at hs
        have lsh : sh.length = n := hs.length_eq.trans lm
        have sS := ((same_new n1).trans (same_new n2)).trans (same_new (o := .lst (vI sh)) nz)
        have hb3 := sS _ _ (hK3.get nrb.symm upd_same)
        have hr3 := sS _ _ hrp
        have nbz : b ≠ z := ne_new nz (((same_new n1).trans (same_new n2)) _ _ (hK3.get nrb.symm upd_same))
        have nbr : b ≠ rp := ne_new nrp upd_same
        walk_at "s"
        refine ⟨rp, z, vI ms, vI sh, rfl, lst_of hr3, lst_of upd_same, ?_⟩
        refine for_src (src_zip (xs := vI ms) (ys := vI sh) (by rw [vI_len, vI_len]; omega)) (fun i σ H' => ∃ B v5 v6, σ = [some (.ref r), some (.int n), some (.int 2), some (.ref b), some (.ref rp), v5, v6, none, none, none] ∧ B.length = n ∧ (∀ k : Nat, k < i → B[(ms.getD k 0).toNat]? = some (sh.getD k 0)) ∧
            SpringAt H' r ∧ Kp r H H' ∧ H' b = some (.lst (vI B)) ∧ H' rp = some (.lst (vI ms)) ∧ H' z = some (.lst (vI sh)))
          (fun i σ H h => by obtain ⟨_, _, _, _, _, _, _, _, _, h1, h2⟩ := h; exact ⟨lst_of h1, lst_of h2⟩)
          ⟨iota n, none, none, rfl, iota_len n, fun k hk => absurd hk (by omega), hS3.same sS, (hK2.trans hK3).trans (Kp.of sS), hb3, hr3, upd_same⟩ ?_ ?_
        · rintro i v σ H4 H5 hi ⟨B, v5, v6, rfl, lB, hk, hS4, hK4, hb4, hr4, hz4⟩ ⟨T, x, y, rfl, nT, rfl, hx, hy⟩
          rw [vI_len, lm] at hi
          rw [vI_at (by omega)] at hx hy
          cases hx; cases hy
          have hm0 := iota_mem.mp (hm.mem_iff.mp (List.getElem_mem (show i < ms.length by omega)))
          have e1 : ixN (vI B).length (ms[i]'(by omega)) = some (ms[i]'(by omega)).toNat := by rw [vI_len]; exact ixN_ok hm0.1 (by omega)
          have nbT : b ≠ T := ne_new nT hb4
          walk_at "s"
          rw [vI_set]
          refine ⟨_, _, _, rfl, by rw [List.length_set]; exact lB, fun k hk1 => ?_, (hS4.same (same_new nT)).upd nrb, (hK4.put (hK4.free nT (hS4.ne nT).symm)).put nb0, upd_same, ?_, ?_⟩
          · by_cases e : k = i
            · subst e
              rw [List.getD_eq_getElem?_getD, List.getElem?_eq_getElem (show k < ms.length by omega), List.getD_eq_getElem?_getD, List.getElem?_eq_getElem (show k < sh.length by omega)]
              exact List.getElem?_set_self (by show (ms[k]'_).toNat < _; omega)
            · have z1 := hk k (by omega)
              rw [List.getElem?_set_ne]
              · exact z1
              · intro e2
                have hk' : k < ms.length := by omega
                rw [List.getD_eq_getElem?_getD, List.getElem?_eq_getElem hk'] at e2
                have hm1 := iota_mem.mp (hm.mem_iff.mp (List.getElem_mem hk'))
                have e3 : ms[i]'(by omega) = ms[k]'hk' := by
                  have : (ms[i]'(by omega)).toNat = (ms[k]'hk').toNat := e2
                  omega
                have nd : ms.Nodup := hm.nodup_iff.mpr (iota_nd n)
                exact e (nodup_inj nd (by omega) hk' e3).symm
          · exact (upd_ne nbr.symm).trans ((same_new nT) _ _ hr4)
          · exact (upd_ne nbz.symm).trans ((same_new nT) _ _ hz4)
        · rintro σ H4 ⟨B, v5, v6, rfl, lB, hk, hS4, hK4, hb4, hr4, hz4⟩
          walk_at "s"
          rw [vI_len, lm] at hk
          exact hR _ _ ⟨b, B, _, _, _, rfl, turn_perm lB hm hs hk, hS4, hK4, nb0, hb4, nrb, fun z => absurd rfl z⟩
      · walk_at "s"
        exact hR _ _ ⟨b, _, _, _, _, rfl, .refl _, hS2, hK2, nb0, upd_same, nrb, fun _ => rfl⟩
      · rintro σ H3 ⟨b, B, v4, v5, v6, rfl, hB, hS3, hK3, nb, hb, nrb, hd2⟩
        have lB : B.length = n := hB.length_eq.trans (iota_len n)
        walk_at "s"
        refine ifJ (fun σ H' => ∃ b B v4 v5 v6, σ = [some (.ref r), some (.int n), some (.int d), some (.ref b), v4, v5, v6, none, none, none] ∧ B.Perm (iota n) ∧ SpringAt H' r ∧ Kp r H H' ∧ H b = none ∧ H' b = some (.lst (vI B)) ∧ r ≠ b) (fun R hR h2 => ?_) (fun R hR h2 => ?_) ?_
        · subst h2
          have eB := hd2 (by decide)
          subst eB
          walk_at "s"
          refine ⟨_, _, _, _, rfl, rgc_pos (by omega) (by omega) (by decide) (by decide), ?_⟩
          have en : (((n : Int) - 1 + 2 - 1) / 2).toNat = n / 2 := by omega
          rw [en]
          refine for_src src_step (fun i σ H' => ∃ B v5, σ = [some (.ref r), some (.int n), some (.int 3), some (.ref b), v4, v5, v6, none, none, none] ∧ B.Perm (iota n) ∧ (∀ k : Nat, 2 * i ≤ k → k < n → B[k]? = some (k : Int)) ∧ SpringAt H' r ∧ Kp r H H' ∧ H' b = some (.lst (vI B))) (fun _ _ _ _ => trivial)
            ⟨iota n, v5, rfl, hB, fun k _ hk => iota_at hk, hS3, hK3, hb⟩ ?_ ?_
          · rintro i v σ H5 H4 hi ⟨B, v5, rfl, hB, hk, hS4, hK4, hb4⟩ ⟨rfl, rfl⟩
            have lB : B.length = n := hB.length_eq.trans (iota_len n)
            have e1 : ixN (vI B).length (0 + (i : Int) * 2) = some (2 * i) := by rw [vI_len, ixN_ok (by omega) (by omega)]; exact congrArg some (by omega)
            walk_at "s"
            intro t nt
            have nbt : b ≠ t := ne_new nt hb4
            have hb5 : upd H4 t (.tup [.int (0 + (i : Int) * 2 + 1), .int (0 + (i : Int) * 2)]) b = some (.lst (vI B)) := (upd_ne nbt).trans hb4
            have e2 : ixN (vI (B.set (2 * i) (0 + (i : Int) * 2 + 1))).length (0 + (i : Int) * 2 + 1) = some (2 * i + 1) := by rw [vI_len, List.length_set, ixN_ok (by omega) (by omega)]; exact congrArg some (by omega)
            walk_at "s"
            rw [vI_set]
            refine r_setL upd_same e2 ?_
            rw [vI_set]
            walk_at "s"
            have w1 := hk (2 * i) (Nat.le_refl _) (by omega)
            have w2 := hk (2 * i + 1) (by omega) (by omega)
            refine ⟨_, _, rfl, ?_, fun k h1 h2 => ?_, ((hS4.same (same_new nt)).upd nrb).upd nrb, ((hK4.put (hK4.free nt (hS4.ne nt).symm)).put nb).put nb, upd_same⟩
            · have z := swap_perm hB (i := ((2 * i : Nat) : Int)) (j := ((2 * i + 1 : Nat) : Int)) (by omega) (by omega) (by omega) (by omega) (by rw [Int.toNat_natCast]; exact w1) (by rw [Int.toNat_natCast]; exact w2)
              rw [Int.toNat_natCast, Int.toNat_natCast] at z
              have e3 : (0 + (i : Int) * 2 + 1) = ((2 * i + 1 : Nat) : Int) := by omega
              have e4 : (0 + (i : Int) * 2) = ((2 * i : Nat) : Int) := by omega
              rw [e3, e4]
              exact z
            · rw [List.getElem?_set_ne (by omega), List.getElem?_set_ne (by omega)]
              exact hk k (by omega) h2
          · rintro σ H4 ⟨B, v5, rfl, hB, hk, hS4, hK4, hb4⟩
            walk_at "s"
            exact hR _ _ ⟨b, B, _, _, _, rfl, hB, hS4, hK4, nb, hb4, nrb⟩
        · walk_at "s"
          exact hR _ _ ⟨b, B, _, _, _, rfl, hB, hS3, hK3, nb, hb, nrb⟩
        · rintro σ H4 ⟨b, B, v4, v5, v6, rfl, hB, hS4, hK4, nb, hb4, nrb⟩
          walk_at "s"
          refine ifJ (fun σ H' => ∃ b B v4 v5 v6, σ = [some (.ref r), some (.int n), some (.int d), some (.ref b), v4, v5, v6, none, none, none] ∧ B.Perm (iota n) ∧ SpringAt H' r ∧ Kp r H H' ∧ H b = none ∧ H' b = some (.lst (vI B)) ∧ r ≠ b) (fun R hR h2 => ?_) (fun R hR h2 => ?_) ?_
          · subst h2
            walk_at "s"
            refine ⟨b, _, rfl, lst_of hb4, fun c nc => ?_⟩
            rw [vI_rev]
            walk_at "s"
            exact hR _ _ ⟨c, _, _, _, _, rfl, (List.reverse_perm B).trans hB, hS4.same (same_new nc), hK4.put (hK4.free nc (hS4.ne nc).symm), hK4.free nc (hS4.ne nc).symm, upd_same, hS4.ne nc⟩
          · walk_at "s"
            exact hR _ _ ⟨b, B, _, _, _, rfl, hB, hS4, hK4, nb, hb4, nrb⟩
          · rintro σ H5 ⟨b, B, v4, v5, v6, rfl, hB, hS5, hK5, nb, hb5, nrb⟩
            walk_at "s"
            have hc : (3 * if decide (d = 5) = true then (1 : Int) else 0) ≤ 3 ∧ 0 ≤ (3 * if decide (d = 5) = true then (1 : Int) else 0) := by split <;> decide
            generalize (3 * if decide (d = 5) = true then (1 : Int) else 0) = c at hc
            refine ⟨_, rfl, by omega, by omega, ?_⟩
            refine for_src src_range (fun i σ H' => ∃ B v7 v8 v9, σ = [some (.ref r), some (.int n), some (.int d), some (.ref b), v4, v5, v6, v7, v8, v9] ∧ B.Perm (iota n) ∧ SpringAt H' r ∧ Kp r H H' ∧ H' b = some (.lst (vI B))) (fun _ _ _ _ => trivial)
              ⟨B, none, none, none, rfl, hB, hS5, hK5, hb5⟩ ?_ ?_
            · rintro i v σ H6 H7 hi ⟨B, v7, v8, v9, rfl, hB, hS6, hK6, hb6⟩ ⟨rfl, rfl⟩
              have lB : B.length = n := hB.length_eq.trans (iota_len n)
              walk_at "s"
              refine ⟨r, _, rfl, hS6, by omega, two _ (by omega), fun d1 H8 i0 i1 hS8 hK8 => ?_⟩
              walk_at "s"
              refine ⟨r, _, rfl, hS8, by omega, two _ (by omega), fun d2 H9 j0 j1 hS9 hK9 => ?_⟩
              walk_at "s"
              have hb9 := hK9.get nrb.symm (hK8.get nrb.symm hb6)
              have x1 : B[d1.toNat]? = some (B[d1.toNat]'(by omega)) := List.getElem?_eq_getElem (by omega)
              have x2 : B[d2.toNat]? = some (B[d2.toNat]'(by omega)) := List.getElem?_eq_getElem (by omega)
              have a1 : atI (vI B) d1 = some (.int (B[d1.toNat]'(by omega))) := atI_ok i0 (vI_at (by omega))
              have a2 : atI (vI B) d2 = some (.int (B[d2.toNat]'(by omega))) := atI_ok j0 (vI_at (by omega))
              have e1 : ixN (vI B).length d1 = some d1.toNat := by rw [vI_len]; exact ixN_ok i0 (by omega)
              have e2 : ixN (vI (B.set d1.toNat (B[d2.toNat]'(by omega)))).length d2 = some d2.toNat := by rw [vI_len, List.length_set]; exact ixN_ok j0 (by omega)
              walk_at "s"
              intro t nt
              have nbt : b ≠ t := ne_new nt hb9
              have hb10 := (same_new (o := .tup [.int (B[d2.toNat]'(by omega)), .int (B[d1.toNat]'(by omega))]) nt) _ _ hb9
              walk_at "s"
              rw [vI_set]
              refine r_setL upd_same e2 ?_
              rw [vI_set]
              walk_at "s"
              exact ⟨_, _, _, _, rfl, swap_perm hB i0 (by omega) j0 (by omega) x1 x2, ((hS9.same (same_new nt)).upd nrb).upd nrb, ((((hK6.trans hK8).trans hK9).put (((hK6.trans hK8).trans hK9).free nt (hS9.ne nt).symm)).put nb).put nb, upd_same⟩
            · rintro σ H6 ⟨B, v7, v8, v9, rfl, hB, hS6, hK6, hb6⟩
              walk_at "s"
              exact q B b _ hB hS6 hK6 nb hb6
end

abbrev Slaw_same : Stmt := topS 16
abbrev Nlaw_same : List Str := ["found", "due", "k"]
theorem sclaw_same : FnScope Nlaw_same ["found", "due"] (defScope Slaw_same) := ⟨rfl, rfl, rfl, by decide +kernel, rfl, by decide +kernel, by decide +kernel⟩

section
variable {P : Program} {w : World} {K : PySem.W.Frag} {mg : Str → Option Value} {base : Heap}
def spSame (m : Nat) : Sp := fun vs H Q _ => ∃ (x y : V) (d : PyData), vs = [x, y] ∧ Tr (fun _ => True) H x d ∧ Tr (fun _ => True) H y d ∧ d.depth < m ∧ ∀ H', Same H H' → Q (.bl true) H'
theorem ok_law_same {f : Addr} {fd : FuncData} (B : Bn mg) (F : Fun K "_law_same" "_law_same" Slaw_same f fd) (mk : ∀ m, FnG P w K mg base m f fd ["found", "due"] (spSame m) → Df P w K mg base m "_law_same" [] (spSame m)) :
    ∀ m, FnG P w K mg base m f fd ["found", "due"] (spSame m) := by
  intro m
  induction m with
  | zero => exact ⟨fun vs H Q E h => by obtain ⟨_, _, _, rfl, _⟩ := h; rfl, fun A fs s H ar us vs Q E _ _ _ _ _ h => by obtain ⟨_, _, _, _, _, _, h, _⟩ := h; exact absurd h (Nat.not_lt_zero _)⟩
  | succ m ih =>
  have D_law_same := mk m ih
  refine gok F sclaw_same (fun vs H Q E h => ?_) (fun cdv A fs s H vs Q E hG hr h => ?_)
  · obtain ⟨_, _, _, rfl, _⟩ := h; rfl
  · obtain ⟨x, y, d, rfl, hx, hy, hd, q⟩ := h
    have hu := hr.units
    refine ⟨_, (pss_cons (ps_if (pt_val (pe_callB (k_isiT K) (by rfl) B.isinstance Bisinstance (pa_cons (pv 1) (pa_cons (pe_tup (pa_cons (pe_bltn (v := .ty "list") (by rfl) B.list Tlist rfl) (pa_cons (pe_bltn (v := .ty "tuple") (by rfl) B.tuple Ttuple rfl) pa_nil))) pa_nil)))) (pss_cons (ps_if (pw_or (pt_cmpR op_ne (pe_callB (k_isi K) (by rfl) B.isinstance Bisinstance (pa_cons (pv 0) (pa_cons (pe_bltn (v := .ty "list") (by rfl) B.list Tlist rfl) pa_nil))) (pe_callB (k_isi K) (by rfl) B.isinstance Bisinstance (pa_cons (pv 1) (pa_cons (pe_bltn (v := .ty "list") (by rfl) B.list Tlist rfl) pa_nil))) (nomark _)) (pw_or1 (pt_cmpR op_ne (pe_callB (k_isi K) (by rfl) B.isinstance Bisinstance (pa_cons (pv 0) (pa_cons (pe_bltn (v := .ty "tuple") (by rfl) B.tuple Ttuple rfl) pa_nil))) (pe_callB (k_isi K) (by rfl) B.isinstance Bisinstance (pa_cons (pv 1) (pa_cons (pe_bltn (v := .ty "tuple") (by rfl) B.tuple Ttuple rfl) pa_nil))) (nomark _)))).pt (pss_one (ps_ret pe_bl)) pss_nil) (pss_one (ps_ret (pe_and (pe_cmpR op_eq (pe_callB (k_len K) (by rfl) B.len Blen (pa_cons (pv 0) pa_nil)) (pe_callB (k_len K) (by rfl) B.len Blen (pa_cons (pv 1) pa_nil)) (nomark _)) (pe_one (pe_callB (k_all K) (by rfl) B.all Ball (pa_cons (pe_lc (own := [("k", 2)]) rfl sclaw_same.nd (pi_range1 (by rfl) B.range (pa_cons (pe_callB (k_len K) (by rfl) B.len Blen (pa_cons (pv 1) pa_nil)) pa_nil)) (blkOk_by (own := [("k", 2)]) (N := Nlaw_same) (sc := defScope Slaw_same) (by decide +kernel)) (fun _ _ _ _ _ => (pg_name (i := 2) sclaw_same.nd rfl (Or.inl rfl))) (fun _ _ _ _ _ => pts_nil) (fun _ _ _ _ _ => (pe_df D_law_same hG (hr.mono (by first | decide | omega)) passL (by rfl) (pa_cons (pe_ix (ix_or (k_ixL K) (k_ixT K)) (pv 0) (pv 2) (fun _ _ => rfl)) (pa_cons (pe_ix (ix_or (k_ixL K) (k_ixT K)) (pv 1) (pv 2) (fun _ _ => rfl)) pa_nil))))) pa_nil))))))) pss_nil) (pss_cons (ps_if (pw_or (pt_cmpR op_isN' (pv 1) pe_non (nomark _)) (pw_or1 (pt_cmpR op_isN' (pv 0) pe_non (nomark _)))).pt (pss_one (ps_ret (pe_and (pe_cmpR op_isN' (pv 1) pe_non (nomark _)) (pe_one (pe_cmpR op_isN' (pv 0) pe_non (nomark _)))))) pss_nil) (pss_cons (ps_if (pw_or (pt_cmpR op_ne (pe_callB (k_isi K) (by rfl) B.isinstance Bisinstance (pa_cons (pv 1) (pa_cons (pe_bltn (v := .ty "bool") (by rfl) B.bool Tbool rfl) pa_nil))) (pe_callB (k_isi K) (by rfl) B.isinstance Bisinstance (pa_cons (pv 0) (pa_cons (pe_bltn (v := .ty "bool") (by rfl) B.bool Tbool rfl) pa_nil))) (nomark _)) (pw_or1 (pt_cmpR op_ne (pe_callB (k_isi K) (by rfl) B.isinstance Bisinstance (pa_cons (pv 1) (pa_cons (pe_bltn (v := .ty "str") (by rfl) B.str Tstr rfl) pa_nil))) (pe_callB (k_isi K) (by rfl) B.isinstance Bisinstance (pa_cons (pv 0) (pa_cons (pe_bltn (v := .ty "str") (by rfl) B.str Tstr rfl) pa_nil))) (nomark _)))).pt (pss_one (ps_ret pe_bl)) pss_nil) (pss_one (ps_ret (pe_cmpR op_eq (pv 0) (pv 1) (nomark _))))))), ?_⟩
    walk_at "s"
    intro t nt
    have s1 := same_new (o := .tup [.ty "list", .ty "tuple"]) nt
    have hx1 := hx.same s1
    have hy1 := hy.same s1
    cases hx1 with
    | non =>
      cases hy1
      walk_at "s"
      exact q _ s1
    | int i =>
      cases hy1
      walk_at "s"
      rw [decide_eq_true rfl]
      exact q _ s1
    | bl b =>
      cases hy1
      walk_at "s"
      rw [decide_eq_true rfl]
      exact q _ s1
    | str b =>
      cases hy1
      walk_at "s"
      rw [decide_eq_true rfl]
      exact q _ s1
    | lst h1 _ hz h2 =>
      cases hy1 with
      | lst h3 _ hz2 h4 =>
        rename_i x xs ds _ y ys _
        have l1 := h2.len
        have l2 := h4.len
        have hA : Sq _ x xs := .inl h1
        have hB : Sq _ y ys := .inl h3
        walk_at "s"
        refine ifDT (by rw [l1, l2]) ?_
        walk_at "s"
        refine ⟨_, rfl, by omega, by omega, fun Dl nD => ?_⟩
        rw [Int.toNat_natCast]
        refine lc_pure src_range (fun _ => true) (fun _ => .bl true) hz2 (fun _ _ => trivial) ?_ nD fun H3 s3 hD => ?_
        · rintro i v H3 H3' Yes No hi s3 ⟨rfl, rfl⟩ hY hN
          rw [Int.zero_add]
          have hA3 := s3.sq hA
          have hB3 := s3.sq hB
          have e1 := List.getElem?_eq_getElem (show i < xs.length by omega)
          have e2 := List.getElem?_eq_getElem hi
          obtain ⟨d1, g1, t1⟩ := h2.at e1
          obtain ⟨d2, g2, t2⟩ := h4.at e2
          rw [g1] at g2
          cases g2
          walk_at "s"
          refine ⟨rfl, ?_⟩
          walk_at "s"
          refine r_ixLT hA3 (atI_nat e1) ?_
          walk_at "s"
          refine r_ixLT hB3 (atI_nat e2) ?_
          walk_at "s"
          refine ⟨_, _, d1, rfl, t1.same s3, t2.same s3, ?_, fun H4 s4 => hY rfl _ s4⟩
          have z1 := depth_mem (List.mem_of_getElem? g1)
          have z2 : PyData.depthAll ds + 1 < m + 1 := hd
          omega
        · walk_at "s"
          refine ⟨Dl, List.replicate ys.length true, rfl, lst_of (hD.trans ?_), ?_⟩
          · rw [giv_const, List.map_replicate]
          · rw [show (List.replicate ys.length true).all id = true by simp]
            exact q _ (s1.trans s3)
    | tup h1 _ hz h2 =>
      cases hy1 with
      | tup h3 _ hz2 h4 =>
        rename_i x xs ds _ y ys _
        have l1 := h2.len
        have l2 := h4.len
        have hA : Sq _ x xs := .inr h1
        have hB : Sq _ y ys := .inr h3
        walk_at "s"
        refine ifDT (by rw [l1, l2]) ?_
        walk_at "s"
        refine ⟨_, rfl, by omega, by omega, fun Dl nD => ?_⟩
        rw [Int.toNat_natCast]
        refine lc_pure src_range (fun _ => true) (fun _ => .bl true) hz2 (fun _ _ => trivial) ?_ nD fun H3 s3 hD => ?_
        · rintro i v H3 H3' Yes No hi s3 ⟨rfl, rfl⟩ hY hN
          rw [Int.zero_add]
          have hA3 := s3.sq hA
          have hB3 := s3.sq hB
          have e1 := List.getElem?_eq_getElem (show i < xs.length by omega)
          have e2 := List.getElem?_eq_getElem hi
          obtain ⟨d1, g1, t1⟩ := h2.at e1
          obtain ⟨d2, g2, t2⟩ := h4.at e2
          rw [g1] at g2
          cases g2
          walk_at "s"
          refine ⟨rfl, ?_⟩
          walk_at "s"
          refine r_ixLT hA3 (atI_nat e1) ?_
          walk_at "s"
          refine r_ixLT hB3 (atI_nat e2) ?_
          walk_at "s"
          refine ⟨_, _, d1, rfl, t1.same s3, t2.same s3, ?_, fun H4 s4 => hY rfl _ s4⟩
          have z1 := depth_mem (List.mem_of_getElem? g1)
          have z2 : PyData.depthAll ds + 1 < m + 1 := hd
          omega
        · walk_at "s"
          refine ⟨Dl, List.replicate ys.length true, rfl, lst_of (hD.trans ?_), ?_⟩
          · rw [giv_const, List.map_replicate]
          · rw [show (List.replicate ys.length true).all id = true by simp]
            exact q _ (s1.trans s3)
theorem D_same {f : Addr} {fd : FuncData} (B : Bn mg) (F : Fun K "_law_same" "_law_same" Slaw_same f fd) (hm : mg "_law_same" = some (.ref f)) (hk : PySem.W.keepIn K (.ref f) = true) (hb : Binds K fd ["found", "due"] []) (m : Nat) : Df P w K mg base m "_law_same" [] (spSame m) :=
  ⟨_, _, _, _, ok_law_same B F (fun _ G => ⟨_, _, _, _, G, hm, hk, hb, .nil⟩) m, hm, hk, hb, .nil⟩
end

abbrev Slaw_dressed : Stmt := topS 17
abbrev Nlaw_dressed : List Str := ["spring", "value", "parts", "part"]
theorem sclaw_dressed : FnScope Nlaw_dressed ["spring", "value"] (defScope Slaw_dressed) := ⟨rfl, rfl, rfl, by decide +kernel, rfl, by decide +kernel, by decide +kernel⟩

section
variable {P : Program} {w : World} {K : PySem.W.Frag} {mg : Str → Option Value} {base : Heap}
def spDressed (m : Nat) : Sp := fun vs H Q _ => ∃ (r : Addr) (x : V) (d : PyData), vs = [.ref r, x] ∧ SpringAt H r ∧ Tr (fun a => a ≠ r) H x d ∧ d.depth < m ∧ ∀ y e H', Drs d e → SpringAt H' r → Kp r H H' → Tr (fun a => a ≠ r ∧ H a = none) H' y e → Q y H'
theorem ok_law_dressed {f : Addr} {fd : FuncData} (B : Bn mg) (D_law_draw : Df P w K mg base 1 "_law_draw" [] spDraw) (F : Fun K "_law_dressed" "_law_dressed" Slaw_dressed f fd) (mk : ∀ m, FnG P w K mg base (m + 2) f fd ["spring", "value"] (spDressed m) → Df P w K mg base (m + 2) "_law_dressed" [] (spDressed m)) :
    ∀ m, FnG P w K mg base (m + 2) f fd ["spring", "value"] (spDressed m) := by
  intro m
  induction m with
  | zero => exact ⟨fun vs H Q E h => by obtain ⟨_, _, _, rfl, _⟩ := h; rfl, fun A fs s H ar us vs Q E _ _ _ _ _ h => by obtain ⟨_, _, _, _, _, _, h, _⟩ := h; exact absurd h (Nat.not_lt_zero _)⟩
  | succ m ih =>
  have D_law_dressed := mk m ih
  refine gok F sclaw_dressed (fun vs H Q E h => ?_) (fun cdv A fs s H vs Q E hG hr h => ?_)
  · obtain ⟨_, _, _, rfl, _⟩ := h; rfl
  · obtain ⟨r, x, d, rfl, hS, hx, hd, q⟩ := h
    have hu := hr.units
    refine ⟨_, (pss_cons (ps_if (pt_not (pt_val (pe_callB (k_isiT K) (by rfl) B.isinstance Bisinstance (pa_cons (pv 1) (pa_cons (pe_tup (pa_cons (pe_bltn (v := .ty "list") (by rfl) B.list Tlist rfl) (pa_cons (pe_bltn (v := .ty "tuple") (by rfl) B.tuple Ttuple rfl) pa_nil))) pa_nil))))) (pss_one (ps_ret (pv 1))) pss_nil) (pss_cons (ps_setLc (i := 2) (own := [("part", 3)]) rfl sclaw_dressed.nd rfl rfl (sw_true rfl rfl rfl (by decide +kernel)) (pi_or (k_piL K (pv 1)) (k_piT K (pv 1))) (blkOk_by (own := [("part", 3)]) (N := Nlaw_dressed) (sc := defScope Slaw_dressed) (by decide +kernel)) (fun _ _ _ _ _ => (pg_name (i := 3) sclaw_dressed.nd rfl (Or.inl rfl))) (fun _ _ _ _ _ => pts_nil) (fun _ _ _ _ _ => (pe_df D_law_dressed hG (hr.mono (by first | decide | omega)) passL (by rfl) (pa_cons (pv 0) (pa_cons (pv 3) pa_nil))))) (pss_one (ps_ret (pe_ifExp (pt_cmpR op_eq (pe_df D_law_draw hG (hr.mono (by first | decide | omega)) passL (by rfl) (pa_cons (pv 0) (pa_cons pe_int pa_nil))) pe_int (nomark _)) (pv 2) (pe_callTy (k_tuple K) (by rfl) B.tuple Ttuple (pa_cons (pv 2) pa_nil))))))), ?_⟩
    walk_at "s"
    intro t nt
    have s1 := same_new (o := .tup [.ty "list", .ty "tuple"]) nt
    have hx1 := hx.same s1
    have hS1 := hS.same s1
    cases hx1 with
    | non =>
      walk_at "s"
      exact q _ _ _ .non hS1 (Kp.of s1) .non
    | int i =>
      walk_at "s"
      exact q _ _ _ (.int i) hS1 (Kp.of s1) (.int i)
    | bl i =>
      walk_at "s"
      exact q _ _ _ (.bl i) hS1 (Kp.of s1) (.bl i)
    | str i =>
      walk_at "s"
      exact q _ _ _ (.str i) hS1 (Kp.of s1) (.str i)
    | lst h1 g1 hz h2 =>
      rename_i a xs ds
      walk_at "s"
      refine .inl ?_
      walk_at "s"
      have lx := h2.len
      refine ⟨a, rfl, ⟨_, lst_of h1⟩, fun Dl nD => ?_⟩
      have s2 := same_new (o := .lst []) nD
      have nrD : r ≠ Dl := hS1.ne nD
      have naD : a ≠ Dl := ne_new nD h1
      refine lc_src (src_list (xs := xs)) (fun i H' => ∃ acc es, DrsAll (ds.take i) es ∧ TrAll (fun b => b ≠ r ∧ H b = none ∧ b ≠ Dl) H' acc es ∧ H' Dl = some (.lst acc) ∧ acc.length = i ∧ Kp r (upd H t (.tup [.ty "list", .ty "tuple"])) H' ∧ SpringAt H' r)
        (fun i H' h => by obtain ⟨_, _, _, _, _, _, k, _⟩ := h; exact lst_of (k.get g1 h1)) ⟨[], [], by rw [List.take_zero]; exact .nil, .nil, upd_same, rfl, Kp.of s2, hS1.same s2⟩ ?_ ?_
      · rintro i v H3 H3' hi ⟨acc, es, hd1, ht1, hD, la, hK, hS3⟩ ⟨rfl, hv⟩
        obtain ⟨d, gd, td⟩ := h2.at hv
        have td' : Tr (fun b => b ≠ r) H3' v d := td.move fun b o g e => ⟨hK.get g e, g⟩
        walk_at "s"
        refine ⟨rfl, ?_⟩
        walk_at "s"
        have z1 := depth_mem (List.mem_of_getElem? gd)
        have z2 : PyData.depthAll ds + 1 < m + 1 := hd
        refine ⟨r, v, d, rfl, hS3, td', by omega, fun y e H4 he hS4 hK4 ht4 => ?_⟩
        have hD4 := hK4.get nrD.symm hD
        refine ⟨acc, hD4, szl (by omega), acc ++ [y], es ++ [e], ?_, ?_, upd_same, by rw [List.length_append, la]; rfl, (hK.trans hK4).put nD, hS4.upd nrD⟩
        · rw [List.take_add_one, gd]
          exact hd1.snoc he
        · refine TrAll.snoc (ht1.move fun b o g e => ⟨?_, g⟩) (ht4.move fun b o g e => ?_)
          · rw [upd_ne g.2.2]; exact hK4.get g.1 e
          · have nb : b ≠ Dl := fun z => by rw [z, hD] at g; cases g.2
            refine ⟨(upd_ne nb).trans e, g.1, ?_, nb⟩
            exact s1.free (hK.free g.2 g.1)
      · rintro H3 ⟨acc, es, hd1, ht1, hD, la, hK, hS3⟩
        rw [List.take_of_length_le (by omega)] at hd1
        walk_at "s"
        refine ⟨r, 2, rfl, hS3, by decide, by decide, fun c H4 c0 c1 hS4 hK4 => ?_⟩
        have hD4 := hK4.get nrD.symm hD
        have ht4 : TrAll (fun b => b ≠ r ∧ H b = none) H4 acc es := ht1.move fun b o g e => ⟨hK4.get g.1 e, g.1, g.2.1⟩
        have hK5 : Kp r H H4 := ((Kp.of s1).trans hK).trans hK4
        have n0 : H Dl = none := s1.free nD
        walk_at "s"
        refine ifD (fun _ => ?_) (fun _ => ?_)
        · walk_at "s"
          exact q _ _ _ (.ll hd1) hS4 hK5 (.lst hD4 ⟨nrD.symm, n0⟩ (by omega) ht4)
        · walk_at "s"
          refine r_tupleL (lst_of hD4) fun u nu => ?_
          walk_at "s"
          have s5 := same_new (o := .tup acc) nu
          exact q _ _ _ (.lt hd1) (hS4.same s5) (hK5.put (hK5.free nu (hS4.ne nu).symm)) (.tup upd_same ⟨(hS4.ne nu).symm, hK5.free nu (hS4.ne nu).symm⟩ (by omega) (ht4.same s5))
    | tup h1 g1 hz h2 =>
      rename_i a xs ds
      walk_at "s"
      refine .inr ?_
      walk_at "s"
      have lx := h2.len
      refine ⟨a, rfl, ⟨_, tup_of h1⟩, fun Dl nD => ?_⟩
      have s2 := same_new (o := .lst []) nD
      have nrD : r ≠ Dl := hS1.ne nD
      have naD : a ≠ Dl := ne_new nD h1
      refine lc_src (src_tup (xs := xs)) (fun i H' => ∃ acc es, DrsAll (ds.take i) es ∧ TrAll (fun b => b ≠ r ∧ H b = none ∧ b ≠ Dl) H' acc es ∧ H' Dl = some (.lst acc) ∧ acc.length = i ∧ Kp r (upd H t (.tup [.ty "list", .ty "tuple"])) H' ∧ SpringAt H' r)
        (fun i H' h => by obtain ⟨_, _, _, _, _, _, k, _⟩ := h; exact tup_of (k.get g1 h1)) ⟨[], [], by rw [List.take_zero]; exact .nil, .nil, upd_same, rfl, Kp.of s2, hS1.same s2⟩ ?_ ?_
      · rintro i v H3 H3' hi ⟨acc, es, hd1, ht1, hD, la, hK, hS3⟩ ⟨rfl, hv⟩
        obtain ⟨d, gd, td⟩ := h2.at hv
        have td' : Tr (fun b => b ≠ r) H3' v d := td.move fun b o g e => ⟨hK.get g e, g⟩
        walk_at "s"
        refine ⟨rfl, ?_⟩
        walk_at "s"
        have z1 := depth_mem (List.mem_of_getElem? gd)
        have z2 : PyData.depthAll ds + 1 < m + 1 := hd
        refine ⟨r, v, d, rfl, hS3, td', by omega, fun y e H4 he hS4 hK4 ht4 => ?_⟩
        have hD4 := hK4.get nrD.symm hD
        refine ⟨acc, hD4, szl (by omega), acc ++ [y], es ++ [e], ?_, ?_, upd_same, by rw [List.length_append, la]; rfl, (hK.trans hK4).put nD, hS4.upd nrD⟩
        · rw [List.take_add_one, gd]
          exact hd1.snoc he
        · refine TrAll.snoc (ht1.move fun b o g e => ⟨?_, g⟩) (ht4.move fun b o g e => ?_)
          · rw [upd_ne g.2.2]; exact hK4.get g.1 e
          · have nb : b ≠ Dl := fun z => by rw [z, hD] at g; cases g.2
            refine ⟨(upd_ne nb).trans e, g.1, ?_, nb⟩
            exact s1.free (hK.free g.2 g.1)
      · rintro H3 ⟨acc, es, hd1, ht1, hD, la, hK, hS3⟩
        rw [List.take_of_length_le (by omega)] at hd1
        walk_at "s"
        refine ⟨r, 2, rfl, hS3, by decide, by decide, fun c H4 c0 c1 hS4 hK4 => ?_⟩
        have hD4 := hK4.get nrD.symm hD
        have ht4 : TrAll (fun b => b ≠ r ∧ H b = none) H4 acc es := ht1.move fun b o g e => ⟨hK4.get g.1 e, g.1, g.2.1⟩
        have hK5 : Kp r H H4 := ((Kp.of s1).trans hK).trans hK4
        have n0 : H Dl = none := s1.free nD
        walk_at "s"
        refine ifD (fun _ => ?_) (fun _ => ?_)
        · walk_at "s"
          exact q _ _ _ (.tl hd1) hS4 hK5 (.lst hD4 ⟨nrD.symm, n0⟩ (by omega) ht4)
        · walk_at "s"
          refine r_tupleL (lst_of hD4) fun u nu => ?_
          walk_at "s"
          have s5 := same_new (o := .tup acc) nu
          exact q _ _ _ (.tt hd1) (hS4.same s5) (hK5.put (hK5.free nu (hS4.ne nu).symm)) (.tup upd_same ⟨(hS4.ne nu).symm, hK5.free nu (hS4.ne nu).symm⟩ (by omega) (ht4.same s5))
theorem D_dressed {f : Addr} {fd : FuncData} (B : Bn mg) (D_law_draw : Df P w K mg base 1 "_law_draw" [] spDraw) (F : Fun K "_law_dressed" "_law_dressed" Slaw_dressed f fd) (hm : mg "_law_dressed" = some (.ref f)) (hk : PySem.W.keepIn K (.ref f) = true) (hb : Binds K fd ["spring", "value"] []) (m : Nat) : Df P w K mg base (m + 2) "_law_dressed" [] (spDressed m) :=
  ⟨_, _, _, _, ok_law_dressed B D_law_draw F (fun _ G => ⟨_, _, _, _, G, hm, hk, hb, .nil⟩) m, hm, hk, hb, .nil⟩
end

abbrev Slaw_right : Stmt := topS 21
abbrev Nlaw_right : List Str := ["spring", "order", "due", "handed", "before", "again", "found", "cycle"]
theorem sclaw_right : FnScope Nlaw_right ["spring", "order"] (defScope Slaw_right) := ⟨rfl, rfl, rfl, by decide +kernel, rfl, by decide +kernel, by decide +kernel⟩
abbrev Slaw : Stmt := topS 22
abbrev Nlaw : List Str := ["script", "spring", "turn", "order", "one", "other"]
theorem sclaw : FnScope Nlaw ["script"] (defScope Slaw) := ⟨rfl, rfl, rfl, by decide +kernel, rfl, by decide +kernel, by decide +kernel⟩

theorem runC_len (ns : List Int) : ∀ (f : Nat) (kn cy : List Int) (p : Int), (runC ns f kn cy p).2.length + kn.length = (runC ns f kn cy p).1.length + cy.length
  | 0, kn, cy, p => Nat.add_comm _ _
  | f + 1, kn, cy, p => by
    unfold runC
    split
    · exact Nat.add_comm _ _
    · have ih := runC_len ns f (kn ++ [p]) (cy ++ [p]) (nx ns p)
      rw [List.length_append, List.length_append, List.length_singleton] at ih
      omega
theorem cycs_top {ns : List Int} (h : IsOrd ns) : ∀ i : Nat, i ≤ ns.length → ∀ c ∈ (cycs ns i).2, c.length ≤ ns.length
  | 0, _, c, hc => by cases hc
  | i + 1, hi, c, hc => by
    have ih := cycs_top h i (by omega)
    have e : (cycs ns (i + 1)).2 = if 1 < (runC ns (ns.length + 1 - (cycs ns i).1.length) (cycs ns i).1 [] i).2.length then (cycs ns i).2 ++ [(runC ns (ns.length + 1 - (cycs ns i).1.length) (cycs ns i).1 [] i).2] else (cycs ns i).2 := rfl
    rw [e] at hc
    split at hc
    · rcases List.mem_append.mp hc with hc | hc
      · exact ih c hc
      · rw [List.mem_singleton] at hc
        subst hc
        have z := runC_len ns (ns.length + 1 - (cycs ns i).1.length) (cycs ns i).1 [] i
        have z2 := (runC_kn h (ns.length + 1 - (cycs ns i).1.length) (cycs ns i).1 [] i (cycs_kn h i (by omega)) (by omega) (by omega)).len
        rw [List.length_nil] at z
        omega
    · exact ih c hc
def dCss (css : List (List Int)) : PyData := .list (css.map fun c => .list (dI c))
theorem dI_len (ns : List Int) : (dI ns).length = ns.length := List.length_map ..
theorem LL.tr {H0 H : Hp} {p : Addr} {bad : List Addr} {css : List (List Int)} (h : LL H0 H p bad css) (h0 : H0 p = none) (hl : css.length ≤ 100000) (hb : ∀ c ∈ css, c.length ≤ 100000) : Tr (fun b => H0 b = none) H (.ref p) (dCss css) := by
  obtain ⟨as, h1, h2, h3⟩ := h
  refine .lst h1 h0 (by rw [List.length_map]; omega) (TrAll.of (by rw [List.length_map, List.length_map]; omega) fun i v d e1 e2 => ?_)
  rw [List.getElem?_map] at e1 e2
  cases ha : as[i]? with
  | none => rw [ha] at e1; cases e1
  | some a =>
    cases hc : css[i]? with
    | none => rw [hc] at e2; cases e2
    | some c =>
      rw [ha] at e1
      rw [hc] at e2
      cases e1; cases e2
      exact .lst (h3 i a c ha hc).1 (h3 i a c ha hc).2.1 (by rw [vI_len]; exact hb c (List.mem_of_getElem? hc)) (.ints c)
theorem dCss_depth (css : List (List Int)) : (dCss css).depth < 3 := by
  show PyData.depthAll _ + 1 < 3
  have := depthAll_le (ds := css.map fun c => PyData.list (dI c)) (m := 1) fun d hd => by
    obtain ⟨c, _, rfl⟩ := List.mem_map.mp hd
    show PyData.depthAll (dI c) + 1 ≤ 1
    rw [Lx.depthAll_ints]
    exact Nat.le_refl _
  omega
theorem shows_ints {ns : List Int} {n : Nat} (h : ∀ x ∈ ns, 0 ≤ x ∧ x < 10 ^ 6) (hl : ns.length ≤ n) : Shows (.list (dI ns)) 1 (n * 8 + 2) ∧ Shows (.tuple (dI ns)) 1 (n * 8 + 3) :=
  have a : ∀ d ∈ dI ns, Shows d 0 6 := fun d hd => by
    obtain ⟨x, hx, rfl⟩ := dI_mem hd
    exact shows_int (by decide) (by decide) (h x hx).1 (h x hx).2
  ⟨shows_list (n := n) a (by rw [dI_len]; exact hl), shows_tup (n := n) a (by rw [dI_len]; exact hl)⟩
section
variable {P : Program} {w : World} {K : PySem.W.Frag} {mg : Str → Option Value} {base : Heap}
def spRight : Sp := fun vs H Q _ => ∃ (r a : Addr) (ns : List Int), vs = [.ref r, .ref a] ∧ SpringAt H r ∧ H a = some (.lst (vI ns)) ∧ a ≠ r ∧ IsOrd ns ∧ ∀ H', SpringAt H' r → Kp r H H' → Q (.bl true) H'
theorem ok_law_right {f : Addr} {fd : FuncData} (B : Bn mg) (D_law_cycles : Df P w K mg base 1 "_law_cycles" [] spLawCycles) (D_law_dressed : Df P w K mg base 4 "_law_dressed" [] (spDressed 2)) (D_cycles_of : Df P w K mg base 4 "cycles_of" [] spCyclesOf)
    (D_law_same : Df P w K mg base 3 "_law_same" [] (spSame 3)) (F : Fun K "_law_right" "_law_right" Slaw_right f fd) : FnG P w K mg base 5 f fd ["spring", "order"] spRight := by
  refine gok F sclaw_right (fun vs H Q E h => ?_) (fun cdv A fs s H vs Q E hG hr h => ?_)
  · obtain ⟨_, _, _, rfl, _⟩ := h; rfl
  · obtain ⟨r, a, ns, rfl, hS, hA, nar, hO, q⟩ := h
    have hu := hr.units
    have hn := hO.top
    have ct := cycs_top hO ns.length (Nat.le_refl _)
    have cl := cycs_len ns ns.length
    refine ⟨_, (pss_cons (ps_set (i := 2) sclaw_right.nd rfl (Or.inl rfl) (pe_df D_law_cycles hG (hr.mono (by first | decide | omega)) passL (by rfl) (pa_cons (pv 1) pa_nil))) (pss_cons (ps_set (i := 3) sclaw_right.nd rfl (Or.inl rfl) (pe_df D_law_dressed hG (hr.mono (by first | decide | omega)) passL (by rfl) (pa_cons (pv 0) (pa_cons (pv 1) pa_nil)))) (pss_cons (ps_set (i := 4) sclaw_right.nd rfl (Or.inl rfl) (pe_callB (k_repr K hG hu) (by rfl) B.repr Brepr (pa_cons (pv 3) pa_nil))) (pss_cons (ps_for (passes_of rfl) rfl (pi_range1 (by rfl) B.range (pa_cons pe_int pa_nil)) (pg_name (i := 5) sclaw_right.nd rfl (Or.inl rfl)) (pss_cons (ps_set (i := 6) sclaw_right.nd rfl (Or.inl rfl) (pe_df D_cycles_of hG (hr.mono (by first | decide | omega)) passL (by rfl) (pa_cons (pv 3) pa_nil))) (pss_cons (ps_if (pw_or (pt_not (pt_val (pe_df D_law_same hG (hr.mono (by first | decide | omega)) passL (by rfl) (pa_cons (pv 6) (pa_cons (pv 2) pa_nil))))) (pw_or1 (pt_cmpR op_ne (pe_callB (k_repr K hG hu) (by rfl) B.repr Brepr (pa_cons (pv 3) pa_nil)) (pv 4) (nomark _)))).pt (pss_one (ps_ret pe_bl)) pss_nil) (pss_cons (ps_for (passes_of rfl) rfl (k_piL K (pv 6)) (pg_name (i := 7) sclaw_right.nd rfl (Or.inl rfl)) (pss_one (ps_expr (k_bmP K (pe_bm PySem.F.plainAttrs_list PySem.F.slot_list_append PySem.F.type_list_append mt_append (pv 7) (pa_cons pe_non pa_nil)))))) (pss_one (ps_expr (k_bmP K (pe_bm PySem.F.plainAttrs_list PySem.F.slot_list_append PySem.F.type_list_append mt_append (pv 6) (pa_cons pe_non pa_nil))))))))) (pss_one (ps_ret pe_bl)))))), ?_⟩
    walk_at "s"
    refine ⟨a, ns, rfl, hA, hO, fun H1 p s1 np hL => ?_⟩
    have hS1 := hS.same s1
    have hA1 := s1 _ _ hA
    have nrp : r ≠ p := hS.ne np
    have hT := hL.tr np (by omega) fun c hc => by have := ct c hc; omega
    have hT' : Tr (fun b => b ≠ r) H1 (.ref p) (dCss (cycs ns ns.length).2) := hT.move fun c o g e => ⟨e, fun (z : c = r) => hS.got (z ▸ g)⟩
    walk_at "s"
    refine ⟨r, .ref a, .list (dI ns), rfl, hS1, .lst hA1 nar (by rw [vI_len]; omega) (.ints ns), by show PyData.depthAll (dI ns) + 1 < 2; rw [Lx.depthAll_ints]; decide, fun y e H2 he hS2 hK2 hy => ?_⟩
    have he := he.ints
    obtain ⟨b, rfl, ⟨nbr, _⟩, hb⟩ := hy.sq he
    have sh : Shows e 1 1603 := by
      have := shows_ints (n := 200) (fun x hx => ⟨(hO.rng x hx).1, Int.lt_of_lt_of_le (hO.rng x hx).2 (by have : (1000 : Int) ≤ 10 ^ 6 := by decide
                                                                                                          omega)⟩) hn
      rcases he with rfl | rfl
      · exact ⟨this.1.s, this.1.n, this.1.k, Nat.le_succ_of_le this.1.z⟩
      · exact this.2
    have hT2 : Tr (fun _ => True) H2 (.ref p) (dCss (cycs ns ns.length).2) := hT'.move fun c o g e => ⟨hK2.get g e, trivial⟩
    walk_at "s"
    refine r_repr hy.dp sh (by decide) (by decide) ?_
    walk_at "s"
    refine ⟨_, rfl, by omega, by omega, ?_⟩
    refine for_src src_range (fun i σ H' => ∃ v5 v6 v7, σ = [some (.ref r), some (.ref a), some (.ref p), some (.ref b), some (.str e.shown), v5, v6, v7] ∧ Same H2 H') (fun _ _ _ _ => trivial) ⟨none, none, none, rfl, Same.refl _⟩ ?_ ?_
    · rintro i v σ H4 H3 hi ⟨v5, v6, v7, rfl, s3⟩ ⟨rfl, rfl⟩
      walk_at "s"
      refine ⟨b, ns, rfl, s3.sq hb, hO, fun H4 g s4 ng hL4 => ?_⟩
      walk_at "s"
      refine ⟨_, _, _, rfl, (hL4.tr ng (by omega) (fun c hc => by have := ct c hc; omega)).any, (hT2.same s3).same s4, dCss_depth _, fun H5 s5 => ?_⟩
      have s25 := (s3.trans s4).trans s5
      walk_at "s"
      refine r_repr ((hy.same s25).dp) sh (by decide) (by decide) ?_
      walk_at "s"
      obtain ⟨as, g1, g2, g3⟩ := hL4
      have ng0 : H2 g = none := s3.free ng
      refine ⟨g, rfl, ⟨_, lst_of (s5 _ _ g1)⟩, ?_⟩
      refine for_src (src_list (xs := as.map V.ref)) (fun j σ H' => ∃ v7, σ = [some (.ref r), some (.ref a), some (.ref p), some (.ref b), some (.str e.shown), some (.int (0 + (i : Int))), some (.ref g), v7] ∧ Same H2 H' ∧ H' g = some (.lst (as.map V.ref)) ∧
          ∀ c ∈ as, ∃ xs, H' c = some (.lst xs) ∧ xs.length ≤ 200 + j) (fun j σ H' h => by obtain ⟨_, _, _, h, _⟩ := h; exact lst_of h)
        ⟨_, rfl, s25, s5 _ _ g1, fun c hc => ?_⟩ ?_ ?_
      · obtain ⟨j, hj, rfl⟩ := List.getElem_of_mem hc
        have h1 := List.getElem?_eq_getElem hj
        have h2 := List.getElem?_eq_getElem (show j < (cycs ns ns.length).2.length by omega)
        have := ct _ (List.mem_of_getElem? h2)
        exact ⟨_, s5 _ _ (g3 j _ _ h1 h2).1, by rw [vI_len]; omega⟩
      · rintro j v σ H6 H7 hj ⟨v7, rfl, s6, hg6, hc6⟩ ⟨rfl, hv⟩
        rw [List.length_map] at hj
        have h1 := List.getElem?_eq_getElem hj
        have h2 := List.getElem?_eq_getElem (show j < (cycs ns ns.length).2.length by omega)
        rw [List.getElem?_map, h1] at hv
        cases hv
        obtain ⟨xs, hx, hxl⟩ := hc6 _ (List.getElem_mem hj)
        have hc3 := g3 j _ _ h1 h2
        have ngc : g ≠ as[j] := fun z => hc3.2.2 (by rw [← z]; exact List.mem_singleton.mpr rfl)
        walk_at "s"
        refine ⟨_, rfl, same_set s6 (s3.free hc3.2.1), (upd_ne ngc).trans hg6, fun c hc => ?_⟩
        by_cases e : c = as[j]
        · rw [e]
          exact ⟨_, upd_same, by rw [List.length_append, List.length_singleton]; omega⟩
        · obtain ⟨ys, hy1, hy2⟩ := hc6 c hc
          exact ⟨ys, (upd_ne e).trans hy1, by omega⟩
      · rintro σ H6 ⟨v7, rfl, s6, hg6, hc6⟩
        have : (as.map V.ref).length ≤ 200 := by rw [List.length_map]; omega
        walk_at "s"
        exact ⟨_, _, _, rfl, same_set s6 ng0⟩
    · rintro σ H3 ⟨v5, v6, v7, rfl, s3⟩
      walk_at "s"
      exact q _ (hS2.same s3) (((Kp.of s1).trans hK2).trans (Kp.of s3))
def spLaw (K : PySem.W.Frag) : Sp := fun vs H Q _ => ∃ (a : Addr) (ns : List Int), vs = [.ref a] ∧ SqL K H a (ns.map V.int) ∧ ns.length ≤ 63 ∧ ∀ H', Q (.bl true) H'
theorem ok_law {f : Addr} {fd : FuncData} (B : Bn mg) (D_law_spring : Df P w K mg base 1 "_law_spring" [] (spSpring K)) (D_law_draw : Df P w K mg base 1 "_law_draw" [] spDraw) (D_law_order : Df P w K mg base 3 "_law_order" [] spOrder)
    (D_law_right : Df P w K mg base 5 "_law_right" [] spRight) (D_cycles_of : Df P w K mg base 4 "cycles_of" [] spCyclesOf) (F : Fun K "law" "law" Slaw f fd) : FnG P w K mg base 6 f fd ["script"] (spLaw K) := by
  refine gok F sclaw (fun vs H Q E h => ?_) (fun cdv A fs s H vs Q E hG hr h => ?_)
  · obtain ⟨_, _, rfl, _⟩ := h; rfl
  · obtain ⟨a, ns, rfl, hA, hl, q⟩ := h
    have hu := hr.units
    refine ⟨_, (pss_cons (ps_set (i := 1) sclaw.nd rfl (Or.inl rfl) (pe_df D_law_spring hG (hr.mono (by first | decide | omega)) passL (by rfl) (pa_cons (pv 0) pa_nil))) (pss_cons (ps_for (passes_of rfl) rfl (pi_range1 (by rfl) B.range (pa_cons (pe_op op_add pe_int (pe_callB (call_min2' rfl) (by rfl) B.min Bmin (pa_cons (pe_callB (k_len K) (by rfl) B.len Blen (pa_cons (pv 0) pa_nil)) (pa_cons pe_int pa_nil)))) pa_nil)) (pg_name (i := 2) sclaw.nd rfl (Or.inl rfl)) (pss_cons (ps_set (i := 3) sclaw.nd rfl (Or.inl rfl) (pe_df D_law_order hG (hr.mono (by first | decide | omega)) passL (by rfl) (pa_cons (pv 1) (pa_cons (pe_op op_add pe_int (pe_df D_law_draw hG (hr.mono (by first | decide | omega)) passL (by rfl) (pa_cons (pv 1) (pa_cons (pe_ix (k_ixL K) (pe_lst (pa_cons pe_int (pa_cons pe_int pa_nil))) (pe_callTy call_int1' (by rfl) B.int Tint (pa_cons (pe_cmpR op_gt (pv 2) pe_int (nomark _)) pa_nil)) (fun _ _ => rfl)) pa_nil)))) pa_nil)))) (pss_cons (ps_if (pt_not (pt_val (pe_df D_law_right hG (hr.mono (by first | decide | omega)) passL (by rfl) (pa_cons (pv 1) (pa_cons (pv 3) pa_nil))))) (pss_one (ps_ret pe_bl)) pss_nil) (pss_cons (ps_par (i := 4) (j := 5) rfl sclaw.nd rfl rfl (by decide) rfl rfl (pa_cons (pe_df D_law_draw hG (hr.mono (by first | decide | omega)) passL (by rfl) (pa_cons (pv 1) (pa_cons (pe_callB (k_len K) (by rfl) B.len Blen (pa_cons (pv 3) pa_nil)) pa_nil))) (pa_cons (pe_df D_law_draw hG (hr.mono (by first | decide | omega)) passL (by rfl) (pa_cons (pv 1) (pa_cons (pe_callB (k_len K) (by rfl) B.len Blen (pa_cons (pv 3) pa_nil)) pa_nil))) pa_nil)) (by with_unfolding_all rfl)) (pss_cons (ps_asg (pe_tup (pa_cons (pe_ix (k_ixL K) (pv 3) (pv 5) (fun _ _ => rfl)) (pa_cons (pe_ix (k_ixL K) (pv 3) (pv 4) (fun _ _ => rfl)) pa_nil))) (k_gtup K rfl (pgs_cons (pg_sub (pv 3) (pv 4) set_list) (pgs_cons (pg_sub (pv 3) (pv 5) set_list) pgs_nil)))) (pss_one (ps_if (pt_not (pt_val (pe_df D_law_right hG (hr.mono (by first | decide | omega)) passL (by rfl) (pa_cons (pv 1) (pa_cons (pv 3) pa_nil))))) (pss_one (ps_ret pe_bl)) pss_nil))))))) (pss_one (ps_ret (pe_and (pe_cmpR (k_eqD K hu) (pe_df D_cycles_of hG (hr.mono (by first | decide | omega)) passL (by rfl) (pa_cons (pe_lst (pa_cons pe_int pa_nil)) pa_nil)) (pe_lst pa_nil) (nomark _)) (pe_one (pe_cmpR (k_eqD K hu) (pe_df D_cycles_of hG (hr.mono (by first | decide | omega)) passL (by rfl) (pa_cons (pe_lst (pa_cons pe_int (pa_cons pe_int (pa_cons pe_int (pa_cons pe_int pa_nil))))) pa_nil)) (pe_lst (pa_cons (pe_lst (pa_cons pe_int (pa_cons pe_int (pa_cons pe_int (pa_cons pe_int pa_nil))))) pa_nil)) (nomark _)))))))), ?_⟩
    walk_at "s"
    refine ⟨a, ns, rfl, hA, fun H1 r s1 nr hS1 => ?_⟩
    have hA1 := s1.seq hA
    walk_at "s"
    rw [List.length_map]
    have hc : 0 ≤ 2 + (if (6 : Int) < (ns.length : Int) then (6 : Int) else (ns.length : Int)) ∧ 2 + (if (6 : Int) < (ns.length : Int) then (6 : Int) else (ns.length : Int)) ≤ 8 := by split <;> omega
    generalize 2 + (if (6 : Int) < (ns.length : Int) then (6 : Int) else (ns.length : Int)) = c at hc
    refine ⟨_, rfl, by omega, by omega, ?_⟩
    refine for_src src_range (fun i σ H' => ∃ v2 v3 v4 v5, σ = [some (.ref a), some (.ref r), v2, v3, v4, v5] ∧ SpringAt H' r) (fun _ _ _ _ => trivial) ⟨none, none, none, none, rfl, hS1⟩ ?_ ?_
    · rintro i v σ H3 H2 hi ⟨v2, v3, v4, v5, rfl, hS2⟩ ⟨rfl, rfl⟩
      walk_at "s"
      intro t nt
      have hS3 := hS2.same (same_new (o := .lst [.int 200, .int 12]) nt)
      walk_at "s"
      obtain ⟨many, hm, hm0, hm1⟩ : ∃ many : Int, atI [V.int 200, V.int 12] (if decide ((0 : Int) < 0 + (i : Int)) = true then 1 else 0) = some (.int many) ∧ 0 < many ∧ many ≤ 200 := by
        split
        · exact ⟨12, rfl, by decide, by decide⟩
        · exact ⟨200, rfl, by decide, by decide⟩
      refine r_ixL (lst_of upd_same) hm ?_
      have two : ∀ x : Int, x ≤ 100000 → x < 2 ^ 200 := fun x h => Int.lt_of_le_of_lt h (by decide)
      walk_at "s"
      refine ⟨r, many, rfl, hS3, hm0, two _ (by omega), fun d H4 d0 d1 hS4 hK4 => ?_⟩
      walk_at "s"
      refine ⟨r, (1 + d).toNat, by rw [Int.toNat_of_nonneg (by omega)]; rfl, hS4, by omega, by omega, fun ms p H5 hp hS5 hK5 np hb => ?_⟩
      have npr : p ≠ r := (hS4.ne np).symm
      have hO := IsOrd.of hp (by omega) (by omega)
      have lB : ms.length = (1 + d).toNat := hp.length_eq.trans (iota_len _)
      walk_at "s"
      refine ⟨r, p, ms, rfl, hS5, hb, npr, hO, fun H6 hS6 hK6 => ?_⟩
      have hb6 := hK6.get npr hb
      walk_at "s"
      refine ⟨r, _, rfl, hS6, by rw [vI_len]; omega, two _ (by rw [vI_len]; omega), fun d1 H8 i0 i1 hS8 hK8 => ?_⟩
      rw [vI_len] at i1
      have hb8 := hK8.get npr hb6
      walk_at "s"
      refine ⟨r, _, rfl, hS8, by rw [vI_len]; omega, two _ (by rw [vI_len]; omega), fun d2 H9 j0 j1 hS9 hK9 => ?_⟩
      rw [vI_len] at j1
      have hb9 := hK9.get npr hb8
      have x1 : ms[d1.toNat]? = some (ms[d1.toNat]'(by omega)) := List.getElem?_eq_getElem (by omega)
      have x2 : ms[d2.toNat]? = some (ms[d2.toNat]'(by omega)) := List.getElem?_eq_getElem (by omega)
      have a1 : atI (vI ms) d1 = some (.int (ms[d1.toNat]'(by omega))) := atI_ok i0 (vI_at (by omega))
      have a2 : atI (vI ms) d2 = some (.int (ms[d2.toNat]'(by omega))) := atI_ok j0 (vI_at (by omega))
      have e1 : ixN (vI ms).length d1 = some d1.toNat := by rw [vI_len]; exact ixN_ok i0 (by omega)
      have e2 : ixN (vI (ms.set d1.toNat (ms[d2.toNat]'(by omega)))).length d2 = some d2.toNat := by rw [vI_len, List.length_set]; exact ixN_ok j0 (by omega)
      walk_at "s"
      intro u nu
      have nbu : p ≠ u := ne_new nu hb9
      have hb10 := (same_new (o := .tup [.int (ms[d2.toNat]'(by omega)), .int (ms[d1.toNat]'(by omega))]) nu) _ _ hb9
      walk_at "s"
      rw [vI_set]
      refine r_setL upd_same e2 ?_
      rw [vI_set]
      walk_at "s"
      have hO2 := IsOrd.of (swap_perm hp i0 (by omega) j0 (by omega) x1 x2) (by omega) (by omega)
      refine ⟨r, p, _, rfl, ((hS9.same (same_new nu)).upd npr.symm).upd npr.symm, upd_same, npr, hO2, fun H11 hS11 hK11 => ?_⟩
      walk_at "s"
      exact ⟨_, _, _, _, rfl, hS11⟩
    · rintro σ H2 ⟨v2, v3, v4, v5, rfl, hS2⟩
      walk_at "s"
      intro t nt
      walk_at "s"
      refine ⟨t, [0], rfl, .inl upd_same, ⟨by decide, by decide, by decide, by decide⟩, fun H3 p s3 np hL => ?_⟩
      walk_at "s"
      intro u nu
      have hT := (hL.tr np (by decide) (by decide)).same (same_new (o := .lst []) nu)
      refine ⟨_, .list [], hT.dp, .lst (lst_of upd_same) .nil, by decide, by decide, ?_⟩
      rw [show PyData.eqv (dCss (cycs [0] [(0 : Int)].length).2) (.list []) = true by rfl]
      walk_at "s"
      intro t2 nt2
      walk_at "s"
      refine ⟨t2, [3, 2, 0, 1], rfl, .inl upd_same, ⟨by decide, by decide, by decide, by decide⟩, fun H4 p4 s4 np4 hL4 => ?_⟩
      walk_at "s"
      intro u2 nu2
      walk_at "s"
      intro u3 nu3
      have s5 := (same_new (o := .lst [.int 0, .int 3, .int 1, .int 2]) nu2).trans (same_new (o := .lst [.ref u2]) nu3)
      have hT4 := (hL4.tr np4 (by decide) (by decide)).same s5
      have hU : upd (upd H4 u2 (.lst [.int 0, .int 3, .int 1, .int 2])) u3 (.lst [.ref u2]) u2 = some (.lst (vI [0, 3, 1, 2])) := (same_new nu3) _ _ upd_same
      refine ⟨_, .list [.list (dI [0, 3, 1, 2])], hT4.dp, .lst (lst_of upd_same) (.cons (dp_listI (lst_of hU)) .nil), by decide, by decide, ?_⟩
      rw [show PyData.eqv (dCss (cycs [3, 2, 0, 1] [(3 : Int), 2, 0, 1].length).2) (.list [.list (dI [0, 3, 1, 2])]) = true by decide +kernel]
      exact q _
end

theorem all_mk {l : PySem.W.OpenLaw} {w : World} {K : PySem.W.Frag} {h : Heap} {mg : Str → Option Value} {fa : Addr} (X : K.In h) (G : h.Ns mainGlobals mg) (hfa : mg "law" = some (.ref fa))
    {f_is_integer : Addr} {od_is_integer an_is_integer : Option Addr} {sl_is_integer : Array (Option Value)} {oc_is_integer kV_is_integer dc_is_integer pm_is_integer cd_is_integer ct_is_integer : Value}
    {T_is_integer : Addr} {oT_is_integer : Value} {dT_is_integer : Option Addr} {nT_is_integer : Nat} {sT_is_integer : Array (Option Value)}
    {f_is_listed : Addr} {od_is_listed an_is_listed : Option Addr} {sl_is_listed : Array (Option Value)} {oc_is_listed kV_is_listed dc_is_listed pm_is_listed cd_is_listed ct_is_listed : Value}
    {f_are_numbers : Addr} {od_are_numbers an_are_numbers : Option Addr} {sl_are_numbers : Array (Option Value)} {oc_are_numbers kV_are_numbers dc_are_numbers pm_are_numbers cd_are_numbers ct_are_numbers : Value}
    {f_checked_order : Addr} {od_checked_order an_checked_order : Option Addr} {sl_checked_order : Array (Option Value)} {oc_checked_order kV_checked_order dc_checked_order pm_checked_order cd_checked_order ct_checked_order : Value}
    {f_cycles_by : Addr} {od_cycles_by an_cycles_by : Option Addr} {sl_cycles_by : Array (Option Value)} {oc_cycles_by kV_cycles_by dc_cycles_by pm_cycles_by cd_cycles_by ct_cycles_by : Value}
    {f_cycles_of : Addr} {od_cycles_of an_cycles_of : Option Addr} {sl_cycles_of : Array (Option Value)} {oc_cycles_of kV_cycles_of dc_cycles_of pm_cycles_of cd_cycles_of ct_cycles_of : Value}
    {f_law_spring : Addr} {od_law_spring an_law_spring : Option Addr} {sl_law_spring : Array (Option Value)} {oc_law_spring kV_law_spring dc_law_spring pm_law_spring cd_law_spring ct_law_spring : Value}
    {f_law_draw : Addr} {od_law_draw an_law_draw : Option Addr} {sl_law_draw : Array (Option Value)} {oc_law_draw kV_law_draw dc_law_draw pm_law_draw cd_law_draw ct_law_draw : Value}
    {f_law_same : Addr} {od_law_same an_law_same : Option Addr} {sl_law_same : Array (Option Value)} {oc_law_same kV_law_same dc_law_same pm_law_same cd_law_same ct_law_same : Value}
    {f_law_dressed : Addr} {od_law_dressed an_law_dressed : Option Addr} {sl_law_dressed : Array (Option Value)} {oc_law_dressed kV_law_dressed dc_law_dressed pm_law_dressed cd_law_dressed ct_law_dressed : Value}
    {f_law_mixed : Addr} {od_law_mixed an_law_mixed : Option Addr} {sl_law_mixed : Array (Option Value)} {oc_law_mixed kV_law_mixed dc_law_mixed pm_law_mixed cd_law_mixed ct_law_mixed : Value}
    {f_law_order : Addr} {od_law_order an_law_order : Option Addr} {sl_law_order : Array (Option Value)} {oc_law_order kV_law_order dc_law_order pm_law_order cd_law_order ct_law_order : Value}
    {f_law_cycles : Addr} {od_law_cycles an_law_cycles : Option Addr} {sl_law_cycles : Array (Option Value)} {oc_law_cycles kV_law_cycles dc_law_cycles pm_law_cycles cd_law_cycles ct_law_cycles : Value}
    {f_law_right : Addr} {od_law_right an_law_right : Option Addr} {sl_law_right : Array (Option Value)} {oc_law_right kV_law_right dc_law_right pm_law_right cd_law_right ct_law_right : Value}
    {f_law : Addr} {od_law an_law : Option Addr} {sl_law : Array (Option Value)} {oc_law kV_law dc_law pm_law cd_law ct_law : Value}
    {t_MAX_SIZE : Tok}
    (a_is_integer : PySem.W.nsIn K mainGlobals "is_integer" = some (some (.ref f_is_integer)))
    (l_is_integer : K.lookup f_is_integer = some ⟨oc_is_integer, od_is_integer, .func (PySem.W.fnOf "is_integer" "is_integer" (defArgs Sis_integer) (defBody Sis_integer) (defScope Sis_integer) (.ref T_is_integer) kV_is_integer dc_is_integer pm_is_integer an_is_integer cd_is_integer ct_is_integer), sl_is_integer⟩)
    (t_is_integer : K.lookup T_is_integer = some ⟨oT_is_integer, dT_is_integer, .seq #[.none] nT_is_integer, sT_is_integer⟩)
    (c_is_integer : PySem.W.codeIn K cd_is_integer "is_integer" = true)
    (k_is_integer : PySem.W.keepIn K (.ref f_is_integer) = true)
    (a_is_listed : PySem.W.nsIn K mainGlobals "is_listed" = some (some (.ref f_is_listed)))
    (l_is_listed : K.lookup f_is_listed = some ⟨oc_is_listed, od_is_listed, .func (PySem.W.fnOf "is_listed" "is_listed" (defArgs Sis_listed) (defBody Sis_listed) (defScope Sis_listed) .none kV_is_listed dc_is_listed pm_is_listed an_is_listed cd_is_listed ct_is_listed), sl_is_listed⟩)
    (c_is_listed : PySem.W.codeIn K cd_is_listed "is_listed" = true)
    (k_is_listed : PySem.W.keepIn K (.ref f_is_listed) = true)
    (a_are_numbers : PySem.W.nsIn K mainGlobals "are_numbers" = some (some (.ref f_are_numbers)))
    (l_are_numbers : K.lookup f_are_numbers = some ⟨oc_are_numbers, od_are_numbers, .func (PySem.W.fnOf "are_numbers" "are_numbers" (defArgs Sare_numbers) (defBody Sare_numbers) (defScope Sare_numbers) .none kV_are_numbers dc_are_numbers pm_are_numbers an_are_numbers cd_are_numbers ct_are_numbers), sl_are_numbers⟩)
    (c_are_numbers : PySem.W.codeIn K cd_are_numbers "are_numbers" = true)
    (k_are_numbers : PySem.W.keepIn K (.ref f_are_numbers) = true)
    (a_checked_order : PySem.W.nsIn K mainGlobals "checked_order" = some (some (.ref f_checked_order)))
    (l_checked_order : K.lookup f_checked_order = some ⟨oc_checked_order, od_checked_order, .func (PySem.W.fnOf "checked_order" "checked_order" (defArgs Schecked_order) (defBody Schecked_order) (defScope Schecked_order) .none kV_checked_order dc_checked_order pm_checked_order an_checked_order cd_checked_order ct_checked_order), sl_checked_order⟩)
    (c_checked_order : PySem.W.codeIn K cd_checked_order "checked_order" = true)
    (k_checked_order : PySem.W.keepIn K (.ref f_checked_order) = true)
    (a_cycles_by : PySem.W.nsIn K mainGlobals "cycles_by" = some (some (.ref f_cycles_by)))
    (l_cycles_by : K.lookup f_cycles_by = some ⟨oc_cycles_by, od_cycles_by, .func (PySem.W.fnOf "cycles_by" "cycles_by" (defArgs Scycles_by) (defBody Scycles_by) (defScope Scycles_by) .none kV_cycles_by dc_cycles_by pm_cycles_by an_cycles_by cd_cycles_by ct_cycles_by), sl_cycles_by⟩)
    (c_cycles_by : PySem.W.codeIn K cd_cycles_by "cycles_by" = true)
    (k_cycles_by : PySem.W.keepIn K (.ref f_cycles_by) = true)
    (a_cycles_of : PySem.W.nsIn K mainGlobals "cycles_of" = some (some (.ref f_cycles_of)))
    (l_cycles_of : K.lookup f_cycles_of = some ⟨oc_cycles_of, od_cycles_of, .func (PySem.W.fnOf "cycles_of" "cycles_of" (defArgs Scycles_of) (defBody Scycles_of) (defScope Scycles_of) .none kV_cycles_of dc_cycles_of pm_cycles_of an_cycles_of cd_cycles_of ct_cycles_of), sl_cycles_of⟩)
    (c_cycles_of : PySem.W.codeIn K cd_cycles_of "cycles_of" = true)
    (k_cycles_of : PySem.W.keepIn K (.ref f_cycles_of) = true)
    (a_law_spring : PySem.W.nsIn K mainGlobals "_law_spring" = some (some (.ref f_law_spring)))
    (l_law_spring : K.lookup f_law_spring = some ⟨oc_law_spring, od_law_spring, .func (PySem.W.fnOf "_law_spring" "_law_spring" (defArgs Slaw_spring) (defBody Slaw_spring) (defScope Slaw_spring) .none kV_law_spring dc_law_spring pm_law_spring an_law_spring cd_law_spring ct_law_spring), sl_law_spring⟩)
    (c_law_spring : PySem.W.codeIn K cd_law_spring "_law_spring" = true)
    (k_law_spring : PySem.W.keepIn K (.ref f_law_spring) = true)
    (a_law_draw : PySem.W.nsIn K mainGlobals "_law_draw" = some (some (.ref f_law_draw)))
    (l_law_draw : K.lookup f_law_draw = some ⟨oc_law_draw, od_law_draw, .func (PySem.W.fnOf "_law_draw" "_law_draw" (defArgs Slaw_draw) (defBody Slaw_draw) (defScope Slaw_draw) .none kV_law_draw dc_law_draw pm_law_draw an_law_draw cd_law_draw ct_law_draw), sl_law_draw⟩)
    (c_law_draw : PySem.W.codeIn K cd_law_draw "_law_draw" = true)
    (k_law_draw : PySem.W.keepIn K (.ref f_law_draw) = true)
    (a_law_same : PySem.W.nsIn K mainGlobals "_law_same" = some (some (.ref f_law_same)))
    (l_law_same : K.lookup f_law_same = some ⟨oc_law_same, od_law_same, .func (PySem.W.fnOf "_law_same" "_law_same" (defArgs Slaw_same) (defBody Slaw_same) (defScope Slaw_same) .none kV_law_same dc_law_same pm_law_same an_law_same cd_law_same ct_law_same), sl_law_same⟩)
    (c_law_same : PySem.W.codeIn K cd_law_same "_law_same" = true)
    (k_law_same : PySem.W.keepIn K (.ref f_law_same) = true)
    (a_law_dressed : PySem.W.nsIn K mainGlobals "_law_dressed" = some (some (.ref f_law_dressed)))
    (l_law_dressed : K.lookup f_law_dressed = some ⟨oc_law_dressed, od_law_dressed, .func (PySem.W.fnOf "_law_dressed" "_law_dressed" (defArgs Slaw_dressed) (defBody Slaw_dressed) (defScope Slaw_dressed) .none kV_law_dressed dc_law_dressed pm_law_dressed an_law_dressed cd_law_dressed ct_law_dressed), sl_law_dressed⟩)
    (c_law_dressed : PySem.W.codeIn K cd_law_dressed "_law_dressed" = true)
    (k_law_dressed : PySem.W.keepIn K (.ref f_law_dressed) = true)
    (a_law_mixed : PySem.W.nsIn K mainGlobals "_law_mixed" = some (some (.ref f_law_mixed)))
    (l_law_mixed : K.lookup f_law_mixed = some ⟨oc_law_mixed, od_law_mixed, .func (PySem.W.fnOf "_law_mixed" "_law_mixed" (defArgs Slaw_mixed) (defBody Slaw_mixed) (defScope Slaw_mixed) .none kV_law_mixed dc_law_mixed pm_law_mixed an_law_mixed cd_law_mixed ct_law_mixed), sl_law_mixed⟩)
    (c_law_mixed : PySem.W.codeIn K cd_law_mixed "_law_mixed" = true)
    (k_law_mixed : PySem.W.keepIn K (.ref f_law_mixed) = true)
    (a_law_order : PySem.W.nsIn K mainGlobals "_law_order" = some (some (.ref f_law_order)))
    (l_law_order : K.lookup f_law_order = some ⟨oc_law_order, od_law_order, .func (PySem.W.fnOf "_law_order" "_law_order" (defArgs Slaw_order) (defBody Slaw_order) (defScope Slaw_order) .none kV_law_order dc_law_order pm_law_order an_law_order cd_law_order ct_law_order), sl_law_order⟩)
    (c_law_order : PySem.W.codeIn K cd_law_order "_law_order" = true)
    (k_law_order : PySem.W.keepIn K (.ref f_law_order) = true)
    (a_law_cycles : PySem.W.nsIn K mainGlobals "_law_cycles" = some (some (.ref f_law_cycles)))
    (l_law_cycles : K.lookup f_law_cycles = some ⟨oc_law_cycles, od_law_cycles, .func (PySem.W.fnOf "_law_cycles" "_law_cycles" (defArgs Slaw_cycles) (defBody Slaw_cycles) (defScope Slaw_cycles) .none kV_law_cycles dc_law_cycles pm_law_cycles an_law_cycles cd_law_cycles ct_law_cycles), sl_law_cycles⟩)
    (c_law_cycles : PySem.W.codeIn K cd_law_cycles "_law_cycles" = true)
    (k_law_cycles : PySem.W.keepIn K (.ref f_law_cycles) = true)
    (a_law_right : PySem.W.nsIn K mainGlobals "_law_right" = some (some (.ref f_law_right)))
    (l_law_right : K.lookup f_law_right = some ⟨oc_law_right, od_law_right, .func (PySem.W.fnOf "_law_right" "_law_right" (defArgs Slaw_right) (defBody Slaw_right) (defScope Slaw_right) .none kV_law_right dc_law_right pm_law_right an_law_right cd_law_right ct_law_right), sl_law_right⟩)
    (c_law_right : PySem.W.codeIn K cd_law_right "_law_right" = true)
    (k_law_right : PySem.W.keepIn K (.ref f_law_right) = true)
    (a_law : PySem.W.nsIn K mainGlobals "law" = some (some (.ref f_law)))
    (l_law : K.lookup f_law = some ⟨oc_law, od_law, .func (PySem.W.fnOf "law" "law" (defArgs Slaw) (defBody Slaw) (defScope Slaw) .none kV_law dc_law pm_law an_law cd_law ct_law), sl_law⟩)
    (c_law : PySem.W.codeIn K cd_law "law" = true)
    (k_law : PySem.W.keepIn K (.ref f_law) = true)
    (g_MAX_SIZE : PySem.W.nsIn K mainGlobals "MAX_SIZE" = some (some (.int (200) t_MAX_SIZE)))
    (z_len : PySem.W.nsIn K mainGlobals "len" = some none)
    (z_range : PySem.W.nsIn K mainGlobals "range" = some none)
    (z_isinstance : PySem.W.nsIn K mainGlobals "isinstance" = some none)
    (z_int : PySem.W.nsIn K mainGlobals "int" = some none)
    (z_bool : PySem.W.nsIn K mainGlobals "bool" = some none)
    (z_str : PySem.W.nsIn K mainGlobals "str" = some none)
    (z_list : PySem.W.nsIn K mainGlobals "list" = some none)
    (z_tuple : PySem.W.nsIn K mainGlobals "tuple" = some none)
    (z_set : PySem.W.nsIn K mainGlobals "set" = some none)
    (z_sorted : PySem.W.nsIn K mainGlobals "sorted" = some none)
    (z_min : PySem.W.nsIn K mainGlobals "min" = some none)
    (z_max : PySem.W.nsIn K mainGlobals "max" = some none)
    (z_sum : PySem.W.nsIn K mainGlobals "sum" = some none)
    (z_all : PySem.W.nsIn K mainGlobals "all" = some none)
    (z_any : PySem.W.nsIn K mainGlobals "any" = some none)
    (z_abs : PySem.W.nsIn K mainGlobals "abs" = some none)
    (z_repr : PySem.W.nsIn K mainGlobals "repr" = some none)
    (z_enumerate : PySem.W.nsIn K mainGlobals "enumerate" = some none)
    (z_zip : PySem.W.nsIn K mainGlobals "zip" = some none)
    (z_reversed : PySem.W.nsIn K mainGlobals "reversed" = some none) :
    ∃ fd : FuncData, (∀ (s : Shared) (v : Value), BindsTo s fd ⟨[v], []⟩ [("script", v)]) ∧ ∀ base : Heap, K.In base → base.Ns mainGlobals mg → FnG l.prog w K mg base 6 fa fd ["script"] (spLaw K) := by
  have e := hfa.symm.trans (PySem.W.mg_of X G a_law)
  cases e
  have B : Bn mg := ⟨PySem.W.mg_none_of X G z_len, PySem.W.mg_none_of X G z_range, PySem.W.mg_none_of X G z_isinstance, PySem.W.mg_none_of X G z_int, PySem.W.mg_none_of X G z_bool, PySem.W.mg_none_of X G z_str, PySem.W.mg_none_of X G z_list, PySem.W.mg_none_of X G z_tuple, PySem.W.mg_none_of X G z_set, PySem.W.mg_none_of X G z_sorted, PySem.W.mg_none_of X G z_min, PySem.W.mg_none_of X G z_max, PySem.W.mg_none_of X G z_sum, PySem.W.mg_none_of X G z_all, PySem.W.mg_none_of X G z_any, PySem.W.mg_none_of X G z_abs, PySem.W.mg_none_of X G z_repr, PySem.W.mg_none_of X G z_enumerate, PySem.W.mg_none_of X G z_zip, PySem.W.mg_none_of X G z_reversed⟩
  have c_MAX_SIZE : Gc mg "MAX_SIZE" (.int (200)) := ⟨_, PySem.W.mg_of X G g_MAX_SIZE, ⟨_, rfl⟩⟩
  have F_is_integer : FunD K "is_integer" "is_integer" (defArgs Sis_integer) (defBody Sis_integer) (defScope Sis_integer) [.non] [] f_is_integer _ := ⟨⟨_, _, _, _, _, _, _, _, _, _, rfl, l_is_integer, c_is_integer, .inr ⟨List.cons_ne_nil _ _, _, _, [.none], _, rfl, t_is_integer, rfl, .cons rfl (.nil)⟩, .inl rfl⟩, k_is_integer⟩
  have b_is_integer := F_is_integer.binds1 (ps := ["value", "low", "high"]) 3 1 (List.cons_ne_nil _ _) rfl fun T kV doc pm an cdv ct us its hl hi => match us, its, hl, hi with | [_, _, _], [_], _, _ => ⟨_, rfl, rfl⟩
  obtain ⟨ds_is_integer, v_is_integer, b_is_integer⟩ := b_is_integer
  have bd1_is_integer := F_is_integer.binds1 (ps := ["value", "low", "high"]) 2 0 (List.cons_ne_nil _ _) rfl fun T kV doc pm an cdv ct us its hl hi => match us, its, hl, hi with | [_, _], [_], _, _ => ⟨_, rfl, rfl⟩
  obtain ⟨ds1_is_integer, v1_is_integer, b1_is_integer⟩ := bd1_is_integer
  have F_is_listed := fun_mk (st := Sis_listed) l_is_listed c_is_listed k_is_listed
  have b_is_listed := F_is_listed.binds (ps := ["value"]) fun _ _ _ _ _ _ us hl => match us, hl with | [_], _ => rfl
  have F_are_numbers := fun_mk (st := Sare_numbers) l_are_numbers c_are_numbers k_are_numbers
  have b_are_numbers := F_are_numbers.binds (ps := ["value"]) fun _ _ _ _ _ _ us hl => match us, hl with | [_], _ => rfl
  have F_checked_order := fun_mk (st := Schecked_order) l_checked_order c_checked_order k_checked_order
  have b_checked_order := F_checked_order.binds (ps := ["order"]) fun _ _ _ _ _ _ us hl => match us, hl with | [_], _ => rfl
  have F_cycles_by := fun_mk (st := Scycles_by) l_cycles_by c_cycles_by k_cycles_by
  have b_cycles_by := F_cycles_by.binds (ps := ["books"]) fun _ _ _ _ _ _ us hl => match us, hl with | [_], _ => rfl
  have F_cycles_of := fun_mk (st := Scycles_of) l_cycles_of c_cycles_of k_cycles_of
  have b_cycles_of := F_cycles_of.binds (ps := ["order"]) fun _ _ _ _ _ _ us hl => match us, hl with | [_], _ => rfl
  have F_law_spring := fun_mk (st := Slaw_spring) l_law_spring c_law_spring k_law_spring
  have b_law_spring := F_law_spring.binds (ps := ["script"]) fun _ _ _ _ _ _ us hl => match us, hl with | [_], _ => rfl
  have F_law_draw := fun_mk (st := Slaw_draw) l_law_draw c_law_draw k_law_draw
  have b_law_draw := F_law_draw.binds (ps := ["spring", "many"]) fun _ _ _ _ _ _ us hl => match us, hl with | [_, _], _ => rfl
  have F_law_same := fun_mk (st := Slaw_same) l_law_same c_law_same k_law_same
  have b_law_same := F_law_same.binds (ps := ["found", "due"]) fun _ _ _ _ _ _ us hl => match us, hl with | [_, _], _ => rfl
  have F_law_dressed := fun_mk (st := Slaw_dressed) l_law_dressed c_law_dressed k_law_dressed
  have b_law_dressed := F_law_dressed.binds (ps := ["spring", "value"]) fun _ _ _ _ _ _ us hl => match us, hl with | [_, _], _ => rfl
  have F_law_mixed := fun_mk (st := Slaw_mixed) l_law_mixed c_law_mixed k_law_mixed
  have b_law_mixed := F_law_mixed.binds (ps := ["spring", "row"]) fun _ _ _ _ _ _ us hl => match us, hl with | [_, _], _ => rfl
  have F_law_order := fun_mk (st := Slaw_order) l_law_order c_law_order k_law_order
  have b_law_order := F_law_order.binds (ps := ["spring", "size"]) fun _ _ _ _ _ _ us hl => match us, hl with | [_, _], _ => rfl
  have F_law_cycles := fun_mk (st := Slaw_cycles) l_law_cycles c_law_cycles k_law_cycles
  have b_law_cycles := F_law_cycles.binds (ps := ["order"]) fun _ _ _ _ _ _ us hl => match us, hl with | [_], _ => rfl
  have F_law_right := fun_mk (st := Slaw_right) l_law_right c_law_right k_law_right
  have b_law_right := F_law_right.binds (ps := ["spring", "order"]) fun _ _ _ _ _ _ us hl => match us, hl with | [_, _], _ => rfl
  have F_law := fun_mk (st := Slaw) l_law c_law k_law
  refine ⟨PySem.W.fnOf "law" "law" (defArgs Slaw) (defBody Slaw) (defScope Slaw) .none kV_law dc_law pm_law an_law cd_law ct_law, fun s v => .of_eq rfl, fun base _ _ => ?_⟩
  have D_is_integer : Df l.prog w K mg base 1 "is_integer" [] spIsInteger := ⟨_, _, _, _, ok_is_integer (k := 0) B F_is_integer, PySem.W.mg_of X G a_is_integer, k_is_integer, b_is_integer, v_is_integer⟩
  have D_is_listed : Df l.prog w K mg base 1 "is_listed" [] spIsListed := ⟨_, _, _, _, ok_is_listed (k := 0) B F_is_listed, PySem.W.mg_of X G a_is_listed, k_is_listed, b_is_listed, .nil⟩
  have D_are_numbers : Df l.prog w K mg base 2 "are_numbers" [] spAreNumbers := ⟨_, _, _, _, ok_are_numbers B c_MAX_SIZE D_is_listed D_is_integer F_are_numbers, PySem.W.mg_of X G a_are_numbers, k_are_numbers, b_are_numbers, .nil⟩
  have D_checked_order : Df l.prog w K mg base 3 "checked_order" [] spCheckedOrder := ⟨_, _, _, _, ok_checked_order B D_are_numbers F_checked_order, PySem.W.mg_of X G a_checked_order, k_checked_order, b_checked_order, .nil⟩
  have D_cycles_by : Df l.prog w K mg base 1 "cycles_by" [] spCyclesBy := ⟨_, _, _, _, ok_cycles_by (k := 0) B F_cycles_by, PySem.W.mg_of X G a_cycles_by, k_cycles_by, b_cycles_by, .nil⟩
  have D_cycles_of : Df l.prog w K mg base 4 "cycles_of" [] spCyclesOf := ⟨_, _, _, _, ok_cycles_of D_cycles_by D_checked_order F_cycles_of, PySem.W.mg_of X G a_cycles_of, k_cycles_of, b_cycles_of, .nil⟩
  have D_law_spring : Df l.prog w K mg base 1 "_law_spring" [] (spSpring K) := ⟨_, _, _, _, ok_law_spring (k := 0) B F_law_spring, PySem.W.mg_of X G a_law_spring, k_law_spring, b_law_spring, .nil⟩
  have D_law_draw : Df l.prog w K mg base 1 "_law_draw" [] spDraw := ⟨_, _, _, _, ok_law_draw (k := 0) F_law_draw, PySem.W.mg_of X G a_law_draw, k_law_draw, b_law_draw, .nil⟩
  have D_law_same : Df l.prog w K mg base 3 "_law_same" [] (spSame 3) := D_same B F_law_same (PySem.W.mg_of X G a_law_same) k_law_same b_law_same 3
  have D_law_dressed : Df l.prog w K mg base 4 "_law_dressed" [] (spDressed 2) := D_dressed B D_law_draw F_law_dressed (PySem.W.mg_of X G a_law_dressed) k_law_dressed b_law_dressed 2
  have D_law_mixed : Df l.prog w K mg base 2 "_law_mixed" [] spMixed := ⟨_, _, _, _, ok_law_mixed B D_law_draw F_law_mixed, PySem.W.mg_of X G a_law_mixed, k_law_mixed, b_law_mixed, .nil⟩
  have D_law_order : Df l.prog w K mg base 3 "_law_order" [] spOrder := ⟨_, _, _, _, ok_law_order B D_law_draw D_law_mixed F_law_order, PySem.W.mg_of X G a_law_order, k_law_order, b_law_order, .nil⟩
  have D_law_cycles : Df l.prog w K mg base 1 "_law_cycles" [] spLawCycles := ⟨_, _, _, _, ok_law_cycles (k := 0) B F_law_cycles, PySem.W.mg_of X G a_law_cycles, k_law_cycles, b_law_cycles, .nil⟩
  have D_law_right : Df l.prog w K mg base 5 "_law_right" [] spRight := ⟨_, _, _, _, ok_law_right B D_law_cycles D_law_dressed D_cycles_of D_law_same F_law_right, PySem.W.mg_of X G a_law_right, k_law_right, b_law_right, .nil⟩
  exact ok_law B D_law_spring D_law_draw D_law_order D_law_right D_cycles_of F_law
theorem the_walk {l : PySem.W.OpenLaw} {q : Program} {loose : List Str} {XP : (Str → Option Value) → Heap → Prop} {YP : World → Heap → Prop} {d : DefRec} {K : Params → PySem.W.Frag} (hn : l.most = some 63) (hdf : d.params.defaults = [])
    (hY : ∀ (w : World) (h : Heap), YP w h → (K w.params).In h)
    (F : ∀ (w : World) (mg : Str → Option Value) (fa : Addr) (h : Heap), (K w.params).In h → h.Ns mainGlobals mg → mg d.name = some (.ref fa) →
      ∃ fd : FuncData, (∀ (s : Shared) (u : Value), BindsTo s fd ⟨[u], []⟩ [("script", u)]) ∧ ∀ base : Heap, (K w.params).In base → base.Ns mainGlobals mg → FnG l.prog w (K w.params) mg base 6 fa fd ["script"] (spLaw (K w.params))) :
    PySem.W.WalkO q loose XP YP l.row.toRowW d [] (fun f vs => PySem.call f vs) :=
  Lx.gwalk (n := 63) (k := 6) (x := "script") (sp := fun w => spLaw (K w.params)) hn (by decide) hdf ⟨rfl, by decide, by decide⟩ hY F (fun _ _ a ns hl hb hS => ⟨a, ns, rfl, hS, hl, fun _ => rfl⟩)
end My
open PySem PySem.W PyProof.Rows in
set_option maxRecDepth 100000 in
set_option maxHeartbeats 0 in
theorem PySem.Challenge.cw_leftreturn_k38_cycles_of_orders_holds : PySem.Challenge.rw_leftreturn_k38_cycles_of_orders.Holds := by
  w_on; o_law; k_head; (case hw => w_witness2)
  k_fill
  refine My.the_walk (l := PySem.Challenge.rw_leftreturn_k38_cycles_of_orders) rfl rfl (fun w h Y => PySem.W.kIn_of Y) ?F
  case F =>
    intro w mg fa h KX G hmg
    refine' My.all_mk KX G hmg ?a_is_integer ?l_is_integer ?t_is_integer ?c_is_integer ?k_is_integer ?a_is_listed ?l_is_listed ?c_is_listed ?k_is_listed ?a_are_numbers ?l_are_numbers ?c_are_numbers ?k_are_numbers ?a_checked_order ?l_checked_order ?c_checked_order ?k_checked_order ?a_cycles_by ?l_cycles_by ?c_cycles_by ?k_cycles_by ?a_cycles_of ?l_cycles_of ?c_cycles_of ?k_cycles_of ?a_law_spring ?l_law_spring ?c_law_spring ?k_law_spring ?a_law_draw ?l_law_draw ?c_law_draw ?k_law_draw ?a_law_same ?l_law_same ?c_law_same ?k_law_same ?a_law_dressed ?l_law_dressed ?c_law_dressed ?k_law_dressed ?a_law_mixed ?l_law_mixed ?c_law_mixed ?k_law_mixed ?a_law_order ?l_law_order ?c_law_order ?k_law_order ?a_law_cycles ?l_law_cycles ?c_law_cycles ?k_law_cycles ?a_law_right ?l_law_right ?c_law_right ?k_law_right ?a_law ?l_law ?c_law ?k_law ?g_MAX_SIZE ?z_len ?z_range ?z_isinstance ?z_int ?z_bool ?z_str ?z_list ?z_tuple ?z_set ?z_sorted ?z_min ?z_max ?z_sum ?z_all ?z_any ?z_abs ?z_repr ?z_enumerate ?z_zip ?z_reversed
    (case a_is_integer => k_is)
    (case l_is_integer => k_is)
    (case t_is_integer => k_is)
    (case c_is_integer => k_is)
    (case k_is_integer => k_is)
    (case a_is_listed => k_is)
    (case l_is_listed => k_is)
    (case c_is_listed => k_is)
    (case k_is_listed => k_is)
    (case a_are_numbers => k_is)
    (case l_are_numbers => k_is)
    (case c_are_numbers => k_is)
    (case k_are_numbers => k_is)
    (case a_checked_order => k_is)
    (case l_checked_order => k_is)
    (case c_checked_order => k_is)
    (case k_checked_order => k_is)
    (case a_cycles_by => k_is)
    (case l_cycles_by => k_is)
    (case c_cycles_by => k_is)
    (case k_cycles_by => k_is)
    (case a_cycles_of => k_is)
    (case l_cycles_of => k_is)
    (case c_cycles_of => k_is)
    (case k_cycles_of => k_is)
    (case a_law_spring => k_is)
    (case l_law_spring => k_is)
    (case c_law_spring => k_is)
    (case k_law_spring => k_is)
    (case a_law_draw => k_is)
    (case l_law_draw => k_is)
    (case c_law_draw => k_is)
    (case k_law_draw => k_is)
    (case a_law_same => k_is)
    (case l_law_same => k_is)
    (case c_law_same => k_is)
    (case k_law_same => k_is)
    (case a_law_dressed => k_is)
    (case l_law_dressed => k_is)
    (case c_law_dressed => k_is)
    (case k_law_dressed => k_is)
    (case a_law_mixed => k_is)
    (case l_law_mixed => k_is)
    (case c_law_mixed => k_is)
    (case k_law_mixed => k_is)
    (case a_law_order => k_is)
    (case l_law_order => k_is)
    (case c_law_order => k_is)
    (case k_law_order => k_is)
    (case a_law_cycles => k_is)
    (case l_law_cycles => k_is)
    (case c_law_cycles => k_is)
    (case k_law_cycles => k_is)
    (case a_law_right => k_is)
    (case l_law_right => k_is)
    (case c_law_right => k_is)
    (case k_law_right => k_is)
    (case a_law => k_is)
    (case l_law => k_is)
    (case c_law => k_is)
    (case k_law => k_is)
    (case g_MAX_SIZE => k_is)
    (case z_len => k_is)
    (case z_range => k_is)
    (case z_isinstance => k_is)
    (case z_int => k_is)
    (case z_bool => k_is)
    (case z_str => k_is)
    (case z_list => k_is)
    (case z_tuple => k_is)
    (case z_set => k_is)
    (case z_sorted => k_is)
    (case z_min => k_is)
    (case z_max => k_is)
    (case z_sum => k_is)
    (case z_all => k_is)
    (case z_any => k_is)
    (case z_abs => k_is)
    (case z_repr => k_is)
    (case z_enumerate => k_is)
    (case z_zip => k_is)
    (case z_reversed => k_is)
