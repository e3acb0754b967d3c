import PyProof.Rows.All
import Wide.All
import OpenK.AllK
import Wide.FinOn
import HandS.ForMost
import HandS.WordsExc
import HandS.Wide
import HandS.Defaults
import HandS.SortInts
import HandS.IsInst
import HandS.EndBits
import PyProof.ReprRoads
import HandS.Conv
import HandS.Style
import HandS.NoneIn
import HandS.TupAny
import HandS.SetFor
import HandS.Text
import PyProof.Rows.ChunkEnd
import HandS.Zip
import PySem.Challenge.RW_leftreturn_k06_places_filled_by_patterns
import PyProof.Rows.RegReprOcc
set_option Elab.async false
set_option linter.all false
set_option maxRecDepth 100000
set_option maxHeartbeats 4000000
namespace Lx
open PySem PySem.Spec PyProof.Rows L2

/-! ### a def's promise where no repr runs around it -/
structure FnG (P : Program) (w : World) (K : PySem.W.Frag) (mg : Str → Option Value) (base : Heap) (k : Nat) (f : Addr) (fd : FuncData) (ps : List Str) (sp : Sp) : Prop where
  ln : ∀ us H Q E, sp us H Q E → us.length = ps.length
  go : ∀ (A : Around) (fs : List Env) (s : Shared) (H : Hp) (ar : Args) (us : List Value) (vs : List V) (Q : VK) (E : XK), A.guards = some [] → Room k A → Env0 P w K mg base A fs s H →
    BindsTo s fd ar (ps.zip us) → Vals vs us → sp vs H Q E → codeAny (model P w) A (.call (.ref f) ar) (CR (L2.CX P w) fs P w H s Q E) s
section
variable {P : Program} {w : World} {K : PySem.W.Frag} {mg : Str → Option Value} {base : Heap}
theorem FnG.up {j k : Nat} {f : Addr} {fd : FuncData} {ps : List Str} {sp : Sp} (F : FnG P w K mg base j f fd ps sp) (h : j ≤ k) : FnG P w K mg base k f fd ps sp :=
  ⟨F.ln, fun A fs s H ar us vs Q E hg hr => F.go A fs s H ar us vs Q E hg (hr.mono h)⟩
theorem FnG.imp {k : Nat} {f : Addr} {fd : FuncData} {ps : List Str} {sp sp' : Sp} (F : FnG P w K mg base k f fd ps sp) (h : ∀ vs H Q E, sp' vs H Q E → sp vs H Q E) : FnG P w K mg base k f fd ps sp' :=
  ⟨fun vs H Q E z => F.ln vs H Q E (h _ _ _ _ z), fun A fs s H ar us vs Q E hg hr e b v z => F.go A fs s H ar us vs Q E hg hr e b v (h _ _ _ _ z)⟩
theorem FnG.of {k : Nat} {f : Addr} {fd : FuncData} {ps : List Str} {sp : Sp} (F : FnOk P w K mg base (L2.CX P w) k f fd ps sp) : FnG P w K mg base k f fd ps sp :=
  ⟨F.len, fun A fs s H ar us vs Q E _ hr => F.run A fs s H ar us vs Q E hr⟩

/-- the rule for a def: its body's term, read where no repr runs -/
theorem graw {x qual : Str} {st : Stmt} {f : Addr} {dV kV doc pm cdv ct oc : Value} {an od : Option Addr} {osl : Array (Option Value)} {N ps : List Str} {k : Nat} {sp : Sp}
    (lk : K.lookup f = some ⟨oc, od, .func (PySem.W.fnOf x qual (defArgs st) (defBody st) (defScope st) dV kV doc pm an cdv ct), osl⟩) (hcd : PySem.W.codeIn K cdv qual = true) (S : FnScope N ps (defScope st)) (ln : ∀ vs H Q E, sp vs H Q E → vs.length = ps.length)
    (hb : ∀ (A : Around) (fs : List Env) (s : Shared) (H : Hp) (vs : List V) (Q : VK) (E : XK), (A.deeper (envOfC qual (defScope st) s.heap.objs.size f cdv)).guards = some [] → Room k (A.deeper (envOfC qual (defScope st) s.heap.objs.size f cdv)) → sp vs H Q E →
      ∃ t, PSs (cxOf (L2.CX P w) P w K mg base N qual (defScope st) f cdv A fs s H E) (defBody st) t ∧ t { nx := fun _ H' => Q .non H', rt := Q } (start N vs) H) : FnG P w K mg base (k + 1) f (PySem.W.fnOf x qual (defArgs st) (defBody st) (defScope st) dV kV doc pm an cdv ct) ps sp := by
  refine ⟨ln, fun A fs s H ar us vs Q E hg hr e0 hbd rv hs => ?_⟩
  have hl := ln _ _ _ _ hs
  have inK : K.In s.heap := e0.mod.kin.keeps (fun b o z => (e0.bs b o z).1)
  have nl : s.heap.NoLimit := e0.mod.nolimit.keeps (fun b o z => (e0.bs b o z).1)
  have kinds : ∀ y ∈ ps.zip us, (defScope st).names.lookup y.1 = some .local ∨ ((defScope st).names.lookup y.1 = some .cell ∧ ((cellsFrom (s.heap.objs.size + 1) (defScope st).names []).lookup y.1).isSome = true) := by
    rintro ⟨n, v⟩ hy
    have hm := S.par n (List.of_mem_zip hy).1
    cases hm with
    | inl q => exact Or.inl q
    | inr q => exact Or.inr ⟨q, PySem.W.cellsFrom_some _ _ _ (Or.inl q)⟩
  apply codeAny_call_function hr.depth (inK _ _ lk) rfl S.co S.gen rfl (PySem.W.codeRec_of inK hcd)
  apply hbd
  apply wpAny_newFunctionEnv_cells S.kind kinds
  intro env he s1 x
  subst he
  refine ⟨nl.keeps x.toInCall.keep, codeAny_func ?_⟩
  obtain ⟨t, ht, hq⟩ := hb A fs s H vs Q E hg (hr.deeper _) hs
  have I := inv_start (CX := L2.CX P w) (P := P) (w := w) (K := K) (mg := mg) (base := base) (f := f) (cd := cdv) (qual := qual) (E := E) S hr.hd e0 hl rv x
  apply wpAny_mono (ht.run [] s1 (start N vs) H _ I hq)
  · intro fl s' z
    have done : ∀ {σ' : L2.St} {H' : Hp} {v : V} {u : Value}, Inv (cxOf (L2.CX P w) P w K mg base N qual (defScope st) f cdv A fs s H E) [] σ' H' s' → RelV v u → Q v H' → CE fs P w H s Q u s' := by
      intro σ' H' v u J r q
      exact ⟨v, H', J.os, J.bare, J.base, J.hok, r, q⟩
    cases fl with
    | next => exact let ⟨_, _, J, q⟩ := z; done (v := V.non) (u := Value.none) J rfl q
    | brk => exact let ⟨_, _, _, q⟩ := z; q.elim
    | cont => exact let ⟨_, _, _, q⟩ := z; q.elim
    | ret u => exact let ⟨_, _, _, J, r, q⟩ := z; done J r q
  · exact fun _ _ z => z
theorem gok {x qual : Str} {st : Stmt} {f : Addr} {fd : FuncData} {N ps : List Str} {k : Nat} {sp : Sp} (F : Fun K x qual st f fd) (S : FnScope N ps (defScope st)) (ln : ∀ vs H Q E, sp vs H Q E → vs.length = ps.length)
    (hb : ∀ (cdv : Value) (A : Around) (fs : List Env) (s : Shared) (H : Hp) (vs : List V) (Q : VK) (E : XK), (A.deeper (envOfC qual (defScope st) s.heap.objs.size f cdv)).guards = some [] → Room k (A.deeper (envOfC qual (defScope st) s.heap.objs.size f cdv)) → sp vs H Q E →
      ∃ t, PSs (cxOf (L2.CX P w) P w K mg base N qual (defScope st) f cdv A fs s H E) (defBody st) t ∧ t { nx := fun _ H' => Q .non H', rt := Q } (start N vs) H) : FnG P w K mg base (k + 1) f fd ps sp := by
  obtain ⟨oc, od, kV, doc, pm, an, cdv, ct, osl, rfl, lk, hcd⟩ := F.ex
  exact graw lk hcd S ln (hb cdv)
theorem gokD {x qual : Str} {st : Stmt} {f : Addr} {fd : FuncData} {N ps : List Str} {k : Nat} {sp : Sp} {dvs : List V} {kws : List (Str × V)} (F : FunD K x qual (defArgs st) (defBody st) (defScope st) dvs kws f fd) (S : FnScope N ps (defScope st)) (ln : ∀ vs H Q E, sp vs H Q E → vs.length = ps.length)
    (hb : ∀ (cdv : Value) (A : Around) (fs : List Env) (s : Shared) (H : Hp) (vs : List V) (Q : VK) (E : XK), (A.deeper (envOfC qual (defScope st) s.heap.objs.size f cdv)).guards = some [] → Room k (A.deeper (envOfC qual (defScope st) s.heap.objs.size f cdv)) → sp vs H Q E →
      ∃ t, PSs (cxOf (L2.CX P w) P w K mg base N qual (defScope st) f cdv A fs s H E) (defBody st) t ∧ t { nx := fun _ H' => Q .non H', rt := Q } (start N vs) H) : FnG P w K mg base (k + 1) f fd ps sp := by
  obtain ⟨oc, od, dV, kV, doc, pm, an, cdv, ct, osl, rfl, lk, hcd, _, _⟩ := F.ex
  exact graw lk hcd S ln (hb cdv)

/-- a def as callers see it: n values written, the defaults dvs fill up -/
structure Df (P : Program) (w : World) (K : PySem.W.Frag) (mg : Str → Option Value) (base : Heap) (k : Nat) (x : Str) (dvs : List V) (sp : Sp) : Prop where
  ex : ∃ (f : Addr) (fd : FuncData) (ps : List Str) (ds : List Value), FnG P w K mg base k f fd ps sp ∧ mg x = some (.ref f) ∧ PySem.W.keepIn K (.ref f) = true ∧ Binds K fd ps ds ∧ Vals dvs ds
theorem Df.up {j k : Nat} {x : Str} {dvs : List V} {sp : Sp} (D : Df P w K mg base j x dvs sp) (h : j ≤ k) : Df P w K mg base k x dvs sp :=
  let ⟨f, fd, ps, ds, F, r⟩ := D.ex; ⟨f, fd, ps, ds, F.up h, r⟩
theorem Df.imp {k : Nat} {x : Str} {dvs : List V} {sp sp' : Sp} (D : Df P w K mg base k x dvs sp) (h : ∀ vs H Q E, sp' vs H Q E → sp vs H Q E) : Df P w K mg base k x dvs sp' :=
  let ⟨f, fd, ps, ds, F, r⟩ := D.ex; ⟨f, fd, ps, ds, F.imp h, r⟩
end

/-! ### calls -/
section
variable {X : Cx} {k : Nat} {f C : Addr} {fd : FuncData} {ps : List Str} {sp : Sp} {dvs : List V} {ds : List Value} {E : XK} {x m : Str} {p pos apos : Pos} {e o : Expr} {es : List Expr} {ta : TE} {t : TA}
theorem grun {pins : List (Addr × Obj)} {σ : L2.St} {H : Hp} {s : Shared} {Q : VK} {us : List Value} {vs : List V} (F : FnG X.prog X.w X.K X.mg X.base k f fd ps sp) (hG : X.A.guards = some []) (hr : Room k X.A) (hb : Binds X.K fd ps ds) (hd : Vals dvs ds)
    (hx : Passes (L2.CX X.prog X.w) X E) (I : Inv X pins σ H s) (r : Vals vs us) (h : sp (vs ++ dvs) H Q E) : wpAny (model X.prog X.w) X.A (call (.ref f) us) (EP X pins σ Q) X.xe s := by
  have rv := r.append hd
  have z := F.go X.A X.stack s H ⟨us, []⟩ (us ++ ds) (vs ++ dvs) Q E hG hr I.env0 (hb s us I.kIn (rv.length.symm.trans (F.ln _ _ _ _ h))) rv h
  refine wpAny_call (codeAny_mono z ?_)
  intro r s' hq
  cases r with
  | error e => exact hx pins σ H s e s' I hq
  | ok fl => cases fl with
    | ret u => exact I.after hq
    | next => exact hq.elim
    | brk => exact hq.elim
    | cont => exact hq.elim
theorem gcall (F : FnG X.prog X.w X.K X.mg X.base k f fd ps sp) (hG : X.A.guards = some []) (hr : Room k X.A) (hg : Gl X x) (hm : X.mg x = some (.ref f)) (hk : PySem.W.keepIn X.K (.ref f) = true) (hb : Binds X.K fd ps ds) (hd : Vals dvs ds) (hx : Passes (L2.CX X.prog X.w) X E)
    (ha : PA X (e :: es) t) (hdb : (x == ("__debug__" : Str)) = false := by decide) (he : starEach (e :: es) X.env = (false, eval e X.env) :: starEach es X.env := by rfl) (hpl : (backTo pos (starEach es X.env)).any (·.1) = false := by rfl) :
    PE X (.Call (.Name x p) (e :: es) [] pos) (tCall sp dvs E t) := by
  constructor
  intro pins s σ H Q I h
  apply wpAny_Call_Name_kw
  refine ld_glob I hg hm ?_ hdb
  have z := ha.run pos pins s σ H _ I h
  exact PySem.W.callWith_K (h₀ := X.base) I.ok.mod.kin hk (thn z (fun us s1 y => let ⟨_, _, I1, r, q⟩ := y; ⟨I1.kIn, grun F hG hr hb hd hx I1 r q⟩)) he hpl
theorem gcall0 (F : FnG X.prog X.w X.K X.mg X.base k f fd ps sp) (hG : X.A.guards = some []) (hr : Room k X.A) (hg : Gl X x) (hm : X.mg x = some (.ref f)) (hk : PySem.W.keepIn X.K (.ref f) = true) (hb : Binds X.K fd ps ds) (hd : Vals dvs ds) (hx : Passes (L2.CX X.prog X.w) X E)
    (hdb : (x == ("__debug__" : Str)) = false := by decide) : PE X (.Call (.Name x p) [] [] pos) (tCall sp dvs E tNil) := by
  constructor
  intro pins s σ H Q I h
  apply wpAny_Call_Name_kw
  refine ld_glob I hg hm ?_ hdb
  exact PySem.W.callWith_K0 I.kIn hk (grun (us := []) F hG hr hb hd hx I .nil h)
/-- f(..), f a def of the text -/
theorem pe_df (D : Df X.prog X.w X.K X.mg X.base k x dvs sp) (hG : X.A.guards = some []) (hr : Room k X.A) (hx : Passes (L2.CX X.prog X.w) X E) (hg : Gl X x) (ha : PA X (e :: es) t)
    (hdb : (x == ("__debug__" : Str)) = false := by decide) (he : starEach (e :: es) X.env = (false, eval e X.env) :: starEach es X.env := by rfl) (hpl : (backTo pos (starEach es X.env)).any (·.1) = false := by rfl) :
    PE X (.Call (.Name x p) (e :: es) [] pos) (tCall sp dvs E t) :=
  let ⟨_, _, _, _, F, hm, hk, hb, hd⟩ := D.ex; gcall F hG hr hg hm hk hb hd hx ha hdb he hpl
theorem pe_df0 (D : Df X.prog X.w X.K X.mg X.base k x dvs sp) (hG : X.A.guards = some []) (hr : Room k X.A) (hx : Passes (L2.CX X.prog X.w) X E) (hg : Gl X x) (hdb : (x == ("__debug__" : Str)) = false := by decide) : PE X (.Call (.Name x p) [] [] pos) (tCall sp dvs E tNil) :=
  let ⟨_, _, _, _, F, hm, hk, hb, hd⟩ := D.ex; gcall0 F hG hr hg hm hk hb hd hx hdb
/-- a constant of the module -/
def Gc (mg : Str → Option Value) (x : Str) (v : V) : Prop := ∃ u, mg x = some u ∧ RelV v u
theorem pe_gc {v : V} (h : Gc X.mg x v) (hg : Gl X x) (hd : (x == ("__debug__" : Str)) = false := by decide) : PE X (.Name x pos) (tC v) :=
  ⟨fun pins s σ H Q I q => let ⟨_, hm, r⟩ := h; (pe_glob hg hm r hd).run pins s σ H Q I q⟩
end
end Lx

namespace Lx
open PySem PySem.Spec PyProof.Rows L2

/-- what the end wants of the heap told: at most the script -/
structure Told (K : PySem.W.Frag) (a : Addr) (H : Hp) : Prop where
  only : Only H
  one : ∀ b u, H b = some u → b = a ∧ K.lookup a = none
section
variable {P : Program} {w : World} {K : PySem.W.Frag} {mg mb : Str → Option Value} {k : Nat} {fa a : Addr} {fd : FuncData} {x : Str} {sp : Sp} {s : Shared} {vs : List Value} {ns : List Int}
theorem Told.low (T : Told K a H) {b : Addr} {o : Obj} (hb : s.heap.get? b = some o) (n : b ≠ a) : (hidT s.heap H).get? b = some o := by
  apply hidT_get hb
  cases q : H b with
  | none => rfl
  | some u => exact (n (T.one b u q).1).elim
theorem Told.lowK (T : Told K a H) (KX : K.In s.heap) : K.In (hidT s.heap H) := by
  intro b o e
  apply hidT_get (KX b o e)
  cases q : H b with
  | none => rfl
  | some u =>
    have z := T.one b u q
    rw [z.1, z.2] at e
    cases e
theorem Told.nsp (T : Told K a H) (hl : s.heap.get? a = some { cls := .type "list", data := .seq vs.toArray }) {b : Addr} {m : Str → Option Value} (h : s.heap.Ns b m) : (hidT s.heap H).Ns b m := by
  obtain ⟨o, es, ep, h1, h2, h3⟩ := h
  refine ⟨o, es, ep, T.low h1 ?_, h2, h3⟩
  rintro rfl
  rw [hl] at h1
  cases h1
  cases h2
theorem glaw1 {H : Hp} (T : Told K a H) (KX : K.In s.heap) (hm : s.heap.Ns mainGlobals mg) (hb : s.heap.Ns builtinsNs mb) (hbb : ∀ x : Str, x ≠ "__name__" → mb x = bootBuiltins x) (lim : s.heap.NoLimit) (hg : s.gens = #[])
    (hl : s.heap.get? a = some { cls := .type "list", data := .seq vs.toArray }) (hr : Room k callerA)
    (F : ∀ base : Heap, K.In base → base.Ns mainGlobals mg → FnG P w K mg base k fa fd [x] sp) (bind : ∀ (s : Shared) (u : Value), BindsTo s fd ⟨[u], []⟩ [(x, u)])
    (ok : HOk P w H s.heap) (hsp : sp [.ref a] H (fun v _ => v = .bl true) fun _ _ _ => False) :
    codeAny (model P w) callerA (.call (.ref fa) ⟨[.ref a], []⟩) (fun r s' => r = .ok (.ret (.bool true)) ∧ OldK s.heap s'.heap ∧ s'.os = s.os ∧ AllBare s'.gens) s := by
  have KB := T.lowK KX
  have md : Mod K mg (hidT s.heap H) := ⟨KB, T.nsp hl hm, ⟨mb, T.nsp hl hb, hbb⟩, by
    obtain ⟨m, h1, h2⟩ := lim
    exact ⟨m, T.nsp hl h1, h2⟩⟩
  have noFr : ∀ b ∈ frs ([] : List Env), H b = none := by
    intro b z
    cases z
  have e0 : Env0 P w K mg (hidT s.heap H) callerA [] s H := { frames := rfl, mod := md, bs := fun b o e => of_hidT e, bsz := Nat.le_of_eq (hidT_size _ _), funs := trivial, frf := noFr, hok := ok, bare := .of_eq hg }
  have run := (F _ KB md.glob).go callerA [] s H ⟨[.ref a], []⟩ [.ref a] [.ref a] (fun v _ => v = .bl true) (fun _ _ _ => False) rfl hr e0 (bind s (.ref a)) (.cons rfl .nil) hsp
  refine codeAny_mono run ?_
  intro r s' q
  match r, q with
  | .error e, q => exact (by obtain ⟨_, _, _, _, _, _, _, _, _, _, _, _, z⟩ := q; exact z.elim)
  | .ok .next, q => exact q.elim
  | .ok .brk, q => exact q.elim
  | .ok .cont, q => exact q.elim
  | .ok (.ret u), q =>
    obtain ⟨v, H', os, bare, un, ok', rv, e⟩ := q
    have e' : v = V.bl true := e
    subst e'
    have eu : u = Value.bool true := rv
    refine ⟨by rw [eu], OldK.of_keep ?_, os, bare⟩
    intro b o hb
    cases z : H b with
    | none => exact un.keep b o hb z (fun y => by cases y) (fun y => by cases y)
    | some u =>
      cases T.only b with
      | inl y => rw [z] at y; cases y
      | inr y =>
        obtain ⟨ob, xs, y⟩ := y
        have w1 := (ok b _ y).1
        have w2 := (ok' b _ (un.frzs b ob _ y)).1
        rw [hb] at w1
        rw [Option.some.inj w1]
        exact w2
theorem glaw (KX : K.In s.heap) (hm : s.heap.Ns mainGlobals mg) (hb : s.heap.Ns builtinsNs mb) (hbb : ∀ x : Str, x ≠ "__name__" → mb x = bootBuiltins x) (lim : s.heap.NoLimit) (hg : s.gens = #[])
    (hl : s.heap.get? a = some { cls := .type "list", data := .seq vs.toArray }) (hi : IntsAre vs ns) (hz : ns.length ≤ sizeLine) (hr : Room k callerA)
    (F : ∀ base : Heap, K.In base → base.Ns mainGlobals mg → FnG P w K mg base k fa fd [x] sp) (bind : ∀ (s : Shared) (u : Value), BindsTo s fd ⟨[u], []⟩ [(x, u)])
    (hsp : ∀ H : Hp, SqL K H a (ns.map V.int) → sp [.ref a] H (fun v _ => v = .bl true) fun _ _ _ => False) :
    codeAny (model P w) callerA (.call (.ref fa) ⟨[.ref a], []⟩) (fun r s' => r = .ok (.ret (.bool true)) ∧ OldK s.heap s'.heap ∧ s'.os = s.os ∧ AllBare s'.gens) s := by
  have rv := vals_ints hi
  have lv : vs.length = ns.length := hi.length
  by_cases hk : K.lookup a = none
  · have tell : ∀ b, (fun b => if b = a then some (HO.frz { cls := .type "list", data := .seq vs.toArray } (.lst (ns.map V.int))) else none : Hp) b = none ∨ b = a := by
      intro b
      by_cases e : b = a
      · exact .inr e
      · exact .inl (if_neg e)
    refine glaw1 (H := fun b => if b = a then some (.frz { cls := .type "list", data := .seq vs.toArray } (.lst (ns.map V.int))) else none) ⟨?_, ?_⟩ KX hm hb hbb lim hg hl hr F bind ?_ (hsp _ (.inl (.inr ⟨_, if_pos rfl⟩)))
    · intro b
      cases tell b with
      | inl e => exact .inl e
      | inr e => exact .inr ⟨_, _, if_pos e⟩
    · intro b u e
      cases tell b with
      | inl z => exact absurd (z.symm.trans e) (by simp)
      | inr z => exact ⟨z, hk⟩
    · intro b u e
      cases tell b with
      | inl z => exact absurd (z.symm.trans e) (by simp)
      | inr z =>
        subst z
        have eu := Option.some.inj ((if_pos rfl).symm.trans e)
        subst eu
        exact ⟨hl, (by rw [List.length_map]; exact hz), vs, 0, rv, hl⟩
  · obtain ⟨o, ho⟩ := Option.ne_none_iff_exists'.mp hk
    have e := KX a o ho
    rw [hl] at e
    have eo := Option.some.inj e
    subst eo
    have noH : ∀ (b : Addr) (u : HO), ((fun _ => none : Hp) b = some u) → False := by
      intro b u z
      cases z
    refine glaw1 (H := fun _ => none) ⟨fun b => .inl rfl, fun b u z => (noH b u z).elim⟩ KX hm hb hbb lim hg hl hr F bind (fun b u z => (noH b u z).elim) (hsp _ (.inr ?_))
    exact ⟨_, vs.toArray, _, ho, rfl, rfl, rfl, by rw [List.size_toArray, lv]; exact hz, by simpa using rv⟩
end
theorem gwalk {l : PySem.W.OpenLaw} {n k : Nat} {q : Program} {loose : List Str} {XP : (Str → Option Value) → Heap → Prop} {YP : World → Heap → Prop} {d : DefRec} {K : Params → PySem.W.Frag} {sp : World → Sp} {x : Str}
    (hn : l.most = some n) (hn2 : n ≤ sizeLine) (hdf : d.params.defaults = []) (hr : Room k callerA) (hY : ∀ (w : World) (h : Heap), YP w h → (K w.params).In h)
    (F : ∀ (w : World) (mg : Str → Option Value) (fa : Addr) (h : Heap), (K w.params).In h → h.Ns mainGlobals mg → mg d.name = some (.ref fa) →
      ∃ fd : FuncData, (∀ (s : Shared) (u : Value), BindsTo s fd ⟨[u], []⟩ [(x, u)]) ∧ ∀ base : Heap, (K w.params).In base → base.Ns mainGlobals mg → FnG l.prog w (K w.params) mg base k fa fd [x] (sp w))
    (hsp : ∀ (w : World) (H : Hp) (a : Addr) (ns : List Int), ns.length ≤ n → (∀ z ∈ ns, Builtin.Int.intBits z ≤ 1048576) → SqL (K w.params) H a (ns.map V.int) → sp w [.ref a] H (fun v _ => v = .bl true) fun _ _ _ => False) :
    PySem.W.WalkO q loose XP YP l.row.toRowW d [] (fun f vs => PySem.call f vs) := by
  apply Att.attach_callB hn hdf
  intro w s₀ s₁ mg mb fa o pm cd doc a vs ns G Y ho hd hcd hmg hobj hints hlen hbits hg
  obtain ⟨fd, b, hF⟩ := F w mg fa _ (hY w _ Y) G.T.g hmg
  exact glaw (hY w _ Y) G.T.g G.T.b G.T.builtins G.T.nolimit hg hobj hints (Nat.le_trans hlen hn2) hr hF b (fun H hS => hsp w H a ns hlen hbits hS)
end Lx

namespace Lx
open PySem PySem.Spec PyProof.Rows L2

/-! ### built-in names -/
theorem Blen : bootBuiltins "len" = some (.builtin "len") := by decide +kernel
theorem Bisinstance : bootBuiltins "isinstance" = some (.builtin "isinstance") := by decide +kernel
theorem Babs : bootBuiltins "abs" = some (.builtin "abs") := by decide +kernel
theorem Bmin : bootBuiltins "min" = some (.builtin "min") := by decide +kernel
theorem Bmax : bootBuiltins "max" = some (.builtin "max") := by decide +kernel
theorem Bsorted : bootBuiltins "sorted" = some (.builtin "sorted") := by decide +kernel
theorem Bsum : bootBuiltins "sum" = some (.builtin "sum") := by decide +kernel
theorem Ball : bootBuiltins "all" = some (.builtin "all") := by decide +kernel
theorem Bany : bootBuiltins "any" = some (.builtin "any") := by decide +kernel
theorem Brepr : bootBuiltins "repr" = some (.builtin "repr") := by decide +kernel
theorem Tint : bootBuiltins "int" = some (.type "int") := by decide +kernel
theorem Tbool : bootBuiltins "bool" = some (.type "bool") := by decide +kernel
theorem Tstr : bootBuiltins "str" = some (.type "str") := by decide +kernel
theorem Tlist : bootBuiltins "list" = some (.type "list") := by decide +kernel
theorem Ttuple : bootBuiltins "tuple" = some (.type "tuple") := by decide +kernel
theorem Tset : bootBuiltins "set" = some (.type "set") := by decide +kernel
theorem Tdict : bootBuiltins "dict" = some (.type "dict") := by decide +kernel
/-- the module gives none of these names a meaning of its own -/
structure Bn (mg : Str → Option Value) : Prop where
  len : mg "len" = none
  range : mg "range" = none
  isinstance : mg "isinstance" = none
  int : mg "int" = none
  bool : mg "bool" = none
  str : mg "str" = none
  list : mg "list" = none
  tuple : mg "tuple" = none
  set : mg "set" = none
  sorted : mg "sorted" = none
  min : mg "min" = none
  max : mg "max" = none
  sum : mg "sum" = none
  all : mg "all" = none
  any : mg "any" = none
  abs : mg "abs" = none
  repr : mg "repr" = none
  enumerate : mg "enumerate" = none
  zip : mg "zip" = none
  reversed : mg "reversed" = none

/-! ### repr of data -/
def rRepr (K : PySem.W.Frag) : List V → Hp → VK → Prop := fun xs H Q => ∃ x d, xs = [x] ∧ Dp K H x d ∧ d.showable = true ∧ d.hasDict = false ∧ d.depth ≤ 32 ∧ d.shown.length ≤ sizeLine ∧ Q (.str d.shown) H
theorem call_reprD {X : Cx} (hG : X.A.guards = some []) (hu : X.A.units + 64 < cLine) : CallR X (.builtin "repr") (rRepr X.K) := by
  intro pins s σ H xs us Q I r h
  obtain ⟨x, d, rfl, hd, hs, hn, hp, hz, q⟩ := h
  cases r with
  | cons r rr =>
    cases rr
    rename_i u
    obtain ⟨as, rd⟩ := Dp.reads I d x u hd r
    cases hd with
    | non => cases r; exact P.repr_of_none ⟨.str _, H, I.tok _, ⟨_, rfl⟩, q⟩
    | bl b => cases r; exact P.repr_of_bool ⟨.str _, H, I.tok _, ⟨_, rfl⟩, q⟩
    | int i =>
      obtain ⟨t, rfl⟩ := r
      exact P.repr_of_int (of_decide_eq_true hs) ⟨.str _, H, I.tok _, ⟨_, rfl⟩, q⟩
    | str y =>
      obtain ⟨t, rfl⟩ := r
      exact P.repr_of_str ⟨.str _, H, I.tok _, ⟨_, rfl⟩, q⟩ hz
    | lst h1 h2 =>
      cases r
      exact repr_of_reads' rd hs (fun e => by rw [hn] at e; cases e) hG (by omega) (fun _ _ e => e) (fun h' v tk k => ⟨.str _, H, I.kept (t' := tk) k, ⟨_, rfl⟩, q⟩) hz
    | tup h1 h2 =>
      cases r
      exact repr_of_reads' rd hs (fun e => by rw [hn] at e; cases e) hG (by omega) (fun _ _ e => e) (fun h' v tk k => ⟨.str _, H, I.kept (t' := tk) k, ⟨_, rfl⟩, q⟩) hz
/-! ### how long a shown datum is -/
theorem textFrom_le (m : Nat) : ∀ (ts : List Str) (k : Nat) (acc : Str), (∀ t ∈ ts, t.length ≤ m) → (textFrom k acc ts).length ≤ acc.length + ts.length * (m + 2)
  | [], k, acc, _ => Nat.le_add_right _ _
  | t :: r, k, acc, h => by
    have ih := textFrom_le m r (k + 1) (acc ++ (if k > 0 then ", " else "" : String) ++ t) fun u hu => h u (List.mem_cons_of_mem _ hu)
    have ht := h t List.mem_cons_self
    have e : (acc ++ (if k > 0 then ", " else "" : String) ++ t).length ≤ acc.length + 2 + t.length := by
      rw [strLen_append, strLen_append]
      split <;> exact Nat.add_le_add_right (Nat.add_le_add_left (by decide) _) _
    rw [List.length_cons, Nat.succ_mul]
    show (textFrom (k + 1) _ r).length ≤ _
    omega
theorem shownAll_mem : ∀ {ds : List PyData} {t : Str}, t ∈ PyData.shownAll ds → ∃ d ∈ ds, t = d.shown
  | [], t, h => by cases h
  | d :: ds, t, h => by
    rcases List.mem_cons.mp (show t ∈ d.shown :: PyData.shownAll ds from h) with e | h
    · exact ⟨d, List.mem_cons_self, e⟩
    · obtain ⟨x, hx, e⟩ := shownAll_mem h
      exact ⟨x, List.mem_cons_of_mem _ hx, e⟩
theorem shownAll_len : ∀ ds : List PyData, (PyData.shownAll ds).length = ds.length
  | [] => rfl
  | _ :: ds => congrArg Nat.succ (shownAll_len ds)
theorem piled_le (m : Nat) : ∀ ts : List Str, (∀ t ∈ ts, t.length ≤ m) → piled ts ≤ ts.length * (m + 2)
  | [], _ => by rw [piled_nil]; exact Nat.zero_le _
  | t :: r, h => by
    have ih := piled_le m r fun u hu => h u (List.mem_cons_of_mem _ hu)
    have ht := h t List.mem_cons_self
    rw [piled_cons, List.length_cons, Nat.succ_mul]
    omega
theorem list_shown {ds : List PyData} {m : Nat} (h : ∀ d ∈ ds, d.shown.length ≤ m) : (PyData.list ds).shown.length ≤ ds.length * (m + 2) + 2 := by
  have z := textFrom_le m (PyData.shownAll ds) 0 "[" fun t ht => by
    obtain ⟨d, hd, e⟩ := shownAll_mem ht
    rw [e]
    exact h d hd
  rw [shownAll_len] at z
  show (textFrom 0 "[" (PyData.shownAll ds) ++ "]" : Str).length ≤ _
  rw [strLen_append]
  have e1 : (("[" : String) : Str).length = 1 := rfl
  have e2 : (("]" : String) : Str).length = 1 := rfl
  omega
theorem tuple_shown {ds : List PyData} {m : Nat} (h : ∀ d ∈ ds, d.shown.length ≤ m) : (PyData.tuple ds).shown.length ≤ ds.length * (m + 2) + 3 := by
  have hm : ∀ t ∈ PyData.shownAll ds, t.length ≤ m := fun t ht => by
    obtain ⟨d, hd, e⟩ := shownAll_mem ht
    rw [e]
    exact h d hd
  have z := piled_le m (PyData.shownAll ds) hm
  rw [shownAll_len] at z
  show (("(" : Str) ++ Str.join ", " (PyData.shownAll ds) ++ (if (PyData.shownAll ds).length == 1 then ",)" else ")" : String)).length ≤ _
  rw [strLen_append, strLen_append]
  have e1 : (("(" : String) : Str).length = 1 := rfl
  have e3 : (((if (PyData.shownAll ds).length == 1 then ",)" else ")" : String) : Str)).length ≤ 2 := by split <;> decide
  by_cases e : PyData.shownAll ds = []
  · rw [e] at e3 ⊢
    have e4 : (Str.join ", " ([] : List Str)).length = 0 := rfl
    rw [e4]
    omega
  · have j := join_length_add _ e
    omega
theorem int_shown {i : Int} {k : Nat} (hk : 0 < k) (h0 : 0 ≤ i) (h : i < 10 ^ k) : (PyData.int i).shown.length ≤ k := toString_length_le h0 hk h

/-! ### heaps -/
theorem _root_.L2.Same.get {H H' : Hp} {a : Addr} {o : HO} (s : Same H H') (h : H a = some o) : H' a = some o := s a o h
theorem same_new {H : Hp} {p : Addr} {o : HO} (n : H p = none) : Same H (upd H p o) := by
  intro b u e
  rw [upd_ne (ne_of_none e n)]
  exact e
theorem same_set {H H' : Hp} {p : Addr} {o : HO} (s : Same H H') (n : H p = none) : Same H (upd H' p o) := by
  intro b u e
  rw [upd_ne (ne_of_none e n)]
  exact s b u e
theorem ne_new {H : Hp} {a b : Addr} {o : HO} (n : H b = none) (h : H a = some o) : a ≠ b := ne_of_none h n
/-- all but what stands at r is as it was -/
def Kp (r : Addr) (H H' : Hp) : Prop := ∀ b o, b ≠ r → H b = some o → H' b = some o
theorem Kp.refl (r : Addr) (H : Hp) : Kp r H H := fun _ _ _ h => h
theorem Kp.of {r : Addr} {H H' : Hp} (s : Same H H') : Kp r H H' := fun b o _ h => s b o h
theorem Kp.trans {r : Addr} {H H1 H2 : Hp} (a : Kp r H H1) (b : Kp r H1 H2) : Kp r H H2 := fun c o n h => b c o n (a c o n h)
theorem Kp.set {r : Addr} {H : Hp} {o : HO} : Kp r H (upd H r o) := fun b u n e => by rw [upd_ne n]; exact e
theorem Kp.put {r p : Addr} {H H' : Hp} {o : HO} (k : Kp r H H') (n : H p = none) : Kp r H (upd H' p o) := fun b u m e => by
  rw [upd_ne (ne_of_none e n)]
  exact k b u m e
theorem Kp.free {r p : Addr} {H H' : Hp} (k : Kp r H H') (n : H' p = none) (m : p ≠ r) : H p = none := by
  cases q : H p with
  | none => rfl
  | some o => rw [k p o m q] at n; cases n
theorem Kp.get {r a : Addr} {H H' : Hp} {o : HO} (k : Kp r H H') (n : a ≠ r) (h : H a = some o) : H' a = some o := k a o n h
theorem lst_of {K : PySem.W.Frag} {H : Hp} {a : Addr} {xs : List V} (h : H a = some (.lst xs)) : SqL K H a xs := .inl (.inl h)
theorem tup_of {K : PySem.W.Frag} {H : Hp} {a : Addr} {xs : List V} (h : H a = some (.tup xs)) : SqT K H a xs := .inl (.inl h)
theorem Kp.seq {K : PySem.W.Frag} {r : Addr} {H H' : Hp} {a : Addr} {xs : List V} (k : Kp r H H') (n : a ≠ r) (h : SqL K H a xs) : SqL K H' a xs := by
  rcases h with (h | ⟨o, h⟩) | h
  · exact .inl (.inl (k _ _ n h))
  · exact .inl (.inr ⟨o, k _ _ n h⟩)
  · exact .inr h
theorem Kp.seqT {K : PySem.W.Frag} {r : Addr} {H H' : Hp} {a : Addr} {xs : List V} (k : Kp r H H') (n : a ≠ r) (h : SqT K H a xs) : SqT K H' a xs := by
  rcases h with (h | ⟨o, h⟩) | h
  · exact .inl (.inl (k _ _ n h))
  · exact .inl (.inr ⟨o, k _ _ n h⟩)
  · exact .inr h
theorem _root_.L2.Same.seqT {K : PySem.W.Frag} {H H' : Hp} {a : Addr} {xs : List V} (k : Same H H') (h : SqT K H a xs) : SqT K H' a xs := by
  rcases h with (h | ⟨o, h⟩) | h
  · exact .inl (.inl (k _ _ h))
  · exact .inl (.inr ⟨o, k _ _ h⟩)
  · exact .inr h

/-! ### the layer's rules whose readings have no name, named -/
def rIsN' : R2 := fun x y H Q => y = .non ∧ Q (.bl (decide (x = .non))) H
def rNotN' : R2 := fun x y H Q => y = .non ∧ Q (.bl (!decide (x = .non))) H
def rLen (K : PySem.W.Frag) : List V → Hp → VK → Prop := fun xs H Q => ∃ p ys, xs = [.ref p] ∧ (SqL K H p ys ∨ SqT K H p ys) ∧ Q (.int ys.length) H
def rLenS : List V → Hp → VK → Prop := fun xs H Q => ∃ z, xs = [.str z] ∧ z.length ≤ sizeLine ∧ Q (.int z.length) H
def rAbs : List V → Hp → VK → Prop := fun xs H Q => ∃ i, xs = [.int i] ∧ Q (.int (if i < 0 then -i else i)) H
def rMax2 : List V → Hp → VK → Prop := fun xs H Q => ∃ i j, xs = [.int i, .int j] ∧ Q (.int (if j > i then j else i)) H
def rMin2 : List V → Hp → VK → Prop := fun xs H Q => ∃ i j, xs = [.int i, .int j] ∧ Q (.int (if j < i then j else i)) H
def rInt1 : List V → Hp → VK → Prop := fun xs H Q => (∃ i, xs = [.int i] ∧ Q (.int i) H) ∨ ∃ k, xs = [.bl k] ∧ Q (.int (if k then 1 else 0)) H
def rStrI : List V → Hp → VK → Prop := fun xs H Q => ∃ i, xs = [.int i] ∧ i.natAbs.log2 < 1920 ∧ Q (.str (toString i)) H
def rListOf (K : PySem.W.Frag) : List V → Hp → VK → Prop := fun xs H Q => ∃ p ys, xs = [.ref p] ∧ (SqL K H p ys ∨ SqT K H p ys) ∧ ∀ l, H l = none → Q (.ref l) (upd H l (.lst ys))
def rTupleOf (K : PySem.W.Frag) : List V → Hp → VK → Prop := fun xs H Q => ∃ p ys, xs = [.ref p] ∧ ((SqL K H p ys ∧ ∀ l, H l = none → Q (.ref l) (upd H l (.tup ys))) ∨ (SqT K H p ys ∧ Q (.ref p) H))
section
variable {X : Cx}
theorem op_isN' : OpR X (compareOp .Is) rIsN' := op_isN
theorem op_notN' : OpR X (compareOp .IsNot) rNotN' := op_notN
theorem call_len' : CallR X (.builtin "len") (rLen X.K) := call_len_seq
theorem call_lenS' : CallR X (.builtin "len") rLenS := call_len_str
theorem call_abs' : CallR X (.builtin "abs") rAbs := call_abs
theorem call_max2' (hc : X.calm = true) : CallR X (.builtin "max") rMax2 := call_max2 hc
theorem call_min2' (hc : X.calm = true) : CallR X (.builtin "min") rMin2 := call_min2 hc
theorem call_int1' : CallR X (.type "int") rInt1 := call_int1
theorem call_str' : CallR X (.type "str") rStrI := call_str_int
theorem call_list' : CallR X (.type "list") (rListOf X.K) := call_list_of
theorem call_tuple' : CallR X (.type "tuple") (rTupleOf X.K) := call_tuple_of
end
/-! ### readings, one rule a word -/
section
variable {σ : L2.St} {H : Hp} {Q : VK} {D : Ends} {ta tb tc te : TE} {t u : TT} {ts tu : TS} {tA tB' : TA} {i j : Nat} {x y v : V} {R : L2.St → Hp → Prop} {B : Bool → Hp → Prop} {L : List V → Hp → Prop}
theorem r_seq (h : ts { D with nx := tu D } σ H) : tSeq ts tu D σ H := h
theorem r_next (h : D.nx σ H) : tNext D σ H := h
theorem r_nx {n b c : L2.St → Hp → Prop} {r : VK} (h : n σ H) : Ends.nx ⟨n, r, b, c⟩ σ H := h
theorem r_rt {n b c : L2.St → Hp → Prop} {r : VK} (h : r v H) : Ends.rt ⟨n, r, b, c⟩ v H := h
theorem r_bk {n b c : L2.St → Hp → Prop} {r : VK} (h : b σ H) : Ends.bk ⟨n, r, b, c⟩ σ H := h
theorem r_ct {n b c : L2.St → Hp → Prop} {r : VK} (h : c σ H) : Ends.ct ⟨n, r, b, c⟩ σ H := h
theorem r_brk (h : D.bk σ H) : tBreak D σ H := h
theorem r_cont (h : D.ct σ H) : tCont D σ H := h
theorem r_ret (h : te σ H D.rt) : tRet te D σ H := h
theorem r_retN (h : D.rt .non H) : tRetN D σ H := h
theorem r_drop (h : te σ H fun _ H1 => D.nx σ H1) : tDrop te D σ H := h
theorem r_if (h : t σ H fun b H1 => if b = true then ts D σ H1 else tu D σ H1) : tIfS t ts tu D σ H := h
theorem r_asg {g : TG} (h : te σ H fun x H1 => g x σ H1 D.nx) : tAsg te g D σ H := h
theorem r_par (h : tA σ H fun vs H1 => ∃ v w, vs = [v, w] ∧ D.nx ((σ.set i (some v)).set j (some w)) H1) : tPar i j tA D σ H := h
theorem r_par3 {l : Nat} (h : tA σ H fun vs H1 => ∃ u v w, vs = [u, v, w] ∧ D.nx (((σ.set i (some u)).set j (some v)).set l (some w)) H1) : tPar3 i j l tA D σ H := h
theorem r_two {P : V → V → Prop} (h : P x y) : ∃ v w, [x, y] = [v, w] ∧ P v w := ⟨x, y, rfl, h⟩
theorem r_three {z : V} {P : V → V → V → Prop} (h : P x y z) : ∃ u v w, [x, y, z] = [u, v, w] ∧ P u v w := ⟨x, y, z, rfl, h⟩
theorem r_name (h : R (σ.set i (some v)) H) : gName i v σ H R := h
theorem r_sub {ti to : TE} {s : TSet} (h : to σ H fun o H1 => ti σ H1 fun i H2 => s o i v H2 fun H3 => R σ H3) : gSub to ti s v σ H R := h
theorem r_setL {p : Addr} {xs : List V} {k : Int} {n : Nat} {R : Hp → Prop} (h : H p = some (.lst xs)) (e : ixN xs.length k = some n) (q : R (upd H p (.lst (xs.set n v)))) : rSetL (.ref p) (.int k) v H R := ⟨p, xs, k, n, rfl, rfl, h, e, q⟩
theorem r_gtup {K : PySem.W.Frag} {n : Nat} {g : TGs} {a : Addr} {xs : List V} (h : SqT K H a xs) (e : xs.length = n) (q : g xs σ H R) : gTup K n g (.ref a) σ H R := ⟨a, xs, rfl, h, e, q⟩
theorem r_gunl {K : PySem.W.Frag} {n : Nat} {g : TGs} {a : Addr} {xs : List V} (h : SqL K H a xs) (e : xs.length = n) (q : g xs σ H R) : gUnl K n g (.ref a) σ H R := ⟨a, xs, rfl, h, e, q⟩
theorem r_gcons {g : TG} {gs : TGs} {xs : List V} (h : g x σ H fun σ' H' => gs xs σ' H' R) : gCons g gs (x :: xs) σ H R := ⟨x, xs, rfl, h⟩
theorem r_gnil (h : R σ H) : gNil [] σ H R := ⟨rfl, h⟩
theorem r_var (h : σ[i]? = some (some v)) (q : Q v H) : tVar i σ H Q := ⟨v, h, q⟩
theorem r_c (q : Q v H) : tC v σ H Q := q
theorem r_op {r : R2} (h : ta σ H fun x H1 => tb σ H1 fun y H2 => r x y H2 Q) : tOp r ta tb σ H Q := h
theorem r_un {r : V → Hp → VK → Prop} (h : ta σ H fun x H1 => r x H1 Q) : tUn r ta σ H Q := h
theorem r_test (h : te σ H fun x H' => ∃ k, x = .bl k ∧ B k H') : tTest te σ H B := h
theorem r_B (h : te σ H fun x H' => ∃ k, x = .bl k ∧ B k H') : tB te σ H B := h
theorem r_bl {k : Bool} {P : Bool → Prop} (h : P k) : ∃ k', V.bl k = .bl k' ∧ P k' := ⟨k, rfl, h⟩
theorem r_and (h : t σ H fun c H1 => if c = true then u σ H1 B else B false H1) : tAnd t u σ H B := h
theorem r_or (h : t σ H fun c H1 => if c = true then B true H1 else u σ H1 B) : tOr t u σ H B := h
theorem r_not (h : t σ H fun c H1 => B (!c) H1) : tNot t σ H B := h
theorem r_andV (h : ta σ H fun x H1 => ∃ c, x = .bl c ∧ if c = true then tb σ H1 Q else Q (.bl false) H1) : tAndV ta tb σ H Q := h
theorem r_orV (h : ta σ H fun x H1 => ∃ c, x = .bl c ∧ if c = true then Q (.bl true) H1 else tb σ H1 Q) : tOrV ta tb σ H Q := h
theorem r_notV (h : ta σ H fun x H1 => ∃ c, x = .bl c ∧ Q (.bl (!c)) H1) : tNotV ta σ H Q := h
theorem r_ifE (h : t σ H fun c H1 => if c = true then ta σ H1 Q else tb σ H1 Q) : tIf t ta tb σ H Q := h
theorem r_chain {r r' : R2} (h : ta σ H fun x H1 => tb σ H1 fun y H2 => r x y H2 fun z H3 => ∃ k, z = .bl k ∧ (if k = true then tc σ H3 fun w' H4 => r' y w' H4 Q else Q (.bl false) H3)) : tChain r r' ta tb tc σ H Q := h
theorem r_nil (h : L [] H) : tNil σ H L := h
theorem r_cons (h : ta σ H fun x H1 => tA σ H1 fun xs H2 => L (x :: xs) H2) : tCons ta tA σ H L := h
theorem r_CB {r : List V → Hp → VK → Prop} (h : tA σ H fun vs H1 => r vs H1 Q) : tCB r tA σ H Q := h
theorem r_call {sp : Sp} {dvs : List V} {E : XK} (h : tA σ H fun vs H1 => sp (vs ++ dvs) H1 Q E) : tCall sp dvs E tA σ H Q := h
theorem r_tup (h : tA σ H fun xs H1 => xs.length ≤ sizeLine ∧ ∀ p, H1 p = none → Q (.ref p) (upd H1 p (.tup xs))) : tTup tA σ H Q := h
theorem r_lst (h : tA σ H fun xs H1 => xs.length ≤ sizeLine ∧ ∀ p, H1 p = none → Q (.ref p) (upd H1 p (.lst xs))) : tLst tA σ H Q := h
theorem r_new {n : Nat} {P : Prop} (hn : n ≤ 1000) (h : P) : n ≤ sizeLine ∧ P := ⟨Nat.le_trans hn (by decide), h⟩
theorem r_BM {K : PySem.W.Frag} {T : String} {r : V → List V → Hp → VK → Prop} (h : te σ H fun x H1 => tyV K T x H1 ∧ tA σ H1 fun xs H2 => r x xs H2 Q) : tBM K T r te tA σ H Q := h
theorem r_BM0 {K : PySem.W.Frag} {T : String} {r : V → List V → Hp → VK → Prop} (h : te σ H fun x H1 => tyV K T x H1 ∧ r x [] H1 Q) : tBM0 K T r te σ H Q := h
theorem r_ty {K : PySem.W.Frag} {p : Addr} {xs : List V} {P : Prop} (h : H p = some (.lst xs)) (q : P) : tyV K "list" (.ref p) H ∧ P := ⟨.inl ⟨rfl, xs, .inl (.inl h)⟩, q⟩
theorem r_tyS {K : PySem.W.Frag} {z : Str} {P : Prop} (q : P) : tyV K "str" (.str z) H ∧ P := ⟨rfl, q⟩
theorem r_I0 {g : Int → Int → V} {a b : Int} (q : Q (g a b) H) : rI0 g (.int a) (.int b) H Q := ⟨a, b, rfl, rfl, q⟩
theorem r_I {C : Int → Int → Prop} {g : Int → Int → V} {a b : Int} (c : C a b) (q : Q (g a b) H) : rI C g (.int a) (.int b) H Q := ⟨a, b, rfl, rfl, c, q⟩
theorem r_U {g : Int → V} {a : Int} (q : Q (g a) H) : rU g (.int a) H Q := ⟨a, rfl, q⟩
theorem r_eqI {a b : Int} (q : Q (.bl (decide (a = b))) H) : rEq (.int a) (.int b) H Q := by
  refine ⟨rfl, ?_⟩
  rw [show decide (V.int a = V.int b) = decide (a = b) by simp]
  exact q
theorem r_neI {a b : Int} (q : Q (.bl (!decide (a = b))) H) : rNe (.int a) (.int b) H Q := by
  refine ⟨rfl, ?_⟩
  rw [show decide (V.int a = V.int b) = decide (a = b) by simp]
  exact q
theorem r_eqS {a b : Str} (q : Q (.bl (decide (a = b))) H) : rEq (.str a) (.str b) H Q := by
  refine ⟨rfl, ?_⟩
  rw [show decide (V.str a = V.str b) = decide (a = b) by simp]
  exact q
theorem r_neS {a b : Str} (q : Q (.bl (!decide (a = b))) H) : rNe (.str a) (.str b) H Q := by
  refine ⟨rfl, ?_⟩
  rw [show decide (V.str a = V.str b) = decide (a = b) by simp]
  exact q
theorem r_eqB {a b : Bool} (q : Q (.bl (decide (a = b))) H) : rEq (.bl a) (.bl b) H Q := by
  refine ⟨rfl, ?_⟩
  rw [show decide (V.bl a = V.bl b) = decide (a = b) by simp]
  exact q
theorem r_neB {a b : Bool} (q : Q (.bl (!decide (a = b))) H) : rNe (.bl a) (.bl b) H Q := by
  refine ⟨rfl, ?_⟩
  rw [show decide (V.bl a = V.bl b) = decide (a = b) by simp]
  exact q
theorem r_ixL {K : PySem.W.Frag} {p : Addr} {xs : List V} {a : Int} (h : SqL K H p xs) (e : atI xs a = some v) (q : Q v H) : rIxL K (.ref p) (.int a) H Q := ⟨p, xs, a, v, rfl, rfl, h, e, q⟩
theorem r_ixT {K : PySem.W.Frag} {p : Addr} {xs : List V} {a : Int} (h : SqT K H p xs) (e : atI xs a = some v) (q : Q v H) : rIxT K (.ref p) (.int a) H Q := ⟨p, xs, a, v, rfl, rfl, h, e, q⟩
theorem r_app {p : Addr} {xs : List V} (h : H p = some (.lst xs)) (z : xs.length < sizeLine) (q : Q .non (upd H p (.lst (xs ++ [v])))) : rAppend (.ref p) [v] H Q := ⟨p, xs, v, rfl, rfl, h, z, q⟩
theorem r_sl {r : V → Option Int → Option Int → Hp → VK → Prop} {tl th : TO} (h : te σ H fun x H1 => tl σ H1 fun l H2 => th σ H2 fun u H3 => r x l u H3 Q) : tSl r te tl th σ H Q := h
theorem r_nop {O : Option Int → Hp → Prop} (h : O none H) : tNoPart σ H O := h
theorem r_part {O : Option Int → Hp → Prop} (h : te σ H fun x H1 => ∃ i, x = .int i ∧ O (some i) H1) : tPart te σ H O := h
theorem r_int {a : Int} {P : Int → Prop} (h : P a) : ∃ i, V.int a = .int i ∧ P i := ⟨a, rfl, h⟩
theorem r_slL {K : PySem.W.Frag} {p : Addr} {xs : List V} {lo hi : Option Int} (h : SqL K H p xs) (q : ∀ n, H n = none → Q (.ref n) (upd H n (.lst (cutV xs lo hi)))) : rSlL K (.ref p) lo hi H Q := ⟨p, xs, rfl, h, q⟩
theorem r_cat {a b : Addr} {xs zs : List V} (h : H a = some (.lst xs)) (h' : H b = some (.lst zs)) (z : xs.length + zs.length ≤ sizeLine) (q : ∀ p, H p = none → Q (.ref p) (upd H p (.lst (xs ++ zs)))) : rCat (.ref a) (.ref b) H Q := ⟨a, b, xs, zs, rfl, rfl, h, h', z, q⟩
theorem r_revL {K : PySem.W.Frag} (h : te σ H fun x H1 => ∃ a xs, x = .ref a ∧ SqL K H1 a xs ∧ ∀ p, H1 p = none → Q (.ref p) (upd H1 p (.lst xs.reverse))) : tRevL K te σ H Q := h
theorem r_lstRg {tr : L2.St → Hp → (Int → Int → Hp → Prop) → Prop} (h : tr σ H fun a b H1 => RgOk a b ∧ ∀ q, H1 q = none → Q (.ref q) (upd H1 q (.lst (rgV a b)))) : tLstRg tr σ H Q := h
theorem r_rg1 {P : Int → Int → Hp → Prop} (h : te σ H fun x H1 => ∃ n, x = .int n ∧ P 0 n H1) : tRg1 te σ H P := h
theorem r_aug {ti : TIp} (h : σ[i]? = some (some x)) (q : te σ H fun y H1 => ti x y H1 fun z H2 => D.nx (σ.set i (some z)) H2) : tAug i te ti D σ H := ⟨x, h, q⟩
theorem r_ip {f : Int → Int → Int} {a b : Int} (q : Q (.int (f a b)) H) : ipI f (.int a) (.int b) H Q := ⟨a, b, rfl, rfl, q⟩
theorem r_isN0 (q : Q (.bl true) H) : rIsN' .non .non H Q := ⟨rfl, q⟩
theorem r_isNi {a : Int} (q : Q (.bl false) H) : rIsN' (.int a) .non H Q := ⟨rfl, q⟩
theorem r_isNr {a : Addr} (q : Q (.bl false) H) : rIsN' (.ref a) .non H Q := ⟨rfl, q⟩
theorem r_isNb {a : Bool} (q : Q (.bl false) H) : rIsN' (.bl a) .non H Q := ⟨rfl, q⟩
theorem r_isNs {a : Str} (q : Q (.bl false) H) : rIsN' (.str a) .non H Q := ⟨rfl, q⟩
theorem r_isN {a : V} (q : Q (.bl (decide (a = .non))) H) : rIsN' a .non H Q := ⟨rfl, q⟩
theorem r_notN0 (q : Q (.bl false) H) : rNotN' .non .non H Q := ⟨rfl, q⟩
theorem r_notNi {a : Int} (q : Q (.bl true) H) : rNotN' (.int a) .non H Q := ⟨rfl, q⟩
theorem r_notNr {a : Addr} (q : Q (.bl true) H) : rNotN' (.ref a) .non H Q := ⟨rfl, q⟩
theorem r_notN {a : V} (q : Q (.bl (!decide (a = .non))) H) : rNotN' a .non H Q := ⟨rfl, q⟩
theorem r_len {K : PySem.W.Frag} {p : Addr} {xs : List V} (h : SqL K H p xs ∨ SqT K H p xs) (q : Q (.int xs.length) H) : rLen K [.ref p] H Q := ⟨p, xs, rfl, h, q⟩
theorem r_lenS {z : Str} (h : z.length ≤ sizeLine) (q : Q (.int z.length) H) : rLenS [.str z] H Q := ⟨z, rfl, h, q⟩
theorem r_abs {a : Int} (q : Q (.int (if a < 0 then -a else a)) H) : rAbs [.int a] H Q := ⟨a, rfl, q⟩
theorem r_max2 {a b : Int} (q : Q (.int (if b > a then b else a)) H) : rMax2 [.int a, .int b] H Q := ⟨a, b, rfl, q⟩
theorem r_min2 {a b : Int} (q : Q (.int (if b < a then b else a)) H) : rMin2 [.int a, .int b] H Q := ⟨a, b, rfl, q⟩
theorem r_inti {a : Int} (q : Q (.int a) H) : rInt1 [.int a] H Q := .inl ⟨a, rfl, q⟩
theorem r_intb {b : Bool} (q : Q (.int (if b then 1 else 0)) H) : rInt1 [.bl b] H Q := .inr ⟨b, rfl, q⟩
theorem r_listOf {K : PySem.W.Frag} {p : Addr} {xs : List V} (h : SqL K H p xs ∨ SqT K H p xs) (q : ∀ l, H l = none → Q (.ref l) (upd H l (.lst xs))) : rListOf K [.ref p] H Q := ⟨p, xs, rfl, h, q⟩
theorem r_tupleL {K : PySem.W.Frag} {p : Addr} {xs : List V} (h : SqL K H p xs) (q : ∀ l, H l = none → Q (.ref l) (upd H l (.tup xs))) : rTupleOf K [.ref p] H Q := ⟨p, xs, rfl, .inl ⟨h, q⟩⟩
theorem r_tupleT {K : PySem.W.Frag} {p : Addr} {xs : List V} (h : SqT K H p xs) (q : Q (.ref p) H) : rTupleOf K [.ref p] H Q := ⟨p, xs, rfl, .inr ⟨h, q⟩⟩
/-- an if whose test is a decided proposition -/
theorem ifD {c A B : Prop} [Decidable c] (h1 : c → A) (h2 : ¬ c → B) : if decide c = true then A else B := by
  by_cases h : c
  · rw [decide_eq_true h]; exact iteT (h1 h)
  · rw [decide_eq_false h]; exact iteF (h2 h)
theorem ifN {c A B : Prop} [Decidable c] (h1 : ¬ c → A) (h2 : c → B) : if (!decide c) = true then A else B := by
  by_cases h : c
  · rw [decide_eq_true h]; exact iteF (h2 h)
  · rw [decide_eq_false h]; exact iteT (h1 h)
theorem ifB {b : Bool} {A B : Prop} (h1 : b = true → A) (h2 : b = false → B) : if b = true then A else B := by
  cases b with
  | true => exact iteT (h1 rfl)
  | false => exact iteF (h2 rfl)
theorem ifNB {b : Bool} {A B : Prop} (h1 : b = false → A) (h2 : b = true → B) : if (!b) = true then A else B := by
  cases b with
  | true => exact iteF (h2 rfl)
  | false => exact iteT (h1 rfl)
theorem ifDT {c A B : Prop} [Decidable c] (hc : c) (h : A) : if decide c = true then A else B := ifD (fun _ => h) fun n => (n hc).elim
theorem ifDF {c A B : Prop} [Decidable c] (hc : ¬ c) (h : B) : if decide c = true then A else B := ifD (fun n => (hc n).elim) fun _ => h
theorem ifNT {c A B : Prop} [Decidable c] (hc : ¬ c) (h : A) : if (!decide c) = true then A else B := ifN (fun _ => h) fun n => (hc n).elim
theorem ifNF {c A B : Prop} [Decidable c] (hc : c) (h : B) : if (!decide c) = true then A else B := ifN (fun n => (n hc).elim) fun _ => h
end
theorem sz {n : Nat} (h : n ≤ 100000) : n ≤ sizeLine := Nat.le_trans h (by decide)
theorem szl {n : Nat} (h : n ≤ 100000) : n < sizeLine := Nat.lt_of_le_of_lt h (by decide)
end Lx

namespace Lx
open PySem PySem.Spec PyProof.Rows L2
section
variable {prog : Program} {w : World} {A : Around} {E : Value → Shared → Prop} {s : Shared}
/-- the items of a tuple, gathered into a new list -/
theorem gather_tup {t : Addr} {o : Obj} {vs : List Value} {n : Nat} {Q : List Value → Shared → Prop} (ho : s.heap.get? t = some o) (hc : o.cls = .type "tuple") (hd : o.data = .seq vs.toArray n) (hz : vs.length ≤ sizeLine)
    (h : Q vs { s with heap := (s.heap.push (seqObj "list" #[] 0)).update s.heap.objs.size (Obj.mapSeq (· ++ vs.toArray)) }) : wpAny (model prog w) A (collect (.ref t)) Q E s := by
  have old : (s.heap.push (seqObj "list" #[] 0)).get? t = some o := Heap.get?_push_of_some _ ho
  have new : (s.heap.push (seqObj "list" #[] 0)).get? s.heap.objs.size = some (seqObj "list" #[] 0) := Heap.get?_push_size _ rfl
  have et : (Value.type "tuple" == Value.type "tuple") = true := by rfl
  unfold collect
  apply wpAny_bind
  apply wpAny_runValue
  apply codeAny_builtin entry_proto_collect'
  show wpAny _ _ (do again (.builtin "list.__iadd__" ⟨[← newList [], .ref t], []⟩)) _ _ s
  apply wpAny_bind
  refine wpAny_newList ?_
  refine wpAny_pure ⟨Code.quiet_builtin _ (by decide +kernel), codeAny_builtin entry_list_iadd' ?_⟩
  show wpAny _ _ (Builtin.List.listExtendWith (.ref s.heap.objs.size) (.ref t) (.ref s.heap.objs.size)) _ _ { s with heap := s.heap.push (seqObj "list" #[] 0) }
  unfold Builtin.List.listExtendWith
  refine wpAny_bind (wpAny_typeOf (T := "tuple") ⟨o, old, hc⟩ ?_)
  rw [if_pos (by rw [et]; simp)]
  apply wpAny_bind
  refine listItems_at old hd ?_
  apply wpAny_bind
  refine listItems_at (xs := #[]) (n := 0) new rfl ?_
  rw [if_neg (by simp)]
  apply wpAny_bind
  refine listUpdate_at (xs := #[]) (n := 0) new rfl ?_ (Nat.zero_le _) (by simp only [Array.size_append, List.size_toArray, List.length_nil]; show 0 + vs.length ≤ sizeLine + 1; omega)
  apply wpAny_pure
  show wpAny (model prog w) A (do
    let o' ← load s.heap.objs.size
    match o'.data with
    | .seq xs _ => pure xs.toList
    | _ => unsupported "internal:collect") Q E _
  refine wpAny_bind (wpAny_load (get?_update_seq new _) ?_)
  have e : ((#[] : Array Value) ++ vs.toArray).toList = vs := by simp
  show wpAny _ _ (pure ((#[] : Array Value) ++ vs.toArray).toList) Q E _
  rw [e]
  exact wpAny_pure h
/-- sorted of a tuple of ints -/
theorem sorted_tupI {t : Addr} {o : Obj} {vs : List Value} {ns : List Int} {n : Nat} {Q : Value → Shared → Prop} (ho : s.heap.get? t = some o) (hc : o.cls = .type "tuple") (hd : o.data = .seq vs.toArray n) (hz : vs.length ≤ sizeLine) (hi : IntsAre vs ns)
    (h : ∀ out : List Value, SrtO.Srtd SrtO.ltIv out → SrtO.Stb SrtO.ltIv out vs → Q (.ref (s.heap.objs.size + 1)) { s with heap := sortedAll s.heap vs out.toArray }) : wpAny (model prog w) A (call (.builtin "sorted") [.ref t]) Q E s := by
  have size1 : ((s.heap.push (seqObj "list" #[] 0)).update s.heap.objs.size (Obj.mapSeq (· ++ vs.toArray))).objs.size = s.heap.objs.size + 1 := by rw [Heap.size_update, size_push']
  have made : (((s.heap.push (seqObj "list" #[] 0)).update s.heap.objs.size (Obj.mapSeq (· ++ vs.toArray))).push (seqObj "list" vs.toArray 0)).get? (s.heap.objs.size + 1) = some (seqObj "list" vs.toArray 0) := by
    rw [← size1]
    exact Heap.get?_push_size _ rfl
  apply Calls.call_function_entry kind_sorted plain_sorted entry_sorted (args_sorted1 _)
  unfold Builtin.«sorted»
  refine wpAny_bind (m := checkCount "sorted" 1 1 _) (wpAny_pure ?_)
  apply wpAny_bind
  apply gather_tup ho hc hd hz
  apply wpAny_bind
  refine wpAny_newList ?_ hz
  show wpAny _ _ _ _ _ { s with heap := ((s.heap.push (seqObj "list" #[] 0)).update s.heap.objs.size (Obj.mapSeq (· ++ vs.toArray))).push (seqObj "list" vs.toArray 0) }
  rw [size1]
  apply wpAny_bind
  apply wpAny_holding
  refine wpAny_call_entry slot_list_sort ⟨_, made, rfl⟩ entry_list_sort (SrtO.list_sort_ord SrtO.swo_int made hz (fun h2 => SrtO.ints_sortable hi h2) ?_) (args_list_sort _)
  intro out h1 h2
  exact ⟨_, rfl, wpAny_pure ⟨_, rfl, h out h1 h2⟩⟩
end
/-- sorted(t), t a tuple of ints of any length -/
def rSortedU (K : PySem.W.Frag) : List V → Hp → VK → Prop := fun vs H Q => ∃ (a : Addr) (ns : List Int), vs = [V.ref a] ∧ SqT K H a (ns.map V.int) ∧ ∀ (ns' : List Int) (p : Addr), ns'.Perm ns → ns'.Pairwise (· ≤ ·) → H p = none → Q (.ref p) (upd H p (.lst (ns'.map V.int)))
theorem cr_sortedU {X : Cx} : CallR X (.builtin "sorted") (rSortedU X.K) := by
  intro pins s σ H vs us Q I r h
  obtain ⟨a, ns, rfl, hs, q⟩ := h
  obtain ⟨its, rv, ⟨o, ho, hc, n, hd⟩, hz⟩ := I.tuple hs
  have hi := rv.ints
  rw [Vals.ref1 r]
  refine sorted_tupI ho hc hd (by rw [← rv.length]; exact hz) hi ?_
  intro out h1 h2
  have k := SrtO.ints_out hi h1 h2
  obtain ⟨ep, he⟩ := sortedAll_at s.heap its out.toArray
  refine ⟨.ref _, upd H (s.heap.objs.size + 1) (.lst ((out.map SrtO.iv).map V.int)), ?_, rfl, q _ _ k.2.1 k.2.2 (I.hok.fresh (Nat.le_succ _))⟩
  refine I.laid (t' := s.toks) (fun _ _ => sortedAll_old) (Nat.le_succ _) ⟨?_, out, ep, vals_of_ints k.1, he⟩
  rw [List.length_map, k.2.1.length_eq]
  rw [List.length_map] at hz
  exact hz

/-! ### one of two -/
def iOr (w1 w2 : TI) : TI := fun σ H R => w1 σ H R ∨ w2 σ H R
theorem pi_or {X : Cx} {tg l : Expr} {w1 w2 : TI} (h1 : PI X tg l w1) (h2 : PI X tg l w2) : PI X tg l (iOr w1 w2) :=
  ⟨fun pins s σ H R I h => h.elim (h1.run pins s σ H R I) (h2.run pins s σ H R I)⟩
def cOr (r1 r2 : List V → Hp → VK → Prop) : List V → Hp → VK → Prop := fun xs H Q => r1 xs H Q ∨ r2 xs H Q
theorem call_or {X : Cx} {f : Value} {r1 r2 : List V → Hp → VK → Prop} (h1 : CallR X f r1) (h2 : CallR X f r2) : CallR X f (cOr r1 r2) :=
  fun pins s σ H vs us Q I r h => h.elim (h1 pins s σ H vs us Q I r) (h2 pins s σ H vs us Q I r)
def oOr (r1 r2 : R2) : R2 := fun x y H Q => r1 x y H Q ∨ r2 x y H Q
theorem op_or {X : Cx} {f : Value → Value → Sem Value} {r1 r2 : R2} (h1 : OpR X f r1) (h2 : OpR X f r2) : OpR X f (oOr r1 r2) :=
  fun pins s σ H x y v u Q I rx ry h => h.elim (h1 pins s σ H x y v u Q I rx ry) (h2 pins s σ H x y v u Q I rx ry)
theorem ix_or {X : Cx} {r1 r2 : R2} (h1 : IxR X r1) (h2 : IxR X r2) : IxR X (oOr r1 r2) := IxR.or h1 h2
end Lx

namespace Lx
open PySem PySem.Spec PyProof.Rows L2
/-- a list or a tuple that stands at a -/
def Sq (H : Hp) (a : Addr) (xs : List V) : Prop := H a = some (.lst xs) ∨ H a = some (.tup xs)
theorem _root_.L2.Same.sq {H H' : Hp} {a : Addr} {xs : List V} (s : Same H H') (h : Sq H a xs) : Sq H' a xs := h.elim (fun h => .inl (s _ _ h)) fun h => .inr (s _ _ h)
theorem Kp.sq {r : Addr} {H H' : Hp} {a : Addr} {xs : List V} (k : Kp r H H') (n : a ≠ r) (h : Sq H a xs) : Sq H' a xs := h.elim (fun h => .inl (k _ _ n h)) fun h => .inr (k _ _ n h)
theorem Sq.or {K : PySem.W.Frag} {H : Hp} {a : Addr} {xs : List V} (h : Sq H a xs) : SqL K H a xs ∨ SqT K H a xs := h.elim (fun h => .inl (lst_of h)) fun h => .inr (tup_of h)
/-! ### data of ints -/
def dI (ns : List Int) : List PyData := ns.map PyData.int
def vI (ns : List Int) : List V := ns.map V.int
theorem vI_len (ns : List Int) : (vI ns).length = ns.length := List.length_map ..
theorem dpAll_ints {K : PySem.W.Frag} {H : Hp} : ∀ ns : List Int, DpAll K H (vI ns) (dI ns)
  | [] => .nil
  | n :: ns => .cons (.int n) (dpAll_ints ns)
theorem dp_listI {K : PySem.W.Frag} {H : Hp} {a : Addr} {ns : List Int} (h : SqL K H a (vI ns)) : Dp K H (.ref a) (.list (dI ns)) := .lst h (dpAll_ints ns)
theorem dp_tupI {K : PySem.W.Frag} {H : Hp} {a : Addr} {ns : List Int} (h : SqT K H a (vI ns)) : Dp K H (.ref a) (.tuple (dI ns)) := .tup h (dpAll_ints ns)
theorem eqv_int (a b : Int) : PyData.eqv (.int a) (.int b) = decide (a = b) := by
  unfold PyData.eqv
  by_cases h : a = b
  · subst h; simp
  · simp [h]
theorem eqvAll_ints : ∀ xs ys : List Int, PyData.eqvAll (dI xs) (dI ys) = decide (xs = ys)
  | [], [] => by simp [dI, PyData.eqvAll]
  | [], _ :: _ => by simp [dI, PyData.eqvAll]
  | _ :: _, [] => by simp [dI, PyData.eqvAll]
  | x :: xs, y :: ys => by
    have ih := eqvAll_ints xs ys
    show (PyData.eqv (.int x) (.int y) && PyData.eqvAll (dI xs) (dI ys)) = _
    rw [ih, eqv_int]
    by_cases h : x = y <;> by_cases h2 : xs = ys <;> simp [h, h2]
theorem eqv_listI (xs ys : List Int) : PyData.eqv (.list (dI xs)) (.list (dI ys)) = decide (xs = ys) := by
  unfold PyData.eqv
  exact eqvAll_ints xs ys
theorem depthAll_ints : ∀ ns : List Int, PyData.depthAll (dI ns) = 0
  | [] => rfl
  | n :: ns => by show max 0 (PyData.depthAll (dI ns)) = 0; rw [depthAll_ints ns]; rfl
theorem canLay_ints : ∀ ns : List Int, PyData.canLayAll0 (dI ns) = true
  | [] => rfl
  | n :: ns => by
    have ih := canLay_ints ns
    simp only [dI, List.map_cons, PyData.canLayAll0, PyData.canLay0, Bool.true_and] at ih ⊢
    exact ih
theorem shaped_listI (ns : List Int) : SeqAt.shaped (.list (dI ns)) = true := by
  unfold SeqAt.shaped
  have h1 : PyData.canLay0 (.list (dI ns)) = true := by unfold PyData.canLay0; exact canLay_ints ns
  have h2 : PyData.depth (.list (dI ns)) ≤ 64 := by show PyData.depthAll (dI ns) + 1 ≤ 64; rw [depthAll_ints]; decide
  rw [h1, decide_eq_true h2]
  rfl
theorem dI_mem {ns : List Int} {d : PyData} (h : d ∈ dI ns) : ∃ n ∈ ns, d = .int n := by
  obtain ⟨n, hn, e⟩ := List.mem_map.mp h
  exact ⟨n, hn, e.symm⟩
theorem showableAll_of {ds : List PyData} (h : ∀ d ∈ ds, d.showable = true) : PyData.showableAll ds = true := by
  induction ds with
  | nil => rfl
  | cons d ds ih =>
    show (d.showable && PyData.showableAll ds) = true
    rw [h d List.mem_cons_self, ih fun x hx => h x (List.mem_cons_of_mem _ hx)]
    rfl
theorem hasDictAll_of {ds : List PyData} (h : ∀ d ∈ ds, d.hasDict = false) : PyData.hasDictAll ds = false := by
  induction ds with
  | nil => rfl
  | cons d ds ih =>
    show (d.hasDict || PyData.hasDictAll ds) = false
    rw [h d List.mem_cons_self, ih fun x hx => h x (List.mem_cons_of_mem _ hx)]
    rfl
theorem depthAll_le {ds : List PyData} {m : Nat} (h : ∀ d ∈ ds, d.depth ≤ m) : PyData.depthAll ds ≤ m := by
  induction ds with
  | nil => exact Nat.zero_le _
  | cons d ds ih =>
    show max d.depth (PyData.depthAll ds) ≤ m
    exact Nat.max_le.mpr ⟨h d List.mem_cons_self, ih fun x hx => h x (List.mem_cons_of_mem _ hx)⟩
/-- what repr asks of a datum: to show it takes at most m signs, depth at most k -/
structure Shows (d : PyData) (k m : Nat) : Prop where
  s : d.showable = true
  n : d.hasDict = false
  k : d.depth ≤ k
  z : d.shown.length ≤ m
theorem shows_int {i : Int} {k : Nat} (hk : 0 < k) (hk2 : k ≤ 250) (h0 : 0 ≤ i) (h : i < 10 ^ k) : Shows (.int i) 0 k := by
  refine ⟨?_, rfl, Nat.le_refl _, int_shown hk h0 h⟩
  show decide (i.natAbs.log2 < 1920) = true
  have h1 : i.natAbs < 10 ^ k := by
    have e : ((i.natAbs : Nat) : Int) < ((10 ^ k : Nat) : Int) := by
      rw [Int.natAbs_of_nonneg h0, Int.natCast_pow]
      exact h
    exact Int.ofNat_lt.mp e
  have h2 : (10 : Nat) ^ k ≤ 10 ^ 250 := Nat.pow_le_pow_right (by decide) hk2
  have h3 : i.natAbs < 2 ^ 1920 := Nat.lt_of_lt_of_le (Nat.lt_of_lt_of_le h1 h2) (by decide)
  exact decide_eq_true (PySem.Flt.log2_lt_of (by decide) h3)
theorem shows_none : Shows .none 0 4 := ⟨rfl, rfl, Nat.le_refl _, by decide⟩
theorem shows_list {ds : List PyData} {k m n : Nat} (h : ∀ d ∈ ds, Shows d k m) (hl : ds.length ≤ n) : Shows (.list ds) (k + 1) (n * (m + 2) + 2) := by
  refine ⟨showableAll_of fun d hd => (h d hd).s, hasDictAll_of fun d hd => (h d hd).n, Nat.succ_le_succ (depthAll_le fun d hd => (h d hd).k), ?_⟩
  exact Nat.le_trans (list_shown fun d hd => (h d hd).z) (Nat.add_le_add_right (Nat.mul_le_mul_right _ hl) _)
theorem shows_tup {ds : List PyData} {k m n : Nat} (h : ∀ d ∈ ds, Shows d k m) (hl : ds.length ≤ n) : Shows (.tuple ds) (k + 1) (n * (m + 2) + 3) := by
  refine ⟨showableAll_of fun d hd => (h d hd).s, hasDictAll_of fun d hd => (h d hd).n, Nat.succ_le_succ (depthAll_le fun d hd => (h d hd).k), ?_⟩
  exact Nat.le_trans (tuple_shown fun d hd => (h d hd).z) (Nat.add_le_add_right (Nat.mul_le_mul_right _ hl) _)
theorem r_repr {K : PySem.W.Frag} {H : Hp} {Q : VK} {x : V} {d : PyData} {k m : Nat} (h : Dp K H x d) (s : Shows d k m) (hk : k ≤ 32) (hm : m ≤ 1000000) (q : Q (.str d.shown) H) : rRepr K [x] H Q :=
  ⟨x, d, rfl, h, s.s, s.n, Nat.le_trans s.k hk, Nat.le_trans s.z (Nat.le_trans hm (by decide)), q⟩
theorem r_sortSq {K : PySem.W.Frag} {H : Hp} {Q : VK} {a : Addr} {ns : List Int} (h : Sq H a (vI ns)) (q : ∀ (ns' : List Int) (p : Addr), ns'.Perm ns → ns'.Pairwise (· ≤ ·) → H p = none → Q (.ref p) (upd H p (.lst (vI ns')))) :
    cOr (rSortedI K) (rSortedU K) [.ref a] H Q := h.elim (fun h => .inl ⟨a, ns, rfl, lst_of h, q⟩) fun h => .inr ⟨a, ns, rfl, tup_of h, q⟩
theorem r_neLI {K : PySem.W.Frag} {H : Hp} {Q : VK} {a b : Addr} {xs ys : List Int} (h : SqL K H a (vI xs)) (h' : SqL K H b (vI ys)) (q : Q (.bl (!decide (xs = ys))) H) : rNeD K (.ref a) (.ref b) H Q := by
  refine ⟨_, _, dp_listI h, dp_listI h', shaped_listI xs, shaped_listI ys, ?_⟩
  rw [eqv_listI]
  exact q
theorem r_eqLI {K : PySem.W.Frag} {H : Hp} {Q : VK} {a b : Addr} {xs ys : List Int} (h : SqL K H a (vI xs)) (h' : SqL K H b (vI ys)) (q : Q (.bl (decide (xs = ys))) H) : rEqD K (.ref a) (.ref b) H Q := by
  refine ⟨_, _, dp_listI h, dp_listI h', shaped_listI xs, shaped_listI ys, ?_⟩
  rw [eqv_listI]
  exact q
theorem r_rep {H : Hp} {Q : VK} {l : Addr} {xs : List V} {n : Nat} (h : H l = some (.lst xs)) (h1 : xs.length * n ≤ 100000) (h2 : n ≤ 100000) (q : ∀ p, H p = none → Q (.ref p) (upd H p (.lst (List.replicate n xs).flatten))) : rRep (.ref l) (.int ((n : Nat) : Int)) H Q := by
  refine ⟨l, _, xs, rfl, rfl, h, by omega, by omega, ?_, ?_⟩
  · rw [Int.toNat_natCast]; exact sz h1
  · rw [Int.toNat_natCast]; exact q
/-! ### in a list of ints -/
theorem inV_ints (p : Int) (ns : List Int) : inV (.int p) (vI ns) = decide (p ∈ ns) := by
  unfold inV vI
  rw [List.any_map]
  induction ns with
  | nil => simp
  | cons n ns ih =>
    rw [List.any_cons, ih]
    have e : ((fun y => eqV y (V.int p)) ∘ V.int) n = decide (n = p) := by
      show eqV (.int n) (.int p) = _
      by_cases h : n = p <;> simp [eqV, h]
    rw [e]
    by_cases h : n = p
    · subst h; simp
    · have h' : ¬ p = n := fun z => h z.symm
      simp [h, h']
theorem flat_ints (ns : List Int) : (vI ns).all flatV = true := by
  unfold vI
  rw [List.all_map]
  exact List.all_eq_true.mpr fun x _ => rfl
theorem ixN_ok {n : Nat} {i : Int} (h0 : 0 ≤ i) (h1 : i < n) : ixN n i = some i.toNat := by
  unfold ixN
  rw [if_pos h0, if_pos h1]
theorem atI_ok {α : Type} {xs : List α} {i : Int} {v : α} (h0 : 0 ≤ i) (h : xs[i.toNat]? = some v) : atI xs i = some v := by
  have e : i = ((i.toNat : Nat) : Int) := (Int.toNat_of_nonneg h0).symm
  rw [e]
  exact atI_nat h
theorem vI_at {ns : List Int} {j : Nat} (h : j < ns.length) : (vI ns)[j]? = some (.int ns[j]) := by
  unfold vI
  rw [List.getElem?_map, List.getElem?_eq_getElem h]
  rfl
theorem atI_ints {ns : List Int} {i : Int} (h0 : 0 ≤ i) (h1 : i < ns.length) : atI (vI ns) i = some (.int (ns.getD i.toNat 0)) := by
  have hj : i.toNat < ns.length := by omega
  refine atI_ok h0 ?_
  rw [vI_at hj, List.getD_eq_getElem?_getD, List.getElem?_eq_getElem hj]
  rfl
end Lx

namespace Lx
open PySem PySem.Spec PyProof.Rows L2
/-! ### isinstance -/
section
variable {K : PySem.W.Frag} {H : Hp} {Q : VK} {a tp : Addr} {xs : List V} {i : Int} {z : Str} {b : Bool}
theorem isi_of {x : V} {t T : String} {b : Bool} (ty : TyX K H x (.type t)) (e : kitB t T = some b) (q : Q (.bl b) H) : rIsi K [x, .ty T] H Q := ⟨x, .ty T, .type t, .type T, b, rfl, .ty T, ty, kit_ty e, q⟩
theorem k_ii : kitB "int" "int" = some true := by decide +kernel
theorem k_ib : kitB "int" "bool" = some false := by decide +kernel
theorem k_is : kitB "int" "str" = some false := by decide +kernel
theorem k_il : kitB "int" "list" = some false := by decide +kernel
theorem k_it : kitB "int" "tuple" = some false := by decide +kernel
theorem k_bi : kitB "bool" "int" = some true := by decide +kernel
theorem k_bb : kitB "bool" "bool" = some true := by decide +kernel
theorem k_bs : kitB "bool" "str" = some false := by decide +kernel
theorem k_bl : kitB "bool" "list" = some false := by decide +kernel
theorem k_bt : kitB "bool" "tuple" = some false := by decide +kernel
theorem k_si : kitB "str" "int" = some false := by decide +kernel
theorem k_sb : kitB "str" "bool" = some false := by decide +kernel
theorem k_ss : kitB "str" "str" = some true := by decide +kernel
theorem k_sl : kitB "str" "list" = some false := by decide +kernel
theorem k_st : kitB "str" "tuple" = some false := by decide +kernel
theorem k_ni : kitB "NoneType" "int" = some false := by decide +kernel
theorem k_nb : kitB "NoneType" "bool" = some false := by decide +kernel
theorem k_ns : kitB "NoneType" "str" = some false := by decide +kernel
theorem k_nl : kitB "NoneType" "list" = some false := by decide +kernel
theorem k_nt : kitB "NoneType" "tuple" = some false := by decide +kernel
theorem k_li : kitB "list" "int" = some false := by decide +kernel
theorem k_lb : kitB "list" "bool" = some false := by decide +kernel
theorem k_ls : kitB "list" "str" = some false := by decide +kernel
theorem k_ll : kitB "list" "list" = some true := by decide +kernel
theorem k_lt : kitB "list" "tuple" = some false := by decide +kernel
theorem k_ti : kitB "tuple" "int" = some false := by decide +kernel
theorem k_tb : kitB "tuple" "bool" = some false := by decide +kernel
theorem k_ts : kitB "tuple" "str" = some false := by decide +kernel
theorem k_tl : kitB "tuple" "list" = some false := by decide +kernel
theorem k_tt : kitB "tuple" "tuple" = some true := by decide +kernel
theorem ty_int : TyX K H (.int i) (.type "int") := .base (.int i)
theorem ty_bl : TyX K H (.bl b) (.type "bool") := .base (.bl b)
theorem ty_str : TyX K H (.str z) (.type "str") := .base (.str z)
theorem ty_non : TyX K H .non (.type "NoneType") := .base .non
theorem ty_lst (h : H a = some (.lst xs)) : TyX K H (.ref a) (.type "list") := .base (.lst h)
theorem ty_tup (h : H a = some (.tup xs)) : TyX K H (.ref a) (.type "tuple") := .base (.tup h)
/-- isinstance(x, (list, tuple)), the pair just laid -/
theorem isiLT {x : V} {t : String} {b1 b2 : Bool} (hT : H tp = some (.tup [.ty "list", .ty "tuple"])) (ty : TyX K H x (.type t)) (e1 : kitB t "list" = some b1) (e2 : kitB t "tuple" = some b2) (q : Q (.bl (b1 || b2)) H) : rIsiT K [x, .ref tp] H Q := by
  refine ⟨x, tp, _, .type t, [.type "list", .type "tuple"], b1 || b2, rfl, hT, .cons (.ty _) (.cons (.ty _) .nil), ty, kitAny_cons (kit_ty e1) (fun h1 => ?_) (fun h1 => by rw [h1]; rfl), q⟩
  refine kitAny_cons (kit_ty e2) (fun h2 => ?_) (fun h2 => by rw [h1, h2]; rfl)
  rw [h1, h2]
  exact kitAny_nil
theorem isiLT_l {x : V} {t : String} (hT : H tp = some (.tup [.ty "list", .ty "tuple"])) (ty : TyX K H x (.type t)) (e1 : kitB t "list" = some true) (e2 : kitB t "tuple" = some false) (q : Q (.bl true) H) : rIsiT K [x, .ref tp] H Q := isiLT hT ty e1 e2 q
theorem isiLT_t {x : V} {t : String} (hT : H tp = some (.tup [.ty "list", .ty "tuple"])) (ty : TyX K H x (.type t)) (e1 : kitB t "list" = some false) (e2 : kitB t "tuple" = some true) (q : Q (.bl true) H) : rIsiT K [x, .ref tp] H Q := isiLT hT ty e1 e2 q
theorem isiLT_o {x : V} {t : String} (hT : H tp = some (.tup [.ty "list", .ty "tuple"])) (ty : TyX K H x (.type t)) (e1 : kitB t "list" = some false) (e2 : kitB t "tuple" = some false) (q : Q (.bl false) H) : rIsiT K [x, .ref tp] H Q := isiLT hT ty e1 e2 q
end
theorem ifnT {A B : Prop} (h : B) : if (!true) = true then A else B := iteF h
theorem ifnF {A B : Prop} (h : A) : if (!false) = true then A else B := iteT h
end Lx

namespace Lx
open PySem PySem.Spec PyProof.Rows L2
/-- what an iterator gives: n turns while OK holds; item says what a turn yields -/
structure Src (J : It) (n : Nat) (OK : Hp → Prop) (item : Nat → V → Hp → Hp → Prop) : Prop where
  go : ∀ i H, OK H → i < n → J.go i H
  stop : ∀ H, OK H → J.stop n H
  yld : ∀ i H v H', OK H → i < n → J.yld i H v H' → item i v H H'
section
variable {K : PySem.W.Frag} {a b : Addr} {xs ys : List V}
theorem src_list : Src (Itl K a) xs.length (fun H => SqL K H a xs) (fun i v H H' => H' = H ∧ xs[i]? = some v) where
  go := fun i H h hi => ⟨xs, xs[i], h, by simp [hi]⟩
  stop := fun H h => ⟨xs, h, Nat.le_refl _⟩
  yld := fun i H v H' h _ y => ⟨y.1, y.2 xs h⟩
theorem src_tup : Src (Itt K a) xs.length (fun H => SqT K H a xs) (fun i v H H' => H' = H ∧ xs[i]? = some v) where
  go := fun i H h hi => ⟨xs, xs[i], h, by simp [hi]⟩
  stop := fun H h => ⟨xs, h, Nat.le_refl _⟩
  yld := fun i H v H' h _ y => ⟨y.1, y.2 xs h⟩
theorem src_range {lo : Int} {n : Nat} : Src (Itr lo n) n (fun _ => True) (fun i v H H' => H' = H ∧ v = .int (lo + i)) where
  go := fun i H _ hi => hi
  stop := fun H _ => Nat.le_refl n
  yld := fun i H v H' _ _ y => y
theorem src_step {lo c : Int} {n : Nat} : Src (Itc lo c n) n (fun _ => True) (fun i v H H' => H' = H ∧ v = .int (lo + (i : Nat) * c)) where
  go := fun i H _ hi => hi
  stop := fun H _ => Nat.le_refl n
  yld := fun i H v H' _ _ y => y
theorem src_enum : Src (Ite K a) xs.length (fun H => SqL K H a xs) (fun i v H H' => ∃ T x, v = .ref T ∧ H T = none ∧ H' = upd H T (.tup [.int (i : Nat), x]) ∧ xs[i]? = some x) where
  go := fun i H h hi => ⟨xs, xs[i], h, by simp [hi]⟩
  stop := fun H h => ⟨xs, h, Nat.le_refl _⟩
  yld := fun i H v H' h _ y => by
    obtain ⟨T, x, e, n, u, f⟩ := y
    exact ⟨T, x, e, n, u, f xs h⟩
theorem src_zip (hl : xs.length = ys.length) : Src (Itz K a b) xs.length (fun H => SqL K H a xs ∧ SqL K H b ys) (fun i v H H' => ∃ T x y, v = .ref T ∧ H T = none ∧ H' = upd H T (.tup [x, y]) ∧ xs[i]? = some x ∧ ys[i]? = some y) where
  go := fun i H h hi => ⟨xs, ys, xs[i], ys[i]'(by omega), h.1, h.2, by simp [hi], List.getElem?_eq_getElem (by omega)⟩
  stop := fun H h => ⟨xs, ys, h.1, h.2, .inl (Nat.le_refl _)⟩
  yld := fun i H v H' h _ y => by
    obtain ⟨T, x, z, e, n, u, f, g⟩ := y
    exact ⟨T, x, z, e, n, u, f xs h.1, g ys h.2⟩
theorem src_rev : Src (Itv K a xs.length) xs.length (fun H => SqL K H a xs) (fun i v H H' => H' = H ∧ xs[xs.length - 1 - i]? = some v) where
  go := fun i H h hi => ⟨hi, xs, xs[xs.length - 1 - i]'(by omega), h, List.getElem?_eq_getElem (by omega)⟩
  stop := fun H h => Nat.le_refl xs.length
  yld := fun i H v H' h _ y => ⟨y.1, y.2 xs h⟩
theorem src_str {x : Str} : Src (Its x) x.cps.size (fun _ => True) (fun i v H H' => H' = H ∧ ∃ c, x.cps[i]? = some c ∧ v = .str ⟨#[c]⟩) where
  go := fun i H _ hi => hi
  stop := fun H _ => Nat.le_refl x.cps.size
  yld := fun i H v H' _ _ y => y
end
section
variable {J : It} {n : Nat} {OK : Hp → Prop} {item : Nat → V → Hp → Hp → Prop} {g : TG} {tb : TS} {D : Ends} {σ : L2.St} {H : Hp}
/-- for, by a word over the turn, the slots, the heap -/
theorem for_src (S : Src J n OK item) (Pv : Nat → L2.St → Hp → Prop) (ok : ∀ i σ H, Pv i σ H → OK H) (h0 : Pv 0 σ H)
    (hs : ∀ i v σ H H', i < n → Pv i σ H → item i v H H' → g v σ H' fun σ2 H2 => tb { D with nx := Pv (i + 1), ct := Pv (i + 1), bk := D.nx } σ2 H2) (hd : ∀ σ H, Pv n σ H → D.nx σ H) :
    ∃ W : Nat → Nat → L2.St → Hp → Prop, (∃ m, W 0 m σ H) ∧ ∀ i m σ H, W i m σ H →
      (J.stop i H ∧ D.nx σ H) ∨ (J.go i H ∧ ∃ N : L2.St → Hp → Prop, (∀ σ' H', N σ' H' → ∃ m', m' < m ∧ W (i + 1) m' σ' H') ∧ ∀ x H', J.yld i H x H' → g x σ H' fun σ2 H2 => tb { D with nx := N, ct := N, bk := D.nx } σ2 H2) := by
  refine ⟨fun i m σ H => i + m = n ∧ Pv i σ H, ⟨n, Nat.zero_add n, h0⟩, ?_⟩
  rintro i m σ H ⟨e, p⟩
  have o := ok i σ H p
  by_cases hi : i < n
  · refine .inr ⟨S.go i H o hi, Pv (i + 1), ?_, ?_⟩
    · intro σ' H' p'
      exact ⟨m - 1, by omega, by omega, p'⟩
    · intro x H' y
      exact hs i x σ H H' hi p (S.yld i H x H' o hi y)
  · have ei : i = n := by omega
    subst ei
    exact .inl ⟨S.stop H o, hd σ H p⟩
variable {tt : TT} {te : TE} {vs : List Nat} {H1 : Hp} {Dl : Addr} {Qd : Hp → Prop}
/-- a comprehension, by a word over the turn and the heap -/
theorem lc_src (S : Src J n OK item) (Pv : Nat → Hp → Prop) (ok : ∀ i H, Pv i H → OK H) (h0 : Pv 0 (upd H1 Dl (.lst [])))
    (hs : ∀ i v H H', i < n → Pv i H → item i v H H' → g v (wipe σ vs) H' fun σ2 H2 => wipe σ2 vs = wipe σ vs ∧ tt σ2 H2 fun b H3 =>
      if b = true then te σ2 H3 fun y H4 => ∃ acc, H4 Dl = some (.lst acc) ∧ acc.length < sizeLine ∧ Pv (i + 1) (upd H4 Dl (.lst (acc ++ [y]))) else Pv (i + 1) H3) (hd : ∀ H, Pv n H → Qd H) :
    ∃ W : Nat → Nat → Hp → Prop, (∃ m, W 0 m (upd H1 Dl (.lst []))) ∧ ∀ i m H, W i m H →
      (J.stop i H ∧ Qd H) ∨ (J.go i H ∧ ∃ Nx : Hp → Prop, (∀ H', Nx H' → ∃ m', m' < m ∧ W (i + 1) m' H') ∧ ∀ x H', J.yld i H x H' → g x (wipe σ vs) H' fun σ2 H2 => wipe σ2 vs = wipe σ vs ∧ tt σ2 H2 fun b H3 =>
        if b = true then te σ2 H3 fun y H4 => ∃ acc, H4 Dl = some (.lst acc) ∧ acc.length < sizeLine ∧ Nx (upd H4 Dl (.lst (acc ++ [y]))) else Nx H3) := by
  refine ⟨fun i m H => i + m = n ∧ Pv i H, ⟨n, Nat.zero_add n, h0⟩, ?_⟩
  rintro i m H ⟨e, p⟩
  have o := ok i H p
  by_cases hi : i < n
  · refine .inr ⟨S.go i H o hi, Pv (i + 1), ?_, ?_⟩
    · intro H' p'
      exact ⟨m - 1, by omega, by omega, p'⟩
    · intro x H' y
      exact hs i x H H' hi p (S.yld i H x H' o hi y)
  · have ei : i = n := by omega
    subst ei
    exact .inl ⟨S.stop H o, hd H p⟩
/-- what the turns give: those of f, each v -/
def giv (n : Nat) (f : Nat → Bool) (v : Nat → V) : List V := ((List.range n).filter f).map v
theorem giv_yes {n : Nat} {f : Nat → Bool} {v : Nat → V} (h : f n = true) : giv (n + 1) f v = giv n f v ++ [v n] := by
  unfold giv
  rw [List.range_succ, List.filter_append, List.map_append]
  simp [h]
theorem giv_no {n : Nat} {f : Nat → Bool} {v : Nat → V} (h : f n = false) : giv (n + 1) f v = giv n f v := by
  unfold giv
  rw [List.range_succ, List.filter_append, List.map_append]
  simp [h]
theorem giv_len (n : Nat) (f : Nat → Bool) (v : Nat → V) : (giv n f v).length ≤ n := by
  unfold giv
  rw [List.length_map]
  exact Nat.le_trans (List.length_filter_le f (List.range n)) (by simp)
theorem giv_all (n : Nat) (v : Nat → V) : giv n (fun _ => true) v = (List.range n).map v := by
  unfold giv
  rw [List.filter_eq_self.mpr fun _ _ => rfl]
theorem giv_const (n : Nat) (x : V) : giv n (fun _ => true) (fun _ => x) = List.replicate n x := by
  rw [giv_all, List.map_const', List.length_range]
/-- a comprehension whose turns leave what stood as it was -/
theorem lc_pure (S : Src J n OK item) (p : Nat → Bool) (v : Nat → V) (hn : n ≤ 100000) (hok : ∀ H', Same H1 H' → OK H')
    (hs : ∀ i x H' H'' (Yes : V → Hp → Prop) (No : Hp → Prop), i < n → Same H1 H' → item i x H' H'' → (p i = true → ∀ H4, Same H' H4 → Yes (v i) H4) → (p i = false → ∀ H3, Same H' H3 → No H3) →
      g x (wipe σ vs) H'' fun σ2 H2 => wipe σ2 vs = wipe σ vs ∧ tt σ2 H2 fun b H3 => if b = true then te σ2 H3 Yes else No H3)
    (hD : H1 Dl = none) (q : ∀ H', Same H1 H' → H' Dl = some (.lst (giv n p v)) → Qd H') :
    ∃ W : Nat → Nat → Hp → Prop, (∃ m, W 0 m (upd H1 Dl (.lst []))) ∧ ∀ i m H, W i m H →
      (J.stop i H ∧ Qd H) ∨ (J.go i H ∧ ∃ Nx : Hp → Prop, (∀ H', Nx H' → ∃ m', m' < m ∧ W (i + 1) m' H') ∧ ∀ x H', J.yld i H x H' → g x (wipe σ vs) H' fun σ2 H2 => wipe σ2 vs = wipe σ vs ∧ tt σ2 H2 fun b H3 =>
        if b = true then te σ2 H3 fun y H4 => ∃ acc, H4 Dl = some (.lst acc) ∧ acc.length < sizeLine ∧ Nx (upd H4 Dl (.lst (acc ++ [y]))) else Nx H3) := by
  refine lc_src S (fun i H' => Same H1 H' ∧ H' Dl = some (.lst (giv i p v))) (fun i H' h => hok H' h.1) ⟨same_new hD, upd_same⟩ ?_ (fun H' h => q H' h.1 h.2)
  rintro i x H' H'' hi ⟨s, hl⟩ hit
  refine hs i x H' H'' _ _ hi s hit ?_ ?_
  · intro hp H4 s4
    refine ⟨giv i p v, s4 _ _ hl, ?_, same_set (s.trans s4) hD, ?_⟩
    · exact Nat.lt_of_le_of_lt (Nat.le_trans (giv_len i p v) (Nat.le_of_lt (Nat.lt_of_lt_of_le hi hn))) (by decide)
    · rw [giv_yes hp]; exact upd_same
  · intro hp H3 s3
    refine ⟨s.trans s3, ?_⟩
    rw [giv_no hp]
    exact s3 _ _ hl
end
/-! ### the shapes of loops' readings -/
section
variable {σ : L2.St} {H : Hp} {D : Ends} {K : PySem.W.Frag} {R : It → Hp → Prop} {tl : TE} {ta : TA}
theorem r_for {wi : TI} {g : TG} {tb : TS} (h : wi σ H fun J H1 => ∃ W : Nat → Nat → L2.St → Hp → Prop, (∃ m, W 0 m σ H1) ∧ ∀ i m σ H, W i m σ H →
  (J.stop i H ∧ D.nx σ H) ∨ (J.go i H ∧ ∃ N : L2.St → Hp → Prop, (∀ σ' H', N σ' H' → ∃ m', m' < m ∧ W (i + 1) m' σ' H') ∧ ∀ x H', J.yld i H x H' → g x σ H' fun σ2 H2 => tb { D with nx := N, ct := N, bk := D.nx } σ2 H2)) : tFor wi g tb D σ H := h
theorem r_lc {wi : TI} {g : TG} {tt : TT} {te : TE} {vs : List Nat} {Q : VK} (h : wi σ H fun J H1 => ∀ D, H1 D = none → ∃ W : Nat → Nat → Hp → Prop, (∃ m, W 0 m (upd H1 D (.lst []))) ∧ ∀ i m H, W i m H →
  (J.stop i H ∧ Q (.ref D) H) ∨ (J.go i H ∧ ∃ Nx : Hp → Prop, (∀ H', Nx H' → ∃ m', m' < m ∧ W (i + 1) m' H') ∧ ∀ x H', J.yld i H x H' → g x (wipe σ vs) H' fun σ2 H2 => wipe σ2 vs = wipe σ vs ∧ tt σ2 H2 fun b H3 =>
    if b = true then te σ2 H3 fun y H4 => ∃ acc, H4 D = some (.lst acc) ∧ acc.length < sizeLine ∧ Nx (upd H4 D (.lst (acc ++ [y]))) else Nx H3)) : tLc wi g tt te vs σ H Q := h
theorem r_yes {B : Bool → Hp → Prop} (h : B true H) : tYes σ H B := h
theorem r_iList (h : tl σ H fun x H1 => ∃ a, x = .ref a ∧ (∃ xs, SqL K H1 a xs) ∧ R (Itl K a) H1) : iList K tl σ H R := h
theorem r_iTup (h : tl σ H fun x H1 => ∃ a, x = .ref a ∧ (∃ xs, SqT K H1 a xs) ∧ R (Itt K a) H1) : iTup K tl σ H R := h
theorem r_iRng1 (h : ta σ H fun vs H1 => ∃ j : Int, vs = [.int j] ∧ -(2 ^ 62) ≤ j ∧ j < 2 ^ 62 ∧ R (Itr 0 j.toNat) H1) : iRng1 ta σ H R := h
theorem r_iRng2 (h : ta σ H fun vs H1 => ∃ i j : Int, vs = [.int i, .int j] ∧ (-(2 ^ 62) ≤ i ∧ i < 2 ^ 62 ∧ -(2 ^ 62) ≤ j ∧ j < 2 ^ 62) ∧ R (Itr i (j - i).toNat) H1) : iRng2 ta σ H R := h
theorem r_iRng3 (h : ta σ H fun vs H1 => ∃ (i j c : Int) (n : Nat), vs = [.int i, .int j, .int c] ∧ RgC i j c n ∧ R (Itc i c n) H1) : iRng3 ta σ H R := h
theorem r_iEnum (h : ta σ H fun vs H1 => ∃ a xs, vs = [.ref a] ∧ SqL K H1 a xs ∧ R (Ite K a) H1) : iEnum K ta σ H R := h
theorem r_iZip (h : ta σ H fun vs H1 => ∃ a b xs ys, vs = [.ref a, .ref b] ∧ SqL K H1 a xs ∧ SqL K H1 b ys ∧ R (Itz K a b) H1) : iZip K ta σ H R := h
theorem r_iStr (h : tl σ H fun v H1 => ∃ x, v = .str x ∧ R (Its x) H1) : iStr tl σ H R := h
theorem i_list {a : Addr} {xs : List V} {P : It → Prop} (h : SqL K H a xs) (q : P (Itl K a)) : ∃ a', V.ref a = .ref a' ∧ (∃ xs, SqL K H a' xs) ∧ P (Itl K a') := ⟨a, rfl, ⟨xs, h⟩, q⟩
theorem i_tup {a : Addr} {xs : List V} {P : It → Prop} (h : SqT K H a xs) (q : P (Itt K a)) : ∃ a', V.ref a = .ref a' ∧ (∃ xs, SqT K H a' xs) ∧ P (Itt K a') := ⟨a, rfl, ⟨xs, h⟩, q⟩
theorem i_rng1 {j : Int} {P : It → Prop} (h0 : -(2 ^ 62) ≤ j) (h1 : j < 2 ^ 62) (q : P (Itr 0 j.toNat)) : ∃ j' : Int, [V.int j] = [.int j'] ∧ -(2 ^ 62) ≤ j' ∧ j' < 2 ^ 62 ∧ P (Itr 0 j'.toNat) := ⟨j, rfl, h0, h1, q⟩
theorem r_wN {tb : TS} {I : Nat → L2.St → Hp → Prop} {m : Nat} (h : tb { D with nx := fun σ' H' => ∃ m', m' < m ∧ I m' σ' H', ct := fun σ' H' => ∃ m', m' < m ∧ I m' σ' H', bk := D.nx } σ H) :
    ∃ N : L2.St → Hp → Prop, (∀ σ' H', N σ' H' → ∃ m', m' < m ∧ I m' σ' H') ∧ tb { D with nx := N, ct := N, bk := D.nx } σ H := ⟨_, fun _ _ h => h, h⟩
end
end Lx

/-! the layer's rules with the written part named (within a comprehension's block a reading must not hang on the block) -/
namespace Lx
open PySem PySem.Spec PyProof.Rows L2
section
variable (K : PySem.W.Frag) {X : Cx}
theorem k_len (h : X.K = K := by rfl) : CallR X (.builtin "len") (rLen K) := h ▸ call_len'
theorem k_list (h : X.K = K := by rfl) : CallR X (.type "list") (rListOf K) := h ▸ call_list'
theorem k_tuple (h : X.K = K := by rfl) : CallR X (.type "tuple") (rTupleOf K) := h ▸ call_tuple'
theorem k_isi (h : X.K = K := by rfl) : CallR X (.builtin "isinstance") (rIsi K) := h ▸ call_isi
theorem k_isiT (h : X.K = K := by rfl) : CallR X (.builtin "isinstance") (rIsiT K) := h ▸ call_isiT
theorem k_all (h : X.K = K := by rfl) (hc : X.calm = true := by rfl) : CallR X (.builtin "all") (rAll K) := h ▸ cr_all hc
theorem k_any (h : X.K = K := by rfl) (hc : X.calm = true := by rfl) : CallR X (.builtin "any") (rAny K) := h ▸ cr_any hc
theorem k_sum (h : X.K = K := by rfl) (hc : X.calm = true := by rfl) : CallR X (.builtin "sum") (rSum K) := h ▸ cr_sum hc
theorem k_min (h : X.K = K := by rfl) (hc : X.calm = true := by rfl) : CallR X (.builtin "min") (rMin K) := h ▸ cr_min hc
theorem k_max (h : X.K = K := by rfl) (hc : X.calm = true := by rfl) : CallR X (.builtin "max") (rMax K) := h ▸ cr_max hc
theorem k_sorted (h : X.K = K := by rfl) : CallR X (.builtin "sorted") (rSortedI K) := h ▸ cr_sortedI
theorem k_sortedU (h : X.K = K := by rfl) : CallR X (.builtin "sorted") (rSortedU K) := h ▸ cr_sortedU
theorem k_repr (hG : X.A.guards = some []) (hu : X.A.units + 64 < cLine) (h : X.K = K := by rfl) : CallR X (.builtin "repr") (rRepr K) := h ▸ call_reprD hG hu
theorem k_ixL (h : X.K = K := by rfl) : IxR X (rIxL K) := h ▸ ix_list
theorem k_ixT (h : X.K = K := by rfl) : IxR X (rIxT K) := h ▸ ix_tup
theorem k_slL (h : X.K = K := by rfl) : SlR X (rSlL K) := h ▸ sl_list
theorem k_slT (h : X.K = K := by rfl) : SlR X (rSlA K) := h ▸ sl_tupA
theorem k_in (h : X.K = K := by rfl) : OpR X (compareOp .In) (rIn K false) := h ▸ op_in_seq
theorem k_notIn (h : X.K = K := by rfl) : OpR X (compareOp .NotIn) (rIn K true) := h ▸ op_notIn_seq
theorem k_eqD (hu : X.A.units + 64 < cLine) (h : X.K = K := by rfl) : OpR X (compareOp .Eq) (rEqD K) := h ▸ op_eqD hu
theorem k_neD (hu : X.A.units + 64 < cLine) (h : X.K = K := by rfl) : OpR X (compareOp .NotEq) (rNeD K) := h ▸ op_neD hu
theorem k_catT (h : X.K = K := by rfl) : OpR X (binaryOp .Add) (rCatT K) := h ▸ op_catT
theorem k_piL {tg l : Expr} {tl : TE} (hl : PE X l tl) (h : X.K = K := by rfl) : PI X tg l (iList K tl) := h ▸ pi_list hl
theorem k_piT {tg l : Expr} {tl : TE} (hl : PE X l tl) (h : X.K = K := by rfl) : PI X tg l (iTup K tl) := h ▸ pi_tup hl
theorem k_enum {e : Expr} {ta : TA} {p pos tpos : Pos} {elts : List Expr} {kk : Nat} (hg : Gl X "enumerate") (hm : X.mg "enumerate" = none) (ha : PA X [e] ta) (hs : starEach [e] X.env = [(false, eval e X.env)] := by rfl) (h : X.K = K := by rfl) :
    PI X (.Tuple elts kk tpos) (.Call (.Name "enumerate" p) [e] [] pos) (iEnum K ta) := h ▸ pi_enum hg hm ha hs
theorem k_zip {e e2 : Expr} {ta : TA} {p pos tpos : Pos} {elts : List Expr} {kk : Nat} (hg : Gl X "zip") (hm : X.mg "zip" = none) (ha : PA X [e, e2] ta)
    (hs : starEach [e, e2] X.env = (false, eval e X.env) :: starEach [e2] X.env := by rfl) (hpl : (backTo pos (starEach [e2] X.env)).any (·.1) = false := by rfl) (h : X.K = K := by rfl) :
    PI X (.Tuple elts kk tpos) (.Call (.Name "zip" p) [e, e2] [] pos) (iZip K ta) := h ▸ pi_zip hg hm ha hs hpl
theorem k_gtup {es : List Expr} {k : Nat} {t : TGs} {n : Nat} {pos : Pos} (hc : X.calm = true) (ht : PGs X es t) (hn : (assignEach es X.env).length = n := by rfl) (hst : (assignEach es X.env).findIdx? (·.1) = none := by rfl) (h : X.K = K := by rfl) :
    PG X (.Tuple es k pos) (gTup K n t) := h ▸ pg_tup hc ht hn hst
theorem k_gunl {es : List Expr} {k : Nat} {t : TGs} {n : Nat} {pos : Pos} (hc : X.calm = true) (ht : PGs X es t) (hn : (assignEach es X.env).length = n := by rfl) (hst : (assignEach es X.env).findIdx? (·.1) = none := by rfl) (h : X.K = K := by rfl) :
    PG X (.Tuple es k pos) (gUnl K n t) := h ▸ pg_unl hc ht hn hst
theorem k_rev {e : Expr} {te : TE} {k : Nat} {p1 p2 p3 pos : Pos} (he : PE X e te) (h : X.K = K := by rfl) : PE X (.Subscript e (.Slice none none (some (.UnaryOp .USub (.Constant (.int 1) k p1) p2)) p3) pos) (tRevL K te) := h ▸ pe_revL he
theorem k_fld {e : Expr} {ta : TE} {f : Str} {pos : Pos} (he : PE X e ta) (hb : attributeBase e f X.env (eval e X.env) = eval e X.env := by rfl) (h : X.K = K := by rfl) : PE X (.Attribute e f pos) (tFld K ta f) := h ▸ pe_fld he hb
theorem k_bm {T : String} {name : Str} {id : String} {r : V → List V → Hp → VK → Prop} {o e : Expr} {es : List Expr} {to : TE} {t : TA} {apos cpos : Pos} (pa : PlainAttrs T) (slot : Slot T name id) (hty : typeOf (.builtin id) = pure (.type "method_descriptor")) (hm : MtR X id r) (ho : PE X o to) (ha : PA X (e :: es) t)
    (p : PE X (.Call (.Attribute o name apos) (e :: es) [] cpos) (tBM X.K T r to t)) (h : X.K = K := by rfl) : PE X (.Call (.Attribute o name apos) (e :: es) [] cpos) (tBM K T r to t) := h ▸ p
theorem k_bmP {T : String} {r : V → List V → Hp → VK → Prop} {o : Expr} {to : TE} {t : TA} (p : PE X o (tBM X.K T r to t)) (h : X.K = K := by rfl) : PE X o (tBM K T r to t) := h ▸ p
theorem k_bm0P {T : String} {r : V → List V → Hp → VK → Prop} {o : Expr} {to : TE} (p : PE X o (tBM0 X.K T r to)) (h : X.K = K := by rfl) : PE X o (tBM0 K T r to) := h ▸ p
end
end Lx

namespace Lx
open PySem PySem.Spec PyProof.Rows L2
/-! ### data that stand told, each of their lists and tuples where G holds -/
mutual
inductive Tr (G : Addr → Prop) (H : Hp) : V → PyData → Prop
  | non : Tr G H .non .none
  | bl (b : Bool) : Tr G H (.bl b) (.bool b)
  | int (i : Int) : Tr G H (.int i) (.int i)
  | str (x : Str) : Tr G H (.str x) (.str x)
  | lst {a : Addr} {xs : List V} {ds : List PyData} : H a = some (.lst xs) → G a → xs.length ≤ 100000 → TrAll G H xs ds → Tr G H (.ref a) (.list ds)
  | tup {a : Addr} {xs : List V} {ds : List PyData} : H a = some (.tup xs) → G a → xs.length ≤ 100000 → TrAll G H xs ds → Tr G H (.ref a) (.tuple ds)
inductive TrAll (G : Addr → Prop) (H : Hp) : List V → List PyData → Prop
  | nil : TrAll G H [] []
  | cons {v : V} {vs : List V} {d : PyData} {ds : List PyData} : Tr G H v d → TrAll G H vs ds → TrAll G H (v :: vs) (d :: ds)
end
section
variable {K : PySem.W.Frag} {G G' : Addr → Prop} {H H' : Hp}
mutual
theorem Tr.dp : ∀ {v : V} {d : PyData}, Tr G H v d → Dp K H v d
  | _, _, .non => .non
  | _, _, .bl b => .bl b
  | _, _, .int i => .int i
  | _, _, .str x => .str x
  | _, _, .lst h _ _ t => .lst (lst_of h) t.dp
  | _, _, .tup h _ _ t => .tup (tup_of h) t.dp
theorem TrAll.dp : ∀ {v : List V} {d : List PyData}, TrAll G H v d → DpAll K H v d
  | _, _, .nil => .nil
  | _, _, .cons h t => .cons h.dp t.dp
end
mutual
theorem Tr.move (m : ∀ a o, G a → H a = some o → H' a = some o ∧ G' a) : ∀ {v : V} {d : PyData}, Tr G H v d → Tr G' H' v d
  | _, _, .non => .non
  | _, _, .bl b => .bl b
  | _, _, .int i => .int i
  | _, _, .str x => .str x
  | _, _, .lst h g l t => .lst (m _ _ g h).1 (m _ _ g h).2 l (t.move m)
  | _, _, .tup h g l t => .tup (m _ _ g h).1 (m _ _ g h).2 l (t.move m)
theorem TrAll.move (m : ∀ a o, G a → H a = some o → H' a = some o ∧ G' a) : ∀ {v : List V} {d : List PyData}, TrAll G H v d → TrAll G' H' v d
  | _, _, .nil => .nil
  | _, _, .cons h t => .cons (h.move m) (t.move m)
end
theorem Tr.same {v : V} {d : PyData} (h : Tr G H v d) (s : Same H H') : Tr G H' v d := h.move fun a o g e => ⟨s _ _ e, g⟩
theorem Tr.any {v : V} {d : PyData} (h : Tr G H v d) : Tr (fun _ => True) H v d := h.move fun a o g e => ⟨e, trivial⟩
theorem TrAll.same {v : List V} {d : List PyData} (h : TrAll G H v d) (s : Same H H') : TrAll G H' v d := h.move fun a o g e => ⟨s _ _ e, g⟩
theorem TrAll.len : ∀ {v : List V} {d : List PyData}, TrAll G H v d → v.length = d.length
  | _, _, .nil => rfl
  | _, _, .cons _ t => congrArg Nat.succ t.len
theorem TrAll.at : ∀ {vs : List V} {ds : List PyData}, TrAll G H vs ds → ∀ {i : Nat} {v : V}, vs[i]? = some v → ∃ d, ds[i]? = some d ∧ Tr G H v d
  | _, _, .nil, i, v, e => by simp at e
  | _, _, .cons h t, 0, v, e => by
    rw [List.getElem?_cons_zero] at e
    cases e
    exact ⟨_, rfl, h⟩
  | _, _, .cons h t, i + 1, v, e => by
    rw [List.getElem?_cons_succ] at e
    obtain ⟨d, e', z⟩ := t.at e
    exact ⟨d, by rw [List.getElem?_cons_succ]; exact e', z⟩
theorem TrAll.of : ∀ {vs : List V} {ds : List PyData}, vs.length = ds.length → (∀ (i : Nat) (v : V) (d : PyData), vs[i]? = some v → ds[i]? = some d → Tr G H v d) → TrAll G H vs ds
  | [], [], _, _ => .nil
  | v :: vs, d :: ds, e, h => .cons (h 0 v d rfl rfl) (TrAll.of (Nat.succ.inj e) fun i v d a b => h (i + 1) v d a b)
  | [], _ :: _, e, _ => by cases e
  | _ :: _, [], e, _ => by cases e
theorem TrAll.ints (ns : List Int) : TrAll G H (vI ns) (dI ns) := by
  induction ns with
  | nil => exact .nil
  | cons n ns ih => exact .cons (.int n) ih
end
theorem depth_mem {ds : List PyData} {d : PyData} (h : d ∈ ds) : d.depth ≤ PyData.depthAll ds := by
  induction ds with
  | nil => cases h
  | cons e ds ih =>
    show d.depth ≤ max e.depth (PyData.depthAll ds)
    rcases List.mem_cons.mp h with rfl | h
    · exact Nat.le_max_left _ _
    · exact Nat.le_trans (ih h) (Nat.le_max_right _ _)
/-! ### slices -/
theorem cut_lo {xs : List V} {k : Nat} : cutV xs (some ((k : Nat) : Int)) none = xs.drop k := by
  unfold cutV
  rw [HT.sIx_nat, HT.sIx_none]
  by_cases h : k ≤ xs.length
  · rw [Nat.min_eq_left h]
    exact List.take_of_length_le (by rw [List.length_drop]; exact Nat.le_refl _)
  · rw [Nat.min_eq_right (by omega), Nat.sub_self, List.take_zero, List.drop_eq_nil_of_le (by omega)]
theorem cut_hi {xs : List V} {k : Nat} : cutV xs none (some ((k : Nat) : Int)) = xs.take k := by
  unfold cutV
  rw [HT.sIx_nat, HT.sIx_none, List.drop_zero, Nat.sub_zero]
  by_cases h : k ≤ xs.length
  · rw [Nat.min_eq_left h]
  · rw [Nat.min_eq_right (by omega), List.take_length, List.take_of_length_le (by omega)]
theorem vI_drop (ns : List Int) (k : Nat) : (vI ns).drop k = vI (ns.drop k) := List.map_drop.symm
theorem vI_take (ns : List Int) (k : Nat) : (vI ns).take k = vI (ns.take k) := List.map_take.symm
theorem vI_app (a b : List Int) : vI a ++ vI b = vI (a ++ b) := List.map_append.symm
theorem vI_rev (a : List Int) : (vI a).reverse = vI a.reverse := List.map_reverse.symm
theorem vI_set (a : List Int) (n : Nat) (x : Int) : (vI a).set n (.int x) = vI (a.set n x) := List.map_set.symm
/-- a list of values that is a rearranged list of ints -/
theorem perm_vI {xs : List V} {ns : List Int} (h : xs.Perm (vI ns)) : ∃ ms : List Int, xs = vI ms ∧ ms.Perm ns := by
  have un : ∀ zs : List V, (∀ z ∈ zs, ∃ n : Int, z = .int n) → vI (zs.map fun z => match z with | .int n => n | _ => 0) = zs := by
    intro zs
    induction zs with
    | nil => intro _; rfl
    | cons z zs ih =>
      intro hz
      obtain ⟨n, rfl⟩ := hz z List.mem_cons_self
      have e := ih fun y hy => hz y (List.mem_cons_of_mem _ hy)
      show V.int n :: vI (zs.map _) = _
      rw [e]
  refine ⟨xs.map fun z => match z with | .int n => n | _ => 0, (un xs fun z hz => ?_).symm, ?_⟩
  · obtain ⟨n, _, e⟩ := List.mem_map.mp (h.mem_iff.mp hz)
    exact ⟨n, e.symm⟩
  · have p := h.map fun z : V => match z with | .int n => n | _ => 0
    have e : (vI ns).map (fun z : V => match z with | .int n => n | _ => 0) = ns := by
      unfold vI
      rw [List.map_map]
      exact List.map_id ns
    rw [e] at p
    exact p
theorem seq_ix {i : Int} {n : Nat} (h0 : 0 ≤ i) (h1 : i < n) : seqIndex? i n = some i.toNat := (ixN_seq (ixN_ok h0 h1)).1
theorem rgc_pos {j c : Int} (h0 : 0 ≤ j) (h1 : j < 2 ^ 40) (c0 : 1 ≤ c) (c1 : c < 1000000) : RgC 0 j c ((j + c - 1) / c).toNat := by
  have e := rangeSize_pos (len := j) (c := c) c0 h0
  have g0 : 0 ≤ (j + c - 1) / c := Int.ediv_nonneg (by omega) (by omega)
  have g2 : (j + c - 1) / c * c ≤ j + c - 1 := Int.ediv_mul_le _ (by omega)
  have g1 : (j + c - 1) / c ≤ j + c - 1 := by
    refine Int.le_trans ?_ g2
    have := Int.mul_le_mul_of_nonneg_left c0 g0
    rw [Int.mul_one] at this
    exact this
  refine ⟨by omega, by omega, ?_, by rw [e, Int.toNat_of_nonneg g0]⟩
  unfold Builtin.Range.small
  rw [e]
  simp only [Builtin.Range.rangeFitsLong, Bool.and_eq_true, Bool.or_eq_true, decide_eq_true_eq, beq_iff_eq, show c > 0 by omega, if_true]
  refine ⟨⟨⟨⟨by decide, by omega, by omega⟩, by omega, by omega⟩, by omega, by omega⟩, .inr ⟨by omega, by omega⟩⟩
/-! ### where ways join -/
section
variable {ts tu : TS} {R bk ct : L2.St → Hp → Prop} {rt : VK} {σ : L2.St} {H : Hp} {D : Ends}
theorem ifJ {c : Prop} [Decidable c] (J : L2.St → Hp → Prop) (h1 : ∀ R' : L2.St → Hp → Prop, (∀ σ H, J σ H → R' σ H) → c → ts ⟨R', rt, bk, ct⟩ σ H) (h2 : ∀ R' : L2.St → Hp → Prop, (∀ σ H, J σ H → R' σ H) → ¬ c → tu ⟨R', rt, bk, ct⟩ σ H) (hR : ∀ σ H, J σ H → R σ H) :
    if decide c = true then ts ⟨R, rt, bk, ct⟩ σ H else tu ⟨R, rt, bk, ct⟩ σ H := ifD (h1 R hR) (h2 R hR)
theorem seqJ (J : L2.St → Hp → Prop) (h1 : ∀ R' : L2.St → Hp → Prop, (∀ σ H, J σ H → R' σ H) → ts ⟨R', D.rt, D.bk, D.ct⟩ σ H) (hR : ∀ σ H, J σ H → tu D σ H) : tSeq ts tu D σ H := h1 _ hR
end
theorem r_ixLT {K : PySem.W.Frag} {H : Hp} {Q : VK} {v : V} {p : Addr} {xs : List V} {a : Int} (h : Sq H p xs) (e : atI xs a = some v) (q : Q v H) : oOr (rIxL K) (rIxT K) (.ref p) (.int a) H Q :=
  h.elim (fun h => .inl (r_ixL (lst_of h) e q)) fun h => .inr (r_ixT (tup_of h) e q)
/-! ### the same data, its lists and tuples dressed anew -/
mutual
inductive Drs : PyData → PyData → Prop
  | non : Drs .none .none
  | bl (b : Bool) : Drs (.bool b) (.bool b)
  | int (i : Int) : Drs (.int i) (.int i)
  | str (x : Str) : Drs (.str x) (.str x)
  | ll {ds es : List PyData} : DrsAll ds es → Drs (.list ds) (.list es)
  | lt {ds es : List PyData} : DrsAll ds es → Drs (.list ds) (.tuple es)
  | tl {ds es : List PyData} : DrsAll ds es → Drs (.tuple ds) (.list es)
  | tt {ds es : List PyData} : DrsAll ds es → Drs (.tuple ds) (.tuple es)
inductive DrsAll : List PyData → List PyData → Prop
  | nil : DrsAll [] []
  | cons {d e : PyData} {ds es : List PyData} : Drs d e → DrsAll ds es → DrsAll (d :: ds) (e :: es)
end
theorem DrsAll.snoc : ∀ {ds es : List PyData} {d e : PyData}, DrsAll ds es → Drs d e → DrsAll (ds ++ [d]) (es ++ [e])
  | _, _, _, _, .nil, h => .cons h .nil
  | _, _, _, _, .cons g t, h => .cons g (t.snoc h)
theorem DrsAll.len : ∀ {ds es : List PyData}, DrsAll ds es → ds.length = es.length
  | _, _, .nil => rfl
  | _, _, .cons _ t => congrArg Nat.succ t.len
theorem DrsAll.ints : ∀ {ns : List Int} {es : List PyData}, DrsAll (dI ns) es → es = dI ns
  | [], _, .nil => rfl
  | n :: ns, _, .cons h t => by
    cases h
    rw [t.ints]
    rfl
theorem Drs.ints {ns : List Int} {e : PyData} (h : Drs (.list (dI ns)) e) : e = .list (dI ns) ∨ e = .tuple (dI ns) := by
  cases h with
  | ll h => exact .inl (by rw [h.ints])
  | lt h => exact .inr (by rw [h.ints])
theorem TrAll.snoc {G : Addr → Prop} {H : Hp} : ∀ {vs : List V} {ds : List PyData} {v : V} {d : PyData}, TrAll G H vs ds → Tr G H v d → TrAll G H (vs ++ [v]) (ds ++ [d])
  | _, _, _, _, .nil, h => .cons h .nil
  | _, _, _, _, .cons g t, h => .cons g (t.snoc h)
theorem TrAll.val {G : Addr → Prop} {H : Hp} : ∀ {vs : List V} {ns : List Int}, TrAll G H vs (dI ns) → vs = vI ns
  | _, [], .nil => rfl
  | _, n :: ns, .cons h t => by
    cases h
    rw [t.val]
    rfl
theorem Tr.sq {G : Addr → Prop} {H : Hp} {v : V} {ns : List Int} {e : PyData} (h : Tr G H v e) (he : e = .list (dI ns) ∨ e = .tuple (dI ns)) : ∃ a, v = .ref a ∧ G a ∧ Sq H a (vI ns) := by
  rcases he with rfl | rfl
  · cases h with
    | lst h g _ t => rw [t.val] at h; exact ⟨_, rfl, g, .inl h⟩
  · cases h with
    | tup h g _ t => rw [t.val] at h; exact ⟨_, rfl, g, .inr h⟩
/-! ### texts -/
def rAddS : R2 := fun x y H Q => ∃ i j, x = .str i ∧ y = .str j ∧ i.length + j.length ≤ sizeLine ∧ Q (.str (i ++ j)) H
theorem op_addS {X : Cx} : OpR X (binaryOp .Add) rAddS := op_add_str
theorem r_addS {H : Hp} {Q : VK} {a b : Str} (h : a.length + b.length ≤ sizeLine) (q : Q (.str (a ++ b)) H) : rAddS (.str a) (.str b) H Q := ⟨a, b, rfl, rfl, h, q⟩
def rCountS : V → List V → Hp → VK → Prop := fun x xs H Q => ∃ a b, x = .str a ∧ xs = [.str b] ∧ Q (.int (Txt.count a b)) H
theorem mt_countS {X : Cx} : MtR X "str.count" rCountS := mt_count
theorem r_countS {H : Hp} {Q : VK} {a b : Str} (q : Q (.int (Txt.count a b)) H) : rCountS (.str a) [.str b] H Q := ⟨a, b, rfl, rfl, q⟩
theorem r_sortI {K : PySem.W.Frag} {H : Hp} {Q : VK} {a : Addr} {ns : List Int} (h : SqL K H a (vI ns)) (q : ∀ (ns' : List Int) (p : Addr), ns'.Perm ns → ns'.Pairwise (· ≤ ·) → H p = none → Q (.ref p) (upd H p (.lst (vI ns')))) : rSortedI K [.ref a] H Q := ⟨a, ns, rfl, h, q⟩
theorem r_popAt {H : Hp} {Q : VK} {l : Addr} {xs : List V} {i : Int} {y : V} (h : H l = some (.lst xs)) (i0 : 0 ≤ i) (i1 : i < xs.length) (hz : xs.length ≤ 100000) (hy : xs[i.toNat]? = some y) (q : Q y (upd H l (.lst (xs.eraseIdx i.toNat)))) : rPopAt (.ref l) [.int i] H Q :=
  ⟨l, xs, i, i.toNat, y, rfl, rfl, h, by omega, by omega, seq_ix i0 i1, hy, q⟩
theorem r_rev {H : Hp} {Q : VK} {l : Addr} {xs : List V} (h : H l = some (.lst xs)) (q : Q .non (upd H l (.lst xs.reverse))) : rReverse (.ref l) [] H Q := ⟨l, xs, rfl, rfl, h, q⟩
theorem r_in {K : PySem.W.Frag} {H : Hp} {Q : VK} {p : Addr} {x : V} {xs : List V} (h : SqL K H p xs ∨ SqT K H p xs) (f : flatV x = true) (g : xs.all flatV = true) (q : Q (.bl (inV x xs)) H) : rIn K false x (.ref p) H Q := ⟨p, xs, rfl, h, f, g, q⟩
theorem r_notIn {K : PySem.W.Frag} {H : Hp} {Q : VK} {p : Addr} {x : V} {xs : List V} (h : SqL K H p xs ∨ SqT K H p xs) (f : flatV x = true) (g : xs.all flatV = true) (q : Q (.bl (!inV x xs)) H) : rIn K true x (.ref p) H Q := ⟨p, xs, rfl, h, f, g, q⟩
/-! ### the least of ints -/
def minI : List Int → Int
  | [] => 0
  | a :: r => if r = [] then a else if a ≤ minI r then a else minI r
theorem minI_mem : ∀ {ns : List Int}, ns ≠ [] → minI ns ∈ ns
  | [], h => absurd rfl h
  | a :: r, _ => by
    unfold minI
    split
    · exact List.mem_cons_self
    · rename_i hr
      split
      · exact List.mem_cons_self
      · exact List.mem_cons_of_mem _ (minI_mem hr)
theorem minI_le : ∀ {ns : List Int} {y : Int}, y ∈ ns → minI ns ≤ y
  | a :: r, y, h => by
    unfold minI
    split
    · rename_i hr
      subst hr
      rw [List.mem_singleton] at h
      omega
    · rename_i hr
      rcases List.mem_cons.mp h with e | h
      · split <;> omega
      · have ih := minI_le h
        split <;> omega
theorem minI_eq {ns : List Int} {m : Int} (h : m ∈ ns) (l : ∀ y ∈ ns, m ≤ y) : m = minI ns := by
  have h1 := minI_le h
  have h2 := l _ (minI_mem fun e => by rw [e] at h; cases h)
  omega
theorem minI_perm {a b : List Int} (h : a.Perm b) : minI a = minI b := by
  by_cases e : a = []
  · rw [e] at h ⊢
    rw [h.symm.eq_nil]
  · exact minI_eq (h.mem_iff.mp (minI_mem e)) fun y hy => minI_le (h.mem_iff.mpr hy)
theorem r_min {K : PySem.W.Frag} {H : Hp} {Q : VK} {a : Addr} {ns : List Int} (h : SqL K H a (vI ns)) (hn : 0 < ns.length) (q : Q (.int (minI ns)) H) : rMin K [.ref a] H Q :=
  ⟨a, ns, rfl, h, hn, fun m hm hl => by rw [minI_eq hm hl]; exact q⟩
theorem erase_at : ∀ {ns : List Int} {k : Int}, k ∈ ns → ∃ j : Nat, ns[j]? = some k ∧ (∀ m : Nat, m < j → ns[m]? ≠ some k) ∧ ns.eraseIdx j = ns.erase k
  | a :: r, k, h => by
    by_cases e : a = k
    · subst e
      exact ⟨0, rfl, fun m hm => absurd hm (Nat.not_lt_zero _), by rw [List.erase_cons_head]; rfl⟩
    · have hr : k ∈ r := (List.mem_cons.mp h).resolve_left fun z => e z.symm
      obtain ⟨j, h1, h2, h3⟩ := erase_at hr
      refine ⟨j + 1, h1, fun m hm => ?_, ?_⟩
      · cases m with
        | zero => intro z; exact e (Option.some.inj z)
        | succ m => exact h2 m (by omega)
      · rw [List.erase_cons_tail (by simpa using e), List.eraseIdx_cons_succ, h3]
theorem r_remove {H : Hp} {Q : VK} {l : Addr} {ns : List Int} {k : Int} (h : H l = some (.lst (vI ns))) (hk : k ∈ ns) (q : Q .non (upd H l (.lst (vI (ns.erase k))))) : rRemI (.ref l) [.int k] H Q := by
  obtain ⟨j, h1, h2, h3⟩ := erase_at hk
  refine ⟨l, ns, k, j, rfl, rfl, h, h1, h2, ?_⟩
  rw [h3]
  exact q
end Lx

namespace Lx
open PySem PySem.Spec PyProof.Rows L2
/-! ### len(set(xs)) of a list or a tuple of ints, each once -/
theorem nodup_same_len : ∀ {a b : List Int}, a.Nodup → b.Nodup → (∀ x, x ∈ a ↔ x ∈ b) → a.length = b.length
  | [], [], _, _, _ => rfl
  | [], y :: b, _, _, h => absurd ((h y).mpr List.mem_cons_self) (by simp)
  | x :: a, b, ha, hb, h => by
    have hx : x ∈ b := (h x).mp List.mem_cons_self
    rw [List.nodup_cons] at ha
    have ih := nodup_same_len ha.2 (hb.erase x) fun y => by
      rw [hb.mem_erase_iff]
      constructor
      · intro hy
        exact ⟨fun e => ha.1 (e ▸ hy), (h y).mp (List.mem_cons_of_mem _ hy)⟩
      · rintro ⟨hne, hy⟩
        rcases List.mem_cons.mp ((h y).mpr hy) with e | hy
        · exact absurd e hne
        · exact hy
    rw [List.length_erase_of_mem hx] at ih
    have : 0 < b.length := List.length_pos_of_mem hx
    rw [List.length_cons]
    omega
def tLenSet (K : PySem.W.Frag) (ta : TE) : TE := fun σ H Q => ta σ H fun x H1 => ∃ (l : Addr) (ns : List Int), x = .ref l ∧ (SqL K H1 l (vI ns) ∨ SqT K H1 l (vI ns)) ∧ ns.Nodup ∧ ns.length ≤ 4000 ∧ Q (.int (ns.length : Nat)) H1
theorem pe_lenSet (K : PySem.W.Frag) {X : Cx} {a : Expr} {ta : TE} {p p2 q pos : Pos} (hg : Gl X "len") (hm : X.mg "len" = none) (hg2 : Gl X "set") (hm2 : X.mg "set" = none) (ha : PE X a ta) (hc : X.calm = true := by rfl) (hK : X.K = K := by rfl)
    (na : starEach [a] X.env = (false, eval a X.env) :: starEach [] X.env := by rfl) : PE X (.Call (.Name "len" p) [.Call (.Name "set" p2) [a] [] q] [] pos) (tLenSet K ta) := by
  subst hK
  refine ⟨fun pins s σ H Q I h => ?_⟩
  refine Call_ (ld_blt I hg hm boot_len ?_)
  refine PyProof.Rows.callWith_builtin1 (PyProof.Rows.args_cons ?_ rfl) rfl rfl
  refine Call_ (ld_blt I hg2 hm2 boot_set ?_)
  refine PyProof.Rows.callWith_type1 (PyProof.Rows.args_cons (thn (ha.run pins s σ H _ I h) fun v s1 ⟨x, H1, I1, r1, q1⟩ => PyProof.Rows.args_nil ?_) na) na rfl
  obtain ⟨l, ns, rfl, hq, hnd, hl, q1⟩ := q1
  cases r1
  rcases hq with hq | hq
  · obtain ⟨its, r, pl, hz⟩ := I1.list hq
    have hlen : its.toArray.size = ns.length := by rw [List.size_toArray, ← r.length, vI_len]
    refine call_set_list (I1.ok.hd hc) pl.isList (by simpa using RZ.intsAre_vals r) (by rw [hlen]; unfold scanBound; omega) fun h' tk hS hk => ?_
    refine PyProof.Rows.args_nil ?_
    rw [hlen, RZ.firstMet_nodup hnd ns.length (Nat.le_refl _), List.take_length] at hS
    obtain ⟨o, es, ep, t, ho, hex, hd, _, _, _, hf, hn⟩ := hS
    have I2 : Inv X pins σ H1 { s1 with heap := h', toks := tk } := I1.kept fun b o e => hk b o (Heap.lt_size e) e
    exact call_len_set ho hex hd hf (by rw [hn] <;> omega) ⟨.int ns.length, H1, I2.tok _, ⟨_, by rw [hn]⟩, q1⟩
  · obtain ⟨its, r, pl, hz⟩ := I1.tuple hq
    refine call_set_tupI ns (I1.ok.hd hc) pl (by simpa using RZ.intsAre_vals r) (by unfold scanBound; omega) fun h' tk c hS _ hk => ?_
    refine PyProof.Rows.args_nil ?_
    obtain ⟨o, es, ep, t, ho, hex, hd, _, hnd2, hmem, _, hf, hn, _⟩ := hS
    have hn2 : es.size = ns.length := by
      have z := nodup_same_len hnd hnd2 fun x => by rw [← hmem x]; simp
      rw [z, List.length_map, Array.length_toList]
    have I2 : Inv X pins σ H1 { s1 with heap := h', toks := tk } := I1.kept fun b o e => hk b o e
    exact call_len_set ho hex hd hf (by rw [hn2] <;> omega) ⟨.int ns.length, H1, I2.tok _, ⟨_, by rw [hn2]⟩, q1⟩
theorem r_lenSet {K : PySem.W.Frag} {σ : L2.St} {H : Hp} {Q : VK} {ta : TE} (h : ta σ H fun x H1 => ∃ (l : Addr) (ns : List Int), x = .ref l ∧ (SqL K H1 l (vI ns) ∨ SqT K H1 l (vI ns)) ∧ ns.Nodup ∧ ns.length ≤ 4000 ∧ Q (.int (ns.length : Nat)) H1) : tLenSet K ta σ H Q := h
end Lx

namespace My
open PySem PySem.Spec PyProof.Rows L2 Lx
local macro_rules | `(tactic| walk_at "hp") => `(tactic| first
  | assumption
  | exact upd_same
  | (refine Eq.trans (upd_ne ?_) ?_; (focus (walk_at "ne")); walk_at "hp")
  | (refine Same.get (by assumption) ?_; walk_at "hp"))
local macro_rules | `(tactic| walk_at "ne") => `(tactic| first
  | assumption
  | exact Ne.symm (by assumption)
  | exact ne_new (by assumption) (by walk_at "hp")
  | exact (ne_new (by assumption) (by walk_at "hp")).symm)
local macro_rules | `(tactic| walk_at "sq") => `(tactic| first
  | assumption
  | exact lst_of (by walk_at "hp")
  | exact tup_of (by walk_at "hp")
  | (refine Same.seq (by assumption) ?_; walk_at "sq")
  | (refine Same.seqT (by assumption) ?_; walk_at "sq"))
local macro_rules | `(tactic| walk_at "lt") => `(tactic| first
  | assumption
  | exact Or.inl (by walk_at "sq")
  | exact Or.inr (by walk_at "sq")
  | exact Sq.or (by walk_at "q"))
local macro_rules | `(tactic| walk_at "q") => `(tactic| first
  | assumption
  | (refine Same.sq (by assumption) ?_; walk_at "q")
  | exact Or.inl (by walk_at "hp")
  | exact Or.inr (by walk_at "hp"))
local macro_rules | `(tactic| walk_at "s1") => `(tactic| with_reducible (first
  | refine r_seq ?_ | refine r_asg ?_ | refine r_name ?_ | refine r_c ?_ | refine r_op ?_ | refine r_if ?_ | refine r_test ?_ | refine r_bl ?_
  | refine r_I0 ?_ | refine r_eqI ?_ | refine r_neI ?_ | refine r_eqS ?_ | refine r_neS ?_ | refine r_eqB ?_ | refine r_neB ?_ | refine r_U ?_
  | refine r_cons ?_ | refine r_nil ?_ | refine r_CB ?_ | refine r_call ?_ | refine r_ret ?_ | refine r_nx ?_ | refine r_rt ?_ | refine r_next ?_ | refine r_retN ?_ | refine r_drop ?_
  | refine r_brk ?_ | refine r_cont ?_ | refine r_bk ?_ | refine r_ct ?_
  | refine r_lst ?_ | refine r_tup ?_ | refine r_new (Nat.le_of_ble_eq_true rfl) ?_ | refine r_sub ?_ | refine r_gcons ?_ | refine r_gnil ?_
  | refine r_B ?_ | refine r_and ?_ | refine r_or ?_ | refine r_not ?_ | refine r_andV ?_ | refine r_orV ?_ | refine r_notV ?_ | refine r_ifE ?_ | refine r_chain ?_
  | refine r_par ?_ | refine r_par3 ?_ | refine r_two ?_ | refine r_three ?_ | refine r_un ?_
  | refine r_BM ?_ | refine r_BM0 ?_ | refine r_tyS ?_ | refine r_sl ?_ | refine r_nop ?_ | refine r_part ?_ | refine r_int ?_ | refine r_revL ?_ | refine r_lstRg ?_ | refine r_rg1 ?_ | refine r_ip ?_ | refine r_isN0 ?_ | refine r_isNi ?_ | refine r_isNr ?_ | refine r_isNb ?_ | refine r_isNs ?_ | refine r_notN0 ?_ | refine r_notNi ?_ | refine r_notNr ?_ | refine r_abs ?_ | refine r_max2 ?_ | refine r_min2 ?_ | refine r_inti ?_ | refine r_intb ?_ | refine r_yes ?_ | refine r_for ?_ | refine r_lc ?_ | refine r_iList ?_ | refine r_iTup ?_ | refine r_iRng1 ?_ | refine r_iRng2 ?_ | refine r_iRng3 ?_ | refine r_iEnum ?_ | refine r_iZip ?_ | refine r_iStr ?_ | refine r_lenSet ?_ | refine iteT ?_ | refine iteF ?_ | refine ifnT ?_ | refine ifnF ?_))
local macro_rules | `(tactic| walk_at "len") => `(tactic| first
  | assumption
  | exact szl (by (try simp only [vI_len, List.length_append, List.length_cons, List.length_nil, List.length_map, List.length_set, List.length_reverse]); omega)
  | exact sz (by (try simp only [vI_len, List.length_append, List.length_cons, List.length_nil, List.length_map, List.length_set, List.length_reverse]); omega))
local macro_rules | `(tactic| walk_at "side") => `(tactic| first
  | assumption
  | exact Or.inr ⟨by omega, by omega⟩
  | exact Or.inl ⟨by omega, by omega⟩
  | ((show (0 : Int) < _); first | assumption | decide | omega)
  | exact ⟨by decide, by decide⟩
  | exact ⟨by decide, by decide, by decide⟩
  | exact wide_div (b := 200) (by omega) (by omega) (by decide) (by decide))
local macro_rules | `(tactic| walk_at "ty") => `(tactic| first
  | exact ty_int | exact ty_bl | exact ty_str | exact ty_non | exact ty_lst (by walk_at "hp") | exact ty_tup (by walk_at "hp"))
local macro_rules | `(tactic| walk_at "kit") => `(tactic| first
  | exact k_ii | exact k_ib | exact k_is | exact k_il | exact k_it | exact k_bi | exact k_bb | exact k_bs | exact k_bl | exact k_bt | exact k_si | exact k_sb | exact k_ss | exact k_sl | exact k_st
  | exact k_ni | exact k_nb | exact k_ns | exact k_nl | exact k_nt | exact k_li | exact k_lb | exact k_ls | exact k_ll | exact k_lt | exact k_ti | exact k_tb | exact k_ts | exact k_tl | exact k_tt)
local macro_rules | `(tactic| walk_at "s2") => `(tactic| first
  | (with_reducible (first | refine ifNF rfl ?_ | refine ifDT rfl ?_))
  | refine ifDF (by decide) ?_
  | refine ifNT (by decide) ?_
  | ((with_reducible show tVar _ _ _ _); refine r_var rfl ?_)
  | ((with_reducible show tAug _ _ _ _ _ _); refine r_aug rfl ?_)
  | ((with_reducible show rI _ _ _ _ _ _); refine r_I (by walk_at "side") ?_)
  | ((with_reducible show rIxL _ _ _ _ _); refine r_ixL (by walk_at "sq") (by first | assumption | rfl) ?_)
  | ((with_reducible show rIxT _ _ _ _ _); refine r_ixT (by walk_at "sq") (by first | assumption | rfl) ?_)
  | ((with_reducible show rSetL _ _ _ _ _); refine r_setL (by walk_at "hp") (by first | assumption | rfl) ?_)
  | ((with_reducible show rSlL _ _ _ _ _ _); refine r_slL (by walk_at "sq") ?_)
  | ((with_reducible show rIsi _ _ _ _); refine isi_of (by walk_at "ty") (by walk_at "kit") ?_)
  | ((with_reducible show rIsiT _ _ _ _); first | refine isiLT_l (by walk_at "hp") (by walk_at "ty") (by walk_at "kit") (by walk_at "kit") ?_ | refine isiLT_t (by walk_at "hp") (by walk_at "ty") (by walk_at "kit") (by walk_at "kit") ?_ | refine isiLT_o (by walk_at "hp") (by walk_at "ty") (by walk_at "kit") (by walk_at "kit") ?_)
  | ((with_reducible show gTup _ _ _ _ _ _ _); refine r_gtup (by walk_at "sq") (by rfl) ?_)
  | ((with_reducible show gUnl _ _ _ _ _ _ _); refine r_gunl (by walk_at "sq") (by rfl) ?_)
  | ((with_reducible show tyV _ _ _ _ ∧ _); refine r_ty (by walk_at "hp") ?_)
  | ((with_reducible show rAppend _ _ _ _); refine r_app (by walk_at "hp") (by walk_at "len") ?_)
  | ((with_reducible show rAddS _ _ _ _); refine r_addS (by first | assumption | exact sz (by omega)) ?_)
  | ((with_reducible show rCountS _ _ _ _); refine r_countS ?_)
  | ((with_reducible show rReverse _ _ _ _); refine r_rev (by walk_at "hp") ?_)
  | ((with_reducible show Lx.rLen _ _ _ _); refine r_len (by walk_at "lt") ?_)
  | ((with_reducible show Lx.rLenS _ _ _); refine r_lenS (by first | assumption | exact sz (by omega)) ?_)
  | ((with_reducible show Lx.rListOf _ _ _ _); refine r_listOf (by walk_at "lt") ?_))
local macro_rules | `(tactic| walk_at "s") => `(tactic| repeat (first | walk_at "s1" | walk_at "s2"))

def topS (i : Nat) : Stmt := PySem.Challenge.pw_leftreturn_k06_places_filled_by_patterns.main.body.getD i (.Pass ⟨0, 0, 0, 0⟩)
abbrev Sis_integer : Stmt := topS 6
abbrev Nis_integer : List Str := ["value", "low", "high"]
theorem scis_integer : FnScope Nis_integer ["value", "low", "high"] (defScope Sis_integer) := ⟨rfl, rfl, rfl, by decide +kernel, rfl, by decide +kernel, by decide +kernel⟩
abbrev Sis_listed : Stmt := topS 7
abbrev Nis_listed : List Str := ["value"]
theorem scis_listed : FnScope Nis_listed ["value"] (defScope Sis_listed) := ⟨rfl, rfl, rfl, by decide +kernel, rfl, by decide +kernel, by decide +kernel⟩

section
variable {P : Program} {w : World} {K : PySem.W.Frag} {mg : Str → Option Value} {base : Heap}
def spIsInteger : Sp := fun vs H Q _ => ∃ (v l : Int) (h : V), vs = [.int v, .int l, h] ∧ ((∃ u : Int, h = .int u ∧ Q (.bl (decide (l ≤ v) && decide (v ≤ u))) H) ∨ (h = .non ∧ Q (.bl (decide (l ≤ v))) H))
theorem ok_is_integer {f : Addr} {fd : FuncData} {k : Nat} (B : Bn mg) (F : FunD K "is_integer" "is_integer" (defArgs Sis_integer) (defBody Sis_integer) (defScope Sis_integer) [.non] [] f fd) : FnG P w K mg base (k + 1) f fd ["value", "low", "high"] spIsInteger := by
  refine gokD F scis_integer (fun vs H Q E h => ?_) (fun cdv A fs s H vs Q E hG hr h => ?_)
  · obtain ⟨_, _, _, rfl, _⟩ := h; rfl
  · obtain ⟨v, l, h, rfl, h⟩ := h
    have hu := hr.units
    refine ⟨_, (pss_cons (ps_if (pw_or (pt_not (pt_val (pe_callB (k_isi K) (by rfl) B.isinstance Bisinstance (pa_cons (pv 0) (pa_cons (pe_bltn (v := .ty "int") (by rfl) B.int Tint rfl) pa_nil))))) (pw_or1 (pt_val (pe_callB (k_isi K) (by rfl) B.isinstance Bisinstance (pa_cons (pv 0) (pa_cons (pe_bltn (v := .ty "bool") (by rfl) B.bool Tbool rfl) pa_nil)))))).pt (pss_one (ps_ret pe_bl)) pss_nil) (pss_one (ps_ret (pe_and (pe_cmpR op_le (pv 1) (pv 0) (nomark _)) (pe_one (pe_or (pe_cmpR op_isN' (pv 2) pe_non (nomark _)) (pe_one (pe_cmpR op_le (pv 0) (pv 2) (nomark _))))))))), ?_⟩
    walk_at "s"
    refine ifD (fun h1 => ?_) (fun h1 => ?_)
    · walk_at "s"
      rcases h with ⟨u, rfl, q⟩ | ⟨rfl, q⟩
      · walk_at "s"
        rw [decide_eq_true h1] at q
        exact q
      · walk_at "s"
        rw [decide_eq_true h1] at q
        exact q
    · walk_at "s"
      rcases h with ⟨u, rfl, q⟩ | ⟨rfl, q⟩
      · rw [decide_eq_false h1] at q
        exact q
      · rw [decide_eq_false h1] at q
        exact q
def spIsListed : Sp := fun vs H Q _ => ∃ (a : Addr) (xs : List V), vs = [.ref a] ∧ Sq H a xs ∧ ∀ H', Same H H' → Q (.bl true) H'
theorem ok_is_listed {f : Addr} {fd : FuncData} {k : Nat} (B : Bn mg) (F : Fun K "is_listed" "is_listed" Sis_listed f fd) : FnG P w K mg base (k + 1) f fd ["value"] spIsListed := by
  refine gok F scis_listed (fun vs H Q E h => ?_) (fun cdv A fs s H vs Q E hG hr h => ?_)
  · obtain ⟨_, _, rfl, _⟩ := h; rfl
  · obtain ⟨a, xs, rfl, h, q⟩ := h
    have hu := hr.units
    refine ⟨_, (pss_one (ps_ret (pe_callB (k_isiT K) (by rfl) B.isinstance Bisinstance (pa_cons (pv 0) (pa_cons (pe_tup (pa_cons (pe_bltn (v := .ty "list") (by rfl) B.list Tlist rfl) (pa_cons (pe_bltn (v := .ty "tuple") (by rfl) B.tuple Ttuple rfl) pa_nil))) pa_nil))))), ?_⟩
    walk_at "s"
    intro p np
    have s1 := same_new (o := .tup [.ty "list", .ty "tuple"]) np
    rcases h with h | h
    · have h' := s1 _ _ h
      walk_at "s"
      exact q _ s1
    · have h' := s1 _ _ h
      walk_at "s"
      exact q _ s1
end

abbrev Sis_place_list : Stmt := topS 12
abbrev Nis_place_list : List Str := ["value", "place"]
theorem scis_place_list : FnScope Nis_place_list ["value"] (defScope Sis_place_list) := ⟨rfl, rfl, rfl, by decide +kernel, rfl, by decide +kernel, by decide +kernel⟩
abbrev Schecked_places : Stmt := topS 13
abbrev Nchecked_places : List Str := ["value"]
theorem scchecked_places : FnScope Nchecked_places ["value"] (defScope Schecked_places) := ⟨rfl, rfl, rfl, by decide +kernel, rfl, by decide +kernel, by decide +kernel⟩

/-- a list of places -/
structure IsPl (ns : List Int) : Prop where
  top : ns.length ≤ 200
  rng : ∀ x ∈ ns, 0 ≤ x ∧ x ≤ 1000000000000000000000000000000
  nd : ns.Nodup
section
variable {P : Program} {w : World} {K : PySem.W.Frag} {mg : Str → Option Value} {base : Heap}
def spIsPlaceList : Sp := fun vs H Q _ => ∃ (a : Addr) (ns : List Int), vs = [.ref a] ∧ Sq H a (vI ns) ∧ IsPl ns ∧ ∀ H', Same H H' → Q (.bl true) H'
theorem ok_is_place_list {f : Addr} {fd : FuncData} (B : Bn mg) (c_MAX_SIZE : Gc mg "MAX_SIZE" (.int 200)) (c_MAX_PLACE : Gc mg "MAX_PLACE" (.int 1000000000000000000000000000000)) (D_is_listed : Df P w K mg base 1 "is_listed" [] spIsListed) (D_is_integer : Df P w K mg base 1 "is_integer" [] spIsInteger)
   (F : Fun K "is_place_list" "is_place_list" Sis_place_list f fd) : FnG P w K mg base 2 f fd ["value"] spIsPlaceList := by
  refine gok F scis_place_list (fun vs H Q E h => ?_) (fun cdv A fs s H vs Q E hG hr h => ?_)
  · obtain ⟨_, _, rfl, _⟩ := h; rfl
  · obtain ⟨a, ns, rfl, h, hP, q⟩ := h
    have hu := hr.units
    have h2 := hP.top
    refine ⟨_, (pss_cons (ps_if (pw_or (pt_not (pt_val (pe_df D_is_listed hG (hr.mono (by first | decide | omega)) passL (by rfl) (pa_cons (pv 0) pa_nil)))) (pw_or1 (pt_cmpR op_gt (pe_callB (k_len K) (by rfl) B.len Blen (pa_cons (pv 0) pa_nil)) (pe_gc c_MAX_SIZE (by rfl)) (nomark _)))).pt (pss_one (ps_ret pe_bl)) pss_nil) (pss_one (ps_ret (pe_and (pe_callB (k_all K) (by rfl) B.all Ball (pa_cons (pe_lc (own := [("place", 1)]) rfl scis_place_list.nd (pi_or (k_piL K (pv 0)) (k_piT K (pv 0))) (blkOk_by (own := [("place", 1)]) (N := Nis_place_list) (sc := defScope Sis_place_list) (by decide +kernel)) (fun _ _ _ _ _ => (pg_name (i := 1) scis_place_list.nd rfl (Or.inl rfl))) (fun _ _ _ _ _ => pts_nil) (fun _ _ _ _ _ => (pe_df D_is_integer hG (hr.mono (by first | decide | omega)) passL (by rfl) (pa_cons (pv 1) (pa_cons pe_int (pa_cons (pe_gc c_MAX_PLACE (by rfl)) pa_nil)))))) pa_nil)) (pe_one (pe_cmpR op_eq (pe_lenSet K (by rfl) B.len (by rfl) B.set (pv 0)) (pe_callB (k_len K) (by rfl) B.len Blen (pa_cons (pv 0) pa_nil)) (nomark _))))))), ?_⟩
    walk_at "s"
    refine ⟨a, _, rfl, h, fun H1 s1 => ?_⟩
    have hA := s1.sq h
    walk_at "s"
    refine ifDF (by rw [vI_len]; omega) ?_
    walk_at "s"
    have turn : ∀ (i : Nat) (x : V) (H' H'' : Hp) (Yes : V → Hp → Prop) (No : Hp → Prop), i < (vI ns).length → Same H1 H' → (H'' = H' ∧ (vI ns)[i]? = some x) → ((fun _ => true) i = true → ∀ H4, Same H' H4 → Yes ((fun _ => V.bl true) i) H4) → ((fun _ => true) i = false → ∀ H3, Same H' H3 → No H3) →
        gName 1 x (wipe (L2.start Nis_place_list [V.ref a]) [1]) H'' fun σ2 H2 => wipe σ2 [1] = wipe (L2.start Nis_place_list [V.ref a]) [1] ∧ tYes σ2 H2 fun b H3 => if b = true then (tCall spIsInteger [] E0 (tCons (tVar 1) (tCons (tC (.int 0)) (tCons (tC (.int 1000000000000000000000000000000)) tNil)))) σ2 H3 Yes else No H3 := by
      rintro i x H' H'' Yes No hi s ⟨rfl, hx⟩ hY hN
      rw [vI_len] at hi
      rw [vI_at hi] at hx
      cases hx
      have hm := hP.rng _ (List.getElem_mem hi)
      walk_at "s"
      refine ⟨rfl, ?_⟩
      walk_at "s"
      refine ⟨_, _, _, rfl, .inl ⟨_, rfl, ?_⟩⟩
      rw [decide_eq_true hm.1, decide_eq_true hm.2]
      exact hY rfl _ (Same.refl _)
    have fin : ∀ (Dl : Addr) (H' : Hp), H1 Dl = none → Same H1 H' → H' Dl = some (.lst (giv (vI ns).length (fun _ => true) fun _ => .bl true)) → ∀ Q' : VK, Q' (.bl true) H' → L2.rAll K [V.ref Dl] H' Q' := by
      intro Dl H' nD s hD Q' q'
      refine ⟨Dl, List.replicate (vI ns).length true, rfl, lst_of (hD.trans ?_), ?_⟩
      · rw [giv_const, List.map_replicate]
      · rw [show (List.replicate (vI ns).length true).all id = true by simp]
        exact q'
    rcases id hA with hL | hL
    · refine .inl ?_
      walk_at "s"
      refine ⟨a, rfl, ⟨_, lst_of hL⟩, fun Dl nD => lc_pure (src_list (xs := vI ns)) _ _ (by rw [vI_len]; omega) (fun H' s => lst_of (s _ _ hL)) turn nD fun H' s hD => ?_⟩
      walk_at "s"
      refine fin Dl H' nD s hD _ ?_
      walk_at "s"
      refine ⟨a, ns, rfl, .inl (lst_of (s _ _ hL)), hP.nd, Nat.le_trans h2 (by decide), ?_⟩
      have hA3 := s.sq hA
      walk_at "s"
      rw [vI_len]
      rw [decide_eq_true rfl]
      exact q _ (s1.trans s)
    · refine .inr ?_
      walk_at "s"
      refine ⟨a, rfl, ⟨_, tup_of hL⟩, fun Dl nD => lc_pure (src_tup (xs := vI ns)) _ _ (by rw [vI_len]; omega) (fun H' s => tup_of (s _ _ hL)) turn nD fun H' s hD => ?_⟩
      walk_at "s"
      refine fin Dl H' nD s hD _ ?_
      walk_at "s"
      refine ⟨a, ns, rfl, .inr (tup_of (s _ _ hL)), hP.nd, Nat.le_trans h2 (by decide), ?_⟩
      have hA3 := s.sq hA
      walk_at "s"
      rw [vI_len]
      rw [decide_eq_true rfl]
      exact q _ (s1.trans s)
def spCheckedPlaces : Sp := fun vs H Q _ => ∃ (a : Addr) (ns : List Int), vs = [.ref a] ∧ Sq H a (vI ns) ∧ IsPl ns ∧ ∀ H' p, Same H H' → H p = none → H' p = some (.lst (vI ns)) → Q (.ref p) H'
theorem ok_checked_places {f : Addr} {fd : FuncData} (B : Bn mg) (D_is_place_list : Df P w K mg base 2 "is_place_list" [] spIsPlaceList)
   (F : Fun K "checked_places" "checked_places" Schecked_places f fd) : FnG P w K mg base 3 f fd ["value"] spCheckedPlaces := by
  refine gok F scchecked_places (fun vs H Q E h => ?_) (fun cdv A fs s H vs Q E hG hr h => ?_)
  · obtain ⟨_, _, rfl, _⟩ := h; rfl
  · obtain ⟨a, ns, rfl, h, hP, q⟩ := h
    have hu := hr.units
    refine ⟨_, (pss_cons (ps_if (pt_not (pt_val (pe_df D_is_place_list hG (hr.mono (by first | decide | omega)) passL (by rfl) (pa_cons (pv 0) pa_nil)))) (pss_one ps_never) pss_nil) (pss_one (ps_ret (pe_callTy (k_list K) (by rfl) B.list Tlist (pa_cons (pv 0) pa_nil))))), ?_⟩
    walk_at "s"
    refine ⟨a, ns, rfl, h, hP, fun H1 s1 => ?_⟩
    have hA := s1.sq h
    walk_at "s"
    intro u nu
    exact q _ u (s1.trans (same_new nu)) (s1.free nu) upd_same
end

abbrev Sis_pattern : Stmt := topS 14
abbrev Nis_pattern : List Str := ["value", "out", "letter"]
theorem scis_pattern : FnScope Nis_pattern ["value"] (defScope Sis_pattern) := ⟨rfl, rfl, rfl, by decide +kernel, rfl, by decide +kernel, by decide +kernel⟩
abbrev Scheck_pattern : Stmt := topS 15
abbrev Ncheck_pattern : List Str := ["value", "count"]
theorem sccheck_pattern : FnScope Ncheck_pattern ["value", "count"] (defScope Scheck_pattern) := ⟨rfl, rfl, rfl, by decide +kernel, rfl, by decide +kernel, by decide +kernel⟩
abbrev Sfilled_by : Stmt := topS 16
abbrev Nfilled_by : List Str := ["takes", "pattern", "gaps", "found", "taken", "letter"]
theorem scfilled_by : FnScope Nfilled_by ["takes", "pattern"] (defScope Sfilled_by) := ⟨rfl, rfl, rfl, by decide +kernel, rfl, by decide +kernel, by decide +kernel⟩
abbrev Sfills_by : Stmt := topS 17
abbrev Nfills_by : List Str := ["takes", "pattern", "places"]
theorem scfills_by : FnScope Nfills_by ["takes", "pattern"] (defScope Sfills_by) := ⟨rfl, rfl, rfl, by decide +kernel, rfl, by decide +kernel, by decide +kernel⟩

/-! patterns as texts -/
def sB (b : Bool) : Str := if b then "T" else "R"
def pS (p : List Bool) : Str := ⟨(p.map fun b => if b then 84 else 82).toArray⟩
theorem pS_len (p : List Bool) : (pS p).length = p.length := by
  show (p.map fun b => if b then 84 else 82).toArray.size = p.length
  rw [List.size_toArray, List.length_map]
theorem pS_at {p : List Bool} {i : Nat} {c : Nat} (h : (pS p).cps[i]? = some c) : ∃ b, p[i]? = some b ∧ (⟨#[c]⟩ : Str) = sB b := by
  have e : (pS p).cps[i]? = (p.map fun b => if b then 84 else 82)[i]? := by
    show (p.map fun b => if b then 84 else 82).toArray[i]? = _
    rw [List.getElem?_toArray]
  rw [e, List.getElem?_map] at h
  cases hb : p[i]? with
  | none => rw [hb] at h; cases h
  | some b =>
    rw [hb] at h
    refine ⟨b, rfl, ?_⟩
    have h' : (if b then 84 else 82) = c := Option.some.inj h
    subst h'
    cases b <;> decide
theorem pS_app (p : List Bool) (b : Bool) : pS p ++ sB b = pS (p ++ [b]) := by
  have e : sB b = ⟨#[if b then 84 else 82]⟩ := by cases b <;> decide
  rw [e]
  show (⟨(p.map fun b => if b then 84 else 82).toArray ++ #[if b then 84 else 82]⟩ : Str) = ⟨((p ++ [b]).map fun b => if b then 84 else 82).toArray⟩
  rw [List.map_append]
  simp
theorem sB_T (b : Bool) : decide (sB b = ("T" : Str)) = b := by cases b <;> decide
theorem pS_size (p : List Bool) : (pS p).cps.size = p.length := pS_len p
def dif : List Bool → Int
  | [] => 0
  | b :: l => (if b then 1 else -1) + dif l
theorem dif_app (p : List Bool) (b : Bool) : dif (p ++ [b]) = dif p + (if b then 1 else -1) := by
  induction p with
  | nil => show _ + (0 : Int) = 0 + _; omega
  | cons c p ih => show _ + dif (p ++ [b]) = _ + dif p + _; rw [ih]; omega
def tks : List Bool → Nat
  | [] => 0
  | b :: l => (if b then 1 else 0) + tks l
theorem tks_app (p : List Bool) (b : Bool) : tks (p ++ [b]) = tks p + (if b then 1 else 0) := by
  induction p with
  | nil => show _ + 0 = 0 + _; omega
  | cons c p ih => show _ + tks (p ++ [b]) = _ + tks p + _; rw [ih]; omega
theorem dif_tks (p : List Bool) : dif p = 2 * (tks p : Int) - (p.length : Int) := by
  induction p with
  | nil => rfl
  | cons b p ih =>
    show (if b then 1 else -1) + dif p = 2 * (((if b then 1 else 0) + tks p : Nat) : Int) - ((p.length + 1 : Nat) : Int)
    rw [ih]
    cases b <;> simp <;> omega
theorem tks_take_le (p : List Bool) : ∀ i, tks (p.take i) ≤ tks p := by
  induction p with
  | nil => intro i; rw [List.take_nil]; exact Nat.le_refl _
  | cons b p ih =>
    intro i
    cases i with
    | zero => exact Nat.zero_le _
    | succ i =>
      have := ih i
      show (if b then 1 else 0) + tks (p.take i) ≤ (if b then 1 else 0) + tks p
      omega
theorem take_succ {α : Type} {p : List α} {i : Nat} {b : α} (h : p[i]? = some b) : p.take (i + 1) = p.take i ++ [b] := by rw [List.take_add_one, h]; rfl
/-- a pattern of n places -/
structure IsPat (p : List Bool) (n : Nat) : Prop where
  len : p.length = 2 * n
  top : n ≤ 200
  nul : dif p = 0
  pos : ∀ k, 0 ≤ dif (p.take k)
theorem IsPat.tks {p : List Bool} {n : Nat} (h : IsPat p n) : tks p = n := by
  have := dif_tks p
  have := h.nul
  have := h.len
  omega
/-! what a pattern fills -/
def stepF (tk : List Int) (st : List Int × List Int × Nat) (b : Bool) : List Int × List Int × Nat :=
  if b then (st.1 ++ [tk.getD st.2.2 0], st.2.1, st.2.2 + 1) else (st.1.erase (minI st.1), st.2.1 ++ [minI st.1], st.2.2)
def runF (tk : List Int) (p : List Bool) : List Int × List Int × Nat := p.foldl (stepF tk) ([], [], 0)
theorem runF_app (tk : List Int) (p : List Bool) (b : Bool) : runF tk (p ++ [b]) = stepF tk (runF tk p) b := by
  unfold runF
  rw [List.foldl_append]
  rfl
def fillF (tk : List Int) (p : List Bool) : List Int := (runF tk p).2.1
theorem runF_tk (tk : List Int) {p : List Bool} (h : ∀ k, 0 ≤ dif (p.take k)) : ∀ i, i ≤ p.length → (runF tk (p.take i)).2.2 = tks (p.take i) ∧ ((runF tk (p.take i)).1.length : Int) = dif (p.take i) ∧ (runF tk (p.take i)).2.1.length + tks (p.take i) = i
  | 0, _ => by rw [List.take_zero]; exact ⟨rfl, rfl, rfl⟩
  | i + 1, hi => by
    obtain ⟨h1, h2, h3⟩ := runF_tk tk h i (by omega)
    have e := take_succ (List.getElem?_eq_getElem (show i < p.length by omega))
    have hp := h (i + 1)
    rw [e, runF_app, tks_app, dif_app] at *
    generalize p[i]'(by omega) = b at *
    cases b with
    | true =>
      refine ⟨by show (runF tk (p.take i)).2.2 + 1 = _; rw [h1]; rfl, ?_, by show (runF tk (p.take i)).2.1.length + (tks (p.take i) + 1) = i + 1; omega⟩
      show (((runF tk (p.take i)).1 ++ [_]).length : Int) = _
      rw [List.length_append, List.length_singleton, Int.natCast_add, h2]
      rfl
    | false =>
      have hp' : 0 ≤ dif (p.take i) + -1 := hp
      have ne : (runF tk (p.take i)).1 ≠ [] := fun z => by rw [z] at h2; simp at h2; omega
      refine ⟨by show (runF tk (p.take i)).2.2 = _ + 0; rw [h1]; rfl, ?_, by show ((runF tk (p.take i)).2.1 ++ [_]).length + (tks (p.take i) + 0) = i + 1; rw [List.length_append, List.length_singleton]; omega⟩
      show (((runF tk (p.take i)).1.erase _).length : Int) = dif (p.take i) + -1
      rw [List.length_erase_of_mem (minI_mem ne)]
      have := List.length_pos_iff.mpr ne
      omega
section
variable {P : Program} {w : World} {K : PySem.W.Frag} {mg : Str → Option Value} {base : Heap}
def spIsPattern : Sp := fun vs H Q _ => ∃ (p : List Bool) (n : Nat), vs = [.str (pS p)] ∧ IsPat p n ∧ ∀ H', Same H H' → Q (.bl true) H'
theorem ok_is_pattern {f : Addr} {fd : FuncData} {k : Nat} (B : Bn mg) (c_MAX_SIZE : Gc mg "MAX_SIZE" (.int 200)) (c_TAKING : Gc mg "TAKING" (.str "T")) (c_RETURNING : Gc mg "RETURNING" (.str "R"))
   (F : Fun K "is_pattern" "is_pattern" Sis_pattern f fd) : FnG P w K mg base (k + 1) f fd ["value"] spIsPattern := by
  refine gok F scis_pattern (fun vs H Q E h => ?_) (fun cdv A fs s H vs Q E hG hr h => ?_)
  · obtain ⟨_, _, rfl, _⟩ := h; rfl
  · obtain ⟨p, n, rfl, hP, q⟩ := h
    have hu := hr.units
    have h2 := hP.top
    have hl := hP.len
    have z2 : (pS p).length ≤ sizeLine := sz (by rw [pS_len]; omega)
    refine ⟨_, (pss_cons (ps_if (pw_or (pt_not (pt_val (pe_callB (k_isi K) (by rfl) B.isinstance Bisinstance (pa_cons (pv 0) (pa_cons (pe_bltn (v := .ty "str") (by rfl) B.str Tstr rfl) pa_nil))))) (pw_or1 (pt_not (pt_val (pe_callB (k_all K) (by rfl) B.all Ball (pa_cons (pe_lc (own := [("letter", 2)]) rfl scis_pattern.nd (pi_str (pv 0)) (blkOk_by (own := [("letter", 2)]) (N := Nis_pattern) (sc := defScope Sis_pattern) (by decide +kernel)) (fun _ _ _ _ _ => (pg_name (i := 2) scis_pattern.nd rfl (Or.inl rfl))) (fun _ _ _ _ _ => pts_nil) (fun _ _ _ _ _ => (pe_cmpR (k_in K) (pv 2) (pe_tup (pa_cons (pe_gc c_TAKING (by rfl)) (pa_cons (pe_gc c_RETURNING (by rfl)) pa_nil))) rfl))) pa_nil)))))).pt (pss_one (ps_ret pe_bl)) pss_nil) (pss_cons (ps_set (i := 1) scis_pattern.nd rfl (Or.inl rfl) pe_int) (pss_cons (ps_for (passes_of rfl) rfl (pi_str (pv 0)) (pg_name (i := 2) scis_pattern.nd rfl (Or.inl rfl)) (pss_cons (ps_aug (i := 1) scis_pattern.nd rfl (Or.inl rfl) (pe_ifExp (pt_cmpR op_eq (pv 2) (pe_gc c_TAKING (by rfl)) (nomark _)) pe_int (pe_un un_neg pe_int)) ip_add) (pss_one (ps_if (pt_cmpR op_lt (pv 1) pe_int (nomark _)) (pss_one (ps_ret pe_bl)) pss_nil)))) (pss_one (ps_ret (pe_and (pe_cmpR op_eq (pv 1) pe_int (nomark _)) (pe_one (pe_cmpR op_le (pe_callB call_lenS' (by rfl) B.len Blen (pa_cons (pv 0) pa_nil)) (pe_op op_mul pe_int (pe_gc c_MAX_SIZE (by rfl))) (nomark _))))))))), ?_⟩
    walk_at "s"
    refine ⟨_, rfl, fun Dl nD => ?_⟩
    refine lc_pure (src_str (x := pS p)) (fun _ => true) (fun _ => .bl true) (by rw [pS_size]; omega) (fun _ _ => trivial) ?_ nD fun H1 s1 hD => ?_
    · rintro i x H' H'' Yes No hi s ⟨rfl, c, hc, rfl⟩ hY hN
      obtain ⟨b, hb, eb⟩ := pS_at hc
      rw [eb]
      walk_at "s"
      refine ⟨rfl, ?_⟩
      walk_at "s"
      intro t nt
      walk_at "s"
      refine r_in (.inr (tup_of upd_same)) rfl rfl ?_
      rw [show inV (.str (sB b)) [.str "T", .str "R"] = true by cases b <;> decide]
      exact hY rfl _ (same_new nt)
    · walk_at "s"
      refine ⟨Dl, List.replicate (pS p).cps.size true, rfl, lst_of (hD.trans ?_), ?_⟩
      · rw [giv_const, List.map_replicate]
      rw [show (List.replicate (pS p).cps.size true).all id = true by simp]
      walk_at "s"
      refine ⟨_, rfl, ?_⟩
      refine for_src (src_str (x := pS p)) (fun i σ H' => ∃ v2, σ = [some (.str (pS p)), some (.int (dif (p.take i))), v2] ∧ Same H H') (fun _ _ _ _ => trivial) ⟨none, rfl, s1⟩ ?_ ?_
      · rintro i v σ H3 H2 hi ⟨v2, rfl, s2⟩ ⟨rfl, c, hc, rfl⟩
        obtain ⟨b, hb, eb⟩ := pS_at hc
        rw [eb]
        have hp := hP.pos (i + 1)
        have ed : dif (p.take (i + 1)) = dif (p.take i) + (if b then 1 else -1) := by rw [take_succ hb, dif_app]
        walk_at "s"
        rw [sB_T]
        cases b with
        | true =>
          have ed' : dif (p.take i) + 1 = dif (p.take (i + 1)) := ed.symm
          walk_at "s"
          rw [ed']
          refine ifDF (by omega) ?_
          walk_at "s"
          exact ⟨_, rfl, s2⟩
        | false =>
          have ed' : dif (p.take i) + -1 = dif (p.take (i + 1)) := ed.symm
          walk_at "s"
          rw [ed']
          refine ifDF (by omega) ?_
          walk_at "s"
          exact ⟨_, rfl, s2⟩
      · rintro σ H2 ⟨v2, rfl, s2⟩
        rw [pS_size, List.take_length, hP.nul]
        walk_at "s"
        rw [decide_eq_true (by rw [pS_len]; omega)]
        exact q _ s2
def spCheckPattern : Sp := fun vs H Q _ => ∃ (p : List Bool) (n : Nat), vs = [.str (pS p), .int n] ∧ IsPat p n ∧ ∀ H', Same H H' → Q .non H'
theorem ok_check_pattern {f : Addr} {fd : FuncData} (B : Bn mg) (D_is_pattern : Df P w K mg base 1 "is_pattern" [] spIsPattern)
   (F : Fun K "check_pattern" "check_pattern" Scheck_pattern f fd) : FnG P w K mg base 2 f fd ["value", "count"] spCheckPattern := by
  refine gok F sccheck_pattern (fun vs H Q E h => ?_) (fun cdv A fs s H vs Q E hG hr h => ?_)
  · obtain ⟨_, _, rfl, _⟩ := h; rfl
  · obtain ⟨p, n, rfl, hP, q⟩ := h
    have hu := hr.units
    have h2 := hP.top
    have hl := hP.len
    have z2 : (pS p).length ≤ sizeLine := sz (by rw [pS_len]; omega)
    refine ⟨_, (pss_one (ps_if (pw_or (pt_not (pt_val (pe_df D_is_pattern hG (hr.mono (by first | decide | omega)) passL (by rfl) (pa_cons (pv 0) pa_nil)))) (pw_or1 (pt_cmpR op_ne (pe_callB call_lenS' (by rfl) B.len Blen (pa_cons (pv 0) pa_nil)) (pe_op op_mul pe_int (pv 1)) (nomark _)))).pt (pss_one ps_never) pss_nil)), ?_⟩
    walk_at "s"
    refine ⟨p, n, rfl, hP, fun H1 s1 => ?_⟩
    walk_at "s"
    refine ifNF (by rw [pS_len]; omega) ?_
    walk_at "s"
    exact q _ s1
def spFilledBy : Sp := fun vs H Q _ => ∃ (a : Addr) (tk : List Int) (p : List Bool), vs = [.ref a, .str (pS p)] ∧ H a = some (.lst (vI tk)) ∧ IsPat p tk.length ∧ ∀ H' q, Same H H' → H q = none → H' q = some (.lst (vI (fillF tk p))) → Q (.ref q) H'
theorem ok_filled_by {f : Addr} {fd : FuncData} {k : Nat} (B : Bn mg) (c_TAKING : Gc mg "TAKING" (.str "T"))
   (F : Fun K "filled_by" "filled_by" Sfilled_by f fd) : FnG P w K mg base (k + 1) f fd ["takes", "pattern"] spFilledBy := by
  refine gok F scfilled_by (fun vs H Q E h => ?_) (fun cdv A fs s H vs Q E hG hr h => ?_)
  · obtain ⟨_, _, _, rfl, _⟩ := h; rfl
  · obtain ⟨a, tk, p, rfl, hA, hP, q⟩ := h
    have hu := hr.units
    have h2 := hP.top
    have hl := hP.len
    refine ⟨_, (pss_cons (ps_par (i := 2) (j := 3) rfl scfilled_by.nd rfl rfl (by decide) rfl rfl (pa_cons (pe_lst pa_nil) (pa_cons (pe_lst pa_nil) pa_nil)) (by with_unfolding_all rfl)) (pss_cons (ps_set (i := 4) scfilled_by.nd rfl (Or.inl rfl) pe_int) (pss_cons (ps_for (passes_of rfl) rfl (pi_str (pv 1)) (pg_name (i := 5) scfilled_by.nd rfl (Or.inl rfl)) (pss_one (ps_if (pt_cmpR op_eq (pv 5) (pe_gc c_TAKING (by rfl)) (nomark _)) (pss_cons (ps_set (i := 2) scfilled_by.nd rfl (Or.inl rfl) (pe_callB (k_sorted K) (by rfl) B.sorted Bsorted (pa_cons (pe_op op_cat (pv 2) (pe_lst (pa_cons (pe_ix (k_ixL K) (pv 0) (pv 4) (fun _ _ => rfl)) pa_nil))) pa_nil))) (pss_one (ps_aug (i := 4) scfilled_by.nd rfl (Or.inl rfl) pe_int ip_add))) (pss_one (ps_expr (k_bmP K (pe_bm PySem.F.plainAttrs_list PySem.F.slot_list_append PySem.F.type_list_append mt_append (pv 3) (pa_cons (k_bmP K (pe_bm PySem.F.plainAttrs_list PySem.F.slot_list_pop PySem.F.type_list_pop mt_popAt (pv 2) (pa_cons pe_int pa_nil))) pa_nil)))))))) (pss_one (ps_ret (pv 3)))))), ?_⟩
    walk_at "s"
    intro g0 n0
    have s1 := same_new (o := .lst []) n0
    walk_at "s"
    intro fo nf
    have s2 := same_new (o := .lst []) nf
    have nfo : H fo = none := s1.free nf
    walk_at "s"
    refine ⟨_, rfl, ?_⟩
    refine for_src (src_str (x := pS p)) (fun i σ H' => ∃ g gs v5, σ = [some (.ref a), some (.str (pS p)), some (.ref g), some (.ref fo), some (.int ((runF tk (p.take i)).2.2 : Nat)), v5] ∧ Same H H' ∧ H g = none ∧ g ≠ fo ∧ H' g = some (.lst (vI gs)) ∧ gs.Perm (runF tk (p.take i)).1 ∧ gs.Pairwise (· ≤ ·) ∧ H' fo = some (.lst (vI (runF tk (p.take i)).2.1)))
      (fun _ _ _ _ => trivial) ⟨g0, [], none, rfl, s1.trans s2, n0, ne_new nf upd_same, (upd_ne (ne_new nf upd_same)).trans upd_same, .refl _, .nil, upd_same⟩ ?_ ?_
    · rintro i v σ H1 H1' hi ⟨g, gs, v5, rfl, sA, ng, ngf, hg, hp, hs, hf⟩ ⟨rfl, c, hc, rfl⟩
      obtain ⟨b, hb, eb⟩ := pS_at hc
      rw [pS_size] at hi
      obtain ⟨r1, r2, r3⟩ := runF_tk tk hP.pos i (by omega)
      have et := take_succ hb
      have er := runF_app tk (p.take i) b
      rw [← et] at er
      have hA1 := sA _ _ hA
      have gl : gs.length = (runF tk (p.take i)).1.length := hp.length_eq
      have gl2 : gs.length ≤ 1000 := by have := dif_tks (p.take i); have := List.length_take_le i p; omega
      rw [eb]
      walk_at "s"
      rw [sB_T]
      cases b with
      | true =>
        have tl : tks (p.take (i + 1)) ≤ tks p := tks_take_le p _
        rw [et, tks_app, hP.tks] at tl
        have tl' : tks (p.take i) + 1 ≤ tk.length := tl
        have ea : atI (vI tk) ((runF tk (p.take i)).2.2 : Nat) = some (.int (tk.getD (runF tk (p.take i)).2.2 0)) := by
          have := atI_ints (ns := tk) (i := ((runF tk (p.take i)).2.2 : Nat)) (by omega) (by omega)
          rw [Int.toNat_natCast] at this
          exact this
        walk_at "s"
        intro t nt
        refine r_cat (xs := vI gs) (zs := vI [tk.getD (runF tk (p.take i)).2.2 0]) (by walk_at "hp") upd_same (sz (by rw [vI_len]; show gs.length + 1 ≤ _; omega)) fun u nu => ?_
        rw [vI_app]
        walk_at "s"
        refine r_sortI (lst_of upd_same) fun ns' z hz1 hz2 nz => ?_
        have s3 := (same_new nt).trans (same_new (o := .lst (vI (gs ++ [tk.getD (runF tk (p.take i)).2.2 0]))) nu)
        have s4 := s3.trans (same_new (o := .lst (vI ns')) nz)
        walk_at "s"
        rw [er]
        exact ⟨z, ns', _, rfl, sA.trans s4, (sA.trans s3).free nz, (ne_new nz (s3 _ _ hf)).symm, upd_same, hz1.trans (hp.append_right _), hz2, s4 _ _ hf⟩
      | false =>
        have hp1 := hP.pos (i + 1)
        rw [et, dif_app] at hp1
        have hp1' : 0 ≤ dif (p.take i) + -1 := hp1
        obtain ⟨m, gt, rfl⟩ : ∃ m gt, gs = m :: gt := by
          cases gs with
          | nil => simp at gl; omega
          | cons m gt => exact ⟨m, gt, rfl⟩
        rw [List.pairwise_cons] at hs
        have em : m = minI (runF tk (p.take i)).1 := minI_eq (hp.mem_iff.mp List.mem_cons_self) fun y hy => by
          rcases List.mem_cons.mp (hp.mem_iff.mpr hy) with e | hy
          · omega
          · exact hs.1 y hy
        have ep : gt.Perm ((runF tk (p.take i)).1.erase m) := by
          have := hp.erase m
          rw [List.erase_cons_head] at this
          exact this
        have lf : (vI (runF tk (p.take i)).2.1).length ≤ 1000 := by rw [vI_len]; omega
        walk_at "s"
        refine r_popAt (xs := vI (m :: gt)) hg (by decide) (by rw [vI_len, List.length_cons]; omega) (by rw [vI_len]; omega) (y := .int m) rfl ?_
        have hf' : upd H1' g (.lst ((vI (m :: gt)).eraseIdx (0 : Int).toNat)) fo = some (.lst (vI (runF tk (p.take i)).2.1)) := (upd_ne ngf.symm).trans hf
        walk_at "s"
        rw [er]
        refine ⟨g, gt, _, rfl, same_set (same_set sA ng) nfo, ng, ngf, (upd_ne ngf).trans upd_same, ?_, hs.2, ?_⟩
        · show gt.Perm ((runF tk (p.take i)).1.erase (minI (runF tk (p.take i)).1))
          rw [← em]
          exact ep
        · rw [upd_same, em]
          show some (HO.lst (vI _ ++ vI [_])) = _
          rw [vI_app]
          rfl
    · rintro σ H1 ⟨g, gs, v5, rfl, sA, ng, ngf, hg, hp, hs, hf⟩
      rw [pS_size, List.take_length] at hf
      walk_at "s"
      exact q _ _ sA nfo hf
def spFillsBy : Sp := fun vs H Q _ => ∃ (a : Addr) (tk : List Int) (p : List Bool), vs = [.ref a, .str (pS p)] ∧ Sq H a (vI tk) ∧ IsPl tk ∧ IsPat p tk.length ∧ ∀ H' q, Same H H' → H q = none → H' q = some (.lst (vI (fillF tk p))) → Q (.ref q) H'
theorem ok_fills_by {f : Addr} {fd : FuncData} (B : Bn mg) (D_checked_places : Df P w K mg base 3 "checked_places" [] spCheckedPlaces) (D_check_pattern : Df P w K mg base 2 "check_pattern" [] spCheckPattern) (D_filled_by : Df P w K mg base 1 "filled_by" [] spFilledBy)
   (F : Fun K "fills_by" "fills_by" Sfills_by f fd) : FnG P w K mg base 4 f fd ["takes", "pattern"] spFillsBy := by
  refine gok F scfills_by (fun vs H Q E h => ?_) (fun cdv A fs s H vs Q E hG hr h => ?_)
  · obtain ⟨_, _, _, rfl, _⟩ := h; rfl
  · obtain ⟨a, tk, p, rfl, hA, hL, hP, q⟩ := h
    have hu := hr.units
    refine ⟨_, (pss_cons (ps_set (i := 2) scfills_by.nd rfl (Or.inl rfl) (pe_df D_checked_places hG (hr.mono (by first | decide | omega)) passL (by rfl) (pa_cons (pv 0) pa_nil))) (pss_cons (ps_expr (pe_df D_check_pattern hG (hr.mono (by first | decide | omega)) passL (by rfl) (pa_cons (pv 1) (pa_cons (pe_callB (k_len K) (by rfl) B.len Blen (pa_cons (pv 2) pa_nil)) pa_nil)))) (pss_one (ps_ret (pe_df D_filled_by hG (hr.mono (by first | decide | omega)) passL (by rfl) (pa_cons (pv 2) (pa_cons (pv 1) pa_nil))))))), ?_⟩
    walk_at "s"
    refine ⟨a, tk, rfl, hA, hL, fun H1 b s1 nb hb => ?_⟩
    walk_at "s"
    refine ⟨p, tk.length, by rw [vI_len]; rfl, hP, fun H2 s2 => ?_⟩
    walk_at "s"
    refine ⟨b, tk, p, rfl, s2 _ _ hb, hP, fun H3 q3 s3 n3 h3 => ?_⟩
    walk_at "s"
    exact q _ q3 ((s1.trans s2).trans s3) ((s1.trans s2).free n3) h3
end

abbrev Slaw_bag : Stmt := topS 19
abbrev Nlaw_bag : List Str := ["script", "total", "cell"]
theorem sclaw_bag : FnScope Nlaw_bag ["script"] (defScope Slaw_bag) := ⟨rfl, rfl, rfl, by decide +kernel, rfl, by decide +kernel, by decide +kernel⟩
abbrev Slaw_stir : Stmt := topS 20
abbrev Nlaw_stir : List Str := ["number", "place", "one", "two"]
theorem sclaw_stir : FnScope Nlaw_stir ["number", "place"] (defScope Slaw_stir) := ⟨rfl, rfl, rfl, by decide +kernel, rfl, by decide +kernel, by decide +kernel⟩
abbrev Slaw_draw : Stmt := topS 21
abbrev Nlaw_draw : List Str := ["bag", "bound", "cell", "found"]
theorem sclaw_draw : FnScope Nlaw_draw ["bag", "bound"] (defScope Slaw_draw) := ⟨rfl, rfl, rfl, by decide +kernel, rfl, by decide +kernel, by decide +kernel⟩
abbrev Slaw_shuffled : Stmt := topS 22
abbrev Nlaw_shuffled : List Str := ["bag", "items", "left", "step"]
theorem sclaw_shuffled : FnScope Nlaw_shuffled ["bag", "items"] (defScope Slaw_shuffled) := ⟨rfl, rfl, rfl, by decide +kernel, rfl, by decide +kernel, by decide +kernel⟩

/-- the bag at r, its cells at l, at most n draws made -/
def BagAt (H : Hp) (r l : Addr) (n : Nat) : Prop := ∃ (cs : List Int) (i : Nat) (x c t : Int), H r = some (.lst [.ref l, .int i, .int x, .int c, .int t]) ∧ H l = some (.lst (vI cs)) ∧ l ≠ r ∧ i ≤ cs.length ∧ cs.length ≤ 100000 ∧ 0 ≤ x ∧ 0 ≤ c ∧ c ≤ n ∧ 0 ≤ t ∧ t < 2305843009213693951
theorem BagAt.same {H H' : Hp} {r l : Addr} {n : Nat} (h : BagAt H r l n) (s : Same H H') : BagAt H' r l n := by
  obtain ⟨cs, i, x, c, t, h, h2, z⟩ := h
  exact ⟨cs, i, x, c, t, s _ _ h, s _ _ h2, z⟩
theorem BagAt.mono {H : Hp} {r l : Addr} {n m : Nat} (h : BagAt H r l n) (k : n ≤ m) : BagAt H r l m := by
  obtain ⟨cs, i, x, c, t, h, h2, h3, h4, h5, h6, h7, h8, h9⟩ := h
  exact ⟨cs, i, x, c, t, h, h2, h3, h4, h5, h6, h7, by omega, h9⟩
theorem BagAt.got {H : Hp} {r l : Addr} {n : Nat} (h : BagAt H r l n) : H r ≠ none ∧ H l ≠ none := by
  obtain ⟨cs, i, x, c, t, h, h2, z⟩ := h
  rw [h, h2]; simp
theorem BagAt.ne {H : Hp} {r l p : Addr} {n : Nat} (h : BagAt H r l n) (e : H p = none) : r ≠ p ∧ l ≠ p := ⟨fun z => h.got.1 (z ▸ e), fun z => h.got.2 (z ▸ e)⟩
theorem BagAt.upd {H : Hp} {r l p : Addr} {n : Nat} {o : HO} (h : BagAt H r l n) (e : r ≠ p ∧ l ≠ p) : BagAt (L2.upd H p o) r l n := by
  obtain ⟨cs, i, x, c, t, h, h2, z⟩ := h
  exact ⟨cs, i, x, c, t, (upd_ne e.1).trans h, (upd_ne e.2).trans h2, z⟩
section
variable {P : Program} {w : World} {K : PySem.W.Frag} {mg : Str → Option Value} {base : Heap}
def spStir : Sp := fun vs H Q _ => ∃ a b : Int, vs = [.int a, .int b] ∧ 0 ≤ a ∧ a < 2305843009213693951 ∧ 0 ≤ b ∧ b < 1000000000000000000 ∧ ∀ v : Int, Q (.int v) H
theorem ok_law_stir {f : Addr} {fd : FuncData} {k : Nat} (F : Fun K "_law_stir" "_law_stir" Slaw_stir f fd) : FnG P w K mg base (k + 1) f fd ["number", "place"] spStir := by
  refine gok F sclaw_stir (fun vs H Q E h => ?_) (fun cdv A fs s H vs Q E hG hr h => ?_)
  · obtain ⟨_, _, rfl, _⟩ := h; rfl
  · obtain ⟨a, b, rfl, a0, a1, b0, b1, q⟩ := h
    have hu := hr.units
    refine ⟨_, (pss_cons (ps_set (i := 2) sclaw_stir.nd rfl (Or.inl rfl) (pe_op op_mod (pe_op op_add (pe_op op_add (pe_op op_mul (pv 0) pe_int) (pe_op op_mul (pv 1) pe_int)) pe_int) pe_int)) (pss_cons (ps_set (i := 3) sclaw_stir.nd rfl (Or.inl rfl) (pe_op op_mod (pe_op op_mul (pv 2) (pv 2)) pe_int)) (pss_one (ps_ret (pe_op op_fdivW (pe_op op_mod (pe_op op_add (pe_op op_add (pe_op op_mul (pv 3) pe_int) (pe_op op_mul (pe_op op_mul (pv 1) (pv 1)) pe_int)) (pe_op op_fdivW (pv 2) pe_int)) pe_int) pe_int))))), ?_⟩
    walk_at "s"
    exact q _
def spDraw : Sp := fun vs H Q _ => ∃ (r l : Addr) (b : Int) (n : Nat), vs = [.ref r, .int b] ∧ BagAt H r l n ∧ n < 100000000000 ∧ 0 < b ∧ b < 2 ^ 200 ∧ ∀ d H', 0 ≤ d → d < b → BagAt H' r l (n + 1) → Kp r H H' → Q (.int d) H'
theorem ok_law_draw {f : Addr} {fd : FuncData} (B : Bn mg) (D_law_stir : Df P w K mg base 1 "_law_stir" [] spStir) (F : Fun K "_law_draw" "_law_draw" Slaw_draw f fd) : FnG P w K mg base 2 f fd ["bag", "bound"] spDraw := by
  refine gok F sclaw_draw (fun vs H Q E h => ?_) (fun cdv A fs s H vs Q E hG hr h => ?_)
  · obtain ⟨_, _, _, _, rfl, _⟩ := h; rfl
  · obtain ⟨r, l, b, n, rfl, ⟨cs, i, x, c, t, hR, hL, nl, hi, hl, x0, c0, cn, t0, t1⟩, hn, b0, b1, q⟩ := h
    have hu := hr.units
    have md : ∀ y : Int, 0 ≤ y % b ∧ y % b < b := fun y => ⟨Int.emod_nonneg _ (by omega), Int.emod_lt_of_pos _ b0⟩
    have mM : ∀ y : Int, 0 ≤ y % 2305843009213693951 ∧ y % 2305843009213693951 < 2305843009213693951 := fun y => ⟨Int.emod_nonneg _ (by decide), Int.emod_lt_of_pos _ (by decide)⟩
    have hbc : ((n + 1 : Nat) : Int) = (n : Int) + 1 := rfl
    refine ⟨_, (pss_cons (ps_if (pt_cmpR op_eq (pv 1) pe_int (nomark _)) (pss_one (ps_ret pe_int)) pss_nil) (pss_cons (ps_asg (pe_op op_add (pe_ix (k_ixL K) (pv 0) pe_int (fun _ _ => rfl)) pe_int) (pg_sub (pv 0) pe_int set_list)) (pss_cons (ps_if (pw_and (pt_cmpR op_lt (pe_ix (k_ixL K) (pv 0) pe_int (fun _ _ => rfl)) pe_int (nomark _)) (pw_and1 (pt_cmpR op_eq (pe_ix (k_ixL K) (pv 0) pe_int (fun _ _ => rfl)) (pe_callB (k_len K) (by rfl) B.len Blen (pa_cons (pe_ix (k_ixL K) (pv 0) pe_int (fun _ _ => rfl)) pa_nil)) (nomark _)))).pt (pss_one (ps_ret (pe_op op_mod (pe_df D_law_stir hG (hr.mono (by first | decide | omega)) passL (by rfl) (pa_cons (pe_ix (k_ixL K) (pv 0) pe_int (fun _ _ => rfl)) (pa_cons (pe_ix (k_ixL K) (pv 0) pe_int (fun _ _ => rfl)) pa_nil))) (pv 1)))) pss_nil) (pss_cons (ps_if (pt_cmpR op_lt (pe_ix (k_ixL K) (pv 0) pe_int (fun _ _ => rfl)) pe_int (nomark _)) (pss_cons (ps_set (i := 2) sclaw_draw.nd rfl (Or.inl rfl) (pe_ix (k_ixL K) (pe_ix (k_ixL K) (pv 0) pe_int (fun _ _ => rfl)) (pe_ix (k_ixL K) (pv 0) pe_int (fun _ _ => rfl)) (fun _ _ => rfl))) (pss_cons (ps_asg (pe_op op_add (pe_ix (k_ixL K) (pv 0) pe_int (fun _ _ => rfl)) pe_int) (pg_sub (pv 0) pe_int set_list)) (pss_cons (ps_if (pt_cmpR op_lt (pv 2) (pe_op op_pow pe_int pe_int) (nomark _)) (pss_one (ps_ret (pe_op op_mod (pe_df D_law_stir hG (hr.mono (by first | decide | omega)) passL (by rfl) (pa_cons (pe_op op_mod (pv 2) pe_int) (pa_cons (pe_ix (k_ixL K) (pv 0) pe_int (fun _ _ => rfl)) pa_nil))) (pv 1)))) pss_nil) (pss_one (ps_asg (pe_op op_sub (pv 2) (pe_op op_pow pe_int pe_int)) (pg_sub (pv 0) pe_int set_list)))))) pss_nil) (pss_cons (ps_set (i := 3) sclaw_draw.nd rfl (Or.inl rfl) (pe_op op_mod (pe_ix (k_ixL K) (pv 0) pe_int (fun _ _ => rfl)) (pv 1))) (pss_cons (ps_asg (pe_op op_fdivW (pe_ix (k_ixL K) (pv 0) pe_int (fun _ _ => rfl)) (pv 1)) (pg_sub (pv 0) pe_int set_list)) (pss_one (ps_ret (pv 3))))))))), ?_⟩
    walk_at "s"
    refine ifD (fun h1 => ?_) (fun h1 => ?_)
    · walk_at "s"
      exact q 0 H (Int.le_refl _) b0 ⟨cs, i, x, c, t, hR, hL, nl, hi, hl, x0, c0, by omega, t0, t1⟩ (Kp.refl _ _)
    · walk_at "s"
      have hL1 : upd H r (.lst ([V.ref l, .int i, .int x, .int c, .int t].set 3 (.int (c + 1)))) l = some (.lst (vI cs)) := (upd_ne nl).trans hL
      refine ifD (fun h2 => ?_) (fun h2 => ?_)
      · walk_at "s"
        rw [vI_len]
        refine ifD (fun h3 => ?_) (fun h3 => ?_)
        · walk_at "s"
          refine ⟨t, c + 1, rfl, t0, t1, by omega, by omega, fun v => ?_⟩
          walk_at "s"
          exact q _ _ (md v).1 (md v).2 ⟨cs, i, x, c + 1, t, upd_same, hL1, nl, hi, hl, x0, by omega, by omega, t0, t1⟩ Kp.set
        · walk_at "s"
          refine ifDT h2 ?_
          have ei : atI (vI cs) (i : Int) = some (.int (cs[i]'(by omega))) := atI_nat (vI_at (by omega))
          walk_at "s"
          refine ifD (fun h4 => ?_) (fun h4 => ?_)
          · walk_at "s"
            refine ⟨_, c + 1, rfl, (mM _).1, (mM _).2, by omega, by omega, fun v => ?_⟩
            walk_at "s"
            exact q _ _ (md v).1 (md v).2 ⟨cs, i + 1, x, c + 1, t, upd_same, (upd_ne nl).trans hL1, nl, by omega, hl, x0, by omega, by omega, t0, t1⟩ (Kp.set.trans Kp.set)
          · have h4' : 0 ≤ cs[i]'(by omega) - 10 ^ Int.toNat 18 := by omega
            walk_at "s"
            exact q _ _ (md _).1 (md _).2 ⟨cs, i + 1, _, c + 1, t, upd_same, (upd_ne nl).trans ((upd_ne nl).trans ((upd_ne nl).trans hL1)), nl, by omega, hl, Int.ediv_nonneg h4' (by omega), by omega, by omega, t0, t1⟩ (((Kp.set.trans Kp.set).trans Kp.set).trans Kp.set)
      · walk_at "s"
        refine ifDF h2 ?_
        walk_at "s"
        exact q _ _ (md _).1 (md _).2 ⟨cs, i, _, c + 1, t, upd_same, (upd_ne nl).trans hL1, nl, by omega, hl, Int.ediv_nonneg x0 (by omega), by omega, by omega, t0, t1⟩ (Kp.set.trans Kp.set)
def spBag (K : PySem.W.Frag) : Sp := fun vs H Q _ => ∃ (a : Addr) (ns : List Int), vs = [.ref a] ∧ SqL K H a (ns.map V.int) ∧ ns.length ≤ 63 ∧ ∀ H' r l, Same H H' → H r = none → BagAt H' r l 0 → Q (.ref r) H'
theorem ok_law_bag {f : Addr} {fd : FuncData} {k : Nat} (B : Bn mg) (F : Fun K "_law_bag" "_law_bag" Slaw_bag f fd) : FnG P w K mg base (k + 1) f fd ["script"] (spBag K) := by
  refine gok F sclaw_bag (fun vs H Q E h => ?_) (fun cdv A fs s H vs Q E hG hr h => ?_)
  · obtain ⟨_, _, rfl, _⟩ := h; rfl
  · obtain ⟨a, ns, rfl, hA, hl, q⟩ := h
    have hu := hr.units
    have mM : ∀ y : Int, 0 ≤ y % 2305843009213693951 ∧ y % 2305843009213693951 < 2305843009213693951 := fun y => ⟨Int.emod_nonneg _ (by decide), Int.emod_lt_of_pos _ (by decide)⟩
    refine ⟨_, (pss_cons (ps_set (i := 1) sclaw_bag.nd rfl (Or.inl rfl) pe_int) (pss_cons (ps_for (passes_of rfl) rfl (k_piL K (pv 0)) (pg_name (i := 2) sclaw_bag.nd rfl (Or.inl rfl)) (pss_one (ps_set (i := 1) sclaw_bag.nd rfl (Or.inl rfl) (pe_op op_mod (pe_op op_add (pe_op op_add (pe_op op_mul (pv 1) pe_int) (pe_op op_mod (pv 2) pe_int)) pe_int) pe_int)))) (pss_one (ps_ret (pe_lst (pa_cons (pe_callTy (k_list K) (by rfl) B.list Tlist (pa_cons (pv 0) pa_nil)) (pa_cons pe_int (pa_cons pe_int (pa_cons pe_int (pa_cons (pv 1) pa_nil)))))))))), ?_⟩
    walk_at "s"
    refine ⟨a, rfl, ⟨_, hA⟩, ?_⟩
    refine for_src (src_list (xs := ns.map V.int)) (fun i σ H' => ∃ (t : Int) (v2 : Option V), σ = [some (.ref a), some (.int t), v2] ∧ H' = H ∧ 0 ≤ t ∧ t < 2305843009213693951) (fun i σ H' h => by obtain ⟨_, _, _, h, _⟩ := h; rw [h]; exact hA) ⟨1, none, rfl, rfl, by decide, by decide⟩ ?_ ?_
    · rintro i v σ H1 H1' hi ⟨t, v2, rfl, rfl, t0, t1⟩ ⟨rfl, hv⟩
      rw [List.length_map] at hi
      have e := vI_at hi
      have hv' := e.symm.trans hv
      cases hv'
      walk_at "s"
      exact ⟨_, _, rfl, rfl, (mM _).1, (mM _).2⟩
    · rintro σ H1 ⟨t, v2, rfl, rfl, t0, t1⟩
      walk_at "s"
      intro l nl
      walk_at "s"
      intro r nr
      have s1 := same_new (o := .lst (vI ns)) nl
      exact q _ r l (s1.trans (same_new nr)) (s1.free nr) ⟨ns, 0, 0, 0, t, upd_same, (same_new nr) _ _ upd_same, ne_new nr upd_same, Nat.zero_le _, by omega, by decide, by decide, by decide, t0, t1⟩
def spShuffled : Sp := fun vs H Q _ => ∃ (r l a : Addr) (n : Nat) (xs : List V), vs = [.ref r, .ref a] ∧ BagAt H r l n ∧ n + xs.length < 100000000000 ∧ Sq H a xs ∧ a ≠ r ∧ xs.length ≤ 100000 ∧ ∀ ys p H', ys.Perm xs → BagAt H' r l (n + xs.length) → Kp r H H' → H p = none → H' p = some (.lst ys) → Q (.ref p) H'
theorem erase_perm {α : Type} : ∀ (l : List α) (i : Nat) (h : i < l.length), ([l[i]] ++ l.eraseIdx i).Perm l
  | x :: l, 0, _ => .refl _
  | x :: l, i + 1, h => by
    have ih := erase_perm l i (Nat.lt_of_succ_lt_succ h)
    exact (List.Perm.swap x _ _).trans (ih.cons x)
theorem ok_law_shuffled {f : Addr} {fd : FuncData} (B : Bn mg) (D_law_draw : Df P w K mg base 2 "_law_draw" [] spDraw) (F : Fun K "_law_shuffled" "_law_shuffled" Slaw_shuffled f fd) : FnG P w K mg base 3 f fd ["bag", "items"] spShuffled := by
  refine gok F sclaw_shuffled (fun vs H Q E h => ?_) (fun cdv A fs s H vs Q E hG hr h => ?_)
  · obtain ⟨_, _, _, _, _, rfl, _⟩ := h; rfl
  · obtain ⟨r, l, a, n, xs, rfl, hS, hn, hA, nar, hl, q⟩ := h
    have hu := hr.units
    refine ⟨_, (pss_cons (ps_set (i := 2) sclaw_shuffled.nd rfl (Or.inr rfl) (pe_callTy (k_list K) (by rfl) B.list Tlist (pa_cons (pv 1) pa_nil))) (pss_one (ps_ret (pe_lc (own := [("step", 3)]) rfl sclaw_shuffled.nd (pi_range1 (by rfl) B.range (pa_cons (pe_callB (k_len K) (by rfl) B.len Blen (pa_cons (pv 1) pa_nil)) pa_nil)) (blkOk_by (own := [("step", 3)]) (N := Nlaw_shuffled) (sc := defScope Slaw_shuffled) (by decide +kernel)) (fun _ _ _ _ _ => (pg_name (i := 3) sclaw_shuffled.nd rfl (Or.inl rfl))) (fun _ _ _ _ _ => pts_nil) (fun _ _ _ _ _ => (k_bmP K (pe_bm PySem.F.plainAttrs_list PySem.F.slot_list_pop PySem.F.type_list_pop mt_popAt (pv 2) (pa_cons (pe_df D_law_draw hG (hr.mono (by first | decide | omega)) passL (by rfl) (pa_cons (pv 0) (pa_cons (pe_callB (k_len K) (by rfl) B.len Blen (pa_cons (pv 2) pa_nil)) pa_nil))) pa_nil)))))))), ?_⟩
    walk_at "s"
    intro left nl
    have s1 := same_new (o := .lst xs) nl
    have hA1 := s1.sq hA
    have hS1 := hS.same s1
    walk_at "s"
    refine ⟨_, rfl, by omega, by omega, fun Dl nD => ?_⟩
    rw [Int.toNat_natCast]
    have nr := hS.ne nl
    have nrD := hS1.ne nD
    have nlD : left ≠ Dl := ne_new nD upd_same
    refine lc_src src_range (fun i H' => ∃ acc lf, acc.length = i ∧ (acc ++ lf).Perm xs ∧ H' left = some (.lst lf) ∧ H' Dl = some (.lst acc) ∧ Kp r H H' ∧ BagAt H' r l (n + i)) (fun _ _ _ => trivial) ⟨[], xs, rfl, .refl _, (upd_ne nlD).trans upd_same, upd_same, Kp.of (s1.trans (same_new nD)), hS1.same (same_new nD)⟩ ?_ ?_
    · rintro i v H1 H1' hi ⟨acc, lf, ha, hp, hL, hD, hK, hS2⟩ ⟨rfl, rfl⟩
      have ll : acc.length + lf.length = xs.length := by rw [← List.length_append]; exact hp.length_eq
      walk_at "s"
      refine ⟨rfl, ?_⟩
      walk_at "s"
      refine ⟨r, l, _, n + i, rfl, hS2, by omega, by omega, by have : (lf.length : Int) ≤ 100000 := by omega
                                                               have e : (100000 : Int) < 2 ^ 200 := by decide
                                                               omega, fun d H3 d0 d1 hS3 hK3 => ?_⟩
      have hL3 := hK3.get nr.1.symm hL
      have hD3 := hK3.get nrD.1.symm hD
      have hx : lf[d.toNat]? = some (lf[d.toNat]'(by omega)) := List.getElem?_eq_getElem (by omega)
      walk_at "s"
      refine r_popAt hL3 d0 d1 (by omega) hx ?_
      walk_at "s"
      refine ⟨acc, (upd_ne nlD.symm).trans hD3, szl (by omega), ?_⟩
      refine ⟨acc ++ [lf[d.toNat]'(by omega)], lf.eraseIdx d.toNat, by rw [List.length_append, ha]; rfl, ?_, (upd_ne nlD).trans upd_same, upd_same, ((hK.trans hK3).put nl).put (s1.free nD), (hS3.upd nr).upd nrD⟩
      refine List.Perm.trans ?_ hp
      rw [List.append_assoc]
      refine List.Perm.append_left acc ?_
      exact erase_perm _ _ (by omega)
    · rintro H1 ⟨acc, lf, ha, hp, hL, hD, hK, hS2⟩
      have ll : acc.length + lf.length = xs.length := by rw [← List.length_append]; exact hp.length_eq
      have e : lf = [] := List.length_eq_zero_iff.mp (by omega)
      subst e
      rw [List.append_nil] at hp
      exact q acc Dl H1 hp hS2 hK (s1.free nD) hD
end

abbrev Slaw_either : Stmt := topS 23
abbrev Nlaw_either : List Str := ["bag", "items"]
theorem sclaw_either : FnScope Nlaw_either ["bag", "items"] (defScope Slaw_either) := ⟨rfl, rfl, rfl, by decide +kernel, rfl, by decide +kernel, by decide +kernel⟩
abbrev Slaw_pattern : Stmt := topS 24
abbrev Nlaw_pattern : List Str := ["bag", "count", "found", "left", "out", "share", "step"]
theorem sclaw_pattern : FnScope Nlaw_pattern ["bag", "count"] (defScope Slaw_pattern) := ⟨rfl, rfl, rfl, by decide +kernel, rfl, by decide +kernel, by decide +kernel⟩
abbrev Slaw_places : Stmt := topS 25
abbrev Nlaw_places : List Str := ["bag", "count", "way", "order", "found", "k"]
theorem sclaw_places : FnScope Nlaw_places ["bag", "count"] (defScope Slaw_places) := ⟨rfl, rfl, rfl, by decide +kernel, rfl, by decide +kernel, by decide +kernel⟩
abbrev Slaw_filled : Stmt := topS 26
abbrev Nlaw_filled : List Str := ["takes", "pattern", "gaps", "found", "at", "letter"]
theorem sclaw_filled : FnScope Nlaw_filled ["takes", "pattern"] (defScope Slaw_filled) := ⟨rfl, rfl, rfl, by decide +kernel, rfl, by decide +kernel, by decide +kernel⟩

section
variable {P : Program} {w : World} {K : PySem.W.Frag} {mg : Str → Option Value} {base : Heap}
theorem two200 {x : Int} (h : x ≤ 1000000) : x < 2 ^ 200 := Int.lt_of_le_of_lt h (by decide)
def spEither : Sp := fun vs H Q _ => ∃ (r l a : Addr) (n : Nat) (xs : List V), vs = [.ref r, .ref a] ∧ BagAt H r l n ∧ n < 10000000000 ∧ Sq H a xs ∧ xs.length ≤ 100000 ∧ a ≠ r ∧ ∀ p H', BagAt H' r l (n + 1) → Kp r H H' → p ≠ r → Sq H' p xs → Q (.ref p) H'
theorem ok_law_either {f : Addr} {fd : FuncData} (B : Bn mg) (D_law_draw : Df P w K mg base 2 "_law_draw" [] spDraw) (F : Fun K "_law_either" "_law_either" Slaw_either f fd) : FnG P w K mg base 3 f fd ["bag", "items"] spEither := by
  refine gok F sclaw_either (fun vs H Q E h => ?_) (fun cdv A fs s H vs Q E hG hr h => ?_)
  · obtain ⟨_, _, _, _, _, rfl, _⟩ := h; rfl
  · obtain ⟨r, l, a, n, xs, rfl, hS, hn, hA, hz, nar, q⟩ := h
    have hu := hr.units
    refine ⟨_, (pss_one (ps_ret (pe_ix (k_ixL K) (pe_lst (pa_cons (pe_callTy (k_list K) (by rfl) B.list Tlist (pa_cons (pv 1) pa_nil)) (pa_cons (pe_callTy (k_tuple K) (by rfl) B.tuple Ttuple (pa_cons (pv 1) pa_nil)) pa_nil))) (pe_df D_law_draw hG (hr.mono (by first | decide | omega)) passL (by rfl) (pa_cons (pv 0) (pa_cons pe_int pa_nil))) (fun _ _ => rfl)))), ?_⟩
    walk_at "s"
    intro b nb
    have s1 := same_new (o := .lst xs) nb
    have nrb := (hS.ne nb).1
    walk_at "s"
    have fin : ∀ (c : Addr) (H2 : Hp), Same (upd H b (.lst xs)) H2 → H2 c = some (.tup xs) → c ≠ r → ∀ (p : Addr), H2 p = none → ∀ (d : Int) (H3 : Hp), 0 ≤ d → d < 2 → BagAt H3 r l (n + 1) → Kp r (upd H2 p (.lst [.ref b, .ref c])) H3 →
        rIxL K (.ref p) (.int d) H3 Q := by
      intro c H2 s2 hc ncr p np d H3 d0 d1 hS3 hK3
      have s12 := s1.trans s2
      have sp := same_new (o := .lst [.ref b, .ref c]) np
      have npr : p ≠ r := ((hS.same s12).ne np).1.symm
      have hp := hK3.get npr upd_same
      have hb := hK3.get nrb.symm ((s2.trans sp) _ _ upd_same)
      have hc3 := hK3.get ncr (sp _ _ hc)
      have hK : Kp r H H3 := (Kp.of (s12.trans sp)).trans hK3
      have cases2 : d = 0 ∨ d = 1 := by omega
      rcases cases2 with rfl | rfl
      · exact r_ixL (lst_of hp) rfl (q b H3 hS3 hK nrb.symm (.inl hb))
      · exact r_ixL (lst_of hp) rfl (q c H3 hS3 hK ncr (.inr hc3))
    rcases id hA with hL | hT
    · refine r_tupleL (lst_of (s1 _ _ hL)) fun c nc => ?_
      walk_at "s"
      have s2 := same_new (o := .tup xs) nc
      intro p np
      walk_at "s"
      refine ⟨r, l, 2, n, rfl, (hS.same (s1.trans s2)).same (same_new np), by omega, by decide, by decide, fun d H3 d0 d1 hS3 hK3 => ?_⟩
      exact fin c _ s2 upd_same ((hS.same s1).ne nc).1.symm p np d H3 d0 d1 hS3 hK3
    · refine r_tupleT (tup_of (s1 _ _ hT)) ?_
      walk_at "s"
      intro p np
      walk_at "s"
      refine ⟨r, l, 2, n, rfl, (hS.same s1).same (same_new np), by omega, by decide, by decide, fun d H3 d0 d1 hS3 hK3 => ?_⟩
      exact fin a _ (Same.refl _) (s1 _ _ hT) nar p np d H3 d0 d1 hS3 hK3
def spFilled : Sp := fun vs H Q _ => ∃ (a : Addr) (tk : List Int) (p : List Bool), vs = [.ref a, .str (pS p)] ∧ SqL K H a (vI tk) ∧ IsPat p tk.length ∧ ∀ H' q, Same H H' → H q = none → H' q = some (.lst (vI (fillF tk p))) → Q (.ref q) H'
theorem ok_law_filled {f : Addr} {fd : FuncData} {k : Nat} (B : Bn mg) (F : Fun K "_law_filled" "_law_filled" Slaw_filled f fd) : FnG P w K mg base (k + 1) f fd ["takes", "pattern"] (spFilled (K := K)) := by
  refine gok F sclaw_filled (fun vs H Q E h => ?_) (fun cdv A fs s H vs Q E hG hr h => ?_)
  · obtain ⟨_, _, _, rfl, _⟩ := h; rfl
  · obtain ⟨a, tk, p, rfl, hA, hP, q⟩ := h
    have hu := hr.units
    have h2 := hP.top
    have hl := hP.len
    refine ⟨_, (pss_cons (ps_par3 (i := 2) (j := 3) (l := 4) rfl sclaw_filled.nd rfl rfl rfl (by decide) (by decide) (by decide) rfl rfl rfl (pa_cons (pe_lst pa_nil) (pa_cons (pe_lst pa_nil) (pa_cons pe_int pa_nil))) (by with_unfolding_all rfl)) (pss_cons (ps_for (passes_of rfl) rfl (pi_str (pv 1)) (pg_name (i := 5) sclaw_filled.nd rfl (Or.inl rfl)) (pss_one (ps_if (pt_cmpR op_eq (pv 5) pe_str (nomark _)) (pss_cons (ps_expr (k_bmP K (pe_bm PySem.F.plainAttrs_list PySem.F.slot_list_append PySem.F.type_list_append mt_append (pv 2) (pa_cons (pe_ix (k_ixL K) (pv 0) (pv 4) (fun _ _ => rfl)) pa_nil)))) (pss_one (ps_set (i := 4) sclaw_filled.nd rfl (Or.inl rfl) (pe_op op_add (pv 4) pe_int)))) (pss_cons (ps_expr (k_bmP K (pe_bm PySem.F.plainAttrs_list PySem.F.slot_list_append PySem.F.type_list_append mt_append (pv 3) (pa_cons (pe_callB (k_min K) (by rfl) B.min Bmin (pa_cons (pv 2) pa_nil)) pa_nil)))) (pss_one (ps_expr (k_bmP K (pe_bm PySem.F.plainAttrs_list PySem.F.slot_list_remove PySem.F.type_list_remove mt_remove (pv 2) (pa_cons (pe_callB (k_min K) (by rfl) B.min Bmin (pa_cons (pv 2) pa_nil)) pa_nil))))))))) (pss_one (ps_ret (pv 3))))), ?_⟩
    walk_at "s"
    intro g ng
    have s1 := same_new (o := .lst []) ng
    walk_at "s"
    intro fo nf
    have s2 := same_new (o := .lst []) nf
    have nfo : H fo = none := s1.free nf
    have ngf : g ≠ fo := ne_new nf upd_same
    walk_at "s"
    refine ⟨_, rfl, ?_⟩
    refine for_src (src_str (x := pS p)) (fun i σ H' => ∃ v5, σ = [some (.ref a), some (.str (pS p)), some (.ref g), some (.ref fo), some (.int ((runF tk (p.take i)).2.2 : Nat)), v5] ∧ Same H H' ∧ H' g = some (.lst (vI (runF tk (p.take i)).1)) ∧ H' fo = some (.lst (vI (runF tk (p.take i)).2.1)))
      (fun _ _ _ _ => trivial) ⟨none, rfl, s1.trans s2, (upd_ne ngf).trans upd_same, upd_same⟩ ?_ ?_
    · rintro i v σ H1 H1' hi ⟨v5, rfl, sA, hg, hf⟩ ⟨rfl, c, hc, rfl⟩
      obtain ⟨b, hb, eb⟩ := pS_at hc
      rw [pS_size] at hi
      obtain ⟨r1, r2, r3⟩ := runF_tk tk hP.pos i (by omega)
      have et := take_succ hb
      have er := runF_app tk (p.take i) b
      rw [← et] at er
      have hA1 := sA.seq hA
      have gl2 : (runF tk (p.take i)).1.length ≤ 1000 := by have := dif_tks (p.take i); have := List.length_take_le i p; omega
      have gl3 : (vI (runF tk (p.take i)).1).length ≤ 1000 := by rw [vI_len]; exact gl2
      have lf : (vI (runF tk (p.take i)).2.1).length ≤ 1000 := by rw [vI_len]; omega
      rw [eb]
      walk_at "s"
      rw [sB_T]
      cases b with
      | true =>
        have tl : tks (p.take (i + 1)) ≤ tks p := tks_take_le p _
        rw [et, tks_app, hP.tks] at tl
        have tl' : tks (p.take i) + 1 ≤ tk.length := tl
        have ea : atI (vI tk) ((runF tk (p.take i)).2.2 : Nat) = some (.int (tk.getD (runF tk (p.take i)).2.2 0)) := by
          have := atI_ints (ns := tk) (i := ((runF tk (p.take i)).2.2 : Nat)) (by omega) (by omega)
          rw [Int.toNat_natCast] at this
          exact this
        walk_at "s"
        rw [er]
        refine ⟨_, rfl, same_set sA ng, ?_, (upd_ne ngf.symm).trans hf⟩
        rw [upd_same]
        show some (HO.lst (vI _ ++ vI [_])) = _
        rw [vI_app]
        rfl
      | false =>
        have hp1 := hP.pos (i + 1)
        rw [et, dif_app] at hp1
        have hp1' : 0 ≤ dif (p.take i) + -1 := hp1
        walk_at "s"
        refine r_min (lst_of hg) (by omega) ?_
        walk_at "s"
        have hg' : upd H1' fo (.lst (vI (runF tk (p.take i)).2.1 ++ [.int (minI (runF tk (p.take i)).1)])) g = some (.lst (vI (runF tk (p.take i)).1)) := (upd_ne ngf).trans hg
        refine r_min (lst_of hg') (by omega) ?_
        walk_at "s"
        refine r_remove hg' (minI_mem fun z => by rw [z] at r2; simp at r2; omega) ?_
        walk_at "s"
        rw [er]
        refine ⟨_, rfl, same_set (same_set sA nfo) ng, upd_same, ?_⟩
        rw [upd_ne ngf.symm, upd_same]
        show some (HO.lst (vI _ ++ vI [_])) = _
        rw [vI_app]
        rfl
    · rintro σ H1 ⟨v5, rfl, sA, hg, hf⟩
      rw [pS_size, List.take_length] at hf
      walk_at "s"
      exact q _ _ sA nfo hf
/-- a pattern on the way: m letters, n places -/
structure Way (p : List Bool) (n m : Nat) : Prop where
  len : p.length = m
  few : tks p ≤ n
  pos : ∀ k, 0 ≤ dif (p.take k)
theorem Way.nil (n : Nat) : Way [] n 0 := ⟨rfl, Nat.zero_le _, fun k => by rw [List.take_nil]; exact Int.le_refl _⟩
theorem Way.add {p : List Bool} {n m : Nat} {b : Bool} (h : Way p n m) (h1 : tks (p ++ [b]) ≤ n) (h2 : 0 ≤ dif (p ++ [b])) : Way (p ++ [b]) n (m + 1) := by
  refine ⟨by rw [List.length_append, h.len]; rfl, h1, fun k => ?_⟩
  by_cases hk : k ≤ p.length
  · rw [List.take_append_of_le_length hk]
    exact h.pos k
  · rw [List.take_of_length_le (by rw [List.length_append]; show p.length + 1 ≤ k; omega)]
    exact h2
theorem Way.all {p : List Bool} {n : Nat} (h : Way p n (2 * n)) (hn : n ≤ 200) : IsPat p n := by
  have e := dif_tks p
  have z := h.pos p.length
  rw [List.take_length] at z
  have := h.len
  have := h.few
  exact ⟨h.len, hn, by omega, h.pos⟩
def spPattern : Sp := fun vs H Q _ => ∃ (r l : Addr) (n c : Nat), vs = [.ref r, .int c] ∧ BagAt H r l n ∧ n < 10000000000 ∧ c ≤ 200 ∧ ∀ p H', IsPat p c → BagAt H' r l (n + 1000) → Kp r H H' → Q (.str (pS p)) H'
theorem ok_law_pattern {f : Addr} {fd : FuncData} (B : Bn mg) (D_law_draw : Df P w K mg base 2 "_law_draw" [] spDraw) (F : Fun K "_law_pattern" "_law_pattern" Slaw_pattern f fd) : FnG P w K mg base 3 f fd ["bag", "count"] spPattern := by
  refine gok F sclaw_pattern (fun vs H Q E h => ?_) (fun cdv A fs s H vs Q E hG hr h => ?_)
  · obtain ⟨_, _, _, _, rfl, _⟩ := h; rfl
  · obtain ⟨r, l, n, c, rfl, hS, hn, hc, q⟩ := h
    have hu := hr.units
    refine ⟨_, (pss_cons (ps_asg (pe_tup (pa_cons pe_str (pa_cons (pv 1) (pa_cons pe_int (pa_cons (pe_op op_add pe_int (pe_df D_law_draw hG (hr.mono (by first | decide | omega)) passL (by rfl) (pa_cons (pv 0) (pa_cons pe_int pa_nil)))) pa_nil))))) (k_gtup (n := 4) K rfl (pgs_cons (pg_name (i := 2) sclaw_pattern.nd rfl (Or.inl rfl)) (pgs_cons (pg_name (i := 3) sclaw_pattern.nd rfl (Or.inl rfl)) (pgs_cons (pg_name (i := 4) sclaw_pattern.nd rfl (Or.inl rfl)) (pgs_cons (pg_name (i := 5) sclaw_pattern.nd rfl (Or.inl rfl)) pgs_nil)))))) (pss_cons (ps_for (passes_of rfl) rfl (pi_range1 (by rfl) B.range (pa_cons (pe_op op_mul pe_int (pv 1)) pa_nil)) (pg_name (i := 6) sclaw_pattern.nd rfl (Or.inl rfl)) (pss_one (ps_if (pw_and (pt_cmpR op_gt (pv 3) pe_int (nomark _)) (pw_and1 (pw_or (pt_cmpR op_eq (pv 4) pe_int (nomark _)) (pw_or1 (pt_cmpR op_lt (pe_df D_law_draw hG (hr.mono (by first | decide | omega)) passL (by rfl) (pa_cons (pv 0) (pa_cons pe_int pa_nil))) (pv 5) (nomark _)))).pt)).pt (pss_one (ps_par3 (i := 2) (j := 3) (l := 4) rfl sclaw_pattern.nd rfl rfl rfl (by decide) (by decide) (by decide) rfl rfl rfl (pa_cons (pe_op op_addS (pv 2) pe_str) (pa_cons (pe_op op_sub (pv 3) pe_int) (pa_cons (pe_op op_add (pv 4) pe_int) pa_nil))) (by with_unfolding_all rfl))) (pss_one (ps_par (i := 2) (j := 4) rfl sclaw_pattern.nd rfl rfl (by decide) rfl rfl (pa_cons (pe_op op_addS (pv 2) pe_str) (pa_cons (pe_op op_sub (pv 4) pe_int) pa_nil)) (by with_unfolding_all rfl)))))) (pss_one (ps_ret (pv 2))))), ?_⟩
    walk_at "s"
    refine ⟨r, l, 5, n, rfl, hS, by omega, by decide, by decide, fun sh H1 d0 d1 hS1 hK1 => ?_⟩
    walk_at "s"
    intro t nt
    have nrt := hS1.ne nt
    walk_at "s"
    refine ⟨_, rfl, by omega, by omega, ?_⟩
    rw [show (2 * (c : Int)).toNat = 2 * c by omega]
    refine for_src src_range (fun i σ H' => ∃ p v6, σ = [some (.ref r), some (.int c), some (.str (pS p)), some (.int ((c : Int) - (tks p : Nat))), some (.int (dif p)), some (.int (1 + sh)), v6] ∧ Way p c i ∧ BagAt H' r l (n + 1 + i) ∧ Kp r H H')
      (fun _ _ _ _ => trivial) ⟨[], none, rfl, Way.nil c, hS1.upd nrt, hK1.put (hK1.free nt nrt.1.symm)⟩ ?_ ?_
    · rintro i v σ H2 H3 hi ⟨p, v6, rfl, hW, hS2, hK2⟩ ⟨rfl, rfl⟩
      have hl := hW.len
      have hpl : (pS p).length + 1 ≤ sizeLine := sz (by rw [pS_len]; omega)
      have e1 := dif_tks p
      have hf := hW.few
      have hz : 0 ≤ dif p := by have := hW.pos p.length; rwa [List.take_length] at this
      have eS : pS p ++ ("T" : Str) = pS (p ++ [true]) := pS_app p true
      have eR : pS p ++ ("R" : Str) = pS (p ++ [false]) := pS_app p false
      have kS : tks (p ++ [true]) = tks p + 1 := tks_app p true
      have kR : tks (p ++ [false]) = tks p := tks_app p false
      have eL : (c : Int) - (tks p : Nat) - 1 = (c : Int) - (tks (p ++ [true]) : Nat) := by rw [kS]; omega
      have eL2 : (c : Int) - (tks p : Nat) = (c : Int) - (tks (p ++ [false]) : Nat) := by rw [kR]
      have eD : dif p + 1 = dif (p ++ [true]) := (dif_app p true).symm
      have eD2 : dif p - 1 = dif (p ++ [false]) := (dif_app p false).symm
      walk_at "s"
      refine ifD (fun h1 => ?_) (fun h1 => ?_)
      · walk_at "s"
        refine ifD (fun h2 => ?_) (fun h2 => ?_)
        · walk_at "s"
          rw [eS, eL, eD]
          exact ⟨_, _, rfl, hW.add (by omega) (by omega), hS2.mono (by omega), hK2⟩
        · walk_at "s"
          refine ⟨r, l, 6, _, rfl, hS2, by omega, by decide, by decide, fun d H4 d0 d1 hS4 hK4 => ?_⟩
          walk_at "s"
          refine ifD (fun h3 => ?_) (fun h3 => ?_)
          · walk_at "s"
            rw [eS, eL, eD]
            exact ⟨_, _, rfl, hW.add (by omega) (by omega), hS4.mono (by omega), hK2.trans hK4⟩
          · walk_at "s"
            rw [eR, eL2, eD2]
            exact ⟨_, _, rfl, hW.add (by omega) (by omega), hS4.mono (by omega), hK2.trans hK4⟩
      · walk_at "s"
        rw [eR, eL2, eD2]
        exact ⟨_, _, rfl, hW.add (by omega) (by omega), hS2.mono (by omega), hK2⟩
    · rintro σ H2 ⟨p, v6, rfl, hW, hS2, hK2⟩
      walk_at "s"
      exact q p _ (hW.all hc) (hS2.mono (by omega)) hK2
/-- the place of number k, by the way -/
def plc (way : Int) (k : Int) : Int := if way = 0 then k else if way = 1 then 7 * k + 3 else if way = 2 then 1000000000000000000000000000000 - k else k * 1000000000000000000000000000 + k
theorem plc_inj {way a b : Int} (h : plc way a = plc way b) : a = b := by
  unfold plc at h
  split at h
  · exact h
  · split at h
    · omega
    · split at h <;> omega
theorem plc_rg {way k : Int} (h0 : 0 ≤ k) (h1 : k < 200) : 0 ≤ plc way k ∧ plc way k ≤ 1000000000000000000000000000000 := by
  unfold plc
  split
  · omega
  · split
    · omega
    · split <;> omega
def plcs (way : Int) (c : Nat) : List Int := (List.range c).map fun k : Nat => plc way (k : Int)
theorem plcs_pl {way : Int} {c : Nat} (h : c ≤ 200) : IsPl (plcs way c) ∧ (plcs way c).length = c := by
  have e : (plcs way c).length = c := by unfold plcs; rw [List.length_map, List.length_range]
  refine ⟨⟨by omega, fun x hx => ?_, ?_⟩, e⟩
  · obtain ⟨k, hk, rfl⟩ := List.mem_map.mp hx
    have := List.mem_range.mp hk
    exact plc_rg (by omega) (by omega)
  · unfold plcs List.Nodup
    rw [List.pairwise_map]
    refine List.nodup_range.imp fun {a b} hne e => hne ?_
    have := plc_inj e
    omega
theorem IsPl.perm {a b : List Int} (h : IsPl a) (p : b.Perm a) : IsPl b := ⟨by rw [p.length_eq]; exact h.top, fun x hx => h.rng x (p.mem_iff.mp hx), p.nodup_iff.mpr h.nd⟩
def spPlaces : Sp := fun vs H Q _ => ∃ (r l : Addr) (n c : Nat), vs = [.ref r, .int c] ∧ BagAt H r l n ∧ n < 10000000000 ∧ c ≤ 200 ∧ ∀ ns p H', IsPl ns → ns.length = c → BagAt H' r l (n + 1000) → Kp r H H' → H p = none → H' p = some (.lst (vI ns)) → Q (.ref p) H'
theorem ok_law_places {f : Addr} {fd : FuncData} (B : Bn mg) (D_law_draw : Df P w K mg base 2 "_law_draw" [] spDraw) (D_law_shuffled : Df P w K mg base 3 "_law_shuffled" [] spShuffled) (F : Fun K "_law_places" "_law_places" Slaw_places f fd) : FnG P w K mg base 4 f fd ["bag", "count"] spPlaces := by
  refine gok F sclaw_places (fun vs H Q E h => ?_) (fun cdv A fs s H vs Q E hG hr h => ?_)
  · obtain ⟨_, _, _, _, rfl, _⟩ := h; rfl
  · obtain ⟨r, l, n, c, rfl, hS, hn, hc, q⟩ := h
    have hu := hr.units
    refine ⟨_, (pss_cons (ps_asg (pe_tup (pa_cons (pe_df D_law_draw hG (hr.mono (by first | decide | omega)) passL (by rfl) (pa_cons (pv 0) (pa_cons pe_int pa_nil))) (pa_cons (pe_df D_law_draw hG (hr.mono (by first | decide | omega)) passL (by rfl) (pa_cons (pv 0) (pa_cons pe_int pa_nil))) pa_nil))) (k_gtup (n := 2) K rfl (pgs_cons (pg_name (i := 2) sclaw_places.nd rfl (Or.inr rfl)) (pgs_cons (pg_name (i := 3) sclaw_places.nd rfl (Or.inl rfl)) pgs_nil)))) (pss_cons (ps_setLc (i := 4) (own := [("k", 5)]) rfl sclaw_places.nd rfl rfl (sw_true rfl rfl rfl (by decide +kernel)) (pi_range1 (by rfl) B.range (pa_cons (pv 1) pa_nil)) (blkOk_by (own := [("k", 5)]) (N := Nlaw_places) (sc := defScope Slaw_places) (by decide +kernel)) (fun _ _ _ _ _ => (pg_name (i := 5) sclaw_places.nd rfl (Or.inl rfl))) (fun _ _ _ _ _ => pts_nil) (fun _ _ _ _ _ => (pe_ix (k_ixL K) (pe_lst (pa_cons (pv 5) (pa_cons (pe_op op_add (pe_op op_mul pe_int (pv 5)) pe_int) (pa_cons (pe_op op_sub (pe_op op_pow pe_int pe_int) (pv 5)) (pa_cons (pe_op op_add (pe_op op_mul (pv 5) (pe_op op_pow pe_int pe_int)) (pv 5)) pa_nil))))) (pv 2) (fun _ _ => rfl)))) (pss_cons (ps_if (pt_cmpR op_eq (pv 3) pe_int (nomark _)) (pss_one (ps_ret (pe_callB (k_sorted K) (by rfl) B.sorted Bsorted (pa_cons (pv 4) pa_nil)))) pss_nil) (pss_one (ps_ret (pe_ifExp (pt_cmpR op_eq (pv 3) pe_int (nomark _)) (k_rev K (pe_callB (k_sorted K) (by rfl) B.sorted Bsorted (pa_cons (pv 4) pa_nil))) (pe_df D_law_shuffled hG (hr.mono (by first | decide | omega)) passL (by rfl) (pa_cons (pv 0) (pa_cons (pv 4) pa_nil))))))))), ?_⟩
    walk_at "s"
    refine ⟨r, l, 4, n, rfl, hS, by omega, by decide, by decide, fun way H1 w0 w1 hS1 hK1 => ?_⟩
    walk_at "s"
    refine ⟨r, l, 4, n + 1, rfl, hS1, by omega, by decide, by decide, fun ord H2 o0 o1 hS2 hK2 => ?_⟩
    walk_at "s"
    intro t nt
    have nrt := hS2.ne nt
    have hS3 := hS2.upd (o := .tup [.int way, .int ord]) nrt
    have hK3 := (hK1.trans hK2).put (o := .tup [.int way, .int ord]) ((hK1.trans hK2).free nt nrt.1.symm)
    walk_at "s"
    refine ⟨_, rfl, by omega, by omega, fun Dl nD => ?_⟩
    rw [Int.toNat_natCast]
    refine lc_pure src_range (fun _ => true) (fun k => .int (plc way (k : Int))) (by omega) (fun _ _ => trivial) ?_ nD fun H4 s4 hD => ?_
    · rintro i v H4 H5 Yes No hi s ⟨rfl, rfl⟩ hY hN
      walk_at "s"
      refine ⟨rfl, ?_⟩
      walk_at "s"
      intro p np
      walk_at "s"
      have e30 : (10 : Int) ^ Int.toNat 30 = 1000000000000000000000000000000 := by decide +kernel
      have e27 : (10 : Int) ^ Int.toNat 27 = 1000000000000000000000000000 := by decide +kernel
      rw [e30, e27]
      refine r_ixL (lst_of upd_same) (v := .int (plc way (i : Int))) ?_ (hY rfl _ (same_new np))
      have w4 : way = 0 ∨ way = 1 ∨ way = 2 ∨ way = 3 := by omega
      rcases w4 with rfl | rfl | rfl | rfl
      · exact congrArg (fun x => some (V.int x)) (show (0 + (i : Int)) = (i : Int) by omega)
      · exact congrArg (fun x => some (V.int x)) (show 7 * (0 + (i : Int)) + 3 = 7 * (i : Int) + 3 by omega)
      · exact congrArg (fun x => some (V.int x)) (show 1000000000000000000000000000000 - (0 + (i : Int)) = 1000000000000000000000000000000 - (i : Int) by omega)
      · exact congrArg (fun x => some (V.int x)) (show (0 + (i : Int)) * 1000000000000000000000000000 + (0 + (i : Int)) = (i : Int) * 1000000000000000000000000000 + (i : Int) by omega)
    · have pl := plcs_pl (way := way) hc
      have ev : giv c (fun _ => true) (fun k => V.int (plc way (k : Int))) = vI (plcs way c) := by
        rw [giv_all]
        unfold vI plcs
        rw [List.map_map]
        rfl
      rw [ev] at hD
      have hS4 := hS3.same s4
      have hK4 := hK3.trans (Kp.of s4)
      have nrD := hS3.ne nD
      have nD0 := hK3.free nD nrD.1.symm
      walk_at "s"
      refine ifD (fun h1 => ?_) (fun h1 => ?_)
      · walk_at "s"
        refine r_sortI (lst_of hD) fun ns' p hp hs np => ?_
        walk_at "s"
        exact q ns' p _ (pl.1.perm hp) (hp.length_eq.trans pl.2) ((hS4.upd (hS4.ne np)).mono (by omega)) (hK4.put (hK4.free np (hS4.ne np).1.symm)) (hK4.free np (hS4.ne np).1.symm) upd_same
      · walk_at "s"
        refine ifD (fun h2 => ?_) (fun h2 => ?_)
        · walk_at "s"
          refine r_sortI (lst_of hD) fun ns' p hp hs np => ?_
          walk_at "s"
          refine ⟨p, _, rfl, lst_of upd_same, fun u nu => ?_⟩
          rw [vI_rev]
          have s6 := (same_new (o := .lst (vI ns')) np).trans (same_new (o := .lst (vI ns'.reverse)) nu)
          have hS6 := hS4.same s6
          have nu4 : H4 u = none := (same_new np).free nu
          exact q ns'.reverse u _ (pl.1.perm ((List.reverse_perm _).trans hp)) (by rw [List.length_reverse]; exact hp.length_eq.trans pl.2) (hS6.mono (by omega)) (hK4.trans (Kp.of s6)) (hK4.free nu4 (hS4.ne nu4).1.symm) upd_same
        · walk_at "s"
          refine ⟨r, l, Dl, n + 1 + 1, vI (plcs way c), rfl, hS4, by rw [vI_len, pl.2]; omega, .inl hD, nrD.1.symm, by rw [vI_len, pl.2]; omega, fun ys p H5 hp hS5 hK5 np hy => ?_⟩
          obtain ⟨ms, rfl, hm⟩ := perm_vI hp
          rw [vI_len, pl.2] at hS5
          walk_at "s"
          exact q ms p H5 (pl.1.perm hm) (hm.length_eq.trans pl.2) (hS5.mono (by omega)) (hK4.trans hK5) (hK4.free np (hS4.ne np).1.symm) hy
end

abbrev Slaw_all_patterns : Stmt := topS 27
abbrev Nlaw_all_patterns : List Str := ["count", "found", "step", "longer", "word", "out"]
theorem sclaw_all_patterns : FnScope Nlaw_all_patterns ["count"] (defScope Slaw_all_patterns) := ⟨rfl, rfl, rfl, by decide +kernel, rfl, by decide +kernel, by decide +kernel⟩

theorem count_T (p : List Bool) : Txt.count (pS p) ("T" : Str) = (tks p : Nat) := by
  have e : ("T" : Str) = ⟨#[84]⟩ := by decide
  rw [e, count_cnt]
  show cnt 84 (p.map fun b => if b then 84 else 82).toArray.toList = _
  rw [List.toList_toArray]
  induction p with
  | nil => rfl
  | cons b p ih =>
    rw [List.map_cons, cnt_cons, ih]
    cases b <;> simp [tks] <;> omega
def grow (n : Nat) (p : List Bool) : List (List Bool) := (if tks p < n then [p ++ [true]] else []) ++ (if 0 < dif p then [p ++ [false]] else [])
def allA (n : Nat) : Nat → List (List Bool)
  | 0 => [[]]
  | i + 1 => (allA n i).flatMap (grow n)
theorem grow_len (n : Nat) (p : List Bool) : (grow n p).length ≤ 2 := by
  unfold grow
  split <;> split <;> simp
theorem flat_len {α β : Type} (f : α → List β) (h : ∀ a, (f a).length ≤ 2) : ∀ l : List α, (l.flatMap f).length ≤ 2 * l.length
  | [] => by simp
  | a :: l => by
    have ih := flat_len f h l
    have := h a
    rw [List.flatMap_cons, List.length_append, List.length_cons]
    omega
theorem allA_len (n : Nat) : ∀ i, (allA n i).length ≤ 2 ^ i
  | 0 => by simp [allA]
  | i + 1 => by
    have ih := allA_len n i
    have := flat_len (grow n) (grow_len n) (allA n i)
    show ((allA n i).flatMap (grow n)).length ≤ 2 ^ (i + 1)
    rw [Nat.pow_succ]
    omega
theorem allA_way (n : Nat) : ∀ i, ∀ p ∈ allA n i, Way p n i
  | 0, p, h => by
    have : p = [] := by simpa [allA] using h
    subst this
    exact Way.nil n
  | i + 1, p, h => by
    obtain ⟨q, hq, hp⟩ := List.mem_flatMap.mp h
    have w := allA_way n i q hq
    have hz : 0 ≤ dif q := by have := w.pos q.length; rwa [List.take_length] at this
    rcases List.mem_append.mp hp with hp | hp
    · split at hp
      · rw [List.mem_singleton] at hp
        subst hp
        exact w.add (by rw [tks_app]; exact ‹tks q < n›) (by rw [dif_app]; show 0 ≤ dif q + 1; omega)
      · cases hp
    · split at hp
      · rename_i h0
        rw [List.mem_singleton] at hp
        subst hp
        exact w.add (by rw [tks_app]; exact w.few) (by rw [dif_app]; show 0 ≤ dif q + -1; omega)
      · cases hp
/-- a list at f of pairs: a pattern on the way, its books out -/
def PL (H : Hp) (f : Addr) (L : List (List Bool)) : Prop := ∃ as : List Addr, H f = some (.lst (as.map V.ref)) ∧ as.length = L.length ∧ ∀ (i : Nat) (a : Addr) (p : List Bool), as[i]? = some a → L[i]? = some p → H a = some (.tup [.str (pS p), .int (dif p)])
theorem PL.same {H H' : Hp} {f : Addr} {L : List (List Bool)} (h : PL H f L) (s : Same H H') : PL H' f L := by
  obtain ⟨as, h1, h2, h3⟩ := h
  exact ⟨as, s _ _ h1, h2, fun i a p e1 e2 => s _ _ (h3 i a p e1 e2)⟩
theorem PL.set {H : Hp} {f x : Addr} {o : HO} {L : List (List Bool)} {ys : List V} (h : PL H f L) (n : f ≠ x) (hx : H x = some (.lst ys)) : PL (L2.upd H x o) f L := by
  obtain ⟨as, h1, h2, h3⟩ := h
  refine ⟨as, (upd_ne n).trans h1, h2, fun i a p e1 e2 => ?_⟩
  have z := h3 i a p e1 e2
  have ne : a ≠ x := fun e => by rw [e, hx] at z; cases z
  exact (upd_ne ne).trans z
theorem PL.app {H : Hp} {f t : Addr} {L : List (List Bool)} {p : List Bool} (h : PL H f L) (ht : H t = some (.tup [.str (pS p), .int (dif p)])) :
    ∃ xs, H f = some (.lst xs) ∧ xs.length = L.length ∧ PL (L2.upd H f (.lst (xs ++ [.ref t]))) f (L ++ [p]) := by
  obtain ⟨as, h1, h2, h3⟩ := h
  refine ⟨as.map V.ref, h1, by rw [List.length_map, h2], as ++ [t], ?_, by simp [h2], fun i a q e1 e2 => ?_⟩
  · rw [upd_same, List.map_append]; rfl
  · have key : ∀ b q, H b = some (.tup [.str (pS q), .int (dif q)]) → L2.upd H f (.lst (as.map V.ref ++ [.ref t])) b = some (.tup [.str (pS q), .int (dif q)]) := by
      intro b q z
      have ne : b ≠ f := fun e => by rw [e, h1] at z; cases z
      exact (upd_ne ne).trans z
    by_cases hi : i < as.length
    · rw [List.getElem?_append_left hi] at e1
      rw [List.getElem?_append_left (by omega)] at e2
      exact key a q (h3 i a q e1 e2)
    · have hi' : i = as.length := by
        have := (List.getElem?_eq_some_iff.mp e1).1
        rw [List.length_append, List.length_singleton] at this
        omega
      subst hi'
      rw [List.getElem?_append_right (Nat.le_refl _), Nat.sub_self] at e1
      rw [List.getElem?_append_right (by omega), h2, Nat.sub_self] at e2
      cases e1; cases e2
      exact key t p ht
section
variable {P : Program} {w : World} {K : PySem.W.Frag} {mg : Str → Option Value} {base : Heap}
def spAllPatterns : Sp := fun vs H Q _ => ∃ (n : Nat), vs = [.int n] ∧ n ≤ 6 ∧ ∀ H' p, Same H H' → H p = none → H' p = some (.lst ((allA n (2 * n)).map fun q => V.str (pS q))) → Q (.ref p) H'
theorem ok_law_all_patterns {f : Addr} {fd : FuncData} {k : Nat} (B : Bn mg) (F : Fun K "_law_all_patterns" "_law_all_patterns" Slaw_all_patterns f fd) : FnG P w K mg base (k + 1) f fd ["count"] spAllPatterns := by
  refine gok F sclaw_all_patterns (fun vs H Q E h => ?_) (fun cdv A fs s H vs Q E hG hr h => ?_)
  · obtain ⟨_, rfl, _⟩ := h; rfl
  · obtain ⟨n, rfl, hn, q⟩ := h
    have hu := hr.units
    refine ⟨_, (pss_cons (ps_set (i := 1) sclaw_all_patterns.nd rfl (Or.inl rfl) (pe_lst (pa_cons (pe_tup (pa_cons pe_str (pa_cons pe_int pa_nil))) pa_nil))) (pss_cons (ps_for (passes_of rfl) rfl (pi_range1 (by rfl) B.range (pa_cons (pe_op op_mul pe_int (pv 0)) pa_nil)) (pg_name (i := 2) sclaw_all_patterns.nd rfl (Or.inl rfl)) (pss_cons (ps_set (i := 3) sclaw_all_patterns.nd rfl (Or.inl rfl) (pe_lst pa_nil)) (pss_cons (ps_for (passes_of rfl) rfl (k_piL K (pv 1)) (k_gtup (n := 2) K rfl (pgs_cons (pg_name (i := 4) sclaw_all_patterns.nd rfl (Or.inl rfl)) (pgs_cons (pg_name (i := 5) sclaw_all_patterns.nd rfl (Or.inl rfl)) pgs_nil))) (pss_cons (ps_if (pt_cmpR op_lt (k_bmP K (pe_bm PySem.F.plainAttrs_str PySem.F.slot_str_count PySem.F.type_str_count mt_countS (pv 4) (pa_cons pe_str pa_nil))) (pv 0) (nomark _)) (pss_one (ps_expr (k_bmP K (pe_bm PySem.F.plainAttrs_list PySem.F.slot_list_append PySem.F.type_list_append mt_append (pv 3) (pa_cons (pe_tup (pa_cons (pe_op op_addS (pv 4) pe_str) (pa_cons (pe_op op_add (pv 5) pe_int) pa_nil))) pa_nil))))) pss_nil) (pss_one (ps_if (pt_cmpR op_gt (pv 5) pe_int (nomark _)) (pss_one (ps_expr (k_bmP K (pe_bm PySem.F.plainAttrs_list PySem.F.slot_list_append PySem.F.type_list_append mt_append (pv 3) (pa_cons (pe_tup (pa_cons (pe_op op_addS (pv 4) pe_str) (pa_cons (pe_op op_sub (pv 5) pe_int) pa_nil))) pa_nil))))) pss_nil)))) (pss_one (ps_set (i := 1) sclaw_all_patterns.nd rfl (Or.inl rfl) (pv 3)))))) (pss_one (ps_ret (pe_lc (own := [("word", 4), ("out", 5)]) rfl sclaw_all_patterns.nd (k_piL K (pv 1)) (blkOk_by (own := [("word", 4), ("out", 5)]) (N := Nlaw_all_patterns) (sc := defScope Slaw_all_patterns) (by decide +kernel)) (fun _ _ _ _ _ => (k_gtup (n := 2) K rfl (pgs_cons (pg_name (i := 4) sclaw_all_patterns.nd rfl (Or.inl rfl)) (pgs_cons (pg_name (i := 5) sclaw_all_patterns.nd rfl (Or.inl rfl)) pgs_nil)))) (fun _ _ _ _ _ => pts_nil) (fun _ _ _ _ _ => (pv 4))))))), ?_⟩
    walk_at "s"
    intro t nt
    have s1 := same_new (o := .tup [.str (pS []), .int 0]) nt
    walk_at "s"
    intro f0 nf
    have s2 := same_new (o := .lst [.ref t]) nf
    walk_at "s"
    refine ⟨_, rfl, by omega, by omega, ?_⟩
    rw [show (2 * (n : Int)).toNat = 2 * n by omega]
    have pl0 : PL (upd (upd H t (.tup [.str (pS []), .int 0])) f0 (.lst [.ref t])) f0 (allA n 0) := by
      refine ⟨[t], upd_same, rfl, fun i a p e1 e2 => ?_⟩
      cases i with
      | zero => cases e1; cases e2; exact s2 _ _ upd_same
      | succ i => simp at e1
    refine for_src src_range (fun i σ H' => ∃ fo v2 v3 v4 v5, σ = [some (.int n), some (.ref fo), v2, v3, v4, v5] ∧ Same H H' ∧ PL H' fo (allA n i)) (fun _ _ _ _ => trivial) ⟨f0, none, none, none, none, rfl, s1.trans s2, pl0⟩ ?_ ?_
    · rintro i v σ H1 H2 hi ⟨fo, v2, v3, v4, v5, rfl, sA, hL⟩ ⟨rfl, rfl⟩
      have hlen := allA_len n i
      have p2 : 2 ^ i ≤ 2 ^ 12 := Nat.pow_le_pow_right (by decide) (by omega)
      walk_at "s"
      intro lo nlo
      have nflo : fo ≠ lo := by obtain ⟨as, h1, _⟩ := hL; exact ne_new nlo h1
      have hL2 := hL.same (same_new (o := .lst []) nlo)
      walk_at "s"
      obtain ⟨as, g1, g2, g3⟩ := id hL2
      refine ⟨fo, rfl, ⟨_, lst_of g1⟩, ?_⟩
      refine for_src (src_list (xs := as.map V.ref)) (fun j σ H' => ∃ v4 v5, σ = [some (.int n), some (.ref fo), some (.int (0 + (i : Int))), some (.ref lo), v4, v5] ∧ Same H H' ∧ H' fo = some (.lst (as.map V.ref)) ∧ PL H' fo (allA n i) ∧ PL H' lo (((allA n i).take j).flatMap (grow n)))
        (fun j σ H' h => by obtain ⟨_, _, _, _, h, _⟩ := h; exact lst_of h) ⟨v4, v5, rfl, sA.trans (same_new nlo), g1, hL2, ⟨[], upd_same, rfl, fun i a p e1 _ => by simp at e1⟩⟩ ?_ ?_
      · rintro j v σ H3 H4 hj ⟨v4, v5, rfl, sB, hfo, hL3, hlo⟩ ⟨rfl, hv⟩
        rw [List.length_map] at hj
        have h1 := List.getElem?_eq_getElem hj
        have h2 := List.getElem?_eq_getElem (show j < (allA n i).length by omega)
        rw [List.getElem?_map, h1] at hv
        cases hv
        obtain ⟨as', k1, k2, k3⟩ := id hL3
        have eas : as' = as := by
          have := hfo.symm.trans k1
          have := Option.some.inj this
          have := HO.lst.inj this
          exact (List.map_inj_right (fun a b e => by cases e; rfl)).mp this.symm
        subst eas
        have hT := k3 j _ _ h1 h2
        have hw := allA_way n i _ (List.mem_of_getElem? h2)
        have hpl := hw.len
        generalize hp : (allA n i)[j]'(by omega) = p at *
        have ejl : (allA n i).take (j + 1) = (allA n i).take j ++ [p] := take_succ h2
        have eg : ((allA n i).take (j + 1)).flatMap (grow n) = ((allA n i).take j).flatMap (grow n) ++ grow n p := by rw [ejl, List.flatMap_append]; simp
        have hz : (pS p).length + 1 ≤ sizeLine := sz (by rw [pS_len]; omega)
        have eS : pS p ++ ("T" : Str) = pS (p ++ [true]) := pS_app p true
        have eR : pS p ++ ("R" : Str) = pS (p ++ [false]) := pS_app p false
        have eD : dif p + 1 = dif (p ++ [true]) := (dif_app p true).symm
        have eD2 : dif p - 1 = dif (p ++ [false]) := (dif_app p false).symm
        have gl := flat_len (grow n) (grow_len n) ((allA n i).take j)
        have gl2 : ((allA n i).take j).length ≤ 4096 := by rw [List.length_take]; omega
        walk_at "s"
        rw [count_T]
        refine ifJ (fun σ H' => σ = [some (.int n), some (.ref fo), some (.int (0 + (i : Int))), some (.ref lo), some (.str (pS p)), some (.int (dif p))] ∧ Same H H' ∧ H' fo = some (.lst (as'.map V.ref)) ∧ PL H' fo (allA n i) ∧ PL H' lo (((allA n i).take j).flatMap (grow n) ++ if tks p < n then [p ++ [true]] else [])) (fun R hR hc => ?_) (fun R hR hc => ?_) ?_
        · obtain ⟨bs, m1, m2, m3⟩ := id hlo
          walk_at "s"
          rw [eS, eD]
          intro u nu
          have su := same_new (o := .tup [.str (pS (p ++ [true])), .int (dif (p ++ [true]))]) nu
          obtain ⟨xs, x1, x2, x3⟩ := (hlo.same su).app (t := u) (p := p ++ [true]) upd_same
          have ex : xs = bs.map V.ref := HO.lst.inj (Option.some.inj (x1.symm.trans (su _ _ m1)))
          subst ex
          have xl : (bs.map V.ref).length ≤ 90000 := by rw [List.length_map, m2]; omega
          walk_at "s"
          refine hR _ _ ⟨rfl, same_set (sB.trans su) (sA.free nlo), (upd_ne nflo).trans (su _ _ hfo), (hL3.same su).set nflo x1, ?_⟩
          rw [if_pos (by omega)]
          exact x3
        · walk_at "s"
          refine hR _ _ ⟨rfl, sB, hfo, hL3, ?_⟩
          rw [if_neg (by omega), List.append_nil]
          exact hlo
        · rintro σ H5 ⟨rfl, sC, hfo5, hL5, hlo5⟩
          walk_at "s"
          refine ifD (fun hd => ?_) (fun hd => ?_)
          · obtain ⟨bs, m1, m2, m3⟩ := id hlo5
            walk_at "s"
            rw [eR, eD2]
            intro u nu
            have su := same_new (o := .tup [.str (pS (p ++ [false])), .int (dif (p ++ [false]))]) nu
            obtain ⟨xs, x1, x2, x3⟩ := (hlo5.same su).app (t := u) (p := p ++ [false]) upd_same
            have ex : xs = bs.map V.ref := HO.lst.inj (Option.some.inj (x1.symm.trans (su _ _ m1)))
            subst ex
            have xl : (bs.map V.ref).length ≤ 90000 := by rw [List.length_map, m2]; rw [List.length_append]; have : (if tks p < n then [p ++ [true]] else []).length ≤ 1 := (by split <;> simp); omega
            walk_at "s"
            refine ⟨_, _, rfl, same_set (sC.trans su) (sA.free nlo), (upd_ne nflo).trans (su _ _ hfo5), (hL5.same su).set nflo x1, ?_⟩
            rw [eg]
            unfold grow
            rw [if_pos (c := 0 < dif p) hd, ← List.append_assoc]
            exact x3
          · walk_at "s"
            refine ⟨_, _, rfl, sC, hfo5, hL5, ?_⟩
            rw [eg]
            unfold grow
            rw [if_neg (c := 0 < dif p) hd, List.append_nil]
            exact hlo5
      · rintro σ H3 ⟨v4, v5, rfl, sB, hfo, hL3, hlo⟩
        rw [List.length_map, g2, List.take_length] at hlo
        walk_at "s"
        exact ⟨lo, _, _, _, _, rfl, sB, hlo⟩
    · rintro σ H1 ⟨fo, v2, v3, v4, v5, rfl, sA, hL⟩
      obtain ⟨as, g1, g2, g3⟩ := hL
      have hlen := allA_len n (2 * n)
      have p2 : 2 ^ (2 * n) ≤ 2 ^ 12 := Nat.pow_le_pow_right (by decide) (by omega)
      walk_at "s"
      refine ⟨fo, rfl, ⟨_, lst_of g1⟩, fun Dl nD => ?_⟩
      refine lc_pure (src_list (xs := as.map V.ref)) (fun _ => true) (fun j => .str (pS ((allA n (2 * n)).getD j []))) (by rw [List.length_map]; omega) (fun H' s' => lst_of (s' _ _ g1)) ?_ nD fun H3 s3 hD => ?_
      · rintro j v H3 H4 Yes No hj s3 ⟨rfl, hv⟩ hY hN
        rw [List.length_map] at hj
        have h1 := List.getElem?_eq_getElem hj
        have h2 := List.getElem?_eq_getElem (show j < (allA n (2 * n)).length by omega)
        rw [List.getElem?_map, h1] at hv
        cases hv
        have hT := s3 _ _ (g3 j _ _ h1 h2)
        walk_at "s"
        refine ⟨rfl, ?_⟩
        walk_at "s"
        have := hY rfl _ (Same.refl _)
        rw [List.getD_eq_getElem?_getD, h2] at this
        exact this
      · walk_at "s"
        refine q _ Dl (sA.trans s3) (sA.free nD) (hD.trans ?_)
        rw [giv_all, List.length_map, g2]
        refine congrArg (fun l => some (HO.lst l)) (List.ext_getElem? fun j => ?_)
        rw [List.getElem?_map, List.getElem?_map]
        by_cases hj : j < (allA n (2 * n)).length
        · rw [List.getElem?_range hj, List.getElem?_eq_getElem hj]
          show some (V.str (pS ((allA n (2 * n)).getD j []))) = _
          rw [List.getD_eq_getElem?_getD, List.getElem?_eq_getElem hj]
          rfl
        · rw [List.getElem?_eq_none_iff.mpr (show (List.range (allA n (2 * n)).length).length ≤ j by rw [List.length_range]; omega), List.getElem?_eq_none_iff.mpr (show (allA n (2 * n)).length ≤ j by omega)]
          rfl
end

abbrev Slaw_right : Stmt := topS 28
abbrev Nlaw_right : List Str := ["bag", "takes", "pattern", "passed", "kept", "due", "step", "found"]
theorem sclaw_right : FnScope Nlaw_right ["bag", "takes", "pattern"] (defScope Slaw_right) := ⟨rfl, rfl, rfl, by decide +kernel, rfl, by decide +kernel, by decide +kernel⟩
abbrev Slaw : Stmt := topS 29
abbrev Nlaw : List Str := ["script", "bag", "turn", "count", "takes", "pattern", "step", "one", "two"]
theorem sclaw : FnScope Nlaw ["script"] (defScope Slaw) := ⟨rfl, rfl, rfl, by decide +kernel, rfl, by decide +kernel, by decide +kernel⟩

def InR (x : Int) : Prop := 0 ≤ x ∧ x ≤ 1000000000000000000000000000000
theorem runF_rg {tk : List Int} (h : ∀ x ∈ tk, InR x) : ∀ p : List Bool, (∀ x ∈ (p.foldl (stepF tk) ([], [], 0)).1, InR x) ∧ ∀ x ∈ (p.foldl (stepF tk) ([], [], 0)).2.1, InR x := by
  have z : InR 0 := ⟨by decide, by decide⟩
  have step : ∀ (p : List Bool) (st : List Int × List Int × Nat), ((∀ x ∈ st.1, InR x) ∧ ∀ x ∈ st.2.1, InR x) → (∀ x ∈ (p.foldl (stepF tk) st).1, InR x) ∧ ∀ x ∈ (p.foldl (stepF tk) st).2.1, InR x := by
    intro p
    induction p with
    | nil => exact fun st h => h
    | cons b p ih =>
      intro st hs
      refine ih _ ?_
      unfold stepF
      split
      · refine ⟨fun x hx => ?_, hs.2⟩
        rcases List.mem_append.mp hx with hx | hx
        · exact hs.1 x hx
        · rw [List.mem_singleton] at hx
          subst hx
          rw [List.getD_eq_getElem?_getD]
          cases e : tk[st.2.2]? with
          | none => exact z
          | some y => exact h y (List.mem_of_getElem? e)
      · refine ⟨fun x hx => hs.1 x (List.mem_of_mem_erase hx), fun x hx => ?_⟩
        rcases List.mem_append.mp hx with hx | hx
        · exact hs.2 x hx
        · rw [List.mem_singleton] at hx
          subst hx
          by_cases e : st.1 = []
          · rw [e]; exact z
          · exact hs.1 _ (minI_mem e)
  intro p
  exact step p ([], [], 0) ⟨fun x hx => absurd hx (by simp), fun x hx => absurd hx (by simp)⟩
theorem dI_len (ns : List Int) : (dI ns).length = ns.length := List.length_map ..
theorem shows_pl {ns : List Int} (h : ∀ x ∈ ns, InR x) (hl : ns.length ≤ 200) : Shows (.list (dI ns)) 1 7000 ∧ Shows (.tuple (dI ns)) 1 7000 := by
  have a : ∀ d ∈ dI ns, Shows d 0 31 := fun d hd => by
    obtain ⟨x, hx, rfl⟩ := dI_mem hd
    have := h x hx
    exact shows_int (by decide) (by decide) this.1 (Int.lt_of_le_of_lt this.2 (by decide))
  have b := shows_list (n := 200) a (by rw [dI_len]; exact hl)
  have c := shows_tup (n := 200) a (by rw [dI_len]; exact hl)
  exact ⟨⟨b.s, b.n, b.k, Nat.le_trans b.z (by decide)⟩, ⟨c.s, c.n, c.k, Nat.le_trans c.z (by decide)⟩⟩
/-- a list or a tuple of ints, shown -/
theorem sq_shown {H : Hp} {a : Addr} {ns : List Int} (h : Sq H a (vI ns)) (hr : ∀ x ∈ ns, InR x) (hl : ns.length ≤ 200) (K : PySem.W.Frag) : ∃ d : PyData, Shows d 1 7000 ∧ ∀ H', Same H H' → Dp K H' (.ref a) d := by
  have s := shows_pl hr hl
  rcases h with h | h
  · exact ⟨_, s.1, fun H' k => dp_listI (lst_of (k _ _ h))⟩
  · exact ⟨_, s.2, fun H' k => dp_tupI (tup_of (k _ _ h))⟩
section
variable {P : Program} {w : World} {K : PySem.W.Frag} {mg : Str → Option Value} {base : Heap}
def spRight : Sp := fun vs H Q _ => ∃ (r l a : Addr) (n : Nat) (ns : List Int) (p : List Bool), vs = [.ref r, .ref a, .str (pS p)] ∧ BagAt H r l n ∧ n < 10000000000 ∧ H a = some (.lst (vI ns)) ∧ a ≠ r ∧ IsPl ns ∧ IsPat p ns.length ∧ ∀ H', BagAt H' r l (n + 1) → Kp r H H' → Q (.bl true) H'
theorem ok_law_right {f : Addr} {fd : FuncData} (B : Bn mg) (D_law_either : Df P w K mg base 3 "_law_either" [] spEither) (D_law_filled : Df P w K mg base 1 "_law_filled" [] (spFilled (K := K))) (D_fills_by : Df P w K mg base 4 "fills_by" [] spFillsBy)
    (F : Fun K "_law_right" "_law_right" Slaw_right f fd) : FnG P w K mg base 5 f fd ["bag", "takes", "pattern"] spRight := by
  refine gok F sclaw_right (fun vs H Q E h => ?_) (fun cdv A fs s H vs Q E hG hr h => ?_)
  · obtain ⟨_, _, _, _, _, _, rfl, _⟩ := h; rfl
  · obtain ⟨r, l, a, n, ns, p, rfl, hS, hn, hA, nar, hL, hP, q⟩ := h
    have hu := hr.units
    have ht := hL.top
    have hfr := runF_rg hL.rng p
    have hfl : (fillF ns p).length ≤ 200 := by
      have := runF_tk ns hP.pos p.length (Nat.le_refl _)
      rw [List.take_length] at this
      have := hP.tks
      have := hP.len
      show (runF ns p).2.1.length ≤ 200
      omega
    refine ⟨_, (pss_cons (ps_set (i := 3) sclaw_right.nd rfl (Or.inl rfl) (pe_df D_law_either hG (hr.mono (by first | decide | omega)) passL (by rfl) (pa_cons (pv 0) (pa_cons (pv 1) pa_nil)))) (pss_cons (ps_par (i := 4) (j := 5) rfl sclaw_right.nd rfl rfl (by decide) rfl rfl (pa_cons (pe_callB (k_repr K hG hu) (by rfl) B.repr Brepr (pa_cons (pv 3) pa_nil)) (pa_cons (pe_df D_law_filled hG (hr.mono (by first | decide | omega)) passL (by rfl) (pa_cons (pv 1) (pa_cons (pv 2) pa_nil))) pa_nil)) (by with_unfolding_all rfl)) (pss_cons (ps_for (passes_of rfl) rfl (pi_range1 (by rfl) B.range (pa_cons pe_int pa_nil)) (pg_name (i := 6) sclaw_right.nd rfl (Or.inl rfl)) (pss_cons (ps_set (i := 7) sclaw_right.nd rfl (Or.inl rfl) (pe_df D_fills_by hG (hr.mono (by first | decide | omega)) passL (by rfl) (pa_cons (pv 3) (pa_cons (pv 2) pa_nil)))) (pss_cons (ps_if (pw_or (pt_cmpR op_ne (pe_callB (k_repr K hG hu) (by rfl) B.repr Brepr (pa_cons (pv 7) pa_nil)) (pe_callB (k_repr K hG hu) (by rfl) B.repr Brepr (pa_cons (pv 5) pa_nil)) (nomark _)) (pw_or1 (pt_cmpR op_ne (pe_callB (k_repr K hG hu) (by rfl) B.repr Brepr (pa_cons (pv 3) pa_nil)) (pv 4) (nomark _)))).pt (pss_one (ps_ret pe_bl)) pss_nil) (pss_cons (ps_expr (k_bmP K (pe_bm PySem.F.plainAttrs_list PySem.F.slot_list_append PySem.F.type_list_append mt_append (pv 7) (pa_cons pe_non pa_nil)))) (pss_one (ps_expr (k_bm0P K (pe_bm0 PySem.F.plainAttrs_list PySem.F.slot_list_reverse PySem.F.type_list_reverse mt_reverse (pv 7))))))))) (pss_one (ps_ret pe_bl))))), ?_⟩
    walk_at "s"
    refine ⟨r, l, a, n, vI ns, rfl, hS, hn, .inl hA, by rw [vI_len]; omega, nar, fun b H1 hS1 hK1 nbr hb => ?_⟩
    obtain ⟨d, sd, hd⟩ := sq_shown hb hL.rng ht K
    have hA1 := hK1.get nar hA
    walk_at "s"
    refine r_repr (hd _ (Same.refl _)) sd (by decide) (by decide) ?_
    walk_at "s"
    refine ⟨a, ns, p, rfl, lst_of hA1, hP, fun H2 u s2 nu hu2 => ?_⟩
    have sh2 := (shows_pl hfr.2 hfl).1
    walk_at "s"
    refine ⟨_, rfl, by omega, by omega, ?_⟩
    refine for_src src_range (fun i σ H' => ∃ v6 v7, σ = [some (.ref r), some (.ref a), some (.str (pS p)), some (.ref b), some (.str d.shown), some (.ref u), v6, v7] ∧ Same H2 H') (fun _ _ _ _ => trivial) ⟨none, none, rfl, Same.refl _⟩ ?_ ?_
    · rintro i v σ H3 H4 hi ⟨v6, v7, rfl, s3⟩ ⟨rfl, rfl⟩
      walk_at "s"
      refine ⟨b, ns, p, rfl, (s2.trans s3).sq hb, hL, hP, fun H5 g s5 ng hg => ?_⟩
      walk_at "s"
      refine r_repr (dp_listI (lst_of hg)) sh2 (by decide) (by decide) ?_
      walk_at "s"
      refine r_repr (dp_listI (lst_of ((s3.trans s5) _ _ hu2))) sh2 (by decide) (by decide) ?_
      walk_at "s"
      refine r_repr (hd _ ((s2.trans s3).trans s5)) sd (by decide) (by decide) ?_
      have gl : (vI (fillF ns p)).length ≤ 200 := by rw [vI_len]; exact hfl
      have ng2 := s3.free ng
      walk_at "s"
      exact ⟨_, _, rfl, same_set (same_set (s3.trans s5) ng2) ng2⟩
    · rintro σ H3 ⟨v6, v7, rfl, s3⟩
      walk_at "s"
      exact q _ (hS1.same (s2.trans s3)) (hK1.trans (Kp.of (s2.trans s3)))
def spLaw (K : PySem.W.Frag) : Sp := fun vs H Q _ => ∃ (a : Addr) (ns : List Int), vs = [.ref a] ∧ SqL K H a (ns.map V.int) ∧ ns.length ≤ 63 ∧ ∀ H', Q (.bl true) H'
theorem ok_law {f : Addr} {fd : FuncData} (B : Bn mg) (D_law_bag : Df P w K mg base 1 "_law_bag" [] (spBag K)) (D_law_draw : Df P w K mg base 2 "_law_draw" [] spDraw) (D_law_places : Df P w K mg base 4 "_law_places" [] spPlaces)
    (D_law_pattern : Df P w K mg base 3 "_law_pattern" [] spPattern) (D_law_right : Df P w K mg base 5 "_law_right" [] spRight) (D_fills_by : Df P w K mg base 4 "fills_by" [] spFillsBy) (D_law_filled : Df P w K mg base 1 "_law_filled" [] (spFilled (K := K))) (D_law_all_patterns : Df P w K mg base 1 "_law_all_patterns" [] spAllPatterns)
    (F : Fun K "law" "law" Slaw f fd) : FnG P w K mg base 6 f fd ["script"] (spLaw K) := by
  refine gok F sclaw (fun vs H Q E h => ?_) (fun cdv A fs s H vs Q E hG hr h => ?_)
  · obtain ⟨_, _, rfl, _⟩ := h; rfl
  · obtain ⟨a, ns, rfl, hA, hl, q⟩ := h
    have hu := hr.units
    refine ⟨_, (pss_cons (ps_set (i := 1) sclaw.nd rfl (Or.inl rfl) (pe_df D_law_bag hG (hr.mono (by first | decide | omega)) passL (by rfl) (pa_cons (pv 0) pa_nil))) (pss_cons (ps_for (passes_of rfl) rfl (pi_range1 (by rfl) B.range (pa_cons (pe_op op_add pe_int (pe_callB (call_min2' rfl) (by rfl) B.min Bmin (pa_cons pe_int (pa_cons (pe_callB (k_len K) (by rfl) B.len Blen (pa_cons (pv 0) pa_nil)) pa_nil)))) pa_nil)) (pg_name (i := 2) sclaw.nd rfl (Or.inl rfl)) (pss_cons (ps_set (i := 3) sclaw.nd rfl (Or.inl rfl) (pe_ix (k_ixL K) (pe_lst (pa_cons pe_int (pa_cons (pe_df D_law_draw hG (hr.mono (by first | decide | omega)) passL (by rfl) (pa_cons (pv 1) (pa_cons pe_int pa_nil))) (pa_cons (pe_df D_law_draw hG (hr.mono (by first | decide | omega)) passL (by rfl) (pa_cons (pv 1) (pa_cons pe_int pa_nil))) pa_nil)))) (pe_callB (call_min2' rfl) (by rfl) B.min Bmin (pa_cons pe_int (pa_cons (pv 2) pa_nil))) (fun _ _ => rfl))) (pss_cons (ps_par (i := 4) (j := 5) rfl sclaw.nd rfl rfl (by decide) rfl rfl (pa_cons (pe_df D_law_places hG (hr.mono (by first | decide | omega)) passL (by rfl) (pa_cons (pv 1) (pa_cons (pv 3) pa_nil))) (pa_cons (pe_df D_law_pattern hG (hr.mono (by first | decide | omega)) passL (by rfl) (pa_cons (pv 1) (pa_cons (pv 3) pa_nil))) pa_nil)) (by with_unfolding_all rfl)) (pss_cons (ps_if (pt_not (pt_val (pe_df D_law_right hG (hr.mono (by first | decide | omega)) passL (by rfl) (pa_cons (pv 1) (pa_cons (pv 4) (pa_cons (pv 5) pa_nil)))))) (pss_one (ps_ret pe_bl)) pss_nil) (pss_cons (ps_for (passes_of rfl) rfl (pi_range1 (by rfl) B.range (pa_cons (pe_op op_mul pe_int (pe_callTy call_int1' (by rfl) B.int Tint (pa_cons (pe_cmpR op_gt (pv 3) pe_int (nomark _)) pa_nil))) pa_nil)) (pg_name (i := 6) sclaw.nd rfl (Or.inl rfl)) (pss_cons (ps_par (i := 7) (j := 8) rfl sclaw.nd rfl rfl (by decide) rfl rfl (pa_cons (pe_df D_law_draw hG (hr.mono (by first | decide | omega)) passL (by rfl) (pa_cons (pv 1) (pa_cons (pv 3) pa_nil))) (pa_cons (pe_df D_law_draw hG (hr.mono (by first | decide | omega)) passL (by rfl) (pa_cons (pv 1) (pa_cons (pv 3) pa_nil))) pa_nil)) (by with_unfolding_all rfl)) (pss_cons (ps_asg (pe_tup (pa_cons (pe_ix (k_ixL K) (pv 4) (pv 8) (fun _ _ => rfl)) (pa_cons (pe_ix (k_ixL K) (pv 4) (pv 7) (fun _ _ => rfl)) pa_nil))) (k_gtup (n := 2) K rfl (pgs_cons (pg_sub (pv 4) (pv 7) set_list) (pgs_cons (pg_sub (pv 4) (pv 8) set_list) pgs_nil)))) (pss_one (ps_if (pt_cmpR (k_neD K hu) (pe_df D_fills_by hG (hr.mono (by first | decide | omega)) passL (by rfl) (pa_cons (pv 4) (pa_cons (pv 5) pa_nil))) (pe_df D_law_filled hG (hr.mono (by first | decide | omega)) passL (by rfl) (pa_cons (pv 4) (pa_cons (pv 5) pa_nil))) (nomark _)) (pss_one (ps_ret pe_bl)) pss_nil))))) (pss_cons (ps_set (i := 3) sclaw.nd rfl (Or.inl rfl) (pe_df D_law_draw hG (hr.mono (by first | decide | omega)) passL (by rfl) (pa_cons (pv 1) (pa_cons pe_int pa_nil)))) (pss_cons (ps_set (i := 4) sclaw.nd rfl (Or.inl rfl) (pe_df D_law_places hG (hr.mono (by first | decide | omega)) passL (by rfl) (pa_cons (pv 1) (pa_cons (pv 3) pa_nil)))) (pss_one (ps_for (passes_of rfl) rfl (k_piL K (pe_df D_law_all_patterns hG (hr.mono (by first | decide | omega)) passL (by rfl) (pa_cons (pv 3) pa_nil))) (pg_name (i := 5) sclaw.nd rfl (Or.inl rfl)) (pss_one (ps_if (pt_not (pt_val (pe_df D_law_right hG (hr.mono (by first | decide | omega)) passL (by rfl) (pa_cons (pv 1) (pa_cons (pv 4) (pa_cons (pv 5) pa_nil)))))) (pss_one (ps_ret pe_bl)) pss_nil))))))))))) (pss_one (ps_ret (pe_and (pe_cmpR (k_eqD K hu) (pe_df D_fills_by hG (hr.mono (by first | decide | omega)) passL (by rfl) (pa_cons (pe_lst pa_nil) (pa_cons pe_str pa_nil))) (pe_lst pa_nil) (nomark _)) (pe_one (pe_cmpR (k_eqD K hu) (pe_df D_fills_by hG (hr.mono (by first | decide | omega)) passL (by rfl) (pa_cons (pe_lst (pa_cons pe_int (pa_cons pe_int (pa_cons pe_int (pa_cons pe_int pa_nil))))) (pa_cons pe_str pa_nil))) (pe_lst (pa_cons pe_int (pa_cons pe_int (pa_cons pe_int (pa_cons pe_int pa_nil))))) (nomark _)))))))), ?_⟩
    walk_at "s"
    refine ⟨a, ns, rfl, hA, hl, fun H1 r l s1 nr hS1 => ?_⟩
    have hA1 := s1.seq hA
    walk_at "s"
    rw [List.length_map]
    have hc : 4 ≤ 4 + (if (ns.length : Int) < 6 then (ns.length : Int) else (6 : Int)) ∧ 4 + (if (ns.length : Int) < 6 then (ns.length : Int) else (6 : Int)) ≤ 10 := by split <;> omega
    generalize 4 + (if (ns.length : Int) < 6 then (ns.length : Int) else (6 : Int)) = c at hc
    refine ⟨_, rfl, by omega, by omega, ?_⟩
    refine for_src src_range (fun i σ H' => ∃ v2 v3 v4 v5 v6 v7 v8, σ = [some (.ref a), some (.ref r), v2, v3, v4, v5, v6, v7, v8] ∧ BagAt H' r l (100000 * i)) (fun _ _ _ _ => trivial) ⟨none, none, none, none, none, none, none, rfl, hS1⟩ ?_ ?_
    · rintro i v σ H3 H2 hi ⟨v2, v3, v4, v5, v6, v7, v8, rfl, hS2⟩ ⟨rfl, rfl⟩
      have hi2 : i < 10 := by omega
      walk_at "s"
      refine ⟨r, l, 12, _, rfl, hS2, by omega, by decide, by decide, fun e1 H3 e10 e11 hS3 hK3 => ?_⟩
      walk_at "s"
      refine ⟨r, l, 201, _, rfl, hS3, by omega, by decide, by decide, fun e2 H4 e20 e21 hS4 hK4 => ?_⟩
      walk_at "s"
      intro t nt
      have hS5 := hS4.same (same_new (o := .lst [.int 200, .int e1, .int e2]) nt)
      walk_at "s"
      obtain ⟨count, hm, hm1⟩ : ∃ count : Nat, atI [V.int 200, V.int e1, V.int e2] (if (0 : Int) + (i : Int) < 2 then 0 + (i : Int) else 2) = some (.int (count : Int)) ∧ count ≤ 200 := by
        have i3 : i = 0 ∨ i = 1 ∨ ¬ (0 : Int) + (i : Int) < 2 := by omega
        rcases i3 with rfl | rfl | h
        · exact ⟨200, rfl, by decide⟩
        · exact ⟨e1.toNat, by rw [Int.toNat_of_nonneg e10]; rfl, by omega⟩
        · rw [if_neg h]
          exact ⟨e2.toNat, by rw [Int.toNat_of_nonneg e20]; rfl, by omega⟩
      refine r_ixL (lst_of upd_same) hm ?_
      walk_at "s"
      refine ⟨r, l, _, count, rfl, hS5, by omega, hm1, fun tk tp H6 hL htl hS6 hK6 ntp htp => ?_⟩
      have ntr := (hS5.ne ntp).1.symm
      walk_at "s"
      refine ⟨r, l, _, count, rfl, hS6, by omega, hm1, fun p H7 hP hS7 hK7 => ?_⟩
      have htp7 := hK7.get ntr htp
      walk_at "s"
      refine ⟨r, l, tp, _, tk, p, rfl, hS7, by omega, htp7, ntr, hL, by rw [htl]; exact hP, fun H8 hS8 hK8 => ?_⟩
      have htp8 := hK8.get ntr htp7
      walk_at "s"
      have hcc : 0 ≤ (3 * if decide ((1 : Int) < (count : Int)) = true then (1 : Int) else 0) ∧ (3 * if decide ((1 : Int) < (count : Int)) = true then (1 : Int) else 0) ≤ 3 ∧ (0 < (3 * if decide ((1 : Int) < (count : Int)) = true then (1 : Int) else 0) → (1 : Int) < (count : Int)) := by
        by_cases h : (1 : Int) < (count : Int)
        · rw [decide_eq_true h]; exact ⟨by decide, by decide, fun _ => h⟩
        · rw [decide_eq_false h]; exact ⟨by decide, by decide, fun z => absurd z (by decide)⟩
      generalize (3 * if decide ((1 : Int) < (count : Int)) = true then (1 : Int) else 0) = c3 at hcc
      refine ⟨_, rfl, by omega, by omega, ?_⟩
      refine for_src src_range (fun j σ H' => ∃ tk v6 v7 v8, σ = [some (.ref a), some (.ref r), some (.int (0 + (i : Int))), some (.int (count : Int)), some (.ref tp), some (.str (pS p)), v6, v7, v8] ∧ BagAt H' r l (100000 * i + 5000 + 10 * j) ∧ H' tp = some (.lst (vI tk)) ∧ IsPl tk ∧ tk.length = count) (fun _ _ _ _ => trivial)
        ⟨tk, v6, v7, v8, rfl, hS8.mono (by omega), htp8, hL, htl⟩ ?_ ?_
      · rintro j v σ H9 H10 hj ⟨tk, v6, v7, v8, rfl, hS9, htp9, hL9, htl9⟩ ⟨rfl, rfl⟩
        walk_at "s"
        refine ⟨r, l, _, _, rfl, hS9, by omega, by omega, two200 (by omega), fun d1 H11 i0 i1 hS11 hK11 => ?_⟩
        walk_at "s"
        refine ⟨r, l, _, _, rfl, hS11, by omega, by omega, two200 (by omega), fun d2 H12 j0 j1 hS12 hK12 => ?_⟩
        have htp12 := hK12.get ntr (hK11.get ntr htp9)
        have x1 : tk[d1.toNat]? = some (tk[d1.toNat]'(by omega)) := List.getElem?_eq_getElem (by omega)
        have x2 : tk[d2.toNat]? = some (tk[d2.toNat]'(by omega)) := List.getElem?_eq_getElem (by omega)
        have a1 : atI (vI tk) d1 = some (.int (tk[d1.toNat]'(by omega))) := atI_ok i0 (vI_at (by omega))
        have a2 : atI (vI tk) d2 = some (.int (tk[d2.toNat]'(by omega))) := atI_ok j0 (vI_at (by omega))
        have e1 : ixN (vI tk).length d1 = some d1.toNat := by rw [vI_len]; exact ixN_ok i0 (by omega)
        have e2 : ixN (vI (tk.set d1.toNat (tk[d2.toNat]'(by omega)))).length d2 = some d2.toNat := by rw [vI_len, List.length_set]; exact ixN_ok j0 (by omega)
        walk_at "s"
        intro u nu
        have nbu : tp ≠ u := ne_new nu htp12
        have hb10 := (same_new (o := .tup [.int (tk[d2.toNat]'(by omega)), .int (tk[d1.toNat]'(by omega))]) nu) _ _ htp12
        walk_at "s"
        rw [vI_set]
        refine r_setL upd_same e2 ?_
        rw [vI_set]
        walk_at "s"
        have pm : ((tk.set d1.toNat (tk[d2.toNat]'(by omega))).set d2.toNat (tk[d1.toNat]'(by omega))).Perm tk := List.set_set_perm (by omega) (by omega)
        have hL13 := hL9.perm pm
        have hl13 : ((tk.set d1.toNat (tk[d2.toNat]'(by omega))).set d2.toNat (tk[d1.toNat]'(by omega))).length = count := pm.length_eq.trans htl9
        generalize (tk.set d1.toNat (tk[d2.toNat]'(by omega))).set d2.toNat (tk[d1.toNat]'(by omega)) = tk2 at hL13 hl13
        have nlt : r ≠ tp ∧ l ≠ tp := ⟨ntr.symm, by
          obtain ⟨cs, ii, x, cc, tt, g1, g2, g3⟩ := hS5
          exact fun e => by rw [← e, g2] at ntp; cases ntp⟩
        have hS13 := ((hS12.same (same_new (o := .tup [.int (tk[d2.toNat]'(by omega)), .int (tk[d1.toNat]'(by omega))]) nu)).upd (o := .lst (vI (tk.set d1.toNat (tk[d2.toNat]'(by omega))))) nlt).upd (o := .lst (vI tk2)) nlt
        refine ⟨tp, tk2, p, rfl, .inl upd_same, hL13, by rw [hl13]; exact hP, fun H14 f1 s14 nf1 hf1 => ?_⟩
        walk_at "s"
        refine ⟨tp, tk2, p, rfl, lst_of (s14 _ _ upd_same), by rw [hl13]; exact hP, fun H15 f2 s15 nf2 hf2 => ?_⟩
        walk_at "s"
        refine r_neLI (xs := fillF tk2 p) (ys := fillF tk2 p) (lst_of (s15 _ _ hf1)) (lst_of hf2) ?_
        walk_at "s"
        exact ⟨tk2, _, _, _, rfl, (hS13.same (s14.trans s15)).mono (by omega), (s14.trans s15) _ _ upd_same, hL13, hl13⟩
      · rintro σ H9 ⟨tk, v6, v7, v8, rfl, hS9, htp9, hL9, htl9⟩
        walk_at "s"
        refine ⟨r, l, 5, _, rfl, hS9, by omega, by decide, by decide, fun d H10 d0 d1 hS10 hK10 => ?_⟩
        walk_at "s"
        refine ⟨r, l, _, d.toNat, by rw [Int.toNat_of_nonneg d0]; rfl, hS10, by omega, by omega, fun tk2 tq H11 hL11 htl11 hS11 hK11 ntq htq => ?_⟩
        have nqr := (hS10.ne ntq).1.symm
        walk_at "s"
        refine ⟨d.toNat, by rw [Int.toNat_of_nonneg d0]; rfl, by omega, fun H12 pl s12 npl hpl => ?_⟩
        have alen := allA_len d.toNat (2 * d.toNat)
        have p2 : 2 ^ (2 * d.toNat) ≤ 2 ^ 8 := Nat.pow_le_pow_right (by decide) (by omega)
        have npr := ((hS11).ne npl).1.symm
        walk_at "s"
        refine ⟨pl, rfl, ⟨_, lst_of hpl⟩, ?_⟩
        refine for_src (src_list (xs := (allA d.toNat (2 * d.toNat)).map fun q => V.str (pS q))) (fun j σ H' => ∃ v5 v6 v7 v8, σ = [some (.ref a), some (.ref r), some (.int (0 + (i : Int))), some (.int d), some (.ref tq), v5, v6, v7, v8] ∧ BagAt H' r l (100000 * i + 8000 + j) ∧ H' tq = some (.lst (vI tk2)) ∧ H' pl = some (.lst ((allA d.toNat (2 * d.toNat)).map fun q => V.str (pS q))))
          (fun j σ H' h => by obtain ⟨_, _, _, _, _, _, _, h⟩ := h; exact lst_of h) ⟨_, _, _, _, rfl, (hS11.same s12).mono (by omega), s12 _ _ htq, hpl⟩ ?_ ?_
        · rintro j v σ H13 H14 hj ⟨v5, v6, v7, v8, rfl, hS13, htq13, hpl13⟩ ⟨rfl, hv⟩
          rw [List.length_map] at hj
          have h2 := List.getElem?_eq_getElem hj
          rw [List.getElem?_map, h2] at hv
          cases hv
          have hP2 := (allA_way d.toNat (2 * d.toNat) _ (List.mem_of_getElem? h2)).all (by omega)
          walk_at "s"
          refine ⟨r, l, tq, _, tk2, _, rfl, hS13, by omega, htq13, nqr, hL11, by rw [htl11]; exact hP2, fun H15 hS15 hK15 => ?_⟩
          walk_at "s"
          exact ⟨_, _, _, _, rfl, hS15.mono (by omega), hK15.get nqr htq13, hK15.get npr hpl13⟩
        · rintro σ H13 ⟨v5, v6, v7, v8, rfl, hS13, htq13, hpl13⟩
          rw [List.length_map] at hS13
          walk_at "s"
          exact ⟨_, _, _, _, _, _, _, rfl, hS13.mono (by omega)⟩
    · rintro σ H2 ⟨v2, v3, v4, v5, v6, v7, v8, rfl, hS2⟩
      walk_at "s"
      intro t nt
      walk_at "s"
      refine ⟨t, [], [], rfl, .inl upd_same, ⟨by decide, fun x h => absurd h (by simp), .nil⟩, (Way.nil 0).all (by decide), fun H3 f1 s3 nf1 hf1 => ?_⟩
      walk_at "s"
      intro u nu
      refine r_eqLI (xs := fillF [] []) (ys := []) (lst_of ((same_new nu) _ _ hf1)) (lst_of upd_same) ?_
      rw [show decide (fillF [] [] = []) = true by decide]
      walk_at "s"
      intro t2 nt2
      walk_at "s"
      have hP : IsPat [true, true, false, true, false, true, false, false] 4 := by
        refine ⟨rfl, by decide, by decide, fun k => ?_⟩
        by_cases hk : k ≤ 8
        · have key : ∀ k : Fin 9, 0 ≤ dif ([true, true, false, true, false, true, false, false].take k.val) := by decide
          exact key ⟨k, by omega⟩
        · rw [List.take_of_length_le (by simp; omega)]
          decide
      refine ⟨t2, [2, 0, 3, 1], [true, true, false, true, false, true, false, false], rfl, .inl upd_same, ⟨by decide, by decide, by decide⟩, hP, fun H4 f2 s4 nf2 hf2 => ?_⟩
      walk_at "s"
      intro u2 nu2
      refine r_eqLI (xs := fillF [2, 0, 3, 1] [true, true, false, true, false, true, false, false]) (ys := [0, 2, 1, 3]) (lst_of ((same_new nu2) _ _ hf2)) (lst_of upd_same) ?_
      rw [show decide (fillF [2, 0, 3, 1] [true, true, false, true, false, true, false, false] = [0, 2, 1, 3]) = true by decide +kernel]
      exact q _
end

theorem all_mk {l : PySem.W.OpenLaw} {w : World} {K : PySem.W.Frag} {h : Heap} {mg : Str → Option Value} {fa : Addr} (X : K.In h) (G : h.Ns mainGlobals mg) (hfa : mg "law" = some (.ref fa))
    {f_is_integer : Addr} {od_is_integer an_is_integer : Option Addr} {sl_is_integer : Array (Option Value)} {oc_is_integer kV_is_integer dc_is_integer pm_is_integer cd_is_integer ct_is_integer : Value}
    {T_is_integer : Addr} {oT_is_integer : Value} {dT_is_integer : Option Addr} {nT_is_integer : Nat} {sT_is_integer : Array (Option Value)}
    {f_is_listed : Addr} {od_is_listed an_is_listed : Option Addr} {sl_is_listed : Array (Option Value)} {oc_is_listed kV_is_listed dc_is_listed pm_is_listed cd_is_listed ct_is_listed : Value}
    {f_is_place_list : Addr} {od_is_place_list an_is_place_list : Option Addr} {sl_is_place_list : Array (Option Value)} {oc_is_place_list kV_is_place_list dc_is_place_list pm_is_place_list cd_is_place_list ct_is_place_list : Value}
    {f_checked_places : Addr} {od_checked_places an_checked_places : Option Addr} {sl_checked_places : Array (Option Value)} {oc_checked_places kV_checked_places dc_checked_places pm_checked_places cd_checked_places ct_checked_places : Value}
    {f_is_pattern : Addr} {od_is_pattern an_is_pattern : Option Addr} {sl_is_pattern : Array (Option Value)} {oc_is_pattern kV_is_pattern dc_is_pattern pm_is_pattern cd_is_pattern ct_is_pattern : Value}
    {f_check_pattern : Addr} {od_check_pattern an_check_pattern : Option Addr} {sl_check_pattern : Array (Option Value)} {oc_check_pattern kV_check_pattern dc_check_pattern pm_check_pattern cd_check_pattern ct_check_pattern : Value}
    {f_filled_by : Addr} {od_filled_by an_filled_by : Option Addr} {sl_filled_by : Array (Option Value)} {oc_filled_by kV_filled_by dc_filled_by pm_filled_by cd_filled_by ct_filled_by : Value}
    {f_fills_by : Addr} {od_fills_by an_fills_by : Option Addr} {sl_fills_by : Array (Option Value)} {oc_fills_by kV_fills_by dc_fills_by pm_fills_by cd_fills_by ct_fills_by : Value}
    {f_law_bag : Addr} {od_law_bag an_law_bag : Option Addr} {sl_law_bag : Array (Option Value)} {oc_law_bag kV_law_bag dc_law_bag pm_law_bag cd_law_bag ct_law_bag : Value}
    {f_law_stir : Addr} {od_law_stir an_law_stir : Option Addr} {sl_law_stir : Array (Option Value)} {oc_law_stir kV_law_stir dc_law_stir pm_law_stir cd_law_stir ct_law_stir : Value}
    {f_law_draw : Addr} {od_law_draw an_law_draw : Option Addr} {sl_law_draw : Array (Option Value)} {oc_law_draw kV_law_draw dc_law_draw pm_law_draw cd_law_draw ct_law_draw : Value}
    {f_law_shuffled : Addr} {od_law_shuffled an_law_shuffled : Option Addr} {sl_law_shuffled : Array (Option Value)} {oc_law_shuffled kV_law_shuffled dc_law_shuffled pm_law_shuffled cd_law_shuffled ct_law_shuffled : Value}
    {f_law_either : Addr} {od_law_either an_law_either : Option Addr} {sl_law_either : Array (Option Value)} {oc_law_either kV_law_either dc_law_either pm_law_either cd_law_either ct_law_either : Value}
    {f_law_pattern : Addr} {od_law_pattern an_law_pattern : Option Addr} {sl_law_pattern : Array (Option Value)} {oc_law_pattern kV_law_pattern dc_law_pattern pm_law_pattern cd_law_pattern ct_law_pattern : Value}
    {f_law_places : Addr} {od_law_places an_law_places : Option Addr} {sl_law_places : Array (Option Value)} {oc_law_places kV_law_places dc_law_places pm_law_places cd_law_places ct_law_places : Value}
    {f_law_filled : Addr} {od_law_filled an_law_filled : Option Addr} {sl_law_filled : Array (Option Value)} {oc_law_filled kV_law_filled dc_law_filled pm_law_filled cd_law_filled ct_law_filled : Value}
    {f_law_all_patterns : Addr} {od_law_all_patterns an_law_all_patterns : Option Addr} {sl_law_all_patterns : Array (Option Value)} {oc_law_all_patterns kV_law_all_patterns dc_law_all_patterns pm_law_all_patterns cd_law_all_patterns ct_law_all_patterns : Value}
    {f_law_right : Addr} {od_law_right an_law_right : Option Addr} {sl_law_right : Array (Option Value)} {oc_law_right kV_law_right dc_law_right pm_law_right cd_law_right ct_law_right : Value}
    {f_law : Addr} {od_law an_law : Option Addr} {sl_law : Array (Option Value)} {oc_law kV_law dc_law pm_law cd_law ct_law : Value}
    {t_MAX_SIZE : Tok}
    {t_MAX_PLACE : Tok}
    {t_TAKING : Tok}
    {t_RETURNING : Tok}
    (a_is_integer : PySem.W.nsIn K mainGlobals "is_integer" = some (some (.ref f_is_integer)))
    (l_is_integer : K.lookup f_is_integer = some ⟨oc_is_integer, od_is_integer, .func (PySem.W.fnOf "is_integer" "is_integer" (defArgs Sis_integer) (defBody Sis_integer) (defScope Sis_integer) (.ref T_is_integer) kV_is_integer dc_is_integer pm_is_integer an_is_integer cd_is_integer ct_is_integer), sl_is_integer⟩)
    (t_is_integer : K.lookup T_is_integer = some ⟨oT_is_integer, dT_is_integer, .seq #[.none] nT_is_integer, sT_is_integer⟩)
    (c_is_integer : PySem.W.codeIn K cd_is_integer "is_integer" = true)
    (k_is_integer : PySem.W.keepIn K (.ref f_is_integer) = true)
    (a_is_listed : PySem.W.nsIn K mainGlobals "is_listed" = some (some (.ref f_is_listed)))
    (l_is_listed : K.lookup f_is_listed = some ⟨oc_is_listed, od_is_listed, .func (PySem.W.fnOf "is_listed" "is_listed" (defArgs Sis_listed) (defBody Sis_listed) (defScope Sis_listed) .none kV_is_listed dc_is_listed pm_is_listed an_is_listed cd_is_listed ct_is_listed), sl_is_listed⟩)
    (c_is_listed : PySem.W.codeIn K cd_is_listed "is_listed" = true)
    (k_is_listed : PySem.W.keepIn K (.ref f_is_listed) = true)
    (a_is_place_list : PySem.W.nsIn K mainGlobals "is_place_list" = some (some (.ref f_is_place_list)))
    (l_is_place_list : K.lookup f_is_place_list = some ⟨oc_is_place_list, od_is_place_list, .func (PySem.W.fnOf "is_place_list" "is_place_list" (defArgs Sis_place_list) (defBody Sis_place_list) (defScope Sis_place_list) .none kV_is_place_list dc_is_place_list pm_is_place_list an_is_place_list cd_is_place_list ct_is_place_list), sl_is_place_list⟩)
    (c_is_place_list : PySem.W.codeIn K cd_is_place_list "is_place_list" = true)
    (k_is_place_list : PySem.W.keepIn K (.ref f_is_place_list) = true)
    (a_checked_places : PySem.W.nsIn K mainGlobals "checked_places" = some (some (.ref f_checked_places)))
    (l_checked_places : K.lookup f_checked_places = some ⟨oc_checked_places, od_checked_places, .func (PySem.W.fnOf "checked_places" "checked_places" (defArgs Schecked_places) (defBody Schecked_places) (defScope Schecked_places) .none kV_checked_places dc_checked_places pm_checked_places an_checked_places cd_checked_places ct_checked_places), sl_checked_places⟩)
    (c_checked_places : PySem.W.codeIn K cd_checked_places "checked_places" = true)
    (k_checked_places : PySem.W.keepIn K (.ref f_checked_places) = true)
    (a_is_pattern : PySem.W.nsIn K mainGlobals "is_pattern" = some (some (.ref f_is_pattern)))
    (l_is_pattern : K.lookup f_is_pattern = some ⟨oc_is_pattern, od_is_pattern, .func (PySem.W.fnOf "is_pattern" "is_pattern" (defArgs Sis_pattern) (defBody Sis_pattern) (defScope Sis_pattern) .none kV_is_pattern dc_is_pattern pm_is_pattern an_is_pattern cd_is_pattern ct_is_pattern), sl_is_pattern⟩)
    (c_is_pattern : PySem.W.codeIn K cd_is_pattern "is_pattern" = true)
    (k_is_pattern : PySem.W.keepIn K (.ref f_is_pattern) = true)
    (a_check_pattern : PySem.W.nsIn K mainGlobals "check_pattern" = some (some (.ref f_check_pattern)))
    (l_check_pattern : K.lookup f_check_pattern = some ⟨oc_check_pattern, od_check_pattern, .func (PySem.W.fnOf "check_pattern" "check_pattern" (defArgs Scheck_pattern) (defBody Scheck_pattern) (defScope Scheck_pattern) .none kV_check_pattern dc_check_pattern pm_check_pattern an_check_pattern cd_check_pattern ct_check_pattern), sl_check_pattern⟩)
    (c_check_pattern : PySem.W.codeIn K cd_check_pattern "check_pattern" = true)
    (k_check_pattern : PySem.W.keepIn K (.ref f_check_pattern) = true)
    (a_filled_by : PySem.W.nsIn K mainGlobals "filled_by" = some (some (.ref f_filled_by)))
    (l_filled_by : K.lookup f_filled_by = some ⟨oc_filled_by, od_filled_by, .func (PySem.W.fnOf "filled_by" "filled_by" (defArgs Sfilled_by) (defBody Sfilled_by) (defScope Sfilled_by) .none kV_filled_by dc_filled_by pm_filled_by an_filled_by cd_filled_by ct_filled_by), sl_filled_by⟩)
    (c_filled_by : PySem.W.codeIn K cd_filled_by "filled_by" = true)
    (k_filled_by : PySem.W.keepIn K (.ref f_filled_by) = true)
    (a_fills_by : PySem.W.nsIn K mainGlobals "fills_by" = some (some (.ref f_fills_by)))
    (l_fills_by : K.lookup f_fills_by = some ⟨oc_fills_by, od_fills_by, .func (PySem.W.fnOf "fills_by" "fills_by" (defArgs Sfills_by) (defBody Sfills_by) (defScope Sfills_by) .none kV_fills_by dc_fills_by pm_fills_by an_fills_by cd_fills_by ct_fills_by), sl_fills_by⟩)
    (c_fills_by : PySem.W.codeIn K cd_fills_by "fills_by" = true)
    (k_fills_by : PySem.W.keepIn K (.ref f_fills_by) = true)
    (a_law_bag : PySem.W.nsIn K mainGlobals "_law_bag" = some (some (.ref f_law_bag)))
    (l_law_bag : K.lookup f_law_bag = some ⟨oc_law_bag, od_law_bag, .func (PySem.W.fnOf "_law_bag" "_law_bag" (defArgs Slaw_bag) (defBody Slaw_bag) (defScope Slaw_bag) .none kV_law_bag dc_law_bag pm_law_bag an_law_bag cd_law_bag ct_law_bag), sl_law_bag⟩)
    (c_law_bag : PySem.W.codeIn K cd_law_bag "_law_bag" = true)
    (k_law_bag : PySem.W.keepIn K (.ref f_law_bag) = true)
    (a_law_stir : PySem.W.nsIn K mainGlobals "_law_stir" = some (some (.ref f_law_stir)))
    (l_law_stir : K.lookup f_law_stir = some ⟨oc_law_stir, od_law_stir, .func (PySem.W.fnOf "_law_stir" "_law_stir" (defArgs Slaw_stir) (defBody Slaw_stir) (defScope Slaw_stir) .none kV_law_stir dc_law_stir pm_law_stir an_law_stir cd_law_stir ct_law_stir), sl_law_stir⟩)
    (c_law_stir : PySem.W.codeIn K cd_law_stir "_law_stir" = true)
    (k_law_stir : PySem.W.keepIn K (.ref f_law_stir) = true)
    (a_law_draw : PySem.W.nsIn K mainGlobals "_law_draw" = some (some (.ref f_law_draw)))
    (l_law_draw : K.lookup f_law_draw = some ⟨oc_law_draw, od_law_draw, .func (PySem.W.fnOf "_law_draw" "_law_draw" (defArgs Slaw_draw) (defBody Slaw_draw) (defScope Slaw_draw) .none kV_law_draw dc_law_draw pm_law_draw an_law_draw cd_law_draw ct_law_draw), sl_law_draw⟩)
    (c_law_draw : PySem.W.codeIn K cd_law_draw "_law_draw" = true)
    (k_law_draw : PySem.W.keepIn K (.ref f_law_draw) = true)
    (a_law_shuffled : PySem.W.nsIn K mainGlobals "_law_shuffled" = some (some (.ref f_law_shuffled)))
    (l_law_shuffled : K.lookup f_law_shuffled = some ⟨oc_law_shuffled, od_law_shuffled, .func (PySem.W.fnOf "_law_shuffled" "_law_shuffled" (defArgs Slaw_shuffled) (defBody Slaw_shuffled) (defScope Slaw_shuffled) .none kV_law_shuffled dc_law_shuffled pm_law_shuffled an_law_shuffled cd_law_shuffled ct_law_shuffled), sl_law_shuffled⟩)
    (c_law_shuffled : PySem.W.codeIn K cd_law_shuffled "_law_shuffled" = true)
    (k_law_shuffled : PySem.W.keepIn K (.ref f_law_shuffled) = true)
    (a_law_either : PySem.W.nsIn K mainGlobals "_law_either" = some (some (.ref f_law_either)))
    (l_law_either : K.lookup f_law_either = some ⟨oc_law_either, od_law_either, .func (PySem.W.fnOf "_law_either" "_law_either" (defArgs Slaw_either) (defBody Slaw_either) (defScope Slaw_either) .none kV_law_either dc_law_either pm_law_either an_law_either cd_law_either ct_law_either), sl_law_either⟩)
    (c_law_either : PySem.W.codeIn K cd_law_either "_law_either" = true)
    (k_law_either : PySem.W.keepIn K (.ref f_law_either) = true)
    (a_law_pattern : PySem.W.nsIn K mainGlobals "_law_pattern" = some (some (.ref f_law_pattern)))
    (l_law_pattern : K.lookup f_law_pattern = some ⟨oc_law_pattern, od_law_pattern, .func (PySem.W.fnOf "_law_pattern" "_law_pattern" (defArgs Slaw_pattern) (defBody Slaw_pattern) (defScope Slaw_pattern) .none kV_law_pattern dc_law_pattern pm_law_pattern an_law_pattern cd_law_pattern ct_law_pattern), sl_law_pattern⟩)
    (c_law_pattern : PySem.W.codeIn K cd_law_pattern "_law_pattern" = true)
    (k_law_pattern : PySem.W.keepIn K (.ref f_law_pattern) = true)
    (a_law_places : PySem.W.nsIn K mainGlobals "_law_places" = some (some (.ref f_law_places)))
    (l_law_places : K.lookup f_law_places = some ⟨oc_law_places, od_law_places, .func (PySem.W.fnOf "_law_places" "_law_places" (defArgs Slaw_places) (defBody Slaw_places) (defScope Slaw_places) .none kV_law_places dc_law_places pm_law_places an_law_places cd_law_places ct_law_places), sl_law_places⟩)
    (c_law_places : PySem.W.codeIn K cd_law_places "_law_places" = true)
    (k_law_places : PySem.W.keepIn K (.ref f_law_places) = true)
    (a_law_filled : PySem.W.nsIn K mainGlobals "_law_filled" = some (some (.ref f_law_filled)))
    (l_law_filled : K.lookup f_law_filled = some ⟨oc_law_filled, od_law_filled, .func (PySem.W.fnOf "_law_filled" "_law_filled" (defArgs Slaw_filled) (defBody Slaw_filled) (defScope Slaw_filled) .none kV_law_filled dc_law_filled pm_law_filled an_law_filled cd_law_filled ct_law_filled), sl_law_filled⟩)
    (c_law_filled : PySem.W.codeIn K cd_law_filled "_law_filled" = true)
    (k_law_filled : PySem.W.keepIn K (.ref f_law_filled) = true)
    (a_law_all_patterns : PySem.W.nsIn K mainGlobals "_law_all_patterns" = some (some (.ref f_law_all_patterns)))
    (l_law_all_patterns : K.lookup f_law_all_patterns = some ⟨oc_law_all_patterns, od_law_all_patterns, .func (PySem.W.fnOf "_law_all_patterns" "_law_all_patterns" (defArgs Slaw_all_patterns) (defBody Slaw_all_patterns) (defScope Slaw_all_patterns) .none kV_law_all_patterns dc_law_all_patterns pm_law_all_patterns an_law_all_patterns cd_law_all_patterns ct_law_all_patterns), sl_law_all_patterns⟩)
    (c_law_all_patterns : PySem.W.codeIn K cd_law_all_patterns "_law_all_patterns" = true)
    (k_law_all_patterns : PySem.W.keepIn K (.ref f_law_all_patterns) = true)
    (a_law_right : PySem.W.nsIn K mainGlobals "_law_right" = some (some (.ref f_law_right)))
    (l_law_right : K.lookup f_law_right = some ⟨oc_law_right, od_law_right, .func (PySem.W.fnOf "_law_right" "_law_right" (defArgs Slaw_right) (defBody Slaw_right) (defScope Slaw_right) .none kV_law_right dc_law_right pm_law_right an_law_right cd_law_right ct_law_right), sl_law_right⟩)
    (c_law_right : PySem.W.codeIn K cd_law_right "_law_right" = true)
    (k_law_right : PySem.W.keepIn K (.ref f_law_right) = true)
    (a_law : PySem.W.nsIn K mainGlobals "law" = some (some (.ref f_law)))
    (l_law : K.lookup f_law = some ⟨oc_law, od_law, .func (PySem.W.fnOf "law" "law" (defArgs Slaw) (defBody Slaw) (defScope Slaw) .none kV_law dc_law pm_law an_law cd_law ct_law), sl_law⟩)
    (c_law : PySem.W.codeIn K cd_law "law" = true)
    (k_law : PySem.W.keepIn K (.ref f_law) = true)
    (g_MAX_SIZE : PySem.W.nsIn K mainGlobals "MAX_SIZE" = some (some (.int (200) t_MAX_SIZE)))
    (g_MAX_PLACE : PySem.W.nsIn K mainGlobals "MAX_PLACE" = some (some (.int (1000000000000000000000000000000) t_MAX_PLACE)))
    (g_TAKING : PySem.W.nsIn K mainGlobals "TAKING" = some (some (.str "T" t_TAKING)))
    (g_RETURNING : PySem.W.nsIn K mainGlobals "RETURNING" = some (some (.str "R" t_RETURNING)))
    (z_len : PySem.W.nsIn K mainGlobals "len" = some none)
    (z_range : PySem.W.nsIn K mainGlobals "range" = some none)
    (z_isinstance : PySem.W.nsIn K mainGlobals "isinstance" = some none)
    (z_int : PySem.W.nsIn K mainGlobals "int" = some none)
    (z_bool : PySem.W.nsIn K mainGlobals "bool" = some none)
    (z_str : PySem.W.nsIn K mainGlobals "str" = some none)
    (z_list : PySem.W.nsIn K mainGlobals "list" = some none)
    (z_tuple : PySem.W.nsIn K mainGlobals "tuple" = some none)
    (z_set : PySem.W.nsIn K mainGlobals "set" = some none)
    (z_sorted : PySem.W.nsIn K mainGlobals "sorted" = some none)
    (z_min : PySem.W.nsIn K mainGlobals "min" = some none)
    (z_max : PySem.W.nsIn K mainGlobals "max" = some none)
    (z_sum : PySem.W.nsIn K mainGlobals "sum" = some none)
    (z_all : PySem.W.nsIn K mainGlobals "all" = some none)
    (z_any : PySem.W.nsIn K mainGlobals "any" = some none)
    (z_abs : PySem.W.nsIn K mainGlobals "abs" = some none)
    (z_repr : PySem.W.nsIn K mainGlobals "repr" = some none)
    (z_enumerate : PySem.W.nsIn K mainGlobals "enumerate" = some none)
    (z_zip : PySem.W.nsIn K mainGlobals "zip" = some none)
    (z_reversed : PySem.W.nsIn K mainGlobals "reversed" = some none) :
    ∃ fd : FuncData, (∀ (s : Shared) (v : Value), BindsTo s fd ⟨[v], []⟩ [("script", v)]) ∧ ∀ base : Heap, K.In base → base.Ns mainGlobals mg → FnG l.prog w K mg base 6 fa fd ["script"] (spLaw K) := by
  have e := hfa.symm.trans (PySem.W.mg_of X G a_law)
  cases e
  have B : Bn mg := ⟨PySem.W.mg_none_of X G z_len, PySem.W.mg_none_of X G z_range, PySem.W.mg_none_of X G z_isinstance, PySem.W.mg_none_of X G z_int, PySem.W.mg_none_of X G z_bool, PySem.W.mg_none_of X G z_str, PySem.W.mg_none_of X G z_list, PySem.W.mg_none_of X G z_tuple, PySem.W.mg_none_of X G z_set, PySem.W.mg_none_of X G z_sorted, PySem.W.mg_none_of X G z_min, PySem.W.mg_none_of X G z_max, PySem.W.mg_none_of X G z_sum, PySem.W.mg_none_of X G z_all, PySem.W.mg_none_of X G z_any, PySem.W.mg_none_of X G z_abs, PySem.W.mg_none_of X G z_repr, PySem.W.mg_none_of X G z_enumerate, PySem.W.mg_none_of X G z_zip, PySem.W.mg_none_of X G z_reversed⟩
  have c_MAX_SIZE : Gc mg "MAX_SIZE" (.int (200)) := ⟨_, PySem.W.mg_of X G g_MAX_SIZE, ⟨_, rfl⟩⟩
  have c_MAX_PLACE : Gc mg "MAX_PLACE" (.int (1000000000000000000000000000000)) := ⟨_, PySem.W.mg_of X G g_MAX_PLACE, ⟨_, rfl⟩⟩
  have c_TAKING : Gc mg "TAKING" (.str "T") := ⟨_, PySem.W.mg_of X G g_TAKING, ⟨_, rfl⟩⟩
  have c_RETURNING : Gc mg "RETURNING" (.str "R") := ⟨_, PySem.W.mg_of X G g_RETURNING, ⟨_, rfl⟩⟩
  have F_is_integer : FunD K "is_integer" "is_integer" (defArgs Sis_integer) (defBody Sis_integer) (defScope Sis_integer) [.non] [] f_is_integer _ := ⟨⟨_, _, _, _, _, _, _, _, _, _, rfl, l_is_integer, c_is_integer, .inr ⟨List.cons_ne_nil _ _, _, _, [.none], _, rfl, t_is_integer, rfl, .cons rfl (.nil)⟩, .inl rfl⟩, k_is_integer⟩
  have b_is_integer := F_is_integer.binds1 (ps := ["value", "low", "high"]) 3 1 (List.cons_ne_nil _ _) rfl fun T kV doc pm an cdv ct us its hl hi => match us, its, hl, hi with | [_, _, _], [_], _, _ => ⟨_, rfl, rfl⟩
  obtain ⟨ds_is_integer, v_is_integer, b_is_integer⟩ := b_is_integer
  have bd1_is_integer := F_is_integer.binds1 (ps := ["value", "low", "high"]) 2 0 (List.cons_ne_nil _ _) rfl fun T kV doc pm an cdv ct us its hl hi => match us, its, hl, hi with | [_, _], [_], _, _ => ⟨_, rfl, rfl⟩
  obtain ⟨ds1_is_integer, v1_is_integer, b1_is_integer⟩ := bd1_is_integer
  have F_is_listed := fun_mk (st := Sis_listed) l_is_listed c_is_listed k_is_listed
  have b_is_listed := F_is_listed.binds (ps := ["value"]) fun _ _ _ _ _ _ us hl => match us, hl with | [_], _ => rfl
  have F_is_place_list := fun_mk (st := Sis_place_list) l_is_place_list c_is_place_list k_is_place_list
  have b_is_place_list := F_is_place_list.binds (ps := ["value"]) fun _ _ _ _ _ _ us hl => match us, hl with | [_], _ => rfl
  have F_checked_places := fun_mk (st := Schecked_places) l_checked_places c_checked_places k_checked_places
  have b_checked_places := F_checked_places.binds (ps := ["value"]) fun _ _ _ _ _ _ us hl => match us, hl with | [_], _ => rfl
  have F_is_pattern := fun_mk (st := Sis_pattern) l_is_pattern c_is_pattern k_is_pattern
  have b_is_pattern := F_is_pattern.binds (ps := ["value"]) fun _ _ _ _ _ _ us hl => match us, hl with | [_], _ => rfl
  have F_check_pattern := fun_mk (st := Scheck_pattern) l_check_pattern c_check_pattern k_check_pattern
  have b_check_pattern := F_check_pattern.binds (ps := ["value", "count"]) fun _ _ _ _ _ _ us hl => match us, hl with | [_, _], _ => rfl
  have F_filled_by := fun_mk (st := Sfilled_by) l_filled_by c_filled_by k_filled_by
  have b_filled_by := F_filled_by.binds (ps := ["takes", "pattern"]) fun _ _ _ _ _ _ us hl => match us, hl with | [_, _], _ => rfl
  have F_fills_by := fun_mk (st := Sfills_by) l_fills_by c_fills_by k_fills_by
  have b_fills_by := F_fills_by.binds (ps := ["takes", "pattern"]) fun _ _ _ _ _ _ us hl => match us, hl with | [_, _], _ => rfl
  have F_law_bag := fun_mk (st := Slaw_bag) l_law_bag c_law_bag k_law_bag
  have b_law_bag := F_law_bag.binds (ps := ["script"]) fun _ _ _ _ _ _ us hl => match us, hl with | [_], _ => rfl
  have F_law_stir := fun_mk (st := Slaw_stir) l_law_stir c_law_stir k_law_stir
  have b_law_stir := F_law_stir.binds (ps := ["number", "place"]) fun _ _ _ _ _ _ us hl => match us, hl with | [_, _], _ => rfl
  have F_law_draw := fun_mk (st := Slaw_draw) l_law_draw c_law_draw k_law_draw
  have b_law_draw := F_law_draw.binds (ps := ["bag", "bound"]) fun _ _ _ _ _ _ us hl => match us, hl with | [_, _], _ => rfl
  have F_law_shuffled := fun_mk (st := Slaw_shuffled) l_law_shuffled c_law_shuffled k_law_shuffled
  have b_law_shuffled := F_law_shuffled.binds (ps := ["bag", "items"]) fun _ _ _ _ _ _ us hl => match us, hl with | [_, _], _ => rfl
  have F_law_either := fun_mk (st := Slaw_either) l_law_either c_law_either k_law_either
  have b_law_either := F_law_either.binds (ps := ["bag", "items"]) fun _ _ _ _ _ _ us hl => match us, hl with | [_, _], _ => rfl
  have F_law_pattern := fun_mk (st := Slaw_pattern) l_law_pattern c_law_pattern k_law_pattern
  have b_law_pattern := F_law_pattern.binds (ps := ["bag", "count"]) fun _ _ _ _ _ _ us hl => match us, hl with | [_, _], _ => rfl
  have F_law_places := fun_mk (st := Slaw_places) l_law_places c_law_places k_law_places
  have b_law_places := F_law_places.binds (ps := ["bag", "count"]) fun _ _ _ _ _ _ us hl => match us, hl with | [_, _], _ => rfl
  have F_law_filled := fun_mk (st := Slaw_filled) l_law_filled c_law_filled k_law_filled
  have b_law_filled := F_law_filled.binds (ps := ["takes", "pattern"]) fun _ _ _ _ _ _ us hl => match us, hl with | [_, _], _ => rfl
  have F_law_all_patterns := fun_mk (st := Slaw_all_patterns) l_law_all_patterns c_law_all_patterns k_law_all_patterns
  have b_law_all_patterns := F_law_all_patterns.binds (ps := ["count"]) fun _ _ _ _ _ _ us hl => match us, hl with | [_], _ => rfl
  have F_law_right := fun_mk (st := Slaw_right) l_law_right c_law_right k_law_right
  have b_law_right := F_law_right.binds (ps := ["bag", "takes", "pattern"]) fun _ _ _ _ _ _ us hl => match us, hl with | [_, _, _], _ => rfl
  have F_law := fun_mk (st := Slaw) l_law c_law k_law
  refine ⟨PySem.W.fnOf "law" "law" (defArgs Slaw) (defBody Slaw) (defScope Slaw) .none kV_law dc_law pm_law an_law cd_law ct_law, fun s v => .of_eq rfl, fun base _ _ => ?_⟩
  have D_is_integer : Df l.prog w K mg base 1 "is_integer" [] spIsInteger := ⟨_, _, _, _, ok_is_integer (k := 0) B F_is_integer, PySem.W.mg_of X G a_is_integer, k_is_integer, b_is_integer, v_is_integer⟩
  have D_is_listed : Df l.prog w K mg base 1 "is_listed" [] spIsListed := ⟨_, _, _, _, ok_is_listed (k := 0) B F_is_listed, PySem.W.mg_of X G a_is_listed, k_is_listed, b_is_listed, .nil⟩
  have D_is_place_list : Df l.prog w K mg base 2 "is_place_list" [] spIsPlaceList := ⟨_, _, _, _, ok_is_place_list B c_MAX_SIZE c_MAX_PLACE D_is_listed D_is_integer F_is_place_list, PySem.W.mg_of X G a_is_place_list, k_is_place_list, b_is_place_list, .nil⟩
  have D_checked_places : Df l.prog w K mg base 3 "checked_places" [] spCheckedPlaces := ⟨_, _, _, _, ok_checked_places B D_is_place_list F_checked_places, PySem.W.mg_of X G a_checked_places, k_checked_places, b_checked_places, .nil⟩
  have D_is_pattern : Df l.prog w K mg base 1 "is_pattern" [] spIsPattern := ⟨_, _, _, _, ok_is_pattern (k := 0) B c_MAX_SIZE c_TAKING c_RETURNING F_is_pattern, PySem.W.mg_of X G a_is_pattern, k_is_pattern, b_is_pattern, .nil⟩
  have D_check_pattern : Df l.prog w K mg base 2 "check_pattern" [] spCheckPattern := ⟨_, _, _, _, ok_check_pattern B D_is_pattern F_check_pattern, PySem.W.mg_of X G a_check_pattern, k_check_pattern, b_check_pattern, .nil⟩
  have D_filled_by : Df l.prog w K mg base 1 "filled_by" [] spFilledBy := ⟨_, _, _, _, ok_filled_by (k := 0) B c_TAKING F_filled_by, PySem.W.mg_of X G a_filled_by, k_filled_by, b_filled_by, .nil⟩
  have D_fills_by : Df l.prog w K mg base 4 "fills_by" [] spFillsBy := ⟨_, _, _, _, ok_fills_by B D_checked_places D_check_pattern D_filled_by F_fills_by, PySem.W.mg_of X G a_fills_by, k_fills_by, b_fills_by, .nil⟩
  have D_law_bag : Df l.prog w K mg base 1 "_law_bag" [] (spBag K) := ⟨_, _, _, _, ok_law_bag (k := 0) B F_law_bag, PySem.W.mg_of X G a_law_bag, k_law_bag, b_law_bag, .nil⟩
  have D_law_stir : Df l.prog w K mg base 1 "_law_stir" [] spStir := ⟨_, _, _, _, ok_law_stir (k := 0) F_law_stir, PySem.W.mg_of X G a_law_stir, k_law_stir, b_law_stir, .nil⟩
  have D_law_draw : Df l.prog w K mg base 2 "_law_draw" [] spDraw := ⟨_, _, _, _, ok_law_draw B D_law_stir F_law_draw, PySem.W.mg_of X G a_law_draw, k_law_draw, b_law_draw, .nil⟩
  have D_law_shuffled : Df l.prog w K mg base 3 "_law_shuffled" [] spShuffled := ⟨_, _, _, _, ok_law_shuffled B D_law_draw F_law_shuffled, PySem.W.mg_of X G a_law_shuffled, k_law_shuffled, b_law_shuffled, .nil⟩
  have D_law_either : Df l.prog w K mg base 3 "_law_either" [] spEither := ⟨_, _, _, _, ok_law_either B D_law_draw F_law_either, PySem.W.mg_of X G a_law_either, k_law_either, b_law_either, .nil⟩
  have D_law_pattern : Df l.prog w K mg base 3 "_law_pattern" [] spPattern := ⟨_, _, _, _, ok_law_pattern B D_law_draw F_law_pattern, PySem.W.mg_of X G a_law_pattern, k_law_pattern, b_law_pattern, .nil⟩
  have D_law_places : Df l.prog w K mg base 4 "_law_places" [] spPlaces := ⟨_, _, _, _, ok_law_places B D_law_draw D_law_shuffled F_law_places, PySem.W.mg_of X G a_law_places, k_law_places, b_law_places, .nil⟩
  have D_law_filled : Df l.prog w K mg base 1 "_law_filled" [] (spFilled (K := K)) := ⟨_, _, _, _, ok_law_filled (k := 0) B F_law_filled, PySem.W.mg_of X G a_law_filled, k_law_filled, b_law_filled, .nil⟩
  have D_law_all_patterns : Df l.prog w K mg base 1 "_law_all_patterns" [] spAllPatterns := ⟨_, _, _, _, ok_law_all_patterns (k := 0) B F_law_all_patterns, PySem.W.mg_of X G a_law_all_patterns, k_law_all_patterns, b_law_all_patterns, .nil⟩
  have D_law_right : Df l.prog w K mg base 5 "_law_right" [] spRight := ⟨_, _, _, _, ok_law_right B D_law_either D_law_filled D_fills_by F_law_right, PySem.W.mg_of X G a_law_right, k_law_right, b_law_right, .nil⟩
  exact ok_law B D_law_bag D_law_draw D_law_places D_law_pattern D_law_right D_fills_by D_law_filled D_law_all_patterns F_law
theorem the_walk {l : PySem.W.OpenLaw} {q : Program} {loose : List Str} {XP : (Str → Option Value) → Heap → Prop} {YP : World → Heap → Prop} {d : DefRec} {K : Params → PySem.W.Frag} (hn : l.most = some 63) (hdf : d.params.defaults = [])
    (hY : ∀ (w : World) (h : Heap), YP w h → (K w.params).In h)
    (F : ∀ (w : World) (mg : Str → Option Value) (fa : Addr) (h : Heap), (K w.params).In h → h.Ns mainGlobals mg → mg d.name = some (.ref fa) →
      ∃ fd : FuncData, (∀ (s : Shared) (u : Value), BindsTo s fd ⟨[u], []⟩ [("script", u)]) ∧ ∀ base : Heap, (K w.params).In base → base.Ns mainGlobals mg → FnG l.prog w (K w.params) mg base 6 fa fd ["script"] (spLaw (K w.params))) :
    PySem.W.WalkO q loose XP YP l.row.toRowW d [] (fun f vs => PySem.call f vs) :=
  Lx.gwalk (n := 63) (k := 6) (x := "script") (sp := fun w => spLaw (K w.params)) hn (by decide) hdf ⟨rfl, by decide, by decide⟩ hY F (fun _ _ a ns hl hb hS => ⟨a, ns, rfl, hS, hl, fun _ => rfl⟩)
end My
open PySem PySem.W PyProof.Rows in
set_option maxRecDepth 100000 in
set_option maxHeartbeats 0 in
theorem PySem.Challenge.cw_leftreturn_k06_places_filled_by_patterns_holds : PySem.Challenge.rw_leftreturn_k06_places_filled_by_patterns.Holds := by
  w_on; o_law; k_head; (case hw => w_witness2)
  k_fill
  refine My.the_walk (l := PySem.Challenge.rw_leftreturn_k06_places_filled_by_patterns) rfl rfl (fun w h Y => PySem.W.kIn_of Y) ?F
  case F =>
    intro w mg fa h KX G hmg
    refine' My.all_mk KX G hmg ?a_is_integer ?l_is_integer ?t_is_integer ?c_is_integer ?k_is_integer ?a_is_listed ?l_is_listed ?c_is_listed ?k_is_listed ?a_is_place_list ?l_is_place_list ?c_is_place_list ?k_is_place_list ?a_checked_places ?l_checked_places ?c_checked_places ?k_checked_places ?a_is_pattern ?l_is_pattern ?c_is_pattern ?k_is_pattern ?a_check_pattern ?l_check_pattern ?c_check_pattern ?k_check_pattern ?a_filled_by ?l_filled_by ?c_filled_by ?k_filled_by ?a_fills_by ?l_fills_by ?c_fills_by ?k_fills_by ?a_law_bag ?l_law_bag ?c_law_bag ?k_law_bag ?a_law_stir ?l_law_stir ?c_law_stir ?k_law_stir ?a_law_draw ?l_law_draw ?c_law_draw ?k_law_draw ?a_law_shuffled ?l_law_shuffled ?c_law_shuffled ?k_law_shuffled ?a_law_either ?l_law_either ?c_law_either ?k_law_either ?a_law_pattern ?l_law_pattern ?c_law_pattern ?k_law_pattern ?a_law_places ?l_law_places ?c_law_places ?k_law_places ?a_law_filled ?l_law_filled ?c_law_filled ?k_law_filled ?a_law_all_patterns ?l_law_all_patterns ?c_law_all_patterns ?k_law_all_patterns ?a_law_right ?l_law_right ?c_law_right ?k_law_right ?a_law ?l_law ?c_law ?k_law ?g_MAX_SIZE ?g_MAX_PLACE ?g_TAKING ?g_RETURNING ?z_len ?z_range ?z_isinstance ?z_int ?z_bool ?z_str ?z_list ?z_tuple ?z_set ?z_sorted ?z_min ?z_max ?z_sum ?z_all ?z_any ?z_abs ?z_repr ?z_enumerate ?z_zip ?z_reversed
    (case a_is_integer => k_is)
    (case l_is_integer => k_is)
    (case t_is_integer => k_is)
    (case c_is_integer => k_is)
    (case k_is_integer => k_is)
    (case a_is_listed => k_is)
    (case l_is_listed => k_is)
    (case c_is_listed => k_is)
    (case k_is_listed => k_is)
    (case a_is_place_list => k_is)
    (case l_is_place_list => k_is)
    (case c_is_place_list => k_is)
    (case k_is_place_list => k_is)
    (case a_checked_places => k_is)
    (case l_checked_places => k_is)
    (case c_checked_places => k_is)
    (case k_checked_places => k_is)
    (case a_is_pattern => k_is)
    (case l_is_pattern => k_is)
    (case c_is_pattern => k_is)
    (case k_is_pattern => k_is)
    (case a_check_pattern => k_is)
    (case l_check_pattern => k_is)
    (case c_check_pattern => k_is)
    (case k_check_pattern => k_is)
    (case a_filled_by => k_is)
    (case l_filled_by => k_is)
    (case c_filled_by => k_is)
    (case k_filled_by => k_is)
    (case a_fills_by => k_is)
    (case l_fills_by => k_is)
    (case c_fills_by => k_is)
    (case k_fills_by => k_is)
    (case a_law_bag => k_is)
    (case l_law_bag => k_is)
    (case c_law_bag => k_is)
    (case k_law_bag => k_is)
    (case a_law_stir => k_is)
    (case l_law_stir => k_is)
    (case c_law_stir => k_is)
    (case k_law_stir => k_is)
    (case a_law_draw => k_is)
    (case l_law_draw => k_is)
    (case c_law_draw => k_is)
    (case k_law_draw => k_is)
    (case a_law_shuffled => k_is)
    (case l_law_shuffled => k_is)
    (case c_law_shuffled => k_is)
    (case k_law_shuffled => k_is)
    (case a_law_either => k_is)
    (case l_law_either => k_is)
    (case c_law_either => k_is)
    (case k_law_either => k_is)
    (case a_law_pattern => k_is)
    (case l_law_pattern => k_is)
    (case c_law_pattern => k_is)
    (case k_law_pattern => k_is)
    (case a_law_places => k_is)
    (case l_law_places => k_is)
    (case c_law_places => k_is)
    (case k_law_places => k_is)
    (case a_law_filled => k_is)
    (case l_law_filled => k_is)
    (case c_law_filled => k_is)
    (case k_law_filled => k_is)
    (case a_law_all_patterns => k_is)
    (case l_law_all_patterns => k_is)
    (case c_law_all_patterns => k_is)
    (case k_law_all_patterns => k_is)
    (case a_law_right => k_is)
    (case l_law_right => k_is)
    (case c_law_right => k_is)
    (case k_law_right => k_is)
    (case a_law => k_is)
    (case l_law => k_is)
    (case c_law => k_is)
    (case k_law => k_is)
    (case g_MAX_SIZE => k_is)
    (case g_MAX_PLACE => k_is)
    (case g_TAKING => k_is)
    (case g_RETURNING => k_is)
    (case z_len => k_is)
    (case z_range => k_is)
    (case z_isinstance => k_is)
    (case z_int => k_is)
    (case z_bool => k_is)
    (case z_str => k_is)
    (case z_list => k_is)
    (case z_tuple => k_is)
    (case z_set => k_is)
    (case z_sorted => k_is)
    (case z_min => k_is)
    (case z_max => k_is)
    (case z_sum => k_is)
    (case z_all => k_is)
    (case z_any => k_is)
    (case z_abs => k_is)
    (case z_repr => k_is)
    (case z_enumerate => k_is)
    (case z_zip => k_is)
    (case z_reversed => k_is)
