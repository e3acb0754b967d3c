import PyProof.Rows.All
import Wide.All
import OpenK.AllK
import Wide.FinOn
import HandS.ForMost
import HandS.WordsExc
import HandS.Wide
import HandS.Defaults
import HandS.SortInts
import HandS.IsInst
import HandS.EndBits
import PyProof.ReprRoads
import HandS.Conv
import HandS.Style
import HandS.NoneIn
import HandS.TupAny
import HandS.SetFor
import HandS.Text
import PyProof.Rows.ChunkEnd
import HandS.Zip
import HandS.Property
import HandS.DictComp
import HandS.More
import PySem.Challenge.RW_leftreturn_k46_undo_and_duplicates
set_option Elab.async false
set_option linter.all false
set_option maxRecDepth 100000
set_option maxHeartbeats 4000000
namespace Lx
open PySem PySem.Spec PyProof.Rows L2

/-! ### a def's promise where no repr runs around it -/
structure FnG (P : Program) (w : World) (K : PySem.W.Frag) (mg : Str → Option Value) (base : Heap) (k : Nat) (f : Addr) (fd : FuncData) (ps : List Str) (sp : Sp) : Prop where
  ln : ∀ us H Q E, sp us H Q E → us.length = ps.length
  go : ∀ (A : Around) (fs : List Env) (s : Shared) (H : Hp) (ar : Args) (us : List Value) (vs : List V) (Q : VK) (E : XK), A.guards = some [] → Room k A → Env0 P w K mg base A fs s H →
    BindsTo s fd ar (ps.zip us) → Vals vs us → sp vs H Q E → codeAny (model P w) A (.call (.ref f) ar) (CR (L2.CX P w) fs P w H s Q E) s
section
variable {P : Program} {w : World} {K : PySem.W.Frag} {mg : Str → Option Value} {base : Heap}
theorem FnG.up {j k : Nat} {f : Addr} {fd : FuncData} {ps : List Str} {sp : Sp} (F : FnG P w K mg base j f fd ps sp) (h : j ≤ k) : FnG P w K mg base k f fd ps sp :=
  ⟨F.ln, fun A fs s H ar us vs Q E hg hr => F.go A fs s H ar us vs Q E hg (hr.mono h)⟩
theorem FnG.imp {k : Nat} {f : Addr} {fd : FuncData} {ps : List Str} {sp sp' : Sp} (F : FnG P w K mg base k f fd ps sp) (h : ∀ vs H Q E, sp' vs H Q E → sp vs H Q E) : FnG P w K mg base k f fd ps sp' :=
  ⟨fun vs H Q E z => F.ln vs H Q E (h _ _ _ _ z), fun A fs s H ar us vs Q E hg hr e b v z => F.go A fs s H ar us vs Q E hg hr e b v (h _ _ _ _ z)⟩
theorem FnG.of {k : Nat} {f : Addr} {fd : FuncData} {ps : List Str} {sp : Sp} (F : FnOk P w K mg base (L2.CX P w) k f fd ps sp) : FnG P w K mg base k f fd ps sp :=
  ⟨F.len, fun A fs s H ar us vs Q E _ hr => F.run A fs s H ar us vs Q E hr⟩

/-- the rule for a def: its body's term, read where no repr runs -/
theorem graw {x qual : Str} {st : Stmt} {f : Addr} {dV kV doc pm cdv ct oc : Value} {an od : Option Addr} {osl : Array (Option Value)} {N ps : List Str} {k : Nat} {sp : Sp}
    (lk : K.lookup f = some ⟨oc, od, .func (PySem.W.fnOf x qual (defArgs st) (defBody st) (defScope st) dV kV doc pm an cdv ct), osl⟩) (hcd : PySem.W.codeIn K cdv qual = true) (S : FnScope N ps (defScope st)) (ln : ∀ vs H Q E, sp vs H Q E → vs.length = ps.length)
    (hb : ∀ (A : Around) (fs : List Env) (s : Shared) (H : Hp) (vs : List V) (Q : VK) (E : XK), (A.deeper (envOfC qual (defScope st) s.heap.objs.size f cdv)).guards = some [] → Room k (A.deeper (envOfC qual (defScope st) s.heap.objs.size f cdv)) → sp vs H Q E →
      ∃ t, PSs (cxOf (L2.CX P w) P w K mg base N qual (defScope st) f cdv A fs s H E) (defBody st) t ∧ t { nx := fun _ H' => Q .non H', rt := Q } (start N vs) H) : FnG P w K mg base (k + 1) f (PySem.W.fnOf x qual (defArgs st) (defBody st) (defScope st) dV kV doc pm an cdv ct) ps sp := by
  refine ⟨ln, fun A fs s H ar us vs Q E hg hr e0 hbd rv hs => ?_⟩
  have hl := ln _ _ _ _ hs
  have inK : K.In s.heap := e0.mod.kin.keeps (fun b o z => (e0.bs b o z).1)
  have nl : s.heap.NoLimit := e0.mod.nolimit.keeps (fun b o z => (e0.bs b o z).1)
  have kinds : ∀ y ∈ ps.zip us, (defScope st).names.lookup y.1 = some .local ∨ ((defScope st).names.lookup y.1 = some .cell ∧ ((cellsFrom (s.heap.objs.size + 1) (defScope st).names []).lookup y.1).isSome = true) := by
    rintro ⟨n, v⟩ hy
    have hm := S.par n (List.of_mem_zip hy).1
    cases hm with
    | inl q => exact Or.inl q
    | inr q => exact Or.inr ⟨q, PySem.W.cellsFrom_some _ _ _ (Or.inl q)⟩
  apply codeAny_call_function hr.depth (inK _ _ lk) rfl S.co S.gen rfl (PySem.W.codeRec_of inK hcd)
  apply hbd
  apply wpAny_newFunctionEnv_cells S.kind kinds
  intro env he s1 x
  subst he
  refine ⟨nl.keeps x.toInCall.keep, codeAny_func ?_⟩
  obtain ⟨t, ht, hq⟩ := hb A fs s H vs Q E hg (hr.deeper _) hs
  have I := inv_start (CX := L2.CX P w) (P := P) (w := w) (K := K) (mg := mg) (base := base) (f := f) (cd := cdv) (qual := qual) (E := E) S hr.hd e0 hl rv x
  apply wpAny_mono (ht.run [] s1 (start N vs) H _ I hq)
  · intro fl s' z
    have done : ∀ {σ' : L2.St} {H' : Hp} {v : V} {u : Value}, Inv (cxOf (L2.CX P w) P w K mg base N qual (defScope st) f cdv A fs s H E) [] σ' H' s' → RelV v u → Q v H' → CE fs P w H s Q u s' := by
      intro σ' H' v u J r q
      exact ⟨v, H', J.os, J.bare, J.base, J.hok, r, q⟩
    cases fl with
    | next => exact let ⟨_, _, J, q⟩ := z; done (v := V.non) (u := Value.none) J rfl q
    | brk => exact let ⟨_, _, _, q⟩ := z; q.elim
    | cont => exact let ⟨_, _, _, q⟩ := z; q.elim
    | ret u => exact let ⟨_, _, _, J, r, q⟩ := z; done J r q
  · exact fun _ _ z => z
theorem gok {x qual : Str} {st : Stmt} {f : Addr} {fd : FuncData} {N ps : List Str} {k : Nat} {sp : Sp} (F : Fun K x qual st f fd) (S : FnScope N ps (defScope st)) (ln : ∀ vs H Q E, sp vs H Q E → vs.length = ps.length)
    (hb : ∀ (cdv : Value) (A : Around) (fs : List Env) (s : Shared) (H : Hp) (vs : List V) (Q : VK) (E : XK), (A.deeper (envOfC qual (defScope st) s.heap.objs.size f cdv)).guards = some [] → Room k (A.deeper (envOfC qual (defScope st) s.heap.objs.size f cdv)) → sp vs H Q E →
      ∃ t, PSs (cxOf (L2.CX P w) P w K mg base N qual (defScope st) f cdv A fs s H E) (defBody st) t ∧ t { nx := fun _ H' => Q .non H', rt := Q } (start N vs) H) : FnG P w K mg base (k + 1) f fd ps sp := by
  obtain ⟨oc, od, kV, doc, pm, an, cdv, ct, osl, rfl, lk, hcd⟩ := F.ex
  exact graw lk hcd S ln (hb cdv)
theorem gokD {x qual : Str} {st : Stmt} {f : Addr} {fd : FuncData} {N ps : List Str} {k : Nat} {sp : Sp} {dvs : List V} {kws : List (Str × V)} (F : FunD K x qual (defArgs st) (defBody st) (defScope st) dvs kws f fd) (S : FnScope N ps (defScope st)) (ln : ∀ vs H Q E, sp vs H Q E → vs.length = ps.length)
    (hb : ∀ (cdv : Value) (A : Around) (fs : List Env) (s : Shared) (H : Hp) (vs : List V) (Q : VK) (E : XK), (A.deeper (envOfC qual (defScope st) s.heap.objs.size f cdv)).guards = some [] → Room k (A.deeper (envOfC qual (defScope st) s.heap.objs.size f cdv)) → sp vs H Q E →
      ∃ t, PSs (cxOf (L2.CX P w) P w K mg base N qual (defScope st) f cdv A fs s H E) (defBody st) t ∧ t { nx := fun _ H' => Q .non H', rt := Q } (start N vs) H) : FnG P w K mg base (k + 1) f fd ps sp := by
  obtain ⟨oc, od, dV, kV, doc, pm, an, cdv, ct, osl, rfl, lk, hcd, _, _⟩ := F.ex
  exact graw lk hcd S ln (hb cdv)

/-- a def as callers see it: n values written, the defaults dvs fill up -/
structure Df (P : Program) (w : World) (K : PySem.W.Frag) (mg : Str → Option Value) (base : Heap) (k : Nat) (x : Str) (dvs : List V) (sp : Sp) : Prop where
  ex : ∃ (f : Addr) (fd : FuncData) (ps : List Str) (ds : List Value), FnG P w K mg base k f fd ps sp ∧ mg x = some (.ref f) ∧ PySem.W.keepIn K (.ref f) = true ∧ Binds K fd ps ds ∧ Vals dvs ds
theorem Df.up {j k : Nat} {x : Str} {dvs : List V} {sp : Sp} (D : Df P w K mg base j x dvs sp) (h : j ≤ k) : Df P w K mg base k x dvs sp :=
  let ⟨f, fd, ps, ds, F, r⟩ := D.ex; ⟨f, fd, ps, ds, F.up h, r⟩
theorem Df.imp {k : Nat} {x : Str} {dvs : List V} {sp sp' : Sp} (D : Df P w K mg base k x dvs sp) (h : ∀ vs H Q E, sp' vs H Q E → sp vs H Q E) : Df P w K mg base k x dvs sp' :=
  let ⟨f, fd, ps, ds, F, r⟩ := D.ex; ⟨f, fd, ps, ds, F.imp h, r⟩
end

/-! ### calls -/
section
variable {X : Cx} {k : Nat} {f C : Addr} {fd : FuncData} {ps : List Str} {sp : Sp} {dvs : List V} {ds : List Value} {E : XK} {x m : Str} {p pos apos : Pos} {e o : Expr} {es : List Expr} {ta : TE} {t : TA}
theorem grun {pins : List (Addr × Obj)} {σ : L2.St} {H : Hp} {s : Shared} {Q : VK} {us : List Value} {vs : List V} (F : FnG X.prog X.w X.K X.mg X.base k f fd ps sp) (hG : X.A.guards = some []) (hr : Room k X.A) (hb : Binds X.K fd ps ds) (hd : Vals dvs ds)
    (hx : Passes (L2.CX X.prog X.w) X E) (I : Inv X pins σ H s) (r : Vals vs us) (h : sp (vs ++ dvs) H Q E) : wpAny (model X.prog X.w) X.A (call (.ref f) us) (EP X pins σ Q) X.xe s := by
  have rv := r.append hd
  have z := F.go X.A X.stack s H ⟨us, []⟩ (us ++ ds) (vs ++ dvs) Q E hG hr I.env0 (hb s us I.kIn (rv.length.symm.trans (F.ln _ _ _ _ h))) rv h
  refine wpAny_call (codeAny_mono z ?_)
  intro r s' hq
  cases r with
  | error e => exact hx pins σ H s e s' I hq
  | ok fl => cases fl with
    | ret u => exact I.after hq
    | next => exact hq.elim
    | brk => exact hq.elim
    | cont => exact hq.elim
theorem gcall (F : FnG X.prog X.w X.K X.mg X.base k f fd ps sp) (hG : X.A.guards = some []) (hr : Room k X.A) (hg : Gl X x) (hm : X.mg x = some (.ref f)) (hk : PySem.W.keepIn X.K (.ref f) = true) (hb : Binds X.K fd ps ds) (hd : Vals dvs ds) (hx : Passes (L2.CX X.prog X.w) X E)
    (ha : PA X (e :: es) t) (hdb : (x == ("__debug__" : Str)) = false := by decide) (he : starEach (e :: es) X.env = (false, eval e X.env) :: starEach es X.env := by rfl) (hpl : (backTo pos (starEach es X.env)).any (·.1) = false := by rfl) :
    PE X (.Call (.Name x p) (e :: es) [] pos) (tCall sp dvs E t) := by
  constructor
  intro pins s σ H Q I h
  apply wpAny_Call_Name_kw
  refine ld_glob I hg hm ?_ hdb
  have z := ha.run pos pins s σ H _ I h
  exact PySem.W.callWith_K (h₀ := X.base) I.ok.mod.kin hk (thn z (fun us s1 y => let ⟨_, _, I1, r, q⟩ := y; ⟨I1.kIn, grun F hG hr hb hd hx I1 r q⟩)) he hpl
theorem gcall0 (F : FnG X.prog X.w X.K X.mg X.base k f fd ps sp) (hG : X.A.guards = some []) (hr : Room k X.A) (hg : Gl X x) (hm : X.mg x = some (.ref f)) (hk : PySem.W.keepIn X.K (.ref f) = true) (hb : Binds X.K fd ps ds) (hd : Vals dvs ds) (hx : Passes (L2.CX X.prog X.w) X E)
    (hdb : (x == ("__debug__" : Str)) = false := by decide) : PE X (.Call (.Name x p) [] [] pos) (tCall sp dvs E tNil) := by
  constructor
  intro pins s σ H Q I h
  apply wpAny_Call_Name_kw
  refine ld_glob I hg hm ?_ hdb
  exact PySem.W.callWith_K0 I.kIn hk (grun (us := []) F hG hr hb hd hx I .nil h)
/-- f(..), f a def of the text -/
theorem pe_df (D : Df X.prog X.w X.K X.mg X.base k x dvs sp) (hG : X.A.guards = some []) (hr : Room k X.A) (hx : Passes (L2.CX X.prog X.w) X E) (hg : Gl X x) (ha : PA X (e :: es) t)
    (hdb : (x == ("__debug__" : Str)) = false := by decide) (he : starEach (e :: es) X.env = (false, eval e X.env) :: starEach es X.env := by rfl) (hpl : (backTo pos (starEach es X.env)).any (·.1) = false := by rfl) :
    PE X (.Call (.Name x p) (e :: es) [] pos) (tCall sp dvs E t) :=
  let ⟨_, _, _, _, F, hm, hk, hb, hd⟩ := D.ex; gcall F hG hr hg hm hk hb hd hx ha hdb he hpl
theorem pe_df0 (D : Df X.prog X.w X.K X.mg X.base k x dvs sp) (hG : X.A.guards = some []) (hr : Room k X.A) (hx : Passes (L2.CX X.prog X.w) X E) (hg : Gl X x) (hdb : (x == ("__debug__" : Str)) = false := by decide) : PE X (.Call (.Name x p) [] [] pos) (tCall sp dvs E tNil) :=
  let ⟨_, _, _, _, F, hm, hk, hb, hd⟩ := D.ex; gcall0 F hG hr hg hm hk hb hd hx hdb
/-- a constant of the module -/
def Gc (mg : Str → Option Value) (x : Str) (v : V) : Prop := ∃ u, mg x = some u ∧ RelV v u
theorem pe_gc {v : V} (h : Gc X.mg x v) (hg : Gl X x) (hd : (x == ("__debug__" : Str)) = false := by decide) : PE X (.Name x pos) (tC v) :=
  ⟨fun pins s σ H Q I q => let ⟨_, hm, r⟩ := h; (pe_glob hg hm r hd).run pins s σ H Q I q⟩
end
end Lx

namespace Lx
open PySem PySem.Spec PyProof.Rows L2

/-- what the end wants of the heap told: at most the script -/
structure Told (K : PySem.W.Frag) (a : Addr) (H : Hp) : Prop where
  only : Only H
  one : ∀ b u, H b = some u → b = a ∧ K.lookup a = none
section
variable {P : Program} {w : World} {K : PySem.W.Frag} {mg mb : Str → Option Value} {k : Nat} {fa a : Addr} {fd : FuncData} {x : Str} {sp : Sp} {s : Shared} {vs : List Value} {ns : List Int}
theorem Told.low (T : Told K a H) {b : Addr} {o : Obj} (hb : s.heap.get? b = some o) (n : b ≠ a) : (hidT s.heap H).get? b = some o := by
  apply hidT_get hb
  cases q : H b with
  | none => rfl
  | some u => exact (n (T.one b u q).1).elim
theorem Told.lowK (T : Told K a H) (KX : K.In s.heap) : K.In (hidT s.heap H) := by
  intro b o e
  apply hidT_get (KX b o e)
  cases q : H b with
  | none => rfl
  | some u =>
    have z := T.one b u q
    rw [z.1, z.2] at e
    cases e
theorem Told.nsp (T : Told K a H) (hl : s.heap.get? a = some { cls := .type "list", data := .seq vs.toArray }) {b : Addr} {m : Str → Option Value} (h : s.heap.Ns b m) : (hidT s.heap H).Ns b m := by
  obtain ⟨o, es, ep, h1, h2, h3⟩ := h
  refine ⟨o, es, ep, T.low h1 ?_, h2, h3⟩
  rintro rfl
  rw [hl] at h1
  cases h1
  cases h2
theorem glaw1 {H : Hp} (T : Told K a H) (KX : K.In s.heap) (hm : s.heap.Ns mainGlobals mg) (hb : s.heap.Ns builtinsNs mb) (hbb : ∀ x : Str, x ≠ "__name__" → mb x = bootBuiltins x) (lim : s.heap.NoLimit) (hg : s.gens = #[])
    (hl : s.heap.get? a = some { cls := .type "list", data := .seq vs.toArray }) (hr : Room k callerA)
    (F : ∀ base : Heap, K.In base → base.Ns mainGlobals mg → FnG P w K mg base k fa fd [x] sp) (bind : ∀ (s : Shared) (u : Value), BindsTo s fd ⟨[u], []⟩ [(x, u)])
    (ok : HOk P w H s.heap) (hsp : sp [.ref a] H (fun v _ => v = .bl true) fun _ _ _ => False) :
    codeAny (model P w) callerA (.call (.ref fa) ⟨[.ref a], []⟩) (fun r s' => r = .ok (.ret (.bool true)) ∧ OldK s.heap s'.heap ∧ s'.os = s.os ∧ AllBare s'.gens) s := by
  have KB := T.lowK KX
  have md : Mod K mg (hidT s.heap H) := ⟨KB, T.nsp hl hm, ⟨mb, T.nsp hl hb, hbb⟩, by
    obtain ⟨m, h1, h2⟩ := lim
    exact ⟨m, T.nsp hl h1, h2⟩⟩
  have noFr : ∀ b ∈ frs ([] : List Env), H b = none := by
    intro b z
    cases z
  have e0 : Env0 P w K mg (hidT s.heap H) callerA [] s H := { frames := rfl, mod := md, bs := fun b o e => of_hidT e, bsz := Nat.le_of_eq (hidT_size _ _), funs := trivial, frf := noFr, hok := ok, bare := .of_eq hg }
  have run := (F _ KB md.glob).go callerA [] s H ⟨[.ref a], []⟩ [.ref a] [.ref a] (fun v _ => v = .bl true) (fun _ _ _ => False) rfl hr e0 (bind s (.ref a)) (.cons rfl .nil) hsp
  refine codeAny_mono run ?_
  intro r s' q
  match r, q with
  | .error e, q => exact (by obtain ⟨_, _, _, _, _, _, _, _, _, _, _, _, z⟩ := q; exact z.elim)
  | .ok .next, q => exact q.elim
  | .ok .brk, q => exact q.elim
  | .ok .cont, q => exact q.elim
  | .ok (.ret u), q =>
    obtain ⟨v, H', os, bare, un, ok', rv, e⟩ := q
    have e' : v = V.bl true := e
    subst e'
    have eu : u = Value.bool true := rv
    refine ⟨by rw [eu], OldK.of_keep ?_, os, bare⟩
    intro b o hb
    cases z : H b with
    | none => exact un.keep b o hb z (fun y => by cases y) (fun y => by cases y)
    | some u =>
      cases T.only b with
      | inl y => rw [z] at y; cases y
      | inr y =>
        obtain ⟨ob, xs, y⟩ := y
        have w1 := (ok b _ y).1
        have w2 := (ok' b _ (un.frzs b ob _ y)).1
        rw [hb] at w1
        rw [Option.some.inj w1]
        exact w2
theorem glaw (KX : K.In s.heap) (hm : s.heap.Ns mainGlobals mg) (hb : s.heap.Ns builtinsNs mb) (hbb : ∀ x : Str, x ≠ "__name__" → mb x = bootBuiltins x) (lim : s.heap.NoLimit) (hg : s.gens = #[])
    (hl : s.heap.get? a = some { cls := .type "list", data := .seq vs.toArray }) (hi : IntsAre vs ns) (hz : ns.length ≤ sizeLine) (hr : Room k callerA)
    (F : ∀ base : Heap, K.In base → base.Ns mainGlobals mg → FnG P w K mg base k fa fd [x] sp) (bind : ∀ (s : Shared) (u : Value), BindsTo s fd ⟨[u], []⟩ [(x, u)])
    (hsp : ∀ H : Hp, SqL K H a (ns.map V.int) → sp [.ref a] H (fun v _ => v = .bl true) fun _ _ _ => False) :
    codeAny (model P w) callerA (.call (.ref fa) ⟨[.ref a], []⟩) (fun r s' => r = .ok (.ret (.bool true)) ∧ OldK s.heap s'.heap ∧ s'.os = s.os ∧ AllBare s'.gens) s := by
  have rv := vals_ints hi
  have lv : vs.length = ns.length := hi.length
  by_cases hk : K.lookup a = none
  · have tell : ∀ b, (fun b => if b = a then some (HO.frz { cls := .type "list", data := .seq vs.toArray } (.lst (ns.map V.int))) else none : Hp) b = none ∨ b = a := by
      intro b
      by_cases e : b = a
      · exact .inr e
      · exact .inl (if_neg e)
    refine glaw1 (H := fun b => if b = a then some (.frz { cls := .type "list", data := .seq vs.toArray } (.lst (ns.map V.int))) else none) ⟨?_, ?_⟩ KX hm hb hbb lim hg hl hr F bind ?_ (hsp _ (.inl (.inr ⟨_, if_pos rfl⟩)))
    · intro b
      cases tell b with
      | inl e => exact .inl e
      | inr e => exact .inr ⟨_, _, if_pos e⟩
    · intro b u e
      cases tell b with
      | inl z => exact absurd (z.symm.trans e) (by simp)
      | inr z => exact ⟨z, hk⟩
    · intro b u e
      cases tell b with
      | inl z => exact absurd (z.symm.trans e) (by simp)
      | inr z =>
        subst z
        have eu := Option.some.inj ((if_pos rfl).symm.trans e)
        subst eu
        exact ⟨hl, (by rw [List.length_map]; exact hz), vs, 0, rv, hl⟩
  · obtain ⟨o, ho⟩ := Option.ne_none_iff_exists'.mp hk
    have e := KX a o ho
    rw [hl] at e
    have eo := Option.some.inj e
    subst eo
    have noH : ∀ (b : Addr) (u : HO), ((fun _ => none : Hp) b = some u) → False := by
      intro b u z
      cases z
    refine glaw1 (H := fun _ => none) ⟨fun b => .inl rfl, fun b u z => (noH b u z).elim⟩ KX hm hb hbb lim hg hl hr F bind (fun b u z => (noH b u z).elim) (hsp _ (.inr ?_))
    exact ⟨_, vs.toArray, _, ho, rfl, rfl, rfl, by rw [List.size_toArray, lv]; exact hz, by simpa using rv⟩
end
theorem gwalk {l : PySem.W.OpenLaw} {n k : Nat} {q : Program} {loose : List Str} {XP : (Str → Option Value) → Heap → Prop} {YP : World → Heap → Prop} {d : DefRec} {K : Params → PySem.W.Frag} {sp : World → Sp} {x : Str}
    (hn : l.most = some n) (hn2 : n ≤ sizeLine) (hdf : d.params.defaults = []) (hr : Room k callerA) (hY : ∀ (w : World) (h : Heap), YP w h → (K w.params).In h)
    (F : ∀ (w : World) (mg : Str → Option Value) (fa : Addr) (h : Heap), (K w.params).In h → h.Ns mainGlobals mg → mg d.name = some (.ref fa) →
      ∃ fd : FuncData, (∀ (s : Shared) (u : Value), BindsTo s fd ⟨[u], []⟩ [(x, u)]) ∧ ∀ base : Heap, (K w.params).In base → base.Ns mainGlobals mg → FnG l.prog w (K w.params) mg base k fa fd [x] (sp w))
    (hsp : ∀ (w : World) (H : Hp) (a : Addr) (ns : List Int), ns.length ≤ n → (∀ z ∈ ns, Builtin.Int.intBits z ≤ 1048576) → SqL (K w.params) H a (ns.map V.int) → sp w [.ref a] H (fun v _ => v = .bl true) fun _ _ _ => False) :
    PySem.W.WalkO q loose XP YP l.row.toRowW d [] (fun f vs => PySem.call f vs) := by
  apply Att.attach_callB hn hdf
  intro w s₀ s₁ mg mb fa o pm cd doc a vs ns G Y ho hd hcd hmg hobj hints hlen hbits hg
  obtain ⟨fd, b, hF⟩ := F w mg fa _ (hY w _ Y) G.T.g hmg
  exact glaw (hY w _ Y) G.T.g G.T.b G.T.builtins G.T.nolimit hg hobj hints (Nat.le_trans hlen hn2) hr hF b (fun H hS => hsp w H a ns hlen hbits hS)
end Lx

namespace Lx
open PySem PySem.Spec PyProof.Rows L2

/-! ### built-in names -/
theorem Blen : bootBuiltins "len" = some (.builtin "len") := by decide +kernel
theorem Bisinstance : bootBuiltins "isinstance" = some (.builtin "isinstance") := by decide +kernel
theorem Babs : bootBuiltins "abs" = some (.builtin "abs") := by decide +kernel
theorem Bmin : bootBuiltins "min" = some (.builtin "min") := by decide +kernel
theorem Bmax : bootBuiltins "max" = some (.builtin "max") := by decide +kernel
theorem Bsorted : bootBuiltins "sorted" = some (.builtin "sorted") := by decide +kernel
theorem Bsum : bootBuiltins "sum" = some (.builtin "sum") := by decide +kernel
theorem Ball : bootBuiltins "all" = some (.builtin "all") := by decide +kernel
theorem Bany : bootBuiltins "any" = some (.builtin "any") := by decide +kernel
theorem Brepr : bootBuiltins "repr" = some (.builtin "repr") := by decide +kernel
theorem Tint : bootBuiltins "int" = some (.type "int") := by decide +kernel
theorem Tbool : bootBuiltins "bool" = some (.type "bool") := by decide +kernel
theorem Tstr : bootBuiltins "str" = some (.type "str") := by decide +kernel
theorem Tlist : bootBuiltins "list" = some (.type "list") := by decide +kernel
theorem Ttuple : bootBuiltins "tuple" = some (.type "tuple") := by decide +kernel
theorem Tset : bootBuiltins "set" = some (.type "set") := by decide +kernel
theorem Tdict : bootBuiltins "dict" = some (.type "dict") := by decide +kernel
/-- the module gives none of these names a meaning of its own -/
structure Bn (mg : Str → Option Value) : Prop where
  len : mg "len" = none
  range : mg "range" = none
  isinstance : mg "isinstance" = none
  int : mg "int" = none
  bool : mg "bool" = none
  str : mg "str" = none
  list : mg "list" = none
  tuple : mg "tuple" = none
  set : mg "set" = none
  sorted : mg "sorted" = none
  min : mg "min" = none
  max : mg "max" = none
  sum : mg "sum" = none
  all : mg "all" = none
  any : mg "any" = none
  abs : mg "abs" = none
  repr : mg "repr" = none
  enumerate : mg "enumerate" = none
  zip : mg "zip" = none
  reversed : mg "reversed" = none

/-! ### repr of data -/
def rRepr (K : PySem.W.Frag) : List V → Hp → VK → Prop := fun xs H Q => ∃ x d, xs = [x] ∧ Dp K H x d ∧ d.showable = true ∧ d.hasDict = false ∧ d.depth ≤ 32 ∧ d.shown.length ≤ sizeLine ∧ Q (.str d.shown) H
theorem call_reprD {X : Cx} (hG : X.A.guards = some []) (hu : X.A.units + 64 < cLine) : CallR X (.builtin "repr") (rRepr X.K) := by
  intro pins s σ H xs us Q I r h
  obtain ⟨x, d, rfl, hd, hs, hn, hp, hz, q⟩ := h
  cases r with
  | cons r rr =>
    cases rr
    rename_i u
    obtain ⟨as, rd⟩ := Dp.reads I d x u hd r
    cases hd with
    | non => cases r; exact P.repr_of_none ⟨.str _, H, I.tok _, ⟨_, rfl⟩, q⟩
    | bl b => cases r; exact P.repr_of_bool ⟨.str _, H, I.tok _, ⟨_, rfl⟩, q⟩
    | int i =>
      obtain ⟨t, rfl⟩ := r
      exact P.repr_of_int (of_decide_eq_true hs) ⟨.str _, H, I.tok _, ⟨_, rfl⟩, q⟩
    | str y =>
      obtain ⟨t, rfl⟩ := r
      exact P.repr_of_str ⟨.str _, H, I.tok _, ⟨_, rfl⟩, q⟩ hz
    | lst h1 h2 =>
      cases r
      exact repr_of_reads' rd hs (fun e => by rw [hn] at e; cases e) hG (by omega) (fun _ _ e => e) (fun h' v tk k => ⟨.str _, H, I.kept (t' := tk) k, ⟨_, rfl⟩, q⟩) hz
    | tup h1 h2 =>
      cases r
      exact repr_of_reads' rd hs (fun e => by rw [hn] at e; cases e) hG (by omega) (fun _ _ e => e) (fun h' v tk k => ⟨.str _, H, I.kept (t' := tk) k, ⟨_, rfl⟩, q⟩) hz
/-! ### how long a shown datum is -/
theorem textFrom_le (m : Nat) : ∀ (ts : List Str) (k : Nat) (acc : Str), (∀ t ∈ ts, t.length ≤ m) → (textFrom k acc ts).length ≤ acc.length + ts.length * (m + 2)
  | [], k, acc, _ => Nat.le_add_right _ _
  | t :: r, k, acc, h => by
    have ih := textFrom_le m r (k + 1) (acc ++ (if k > 0 then ", " else "" : String) ++ t) fun u hu => h u (List.mem_cons_of_mem _ hu)
    have ht := h t List.mem_cons_self
    have e : (acc ++ (if k > 0 then ", " else "" : String) ++ t).length ≤ acc.length + 2 + t.length := by
      rw [strLen_append, strLen_append]
      split <;> exact Nat.add_le_add_right (Nat.add_le_add_left (by decide) _) _
    rw [List.length_cons, Nat.succ_mul]
    show (textFrom (k + 1) _ r).length ≤ _
    omega
theorem shownAll_mem : ∀ {ds : List PyData} {t : Str}, t ∈ PyData.shownAll ds → ∃ d ∈ ds, t = d.shown
  | [], t, h => by cases h
  | d :: ds, t, h => by
    rcases List.mem_cons.mp (show t ∈ d.shown :: PyData.shownAll ds from h) with e | h
    · exact ⟨d, List.mem_cons_self, e⟩
    · obtain ⟨x, hx, e⟩ := shownAll_mem h
      exact ⟨x, List.mem_cons_of_mem _ hx, e⟩
theorem shownAll_len : ∀ ds : List PyData, (PyData.shownAll ds).length = ds.length
  | [] => rfl
  | _ :: ds => congrArg Nat.succ (shownAll_len ds)
theorem piled_le (m : Nat) : ∀ ts : List Str, (∀ t ∈ ts, t.length ≤ m) → piled ts ≤ ts.length * (m + 2)
  | [], _ => by rw [piled_nil]; exact Nat.zero_le _
  | t :: r, h => by
    have ih := piled_le m r fun u hu => h u (List.mem_cons_of_mem _ hu)
    have ht := h t List.mem_cons_self
    rw [piled_cons, List.length_cons, Nat.succ_mul]
    omega
theorem list_shown {ds : List PyData} {m : Nat} (h : ∀ d ∈ ds, d.shown.length ≤ m) : (PyData.list ds).shown.length ≤ ds.length * (m + 2) + 2 := by
  have z := textFrom_le m (PyData.shownAll ds) 0 "[" fun t ht => by
    obtain ⟨d, hd, e⟩ := shownAll_mem ht
    rw [e]
    exact h d hd
  rw [shownAll_len] at z
  show (textFrom 0 "[" (PyData.shownAll ds) ++ "]" : Str).length ≤ _
  rw [strLen_append]
  have e1 : (("[" : String) : Str).length = 1 := rfl
  have e2 : (("]" : String) : Str).length = 1 := rfl
  omega
theorem tuple_shown {ds : List PyData} {m : Nat} (h : ∀ d ∈ ds, d.shown.length ≤ m) : (PyData.tuple ds).shown.length ≤ ds.length * (m + 2) + 3 := by
  have hm : ∀ t ∈ PyData.shownAll ds, t.length ≤ m := fun t ht => by
    obtain ⟨d, hd, e⟩ := shownAll_mem ht
    rw [e]
    exact h d hd
  have z := piled_le m (PyData.shownAll ds) hm
  rw [shownAll_len] at z
  show (("(" : Str) ++ Str.join ", " (PyData.shownAll ds) ++ (if (PyData.shownAll ds).length == 1 then ",)" else ")" : String)).length ≤ _
  rw [strLen_append, strLen_append]
  have e1 : (("(" : String) : Str).length = 1 := rfl
  have e3 : (((if (PyData.shownAll ds).length == 1 then ",)" else ")" : String) : Str)).length ≤ 2 := by split <;> decide
  by_cases e : PyData.shownAll ds = []
  · rw [e] at e3 ⊢
    have e4 : (Str.join ", " ([] : List Str)).length = 0 := rfl
    rw [e4]
    omega
  · have j := join_length_add _ e
    omega
theorem int_shown {i : Int} {k : Nat} (hk : 0 < k) (h0 : 0 ≤ i) (h : i < 10 ^ k) : (PyData.int i).shown.length ≤ k := toString_length_le h0 hk h

/-! ### heaps -/
theorem _root_.L2.Same.get {H H' : Hp} {a : Addr} {o : HO} (s : Same H H') (h : H a = some o) : H' a = some o := s a o h
theorem same_new {H : Hp} {p : Addr} {o : HO} (n : H p = none) : Same H (upd H p o) := by
  intro b u e
  rw [upd_ne (ne_of_none e n)]
  exact e
theorem same_set {H H' : Hp} {p : Addr} {o : HO} (s : Same H H') (n : H p = none) : Same H (upd H' p o) := by
  intro b u e
  rw [upd_ne (ne_of_none e n)]
  exact s b u e
theorem ne_new {H : Hp} {a b : Addr} {o : HO} (n : H b = none) (h : H a = some o) : a ≠ b := ne_of_none h n
/-- all but what stands at r is as it was -/
def Kp (r : Addr) (H H' : Hp) : Prop := ∀ b o, b ≠ r → H b = some o → H' b = some o
theorem Kp.refl (r : Addr) (H : Hp) : Kp r H H := fun _ _ _ h => h
theorem Kp.of {r : Addr} {H H' : Hp} (s : Same H H') : Kp r H H' := fun b o _ h => s b o h
theorem Kp.trans {r : Addr} {H H1 H2 : Hp} (a : Kp r H H1) (b : Kp r H1 H2) : Kp r H H2 := fun c o n h => b c o n (a c o n h)
theorem Kp.set {r : Addr} {H : Hp} {o : HO} : Kp r H (upd H r o) := fun b u n e => by rw [upd_ne n]; exact e
theorem Kp.put {r p : Addr} {H H' : Hp} {o : HO} (k : Kp r H H') (n : H p = none) : Kp r H (upd H' p o) := fun b u m e => by
  rw [upd_ne (ne_of_none e n)]
  exact k b u m e
theorem Kp.free {r p : Addr} {H H' : Hp} (k : Kp r H H') (n : H' p = none) (m : p ≠ r) : H p = none := by
  cases q : H p with
  | none => rfl
  | some o => rw [k p o m q] at n; cases n
theorem Kp.get {r a : Addr} {H H' : Hp} {o : HO} (k : Kp r H H') (n : a ≠ r) (h : H a = some o) : H' a = some o := k a o n h
theorem lst_of {K : PySem.W.Frag} {H : Hp} {a : Addr} {xs : List V} (h : H a = some (.lst xs)) : SqL K H a xs := .inl (.inl h)
theorem tup_of {K : PySem.W.Frag} {H : Hp} {a : Addr} {xs : List V} (h : H a = some (.tup xs)) : SqT K H a xs := .inl (.inl h)
theorem Kp.seq {K : PySem.W.Frag} {r : Addr} {H H' : Hp} {a : Addr} {xs : List V} (k : Kp r H H') (n : a ≠ r) (h : SqL K H a xs) : SqL K H' a xs := by
  rcases h with (h | ⟨o, h⟩) | h
  · exact .inl (.inl (k _ _ n h))
  · exact .inl (.inr ⟨o, k _ _ n h⟩)
  · exact .inr h
theorem Kp.seqT {K : PySem.W.Frag} {r : Addr} {H H' : Hp} {a : Addr} {xs : List V} (k : Kp r H H') (n : a ≠ r) (h : SqT K H a xs) : SqT K H' a xs := by
  rcases h with (h | ⟨o, h⟩) | h
  · exact .inl (.inl (k _ _ n h))
  · exact .inl (.inr ⟨o, k _ _ n h⟩)
  · exact .inr h
theorem _root_.L2.Same.seqT {K : PySem.W.Frag} {H H' : Hp} {a : Addr} {xs : List V} (k : Same H H') (h : SqT K H a xs) : SqT K H' a xs := by
  rcases h with (h | ⟨o, h⟩) | h
  · exact .inl (.inl (k _ _ h))
  · exact .inl (.inr ⟨o, k _ _ h⟩)
  · exact .inr h

/-! ### the layer's rules whose readings have no name, named -/
def rIsN' : R2 := fun x y H Q => y = .non ∧ Q (.bl (decide (x = .non))) H
def rNotN' : R2 := fun x y H Q => y = .non ∧ Q (.bl (!decide (x = .non))) H
def rLen (K : PySem.W.Frag) : List V → Hp → VK → Prop := fun xs H Q => ∃ p ys, xs = [.ref p] ∧ (SqL K H p ys ∨ SqT K H p ys) ∧ Q (.int ys.length) H
def rLenS : List V → Hp → VK → Prop := fun xs H Q => ∃ z, xs = [.str z] ∧ z.length ≤ sizeLine ∧ Q (.int z.length) H
def rAbs : List V → Hp → VK → Prop := fun xs H Q => ∃ i, xs = [.int i] ∧ Q (.int (if i < 0 then -i else i)) H
def rMax2 : List V → Hp → VK → Prop := fun xs H Q => ∃ i j, xs = [.int i, .int j] ∧ Q (.int (if j > i then j else i)) H
def rMin2 : List V → Hp → VK → Prop := fun xs H Q => ∃ i j, xs = [.int i, .int j] ∧ Q (.int (if j < i then j else i)) H
def rInt1 : List V → Hp → VK → Prop := fun xs H Q => (∃ i, xs = [.int i] ∧ Q (.int i) H) ∨ ∃ k, xs = [.bl k] ∧ Q (.int (if k then 1 else 0)) H
def rStrI : List V → Hp → VK → Prop := fun xs H Q => ∃ i, xs = [.int i] ∧ i.natAbs.log2 < 1920 ∧ Q (.str (toString i)) H
def rListOf (K : PySem.W.Frag) : List V → Hp → VK → Prop := fun xs H Q => ∃ p ys, xs = [.ref p] ∧ (SqL K H p ys ∨ SqT K H p ys) ∧ ∀ l, H l = none → Q (.ref l) (upd H l (.lst ys))
def rTupleOf (K : PySem.W.Frag) : List V → Hp → VK → Prop := fun xs H Q => ∃ p ys, xs = [.ref p] ∧ ((SqL K H p ys ∧ ∀ l, H l = none → Q (.ref l) (upd H l (.tup ys))) ∨ (SqT K H p ys ∧ Q (.ref p) H))
section
variable {X : Cx}
theorem op_isN' : OpR X (compareOp .Is) rIsN' := op_isN
theorem op_notN' : OpR X (compareOp .IsNot) rNotN' := op_notN
theorem call_len' : CallR X (.builtin "len") (rLen X.K) := call_len_seq
theorem call_lenS' : CallR X (.builtin "len") rLenS := call_len_str
theorem call_abs' : CallR X (.builtin "abs") rAbs := call_abs
theorem call_max2' (hc : X.calm = true) : CallR X (.builtin "max") rMax2 := call_max2 hc
theorem call_min2' (hc : X.calm = true) : CallR X (.builtin "min") rMin2 := call_min2 hc
theorem call_int1' : CallR X (.type "int") rInt1 := call_int1
theorem call_str' : CallR X (.type "str") rStrI := call_str_int
theorem call_list' : CallR X (.type "list") (rListOf X.K) := call_list_of
theorem call_tuple' : CallR X (.type "tuple") (rTupleOf X.K) := call_tuple_of
end
/-! ### readings, one rule a word -/
section
variable {σ : L2.St} {H : Hp} {Q : VK} {D : Ends} {ta tb tc te : TE} {t u : TT} {ts tu : TS} {tA tB' : TA} {i j : Nat} {x y v : V} {R : L2.St → Hp → Prop} {B : Bool → Hp → Prop} {L : List V → Hp → Prop}
theorem r_seq (h : ts { D with nx := tu D } σ H) : tSeq ts tu D σ H := h
theorem r_next (h : D.nx σ H) : tNext D σ H := h
theorem r_nx {n b c : L2.St → Hp → Prop} {r : VK} (h : n σ H) : Ends.nx ⟨n, r, b, c⟩ σ H := h
theorem r_rt {n b c : L2.St → Hp → Prop} {r : VK} (h : r v H) : Ends.rt ⟨n, r, b, c⟩ v H := h
theorem r_bk {n b c : L2.St → Hp → Prop} {r : VK} (h : b σ H) : Ends.bk ⟨n, r, b, c⟩ σ H := h
theorem r_ct {n b c : L2.St → Hp → Prop} {r : VK} (h : c σ H) : Ends.ct ⟨n, r, b, c⟩ σ H := h
theorem r_brk (h : D.bk σ H) : tBreak D σ H := h
theorem r_cont (h : D.ct σ H) : tCont D σ H := h
theorem r_ret (h : te σ H D.rt) : tRet te D σ H := h
theorem r_retN (h : D.rt .non H) : tRetN D σ H := h
theorem r_drop (h : te σ H fun _ H1 => D.nx σ H1) : tDrop te D σ H := h
theorem r_if (h : t σ H fun b H1 => if b = true then ts D σ H1 else tu D σ H1) : tIfS t ts tu D σ H := h
theorem r_asg {g : TG} (h : te σ H fun x H1 => g x σ H1 D.nx) : tAsg te g D σ H := h
theorem r_par (h : tA σ H fun vs H1 => ∃ v w, vs = [v, w] ∧ D.nx ((σ.set i (some v)).set j (some w)) H1) : tPar i j tA D σ H := h
theorem r_par3 {l : Nat} (h : tA σ H fun vs H1 => ∃ u v w, vs = [u, v, w] ∧ D.nx (((σ.set i (some u)).set j (some v)).set l (some w)) H1) : tPar3 i j l tA D σ H := h
theorem r_two {P : V → V → Prop} (h : P x y) : ∃ v w, [x, y] = [v, w] ∧ P v w := ⟨x, y, rfl, h⟩
theorem r_three {z : V} {P : V → V → V → Prop} (h : P x y z) : ∃ u v w, [x, y, z] = [u, v, w] ∧ P u v w := ⟨x, y, z, rfl, h⟩
theorem r_name (h : R (σ.set i (some v)) H) : gName i v σ H R := h
theorem r_sub {ti to : TE} {s : TSet} (h : to σ H fun o H1 => ti σ H1 fun i H2 => s o i v H2 fun H3 => R σ H3) : gSub to ti s v σ H R := h
theorem r_setL {p : Addr} {xs : List V} {k : Int} {n : Nat} {R : Hp → Prop} (h : H p = some (.lst xs)) (e : ixN xs.length k = some n) (q : R (upd H p (.lst (xs.set n v)))) : rSetL (.ref p) (.int k) v H R := ⟨p, xs, k, n, rfl, rfl, h, e, q⟩
theorem r_gtup {K : PySem.W.Frag} {n : Nat} {g : TGs} {a : Addr} {xs : List V} (h : SqT K H a xs) (e : xs.length = n) (q : g xs σ H R) : gTup K n g (.ref a) σ H R := ⟨a, xs, rfl, h, e, q⟩
theorem r_gunl {K : PySem.W.Frag} {n : Nat} {g : TGs} {a : Addr} {xs : List V} (h : SqL K H a xs) (e : xs.length = n) (q : g xs σ H R) : gUnl K n g (.ref a) σ H R := ⟨a, xs, rfl, h, e, q⟩
theorem r_gcons {g : TG} {gs : TGs} {xs : List V} (h : g x σ H fun σ' H' => gs xs σ' H' R) : gCons g gs (x :: xs) σ H R := ⟨x, xs, rfl, h⟩
theorem r_gnil (h : R σ H) : gNil [] σ H R := ⟨rfl, h⟩
theorem r_var (h : σ[i]? = some (some v)) (q : Q v H) : tVar i σ H Q := ⟨v, h, q⟩
theorem r_c (q : Q v H) : tC v σ H Q := q
theorem r_op {r : R2} (h : ta σ H fun x H1 => tb σ H1 fun y H2 => r x y H2 Q) : tOp r ta tb σ H Q := h
theorem r_un {r : V → Hp → VK → Prop} (h : ta σ H fun x H1 => r x H1 Q) : tUn r ta σ H Q := h
theorem r_test (h : te σ H fun x H' => ∃ k, x = .bl k ∧ B k H') : tTest te σ H B := h
theorem r_B (h : te σ H fun x H' => ∃ k, x = .bl k ∧ B k H') : tB te σ H B := h
theorem r_bl {k : Bool} {P : Bool → Prop} (h : P k) : ∃ k', V.bl k = .bl k' ∧ P k' := ⟨k, rfl, h⟩
theorem r_and (h : t σ H fun c H1 => if c = true then u σ H1 B else B false H1) : tAnd t u σ H B := h
theorem r_or (h : t σ H fun c H1 => if c = true then B true H1 else u σ H1 B) : tOr t u σ H B := h
theorem r_not (h : t σ H fun c H1 => B (!c) H1) : tNot t σ H B := h
theorem r_andV (h : ta σ H fun x H1 => ∃ c, x = .bl c ∧ if c = true then tb σ H1 Q else Q (.bl false) H1) : tAndV ta tb σ H Q := h
theorem r_orV (h : ta σ H fun x H1 => ∃ c, x = .bl c ∧ if c = true then Q (.bl true) H1 else tb σ H1 Q) : tOrV ta tb σ H Q := h
theorem r_notV (h : ta σ H fun x H1 => ∃ c, x = .bl c ∧ Q (.bl (!c)) H1) : tNotV ta σ H Q := h
theorem r_ifE (h : t σ H fun c H1 => if c = true then ta σ H1 Q else tb σ H1 Q) : tIf t ta tb σ H Q := h
theorem r_chain {r r' : R2} (h : ta σ H fun x H1 => tb σ H1 fun y H2 => r x y H2 fun z H3 => ∃ k, z = .bl k ∧ (if k = true then tc σ H3 fun w' H4 => r' y w' H4 Q else Q (.bl false) H3)) : tChain r r' ta tb tc σ H Q := h
theorem r_nil (h : L [] H) : tNil σ H L := h
theorem r_cons (h : ta σ H fun x H1 => tA σ H1 fun xs H2 => L (x :: xs) H2) : tCons ta tA σ H L := h
theorem r_CB {r : List V → Hp → VK → Prop} (h : tA σ H fun vs H1 => r vs H1 Q) : tCB r tA σ H Q := h
theorem r_call {sp : Sp} {dvs : List V} {E : XK} (h : tA σ H fun vs H1 => sp (vs ++ dvs) H1 Q E) : tCall sp dvs E tA σ H Q := h
theorem r_tup (h : tA σ H fun xs H1 => xs.length ≤ sizeLine ∧ ∀ p, H1 p = none → Q (.ref p) (upd H1 p (.tup xs))) : tTup tA σ H Q := h
theorem r_lst (h : tA σ H fun xs H1 => xs.length ≤ sizeLine ∧ ∀ p, H1 p = none → Q (.ref p) (upd H1 p (.lst xs))) : tLst tA σ H Q := h
theorem r_new {n : Nat} {P : Prop} (hn : n ≤ 1000) (h : P) : n ≤ sizeLine ∧ P := ⟨Nat.le_trans hn (by decide), h⟩
theorem r_BM {K : PySem.W.Frag} {T : String} {r : V → List V → Hp → VK → Prop} (h : te σ H fun x H1 => tyV K T x H1 ∧ tA σ H1 fun xs H2 => r x xs H2 Q) : tBM K T r te tA σ H Q := h
theorem r_BM0 {K : PySem.W.Frag} {T : String} {r : V → List V → Hp → VK → Prop} (h : te σ H fun x H1 => tyV K T x H1 ∧ r x [] H1 Q) : tBM0 K T r te σ H Q := h
theorem r_ty {K : PySem.W.Frag} {p : Addr} {xs : List V} {P : Prop} (h : H p = some (.lst xs)) (q : P) : tyV K "list" (.ref p) H ∧ P := ⟨.inl ⟨rfl, xs, .inl (.inl h)⟩, q⟩
theorem r_tyS {K : PySem.W.Frag} {z : Str} {P : Prop} (q : P) : tyV K "str" (.str z) H ∧ P := ⟨rfl, q⟩
theorem r_I0 {g : Int → Int → V} {a b : Int} (q : Q (g a b) H) : rI0 g (.int a) (.int b) H Q := ⟨a, b, rfl, rfl, q⟩
theorem r_I {C : Int → Int → Prop} {g : Int → Int → V} {a b : Int} (c : C a b) (q : Q (g a b) H) : rI C g (.int a) (.int b) H Q := ⟨a, b, rfl, rfl, c, q⟩
theorem r_U {g : Int → V} {a : Int} (q : Q (g a) H) : rU g (.int a) H Q := ⟨a, rfl, q⟩
theorem r_eqI {a b : Int} (q : Q (.bl (decide (a = b))) H) : rEq (.int a) (.int b) H Q := by
  refine ⟨rfl, ?_⟩
  rw [show decide (V.int a = V.int b) = decide (a = b) by simp]
  exact q
theorem r_neI {a b : Int} (q : Q (.bl (!decide (a = b))) H) : rNe (.int a) (.int b) H Q := by
  refine ⟨rfl, ?_⟩
  rw [show decide (V.int a = V.int b) = decide (a = b) by simp]
  exact q
theorem r_eqS {a b : Str} (q : Q (.bl (decide (a = b))) H) : rEq (.str a) (.str b) H Q := by
  refine ⟨rfl, ?_⟩
  rw [show decide (V.str a = V.str b) = decide (a = b) by simp]
  exact q
theorem r_neS {a b : Str} (q : Q (.bl (!decide (a = b))) H) : rNe (.str a) (.str b) H Q := by
  refine ⟨rfl, ?_⟩
  rw [show decide (V.str a = V.str b) = decide (a = b) by simp]
  exact q
theorem r_eqB {a b : Bool} (q : Q (.bl (decide (a = b))) H) : rEq (.bl a) (.bl b) H Q := by
  refine ⟨rfl, ?_⟩
  rw [show decide (V.bl a = V.bl b) = decide (a = b) by simp]
  exact q
theorem r_neB {a b : Bool} (q : Q (.bl (!decide (a = b))) H) : rNe (.bl a) (.bl b) H Q := by
  refine ⟨rfl, ?_⟩
  rw [show decide (V.bl a = V.bl b) = decide (a = b) by simp]
  exact q
theorem r_ixL {K : PySem.W.Frag} {p : Addr} {xs : List V} {a : Int} (h : SqL K H p xs) (e : atI xs a = some v) (q : Q v H) : rIxL K (.ref p) (.int a) H Q := ⟨p, xs, a, v, rfl, rfl, h, e, q⟩
theorem r_ixT {K : PySem.W.Frag} {p : Addr} {xs : List V} {a : Int} (h : SqT K H p xs) (e : atI xs a = some v) (q : Q v H) : rIxT K (.ref p) (.int a) H Q := ⟨p, xs, a, v, rfl, rfl, h, e, q⟩
theorem r_app {p : Addr} {xs : List V} (h : H p = some (.lst xs)) (z : xs.length < sizeLine) (q : Q .non (upd H p (.lst (xs ++ [v])))) : rAppend (.ref p) [v] H Q := ⟨p, xs, v, rfl, rfl, h, z, q⟩
theorem r_sl {r : V → Option Int → Option Int → Hp → VK → Prop} {tl th : TO} (h : te σ H fun x H1 => tl σ H1 fun l H2 => th σ H2 fun u H3 => r x l u H3 Q) : tSl r te tl th σ H Q := h
theorem r_nop {O : Option Int → Hp → Prop} (h : O none H) : tNoPart σ H O := h
theorem r_part {O : Option Int → Hp → Prop} (h : te σ H fun x H1 => ∃ i, x = .int i ∧ O (some i) H1) : tPart te σ H O := h
theorem r_int {a : Int} {P : Int → Prop} (h : P a) : ∃ i, V.int a = .int i ∧ P i := ⟨a, rfl, h⟩
theorem r_slL {K : PySem.W.Frag} {p : Addr} {xs : List V} {lo hi : Option Int} (h : SqL K H p xs) (q : ∀ n, H n = none → Q (.ref n) (upd H n (.lst (cutV xs lo hi)))) : rSlL K (.ref p) lo hi H Q := ⟨p, xs, rfl, h, q⟩
theorem r_cat {a b : Addr} {xs zs : List V} (h : H a = some (.lst xs)) (h' : H b = some (.lst zs)) (z : xs.length + zs.length ≤ sizeLine) (q : ∀ p, H p = none → Q (.ref p) (upd H p (.lst (xs ++ zs)))) : rCat (.ref a) (.ref b) H Q := ⟨a, b, xs, zs, rfl, rfl, h, h', z, q⟩
theorem r_revL {K : PySem.W.Frag} (h : te σ H fun x H1 => ∃ a xs, x = .ref a ∧ SqL K H1 a xs ∧ ∀ p, H1 p = none → Q (.ref p) (upd H1 p (.lst xs.reverse))) : tRevL K te σ H Q := h
theorem r_lstRg {tr : L2.St → Hp → (Int → Int → Hp → Prop) → Prop} (h : tr σ H fun a b H1 => RgOk a b ∧ ∀ q, H1 q = none → Q (.ref q) (upd H1 q (.lst (rgV a b)))) : tLstRg tr σ H Q := h
theorem r_rg1 {P : Int → Int → Hp → Prop} (h : te σ H fun x H1 => ∃ n, x = .int n ∧ P 0 n H1) : tRg1 te σ H P := h
theorem r_aug {ti : TIp} (h : σ[i]? = some (some x)) (q : te σ H fun y H1 => ti x y H1 fun z H2 => D.nx (σ.set i (some z)) H2) : tAug i te ti D σ H := ⟨x, h, q⟩
theorem r_ip {f : Int → Int → Int} {a b : Int} (q : Q (.int (f a b)) H) : ipI f (.int a) (.int b) H Q := ⟨a, b, rfl, rfl, q⟩
theorem r_isN0 (q : Q (.bl true) H) : rIsN' .non .non H Q := ⟨rfl, q⟩
theorem r_isNi {a : Int} (q : Q (.bl false) H) : rIsN' (.int a) .non H Q := ⟨rfl, q⟩
theorem r_isNr {a : Addr} (q : Q (.bl false) H) : rIsN' (.ref a) .non H Q := ⟨rfl, q⟩
theorem r_isNb {a : Bool} (q : Q (.bl false) H) : rIsN' (.bl a) .non H Q := ⟨rfl, q⟩
theorem r_isNs {a : Str} (q : Q (.bl false) H) : rIsN' (.str a) .non H Q := ⟨rfl, q⟩
theorem r_isN {a : V} (q : Q (.bl (decide (a = .non))) H) : rIsN' a .non H Q := ⟨rfl, q⟩
theorem r_notN0 (q : Q (.bl false) H) : rNotN' .non .non H Q := ⟨rfl, q⟩
theorem r_notNi {a : Int} (q : Q (.bl true) H) : rNotN' (.int a) .non H Q := ⟨rfl, q⟩
theorem r_notNr {a : Addr} (q : Q (.bl true) H) : rNotN' (.ref a) .non H Q := ⟨rfl, q⟩
theorem r_notN {a : V} (q : Q (.bl (!decide (a = .non))) H) : rNotN' a .non H Q := ⟨rfl, q⟩
theorem r_len {K : PySem.W.Frag} {p : Addr} {xs : List V} (h : SqL K H p xs ∨ SqT K H p xs) (q : Q (.int xs.length) H) : rLen K [.ref p] H Q := ⟨p, xs, rfl, h, q⟩
theorem r_lenS {z : Str} (h : z.length ≤ sizeLine) (q : Q (.int z.length) H) : rLenS [.str z] H Q := ⟨z, rfl, h, q⟩
theorem r_abs {a : Int} (q : Q (.int (if a < 0 then -a else a)) H) : rAbs [.int a] H Q := ⟨a, rfl, q⟩
theorem r_max2 {a b : Int} (q : Q (.int (if b > a then b else a)) H) : rMax2 [.int a, .int b] H Q := ⟨a, b, rfl, q⟩
theorem r_min2 {a b : Int} (q : Q (.int (if b < a then b else a)) H) : rMin2 [.int a, .int b] H Q := ⟨a, b, rfl, q⟩
theorem r_inti {a : Int} (q : Q (.int a) H) : rInt1 [.int a] H Q := .inl ⟨a, rfl, q⟩
theorem r_intb {b : Bool} (q : Q (.int (if b then 1 else 0)) H) : rInt1 [.bl b] H Q := .inr ⟨b, rfl, q⟩
theorem r_listOf {K : PySem.W.Frag} {p : Addr} {xs : List V} (h : SqL K H p xs ∨ SqT K H p xs) (q : ∀ l, H l = none → Q (.ref l) (upd H l (.lst xs))) : rListOf K [.ref p] H Q := ⟨p, xs, rfl, h, q⟩
theorem r_tupleL {K : PySem.W.Frag} {p : Addr} {xs : List V} (h : SqL K H p xs) (q : ∀ l, H l = none → Q (.ref l) (upd H l (.tup xs))) : rTupleOf K [.ref p] H Q := ⟨p, xs, rfl, .inl ⟨h, q⟩⟩
theorem r_tupleT {K : PySem.W.Frag} {p : Addr} {xs : List V} (h : SqT K H p xs) (q : Q (.ref p) H) : rTupleOf K [.ref p] H Q := ⟨p, xs, rfl, .inr ⟨h, q⟩⟩
/-- an if whose test is a decided proposition -/
theorem ifD {c A B : Prop} [Decidable c] (h1 : c → A) (h2 : ¬ c → B) : if decide c = true then A else B := by
  by_cases h : c
  · rw [decide_eq_true h]; exact iteT (h1 h)
  · rw [decide_eq_false h]; exact iteF (h2 h)
theorem ifN {c A B : Prop} [Decidable c] (h1 : ¬ c → A) (h2 : c → B) : if (!decide c) = true then A else B := by
  by_cases h : c
  · rw [decide_eq_true h]; exact iteF (h2 h)
  · rw [decide_eq_false h]; exact iteT (h1 h)
theorem ifB {b : Bool} {A B : Prop} (h1 : b = true → A) (h2 : b = false → B) : if b = true then A else B := by
  cases b with
  | true => exact iteT (h1 rfl)
  | false => exact iteF (h2 rfl)
theorem ifNB {b : Bool} {A B : Prop} (h1 : b = false → A) (h2 : b = true → B) : if (!b) = true then A else B := by
  cases b with
  | true => exact iteF (h2 rfl)
  | false => exact iteT (h1 rfl)
theorem ifDT {c A B : Prop} [Decidable c] (hc : c) (h : A) : if decide c = true then A else B := ifD (fun _ => h) fun n => (n hc).elim
theorem ifDF {c A B : Prop} [Decidable c] (hc : ¬ c) (h : B) : if decide c = true then A else B := ifD (fun n => (hc n).elim) fun _ => h
theorem ifNT {c A B : Prop} [Decidable c] (hc : ¬ c) (h : A) : if (!decide c) = true then A else B := ifN (fun _ => h) fun n => (hc n).elim
theorem ifNF {c A B : Prop} [Decidable c] (hc : c) (h : B) : if (!decide c) = true then A else B := ifN (fun n => (n hc).elim) fun _ => h
end
theorem sz {n : Nat} (h : n ≤ 100000) : n ≤ sizeLine := Nat.le_trans h (by decide)
theorem szl {n : Nat} (h : n ≤ 100000) : n < sizeLine := Nat.lt_of_le_of_lt h (by decide)
end Lx

namespace Lx
open PySem PySem.Spec PyProof.Rows L2
section
variable {prog : Program} {w : World} {A : Around} {E : Value → Shared → Prop} {s : Shared}
/-- the items of a tuple, gathered into a new list -/
theorem gather_tup {t : Addr} {o : Obj} {vs : List Value} {n : Nat} {Q : List Value → Shared → Prop} (ho : s.heap.get? t = some o) (hc : o.cls = .type "tuple") (hd : o.data = .seq vs.toArray n) (hz : vs.length ≤ sizeLine)
    (h : Q vs { s with heap := (s.heap.push (seqObj "list" #[] 0)).update s.heap.objs.size (Obj.mapSeq (· ++ vs.toArray)) }) : wpAny (model prog w) A (collect (.ref t)) Q E s := by
  have old : (s.heap.push (seqObj "list" #[] 0)).get? t = some o := Heap.get?_push_of_some _ ho
  have new : (s.heap.push (seqObj "list" #[] 0)).get? s.heap.objs.size = some (seqObj "list" #[] 0) := Heap.get?_push_size _ rfl
  have et : (Value.type "tuple" == Value.type "tuple") = true := by rfl
  unfold collect
  apply wpAny_bind
  apply wpAny_runValue
  apply codeAny_builtin entry_proto_collect'
  show wpAny _ _ (do again (.builtin "list.__iadd__" ⟨[← newList [], .ref t], []⟩)) _ _ s
  apply wpAny_bind
  refine wpAny_newList ?_
  refine wpAny_pure ⟨Code.quiet_builtin _ (by decide +kernel), codeAny_builtin entry_list_iadd' ?_⟩
  show wpAny _ _ (Builtin.List.listExtendWith (.ref s.heap.objs.size) (.ref t) (.ref s.heap.objs.size)) _ _ { s with heap := s.heap.push (seqObj "list" #[] 0) }
  unfold Builtin.List.listExtendWith
  refine wpAny_bind (wpAny_typeOf (T := "tuple") ⟨o, old, hc⟩ ?_)
  rw [if_pos (by rw [et]; simp)]
  apply wpAny_bind
  refine listItems_at old hd ?_
  apply wpAny_bind
  refine listItems_at (xs := #[]) (n := 0) new rfl ?_
  rw [if_neg (by simp)]
  apply wpAny_bind
  refine listUpdate_at (xs := #[]) (n := 0) new rfl ?_ (Nat.zero_le _) (by simp only [Array.size_append, List.size_toArray, List.length_nil]; show 0 + vs.length ≤ sizeLine + 1; omega)
  apply wpAny_pure
  show wpAny (model prog w) A (do
    let o' ← load s.heap.objs.size
    match o'.data with
    | .seq xs _ => pure xs.toList
    | _ => unsupported "internal:collect") Q E _
  refine wpAny_bind (wpAny_load (get?_update_seq new _) ?_)
  have e : ((#[] : Array Value) ++ vs.toArray).toList = vs := by simp
  show wpAny _ _ (pure ((#[] : Array Value) ++ vs.toArray).toList) Q E _
  rw [e]
  exact wpAny_pure h
/-- sorted of a tuple of ints -/
theorem sorted_tupI {t : Addr} {o : Obj} {vs : List Value} {ns : List Int} {n : Nat} {Q : Value → Shared → Prop} (ho : s.heap.get? t = some o) (hc : o.cls = .type "tuple") (hd : o.data = .seq vs.toArray n) (hz : vs.length ≤ sizeLine) (hi : IntsAre vs ns)
    (h : ∀ out : List Value, SrtO.Srtd SrtO.ltIv out → SrtO.Stb SrtO.ltIv out vs → Q (.ref (s.heap.objs.size + 1)) { s with heap := sortedAll s.heap vs out.toArray }) : wpAny (model prog w) A (call (.builtin "sorted") [.ref t]) Q E s := by
  have size1 : ((s.heap.push (seqObj "list" #[] 0)).update s.heap.objs.size (Obj.mapSeq (· ++ vs.toArray))).objs.size = s.heap.objs.size + 1 := by rw [Heap.size_update, size_push']
  have made : (((s.heap.push (seqObj "list" #[] 0)).update s.heap.objs.size (Obj.mapSeq (· ++ vs.toArray))).push (seqObj "list" vs.toArray 0)).get? (s.heap.objs.size + 1) = some (seqObj "list" vs.toArray 0) := by
    rw [← size1]
    exact Heap.get?_push_size _ rfl
  apply Calls.call_function_entry kind_sorted plain_sorted entry_sorted (args_sorted1 _)
  unfold Builtin.«sorted»
  refine wpAny_bind (m := checkCount "sorted" 1 1 _) (wpAny_pure ?_)
  apply wpAny_bind
  apply gather_tup ho hc hd hz
  apply wpAny_bind
  refine wpAny_newList ?_ hz
  show wpAny _ _ _ _ _ { s with heap := ((s.heap.push (seqObj "list" #[] 0)).update s.heap.objs.size (Obj.mapSeq (· ++ vs.toArray))).push (seqObj "list" vs.toArray 0) }
  rw [size1]
  apply wpAny_bind
  apply wpAny_holding
  refine wpAny_call_entry slot_list_sort ⟨_, made, rfl⟩ entry_list_sort (SrtO.list_sort_ord SrtO.swo_int made hz (fun h2 => SrtO.ints_sortable hi h2) ?_) (args_list_sort _)
  intro out h1 h2
  exact ⟨_, rfl, wpAny_pure ⟨_, rfl, h out h1 h2⟩⟩
end
/-- sorted(t), t a tuple of ints of any length -/
def rSortedU (K : PySem.W.Frag) : List V → Hp → VK → Prop := fun vs H Q => ∃ (a : Addr) (ns : List Int), vs = [V.ref a] ∧ SqT K H a (ns.map V.int) ∧ ∀ (ns' : List Int) (p : Addr), ns'.Perm ns → ns'.Pairwise (· ≤ ·) → H p = none → Q (.ref p) (upd H p (.lst (ns'.map V.int)))
theorem cr_sortedU {X : Cx} : CallR X (.builtin "sorted") (rSortedU X.K) := by
  intro pins s σ H vs us Q I r h
  obtain ⟨a, ns, rfl, hs, q⟩ := h
  obtain ⟨its, rv, ⟨o, ho, hc, n, hd⟩, hz⟩ := I.tuple hs
  have hi := rv.ints
  rw [Vals.ref1 r]
  refine sorted_tupI ho hc hd (by rw [← rv.length]; exact hz) hi ?_
  intro out h1 h2
  have k := SrtO.ints_out hi h1 h2
  obtain ⟨ep, he⟩ := sortedAll_at s.heap its out.toArray
  refine ⟨.ref _, upd H (s.heap.objs.size + 1) (.lst ((out.map SrtO.iv).map V.int)), ?_, rfl, q _ _ k.2.1 k.2.2 (I.hok.fresh (Nat.le_succ _))⟩
  refine I.laid (t' := s.toks) (fun _ _ => sortedAll_old) (Nat.le_succ _) ⟨?_, out, ep, vals_of_ints k.1, he⟩
  rw [List.length_map, k.2.1.length_eq]
  rw [List.length_map] at hz
  exact hz

/-! ### one of two -/
def iOr (w1 w2 : TI) : TI := fun σ H R => w1 σ H R ∨ w2 σ H R
theorem pi_or {X : Cx} {tg l : Expr} {w1 w2 : TI} (h1 : PI X tg l w1) (h2 : PI X tg l w2) : PI X tg l (iOr w1 w2) :=
  ⟨fun pins s σ H R I h => h.elim (h1.run pins s σ H R I) (h2.run pins s σ H R I)⟩
def cOr (r1 r2 : List V → Hp → VK → Prop) : List V → Hp → VK → Prop := fun xs H Q => r1 xs H Q ∨ r2 xs H Q
theorem call_or {X : Cx} {f : Value} {r1 r2 : List V → Hp → VK → Prop} (h1 : CallR X f r1) (h2 : CallR X f r2) : CallR X f (cOr r1 r2) :=
  fun pins s σ H vs us Q I r h => h.elim (h1 pins s σ H vs us Q I r) (h2 pins s σ H vs us Q I r)
def oOr (r1 r2 : R2) : R2 := fun x y H Q => r1 x y H Q ∨ r2 x y H Q
theorem op_or {X : Cx} {f : Value → Value → Sem Value} {r1 r2 : R2} (h1 : OpR X f r1) (h2 : OpR X f r2) : OpR X f (oOr r1 r2) :=
  fun pins s σ H x y v u Q I rx ry h => h.elim (h1 pins s σ H x y v u Q I rx ry) (h2 pins s σ H x y v u Q I rx ry)
theorem ix_or {X : Cx} {r1 r2 : R2} (h1 : IxR X r1) (h2 : IxR X r2) : IxR X (oOr r1 r2) := IxR.or h1 h2
end Lx

namespace Lx
open PySem PySem.Spec PyProof.Rows L2
/-- a list or a tuple that stands at a -/
def Sq (H : Hp) (a : Addr) (xs : List V) : Prop := H a = some (.lst xs) ∨ H a = some (.tup xs)
theorem _root_.L2.Same.sq {H H' : Hp} {a : Addr} {xs : List V} (s : Same H H') (h : Sq H a xs) : Sq H' a xs := h.elim (fun h => .inl (s _ _ h)) fun h => .inr (s _ _ h)
theorem Kp.sq {r : Addr} {H H' : Hp} {a : Addr} {xs : List V} (k : Kp r H H') (n : a ≠ r) (h : Sq H a xs) : Sq H' a xs := h.elim (fun h => .inl (k _ _ n h)) fun h => .inr (k _ _ n h)
theorem Sq.or {K : PySem.W.Frag} {H : Hp} {a : Addr} {xs : List V} (h : Sq H a xs) : SqL K H a xs ∨ SqT K H a xs := h.elim (fun h => .inl (lst_of h)) fun h => .inr (tup_of h)
/-! ### data of ints -/
def dI (ns : List Int) : List PyData := ns.map PyData.int
def vI (ns : List Int) : List V := ns.map V.int
theorem vI_len (ns : List Int) : (vI ns).length = ns.length := List.length_map ..
theorem dpAll_ints {K : PySem.W.Frag} {H : Hp} : ∀ ns : List Int, DpAll K H (vI ns) (dI ns)
  | [] => .nil
  | n :: ns => .cons (.int n) (dpAll_ints ns)
theorem dp_listI {K : PySem.W.Frag} {H : Hp} {a : Addr} {ns : List Int} (h : SqL K H a (vI ns)) : Dp K H (.ref a) (.list (dI ns)) := .lst h (dpAll_ints ns)
theorem dp_tupI {K : PySem.W.Frag} {H : Hp} {a : Addr} {ns : List Int} (h : SqT K H a (vI ns)) : Dp K H (.ref a) (.tuple (dI ns)) := .tup h (dpAll_ints ns)
theorem eqv_int (a b : Int) : PyData.eqv (.int a) (.int b) = decide (a = b) := by
  unfold PyData.eqv
  by_cases h : a = b
  · subst h; simp
  · simp [h]
theorem eqvAll_ints : ∀ xs ys : List Int, PyData.eqvAll (dI xs) (dI ys) = decide (xs = ys)
  | [], [] => by simp [dI, PyData.eqvAll]
  | [], _ :: _ => by simp [dI, PyData.eqvAll]
  | _ :: _, [] => by simp [dI, PyData.eqvAll]
  | x :: xs, y :: ys => by
    have ih := eqvAll_ints xs ys
    show (PyData.eqv (.int x) (.int y) && PyData.eqvAll (dI xs) (dI ys)) = _
    rw [ih, eqv_int]
    by_cases h : x = y <;> by_cases h2 : xs = ys <;> simp [h, h2]
theorem eqv_listI (xs ys : List Int) : PyData.eqv (.list (dI xs)) (.list (dI ys)) = decide (xs = ys) := by
  unfold PyData.eqv
  exact eqvAll_ints xs ys
theorem depthAll_ints : ∀ ns : List Int, PyData.depthAll (dI ns) = 0
  | [] => rfl
  | n :: ns => by show max 0 (PyData.depthAll (dI ns)) = 0; rw [depthAll_ints ns]; rfl
theorem canLay_ints : ∀ ns : List Int, PyData.canLayAll0 (dI ns) = true
  | [] => rfl
  | n :: ns => by
    have ih := canLay_ints ns
    simp only [dI, List.map_cons, PyData.canLayAll0, PyData.canLay0, Bool.true_and] at ih ⊢
    exact ih
theorem shaped_listI (ns : List Int) : SeqAt.shaped (.list (dI ns)) = true := by
  unfold SeqAt.shaped
  have h1 : PyData.canLay0 (.list (dI ns)) = true := by unfold PyData.canLay0; exact canLay_ints ns
  have h2 : PyData.depth (.list (dI ns)) ≤ 64 := by show PyData.depthAll (dI ns) + 1 ≤ 64; rw [depthAll_ints]; decide
  rw [h1, decide_eq_true h2]
  rfl
theorem dI_mem {ns : List Int} {d : PyData} (h : d ∈ dI ns) : ∃ n ∈ ns, d = .int n := by
  obtain ⟨n, hn, e⟩ := List.mem_map.mp h
  exact ⟨n, hn, e.symm⟩
theorem showableAll_of {ds : List PyData} (h : ∀ d ∈ ds, d.showable = true) : PyData.showableAll ds = true := by
  induction ds with
  | nil => rfl
  | cons d ds ih =>
    show (d.showable && PyData.showableAll ds) = true
    rw [h d List.mem_cons_self, ih fun x hx => h x (List.mem_cons_of_mem _ hx)]
    rfl
theorem hasDictAll_of {ds : List PyData} (h : ∀ d ∈ ds, d.hasDict = false) : PyData.hasDictAll ds = false := by
  induction ds with
  | nil => rfl
  | cons d ds ih =>
    show (d.hasDict || PyData.hasDictAll ds) = false
    rw [h d List.mem_cons_self, ih fun x hx => h x (List.mem_cons_of_mem _ hx)]
    rfl
theorem depthAll_le {ds : List PyData} {m : Nat} (h : ∀ d ∈ ds, d.depth ≤ m) : PyData.depthAll ds ≤ m := by
  induction ds with
  | nil => exact Nat.zero_le _
  | cons d ds ih =>
    show max d.depth (PyData.depthAll ds) ≤ m
    exact Nat.max_le.mpr ⟨h d List.mem_cons_self, ih fun x hx => h x (List.mem_cons_of_mem _ hx)⟩
/-- what repr asks of a datum: to show it takes at most m signs, depth at most k -/
structure Shows (d : PyData) (k m : Nat) : Prop where
  s : d.showable = true
  n : d.hasDict = false
  k : d.depth ≤ k
  z : d.shown.length ≤ m
theorem shows_int {i : Int} {k : Nat} (hk : 0 < k) (hk2 : k ≤ 250) (h0 : 0 ≤ i) (h : i < 10 ^ k) : Shows (.int i) 0 k := by
  refine ⟨?_, rfl, Nat.le_refl _, int_shown hk h0 h⟩
  show decide (i.natAbs.log2 < 1920) = true
  have h1 : i.natAbs < 10 ^ k := by
    have e : ((i.natAbs : Nat) : Int) < ((10 ^ k : Nat) : Int) := by
      rw [Int.natAbs_of_nonneg h0, Int.natCast_pow]
      exact h
    exact Int.ofNat_lt.mp e
  have h2 : (10 : Nat) ^ k ≤ 10 ^ 250 := Nat.pow_le_pow_right (by decide) hk2
  have h3 : i.natAbs < 2 ^ 1920 := Nat.lt_of_lt_of_le (Nat.lt_of_lt_of_le h1 h2) (by decide)
  exact decide_eq_true (PySem.Flt.log2_lt_of (by decide) h3)
theorem shows_none : Shows .none 0 4 := ⟨rfl, rfl, Nat.le_refl _, by decide⟩
theorem shows_list {ds : List PyData} {k m n : Nat} (h : ∀ d ∈ ds, Shows d k m) (hl : ds.length ≤ n) : Shows (.list ds) (k + 1) (n * (m + 2) + 2) := by
  refine ⟨showableAll_of fun d hd => (h d hd).s, hasDictAll_of fun d hd => (h d hd).n, Nat.succ_le_succ (depthAll_le fun d hd => (h d hd).k), ?_⟩
  exact Nat.le_trans (list_shown fun d hd => (h d hd).z) (Nat.add_le_add_right (Nat.mul_le_mul_right _ hl) _)
theorem shows_tup {ds : List PyData} {k m n : Nat} (h : ∀ d ∈ ds, Shows d k m) (hl : ds.length ≤ n) : Shows (.tuple ds) (k + 1) (n * (m + 2) + 3) := by
  refine ⟨showableAll_of fun d hd => (h d hd).s, hasDictAll_of fun d hd => (h d hd).n, Nat.succ_le_succ (depthAll_le fun d hd => (h d hd).k), ?_⟩
  exact Nat.le_trans (tuple_shown fun d hd => (h d hd).z) (Nat.add_le_add_right (Nat.mul_le_mul_right _ hl) _)
theorem r_repr {K : PySem.W.Frag} {H : Hp} {Q : VK} {x : V} {d : PyData} {k m : Nat} (h : Dp K H x d) (s : Shows d k m) (hk : k ≤ 32) (hm : m ≤ 1000000) (q : Q (.str d.shown) H) : rRepr K [x] H Q :=
  ⟨x, d, rfl, h, s.s, s.n, Nat.le_trans s.k hk, Nat.le_trans s.z (Nat.le_trans hm (by decide)), q⟩
theorem r_sortSq {K : PySem.W.Frag} {H : Hp} {Q : VK} {a : Addr} {ns : List Int} (h : Sq H a (vI ns)) (q : ∀ (ns' : List Int) (p : Addr), ns'.Perm ns → ns'.Pairwise (· ≤ ·) → H p = none → Q (.ref p) (upd H p (.lst (vI ns')))) :
    cOr (rSortedI K) (rSortedU K) [.ref a] H Q := h.elim (fun h => .inl ⟨a, ns, rfl, lst_of h, q⟩) fun h => .inr ⟨a, ns, rfl, tup_of h, q⟩
theorem r_neLI {K : PySem.W.Frag} {H : Hp} {Q : VK} {a b : Addr} {xs ys : List Int} (h : SqL K H a (vI xs)) (h' : SqL K H b (vI ys)) (q : Q (.bl (!decide (xs = ys))) H) : rNeD K (.ref a) (.ref b) H Q := by
  refine ⟨_, _, dp_listI h, dp_listI h', shaped_listI xs, shaped_listI ys, ?_⟩
  rw [eqv_listI]
  exact q
theorem r_eqLI {K : PySem.W.Frag} {H : Hp} {Q : VK} {a b : Addr} {xs ys : List Int} (h : SqL K H a (vI xs)) (h' : SqL K H b (vI ys)) (q : Q (.bl (decide (xs = ys))) H) : rEqD K (.ref a) (.ref b) H Q := by
  refine ⟨_, _, dp_listI h, dp_listI h', shaped_listI xs, shaped_listI ys, ?_⟩
  rw [eqv_listI]
  exact q
theorem r_rep {H : Hp} {Q : VK} {l : Addr} {xs : List V} {n : Nat} (h : H l = some (.lst xs)) (h1 : xs.length * n ≤ 100000) (h2 : n ≤ 100000) (q : ∀ p, H p = none → Q (.ref p) (upd H p (.lst (List.replicate n xs).flatten))) : rRep (.ref l) (.int ((n : Nat) : Int)) H Q := by
  refine ⟨l, _, xs, rfl, rfl, h, by omega, by omega, ?_, ?_⟩
  · rw [Int.toNat_natCast]; exact sz h1
  · rw [Int.toNat_natCast]; exact q
/-! ### in a list of ints -/
theorem inV_ints (p : Int) (ns : List Int) : inV (.int p) (vI ns) = decide (p ∈ ns) := by
  unfold inV vI
  rw [List.any_map]
  induction ns with
  | nil => simp
  | cons n ns ih =>
    rw [List.any_cons, ih]
    have e : ((fun y => eqV y (V.int p)) ∘ V.int) n = decide (n = p) := by
      show eqV (.int n) (.int p) = _
      by_cases h : n = p <;> simp [eqV, h]
    rw [e]
    by_cases h : n = p
    · subst h; simp
    · have h' : ¬ p = n := fun z => h z.symm
      simp [h, h']
theorem flat_ints (ns : List Int) : (vI ns).all flatV = true := by
  unfold vI
  rw [List.all_map]
  exact List.all_eq_true.mpr fun x _ => rfl
theorem ixN_ok {n : Nat} {i : Int} (h0 : 0 ≤ i) (h1 : i < n) : ixN n i = some i.toNat := by
  unfold ixN
  rw [if_pos h0, if_pos h1]
theorem atI_ok {α : Type} {xs : List α} {i : Int} {v : α} (h0 : 0 ≤ i) (h : xs[i.toNat]? = some v) : atI xs i = some v := by
  have e : i = ((i.toNat : Nat) : Int) := (Int.toNat_of_nonneg h0).symm
  rw [e]
  exact atI_nat h
theorem vI_at {ns : List Int} {j : Nat} (h : j < ns.length) : (vI ns)[j]? = some (.int ns[j]) := by
  unfold vI
  rw [List.getElem?_map, List.getElem?_eq_getElem h]
  rfl
theorem atI_ints {ns : List Int} {i : Int} (h0 : 0 ≤ i) (h1 : i < ns.length) : atI (vI ns) i = some (.int (ns.getD i.toNat 0)) := by
  have hj : i.toNat < ns.length := by omega
  refine atI_ok h0 ?_
  rw [vI_at hj, List.getD_eq_getElem?_getD, List.getElem?_eq_getElem hj]
  rfl
end Lx

namespace Lx
open PySem PySem.Spec PyProof.Rows L2
/-! ### isinstance -/
section
variable {K : PySem.W.Frag} {H : Hp} {Q : VK} {a tp : Addr} {xs : List V} {i : Int} {z : Str} {b : Bool}
theorem isi_of {x : V} {t T : String} {b : Bool} (ty : TyX K H x (.type t)) (e : kitB t T = some b) (q : Q (.bl b) H) : rIsi K [x, .ty T] H Q := ⟨x, .ty T, .type t, .type T, b, rfl, .ty T, ty, kit_ty e, q⟩
theorem k_ii : kitB "int" "int" = some true := by decide +kernel
theorem k_ib : kitB "int" "bool" = some false := by decide +kernel
theorem k_is : kitB "int" "str" = some false := by decide +kernel
theorem k_il : kitB "int" "list" = some false := by decide +kernel
theorem k_it : kitB "int" "tuple" = some false := by decide +kernel
theorem k_bi : kitB "bool" "int" = some true := by decide +kernel
theorem k_bb : kitB "bool" "bool" = some true := by decide +kernel
theorem k_bs : kitB "bool" "str" = some false := by decide +kernel
theorem k_bl : kitB "bool" "list" = some false := by decide +kernel
theorem k_bt : kitB "bool" "tuple" = some false := by decide +kernel
theorem k_si : kitB "str" "int" = some false := by decide +kernel
theorem k_sb : kitB "str" "bool" = some false := by decide +kernel
theorem k_ss : kitB "str" "str" = some true := by decide +kernel
theorem k_sl : kitB "str" "list" = some false := by decide +kernel
theorem k_st : kitB "str" "tuple" = some false := by decide +kernel
theorem k_ni : kitB "NoneType" "int" = some false := by decide +kernel
theorem k_nb : kitB "NoneType" "bool" = some false := by decide +kernel
theorem k_ns : kitB "NoneType" "str" = some false := by decide +kernel
theorem k_nl : kitB "NoneType" "list" = some false := by decide +kernel
theorem k_nt : kitB "NoneType" "tuple" = some false := by decide +kernel
theorem k_li : kitB "list" "int" = some false := by decide +kernel
theorem k_lb : kitB "list" "bool" = some false := by decide +kernel
theorem k_ls : kitB "list" "str" = some false := by decide +kernel
theorem k_ll : kitB "list" "list" = some true := by decide +kernel
theorem k_lt : kitB "list" "tuple" = some false := by decide +kernel
theorem k_ti : kitB "tuple" "int" = some false := by decide +kernel
theorem k_tb : kitB "tuple" "bool" = some false := by decide +kernel
theorem k_ts : kitB "tuple" "str" = some false := by decide +kernel
theorem k_tl : kitB "tuple" "list" = some false := by decide +kernel
theorem k_tt : kitB "tuple" "tuple" = some true := by decide +kernel
theorem ty_int : TyX K H (.int i) (.type "int") := .base (.int i)
theorem ty_bl : TyX K H (.bl b) (.type "bool") := .base (.bl b)
theorem ty_str : TyX K H (.str z) (.type "str") := .base (.str z)
theorem ty_non : TyX K H .non (.type "NoneType") := .base .non
theorem ty_lst (h : H a = some (.lst xs)) : TyX K H (.ref a) (.type "list") := .base (.lst h)
theorem ty_tup (h : H a = some (.tup xs)) : TyX K H (.ref a) (.type "tuple") := .base (.tup h)
/-- isinstance(x, (list, tuple)), the pair just laid -/
theorem isiLT {x : V} {t : String} {b1 b2 : Bool} (hT : H tp = some (.tup [.ty "list", .ty "tuple"])) (ty : TyX K H x (.type t)) (e1 : kitB t "list" = some b1) (e2 : kitB t "tuple" = some b2) (q : Q (.bl (b1 || b2)) H) : rIsiT K [x, .ref tp] H Q := by
  refine ⟨x, tp, _, .type t, [.type "list", .type "tuple"], b1 || b2, rfl, hT, .cons (.ty _) (.cons (.ty _) .nil), ty, kitAny_cons (kit_ty e1) (fun h1 => ?_) (fun h1 => by rw [h1]; rfl), q⟩
  refine kitAny_cons (kit_ty e2) (fun h2 => ?_) (fun h2 => by rw [h1, h2]; rfl)
  rw [h1, h2]
  exact kitAny_nil
theorem isiLT_l {x : V} {t : String} (hT : H tp = some (.tup [.ty "list", .ty "tuple"])) (ty : TyX K H x (.type t)) (e1 : kitB t "list" = some true) (e2 : kitB t "tuple" = some false) (q : Q (.bl true) H) : rIsiT K [x, .ref tp] H Q := isiLT hT ty e1 e2 q
theorem isiLT_t {x : V} {t : String} (hT : H tp = some (.tup [.ty "list", .ty "tuple"])) (ty : TyX K H x (.type t)) (e1 : kitB t "list" = some false) (e2 : kitB t "tuple" = some true) (q : Q (.bl true) H) : rIsiT K [x, .ref tp] H Q := isiLT hT ty e1 e2 q
theorem isiLT_o {x : V} {t : String} (hT : H tp = some (.tup [.ty "list", .ty "tuple"])) (ty : TyX K H x (.type t)) (e1 : kitB t "list" = some false) (e2 : kitB t "tuple" = some false) (q : Q (.bl false) H) : rIsiT K [x, .ref tp] H Q := isiLT hT ty e1 e2 q
end
theorem ifnT {A B : Prop} (h : B) : if (!true) = true then A else B := iteF h
theorem ifnF {A B : Prop} (h : A) : if (!false) = true then A else B := iteT h
end Lx

namespace Lx
open PySem PySem.Spec PyProof.Rows L2
/-- what an iterator gives: n turns while OK holds; item says what a turn yields -/
structure Src (J : It) (n : Nat) (OK : Hp → Prop) (item : Nat → V → Hp → Hp → Prop) : Prop where
  go : ∀ i H, OK H → i < n → J.go i H
  stop : ∀ H, OK H → J.stop n H
  yld : ∀ i H v H', OK H → i < n → J.yld i H v H' → item i v H H'
section
variable {K : PySem.W.Frag} {a b : Addr} {xs ys : List V}
theorem src_list : Src (Itl K a) xs.length (fun H => SqL K H a xs) (fun i v H H' => H' = H ∧ xs[i]? = some v) where
  go := fun i H h hi => ⟨xs, xs[i], h, by simp [hi]⟩
  stop := fun H h => ⟨xs, h, Nat.le_refl _⟩
  yld := fun i H v H' h _ y => ⟨y.1, y.2 xs h⟩
theorem src_tup : Src (Itt K a) xs.length (fun H => SqT K H a xs) (fun i v H H' => H' = H ∧ xs[i]? = some v) where
  go := fun i H h hi => ⟨xs, xs[i], h, by simp [hi]⟩
  stop := fun H h => ⟨xs, h, Nat.le_refl _⟩
  yld := fun i H v H' h _ y => ⟨y.1, y.2 xs h⟩
theorem src_range {lo : Int} {n : Nat} : Src (Itr lo n) n (fun _ => True) (fun i v H H' => H' = H ∧ v = .int (lo + i)) where
  go := fun i H _ hi => hi
  stop := fun H _ => Nat.le_refl n
  yld := fun i H v H' _ _ y => y
theorem src_step {lo c : Int} {n : Nat} : Src (Itc lo c n) n (fun _ => True) (fun i v H H' => H' = H ∧ v = .int (lo + (i : Nat) * c)) where
  go := fun i H _ hi => hi
  stop := fun H _ => Nat.le_refl n
  yld := fun i H v H' _ _ y => y
theorem src_enum : Src (Ite K a) xs.length (fun H => SqL K H a xs) (fun i v H H' => ∃ T x, v = .ref T ∧ H T = none ∧ H' = upd H T (.tup [.int (i : Nat), x]) ∧ xs[i]? = some x) where
  go := fun i H h hi => ⟨xs, xs[i], h, by simp [hi]⟩
  stop := fun H h => ⟨xs, h, Nat.le_refl _⟩
  yld := fun i H v H' h _ y => by
    obtain ⟨T, x, e, n, u, f⟩ := y
    exact ⟨T, x, e, n, u, f xs h⟩
theorem src_zip (hl : xs.length = ys.length) : Src (Itz K a b) xs.length (fun H => SqL K H a xs ∧ SqL K H b ys) (fun i v H H' => ∃ T x y, v = .ref T ∧ H T = none ∧ H' = upd H T (.tup [x, y]) ∧ xs[i]? = some x ∧ ys[i]? = some y) where
  go := fun i H h hi => ⟨xs, ys, xs[i], ys[i]'(by omega), h.1, h.2, by simp [hi], List.getElem?_eq_getElem (by omega)⟩
  stop := fun H h => ⟨xs, ys, h.1, h.2, .inl (Nat.le_refl _)⟩
  yld := fun i H v H' h _ y => by
    obtain ⟨T, x, z, e, n, u, f, g⟩ := y
    exact ⟨T, x, z, e, n, u, f xs h.1, g ys h.2⟩
theorem src_rev : Src (Itv K a xs.length) xs.length (fun H => SqL K H a xs) (fun i v H H' => H' = H ∧ xs[xs.length - 1 - i]? = some v) where
  go := fun i H h hi => ⟨hi, xs, xs[xs.length - 1 - i]'(by omega), h, List.getElem?_eq_getElem (by omega)⟩
  stop := fun H h => Nat.le_refl xs.length
  yld := fun i H v H' h _ y => ⟨y.1, y.2 xs h⟩
theorem src_str {x : Str} : Src (Its x) x.cps.size (fun _ => True) (fun i v H H' => H' = H ∧ ∃ c, x.cps[i]? = some c ∧ v = .str ⟨#[c]⟩) where
  go := fun i H _ hi => hi
  stop := fun H _ => Nat.le_refl x.cps.size
  yld := fun i H v H' _ _ y => y
end
section
variable {J : It} {n : Nat} {OK : Hp → Prop} {item : Nat → V → Hp → Hp → Prop} {g : TG} {tb : TS} {D : Ends} {σ : L2.St} {H : Hp}
/-- for, by a word over the turn, the slots, the heap -/
theorem for_src (S : Src J n OK item) (Pv : Nat → L2.St → Hp → Prop) (ok : ∀ i σ H, Pv i σ H → OK H) (h0 : Pv 0 σ H)
    (hs : ∀ i v σ H H', i < n → Pv i σ H → item i v H H' → g v σ H' fun σ2 H2 => tb { D with nx := Pv (i + 1), ct := Pv (i + 1), bk := D.nx } σ2 H2) (hd : ∀ σ H, Pv n σ H → D.nx σ H) :
    ∃ W : Nat → Nat → L2.St → Hp → Prop, (∃ m, W 0 m σ H) ∧ ∀ i m σ H, W i m σ H →
      (J.stop i H ∧ D.nx σ H) ∨ (J.go i H ∧ ∃ N : L2.St → Hp → Prop, (∀ σ' H', N σ' H' → ∃ m', m' < m ∧ W (i + 1) m' σ' H') ∧ ∀ x H', J.yld i H x H' → g x σ H' fun σ2 H2 => tb { D with nx := N, ct := N, bk := D.nx } σ2 H2) := by
  refine ⟨fun i m σ H => i + m = n ∧ Pv i σ H, ⟨n, Nat.zero_add n, h0⟩, ?_⟩
  rintro i m σ H ⟨e, p⟩
  have o := ok i σ H p
  by_cases hi : i < n
  · refine .inr ⟨S.go i H o hi, Pv (i + 1), ?_, ?_⟩
    · intro σ' H' p'
      exact ⟨m - 1, by omega, by omega, p'⟩
    · intro x H' y
      exact hs i x σ H H' hi p (S.yld i H x H' o hi y)
  · have ei : i = n := by omega
    subst ei
    exact .inl ⟨S.stop H o, hd σ H p⟩
variable {tt : TT} {te : TE} {vs : List Nat} {H1 : Hp} {Dl : Addr} {Qd : Hp → Prop}
/-- a comprehension, by a word over the turn and the heap -/
theorem lc_src (S : Src J n OK item) (Pv : Nat → Hp → Prop) (ok : ∀ i H, Pv i H → OK H) (h0 : Pv 0 (upd H1 Dl (.lst [])))
    (hs : ∀ i v H H', i < n → Pv i H → item i v H H' → g v (wipe σ vs) H' fun σ2 H2 => wipe σ2 vs = wipe σ vs ∧ tt σ2 H2 fun b H3 =>
      if b = true then te σ2 H3 fun y H4 => ∃ acc, H4 Dl = some (.lst acc) ∧ acc.length < sizeLine ∧ Pv (i + 1) (upd H4 Dl (.lst (acc ++ [y]))) else Pv (i + 1) H3) (hd : ∀ H, Pv n H → Qd H) :
    ∃ W : Nat → Nat → Hp → Prop, (∃ m, W 0 m (upd H1 Dl (.lst []))) ∧ ∀ i m H, W i m H →
      (J.stop i H ∧ Qd H) ∨ (J.go i H ∧ ∃ Nx : Hp → Prop, (∀ H', Nx H' → ∃ m', m' < m ∧ W (i + 1) m' H') ∧ ∀ x H', J.yld i H x H' → g x (wipe σ vs) H' fun σ2 H2 => wipe σ2 vs = wipe σ vs ∧ tt σ2 H2 fun b H3 =>
        if b = true then te σ2 H3 fun y H4 => ∃ acc, H4 Dl = some (.lst acc) ∧ acc.length < sizeLine ∧ Nx (upd H4 Dl (.lst (acc ++ [y]))) else Nx H3) := by
  refine ⟨fun i m H => i + m = n ∧ Pv i H, ⟨n, Nat.zero_add n, h0⟩, ?_⟩
  rintro i m H ⟨e, p⟩
  have o := ok i H p
  by_cases hi : i < n
  · refine .inr ⟨S.go i H o hi, Pv (i + 1), ?_, ?_⟩
    · intro H' p'
      exact ⟨m - 1, by omega, by omega, p'⟩
    · intro x H' y
      exact hs i x H H' hi p (S.yld i H x H' o hi y)
  · have ei : i = n := by omega
    subst ei
    exact .inl ⟨S.stop H o, hd H p⟩
/-- what the turns give: those of f, each v -/
def giv (n : Nat) (f : Nat → Bool) (v : Nat → V) : List V := ((List.range n).filter f).map v
theorem giv_yes {n : Nat} {f : Nat → Bool} {v : Nat → V} (h : f n = true) : giv (n + 1) f v = giv n f v ++ [v n] := by
  unfold giv
  rw [List.range_succ, List.filter_append, List.map_append]
  simp [h]
theorem giv_no {n : Nat} {f : Nat → Bool} {v : Nat → V} (h : f n = false) : giv (n + 1) f v = giv n f v := by
  unfold giv
  rw [List.range_succ, List.filter_append, List.map_append]
  simp [h]
theorem giv_len (n : Nat) (f : Nat → Bool) (v : Nat → V) : (giv n f v).length ≤ n := by
  unfold giv
  rw [List.length_map]
  exact Nat.le_trans (List.length_filter_le f (List.range n)) (by simp)
theorem giv_all (n : Nat) (v : Nat → V) : giv n (fun _ => true) v = (List.range n).map v := by
  unfold giv
  rw [List.filter_eq_self.mpr fun _ _ => rfl]
theorem giv_const (n : Nat) (x : V) : giv n (fun _ => true) (fun _ => x) = List.replicate n x := by
  rw [giv_all, List.map_const', List.length_range]
/-- a comprehension whose turns leave what stood as it was -/
theorem lc_pure (S : Src J n OK item) (p : Nat → Bool) (v : Nat → V) (hn : n ≤ 100000) (hok : ∀ H', Same H1 H' → OK H')
    (hs : ∀ i x H' H'' (Yes : V → Hp → Prop) (No : Hp → Prop), i < n → Same H1 H' → item i x H' H'' → (p i = true → ∀ H4, Same H' H4 → Yes (v i) H4) → (p i = false → ∀ H3, Same H' H3 → No H3) →
      g x (wipe σ vs) H'' fun σ2 H2 => wipe σ2 vs = wipe σ vs ∧ tt σ2 H2 fun b H3 => if b = true then te σ2 H3 Yes else No H3)
    (hD : H1 Dl = none) (q : ∀ H', Same H1 H' → H' Dl = some (.lst (giv n p v)) → Qd H') :
    ∃ W : Nat → Nat → Hp → Prop, (∃ m, W 0 m (upd H1 Dl (.lst []))) ∧ ∀ i m H, W i m H →
      (J.stop i H ∧ Qd H) ∨ (J.go i H ∧ ∃ Nx : Hp → Prop, (∀ H', Nx H' → ∃ m', m' < m ∧ W (i + 1) m' H') ∧ ∀ x H', J.yld i H x H' → g x (wipe σ vs) H' fun σ2 H2 => wipe σ2 vs = wipe σ vs ∧ tt σ2 H2 fun b H3 =>
        if b = true then te σ2 H3 fun y H4 => ∃ acc, H4 Dl = some (.lst acc) ∧ acc.length < sizeLine ∧ Nx (upd H4 Dl (.lst (acc ++ [y]))) else Nx H3) := by
  refine lc_src S (fun i H' => Same H1 H' ∧ H' Dl = some (.lst (giv i p v))) (fun i H' h => hok H' h.1) ⟨same_new hD, upd_same⟩ ?_ (fun H' h => q H' h.1 h.2)
  rintro i x H' H'' hi ⟨s, hl⟩ hit
  refine hs i x H' H'' _ _ hi s hit ?_ ?_
  · intro hp H4 s4
    refine ⟨giv i p v, s4 _ _ hl, ?_, same_set (s.trans s4) hD, ?_⟩
    · exact Nat.lt_of_le_of_lt (Nat.le_trans (giv_len i p v) (Nat.le_of_lt (Nat.lt_of_lt_of_le hi hn))) (by decide)
    · rw [giv_yes hp]; exact upd_same
  · intro hp H3 s3
    refine ⟨s.trans s3, ?_⟩
    rw [giv_no hp]
    exact s3 _ _ hl
end
/-! ### the shapes of loops' readings -/
section
variable {σ : L2.St} {H : Hp} {D : Ends} {K : PySem.W.Frag} {R : It → Hp → Prop} {tl : TE} {ta : TA}
theorem r_for {wi : TI} {g : TG} {tb : TS} (h : wi σ H fun J H1 => ∃ W : Nat → Nat → L2.St → Hp → Prop, (∃ m, W 0 m σ H1) ∧ ∀ i m σ H, W i m σ H →
  (J.stop i H ∧ D.nx σ H) ∨ (J.go i H ∧ ∃ N : L2.St → Hp → Prop, (∀ σ' H', N σ' H' → ∃ m', m' < m ∧ W (i + 1) m' σ' H') ∧ ∀ x H', J.yld i H x H' → g x σ H' fun σ2 H2 => tb { D with nx := N, ct := N, bk := D.nx } σ2 H2)) : tFor wi g tb D σ H := h
theorem r_lc {wi : TI} {g : TG} {tt : TT} {te : TE} {vs : List Nat} {Q : VK} (h : wi σ H fun J H1 => ∀ D, H1 D = none → ∃ W : Nat → Nat → Hp → Prop, (∃ m, W 0 m (upd H1 D (.lst []))) ∧ ∀ i m H, W i m H →
  (J.stop i H ∧ Q (.ref D) H) ∨ (J.go i H ∧ ∃ Nx : Hp → Prop, (∀ H', Nx H' → ∃ m', m' < m ∧ W (i + 1) m' H') ∧ ∀ x H', J.yld i H x H' → g x (wipe σ vs) H' fun σ2 H2 => wipe σ2 vs = wipe σ vs ∧ tt σ2 H2 fun b H3 =>
    if b = true then te σ2 H3 fun y H4 => ∃ acc, H4 D = some (.lst acc) ∧ acc.length < sizeLine ∧ Nx (upd H4 D (.lst (acc ++ [y]))) else Nx H3)) : tLc wi g tt te vs σ H Q := h
theorem r_yes {B : Bool → Hp → Prop} (h : B true H) : tYes σ H B := h
theorem r_iList (h : tl σ H fun x H1 => ∃ a, x = .ref a ∧ (∃ xs, SqL K H1 a xs) ∧ R (Itl K a) H1) : iList K tl σ H R := h
theorem r_iTup (h : tl σ H fun x H1 => ∃ a, x = .ref a ∧ (∃ xs, SqT K H1 a xs) ∧ R (Itt K a) H1) : iTup K tl σ H R := h
theorem r_iRng1 (h : ta σ H fun vs H1 => ∃ j : Int, vs = [.int j] ∧ -(2 ^ 62) ≤ j ∧ j < 2 ^ 62 ∧ R (Itr 0 j.toNat) H1) : iRng1 ta σ H R := h
theorem r_iRng2 (h : ta σ H fun vs H1 => ∃ i j : Int, vs = [.int i, .int j] ∧ (-(2 ^ 62) ≤ i ∧ i < 2 ^ 62 ∧ -(2 ^ 62) ≤ j ∧ j < 2 ^ 62) ∧ R (Itr i (j - i).toNat) H1) : iRng2 ta σ H R := h
theorem r_iRng3 (h : ta σ H fun vs H1 => ∃ (i j c : Int) (n : Nat), vs = [.int i, .int j, .int c] ∧ RgC i j c n ∧ R (Itc i c n) H1) : iRng3 ta σ H R := h
theorem r_iEnum (h : ta σ H fun vs H1 => ∃ a xs, vs = [.ref a] ∧ SqL K H1 a xs ∧ R (Ite K a) H1) : iEnum K ta σ H R := h
theorem r_iZip (h : ta σ H fun vs H1 => ∃ a b xs ys, vs = [.ref a, .ref b] ∧ SqL K H1 a xs ∧ SqL K H1 b ys ∧ R (Itz K a b) H1) : iZip K ta σ H R := h
theorem r_iStr (h : tl σ H fun v H1 => ∃ x, v = .str x ∧ R (Its x) H1) : iStr tl σ H R := h
theorem i_list {a : Addr} {xs : List V} {P : It → Prop} (h : SqL K H a xs) (q : P (Itl K a)) : ∃ a', V.ref a = .ref a' ∧ (∃ xs, SqL K H a' xs) ∧ P (Itl K a') := ⟨a, rfl, ⟨xs, h⟩, q⟩
theorem i_tup {a : Addr} {xs : List V} {P : It → Prop} (h : SqT K H a xs) (q : P (Itt K a)) : ∃ a', V.ref a = .ref a' ∧ (∃ xs, SqT K H a' xs) ∧ P (Itt K a') := ⟨a, rfl, ⟨xs, h⟩, q⟩
theorem i_rng1 {j : Int} {P : It → Prop} (h0 : -(2 ^ 62) ≤ j) (h1 : j < 2 ^ 62) (q : P (Itr 0 j.toNat)) : ∃ j' : Int, [V.int j] = [.int j'] ∧ -(2 ^ 62) ≤ j' ∧ j' < 2 ^ 62 ∧ P (Itr 0 j'.toNat) := ⟨j, rfl, h0, h1, q⟩
theorem r_wN {tb : TS} {I : Nat → L2.St → Hp → Prop} {m : Nat} (h : tb { D with nx := fun σ' H' => ∃ m', m' < m ∧ I m' σ' H', ct := fun σ' H' => ∃ m', m' < m ∧ I m' σ' H', bk := D.nx } σ H) :
    ∃ N : L2.St → Hp → Prop, (∀ σ' H', N σ' H' → ∃ m', m' < m ∧ I m' σ' H') ∧ tb { D with nx := N, ct := N, bk := D.nx } σ H := ⟨_, fun _ _ h => h, h⟩
end
end Lx

/-! the layer's rules with the written part named (within a comprehension's block a reading must not hang on the block) -/
namespace Lx
open PySem PySem.Spec PyProof.Rows L2
section
variable (K : PySem.W.Frag) {X : Cx}
theorem k_len (h : X.K = K := by rfl) : CallR X (.builtin "len") (rLen K) := h ▸ call_len'
theorem k_list (h : X.K = K := by rfl) : CallR X (.type "list") (rListOf K) := h ▸ call_list'
theorem k_tuple (h : X.K = K := by rfl) : CallR X (.type "tuple") (rTupleOf K) := h ▸ call_tuple'
theorem k_isi (h : X.K = K := by rfl) : CallR X (.builtin "isinstance") (rIsi K) := h ▸ call_isi
theorem k_isiT (h : X.K = K := by rfl) : CallR X (.builtin "isinstance") (rIsiT K) := h ▸ call_isiT
theorem k_all (h : X.K = K := by rfl) (hc : X.calm = true := by rfl) : CallR X (.builtin "all") (rAll K) := h ▸ cr_all hc
theorem k_any (h : X.K = K := by rfl) (hc : X.calm = true := by rfl) : CallR X (.builtin "any") (rAny K) := h ▸ cr_any hc
theorem k_sum (h : X.K = K := by rfl) (hc : X.calm = true := by rfl) : CallR X (.builtin "sum") (rSum K) := h ▸ cr_sum hc
theorem k_min (h : X.K = K := by rfl) (hc : X.calm = true := by rfl) : CallR X (.builtin "min") (rMin K) := h ▸ cr_min hc
theorem k_max (h : X.K = K := by rfl) (hc : X.calm = true := by rfl) : CallR X (.builtin "max") (rMax K) := h ▸ cr_max hc
theorem k_sorted (h : X.K = K := by rfl) : CallR X (.builtin "sorted") (rSortedI K) := h ▸ cr_sortedI
theorem k_sortedU (h : X.K = K := by rfl) : CallR X (.builtin "sorted") (rSortedU K) := h ▸ cr_sortedU
theorem k_repr (hG : X.A.guards = some []) (hu : X.A.units + 64 < cLine) (h : X.K = K := by rfl) : CallR X (.builtin "repr") (rRepr K) := h ▸ call_reprD hG hu
theorem k_ixL (h : X.K = K := by rfl) : IxR X (rIxL K) := h ▸ ix_list
theorem k_ixT (h : X.K = K := by rfl) : IxR X (rIxT K) := h ▸ ix_tup
theorem k_slL (h : X.K = K := by rfl) : SlR X (rSlL K) := h ▸ sl_list
theorem k_slT (h : X.K = K := by rfl) : SlR X (rSlA K) := h ▸ sl_tupA
theorem k_in (h : X.K = K := by rfl) : OpR X (compareOp .In) (rIn K false) := h ▸ op_in_seq
theorem k_notIn (h : X.K = K := by rfl) : OpR X (compareOp .NotIn) (rIn K true) := h ▸ op_notIn_seq
theorem k_eqD (hu : X.A.units + 64 < cLine) (h : X.K = K := by rfl) : OpR X (compareOp .Eq) (rEqD K) := h ▸ op_eqD hu
theorem k_neD (hu : X.A.units + 64 < cLine) (h : X.K = K := by rfl) : OpR X (compareOp .NotEq) (rNeD K) := h ▸ op_neD hu
theorem k_catT (h : X.K = K := by rfl) : OpR X (binaryOp .Add) (rCatT K) := h ▸ op_catT
theorem k_piL {tg l : Expr} {tl : TE} (hl : PE X l tl) (h : X.K = K := by rfl) : PI X tg l (iList K tl) := h ▸ pi_list hl
theorem k_piT {tg l : Expr} {tl : TE} (hl : PE X l tl) (h : X.K = K := by rfl) : PI X tg l (iTup K tl) := h ▸ pi_tup hl
theorem k_enum {e : Expr} {ta : TA} {p pos tpos : Pos} {elts : List Expr} {kk : Nat} (hg : Gl X "enumerate") (hm : X.mg "enumerate" = none) (ha : PA X [e] ta) (hs : starEach [e] X.env = [(false, eval e X.env)] := by rfl) (h : X.K = K := by rfl) :
    PI X (.Tuple elts kk tpos) (.Call (.Name "enumerate" p) [e] [] pos) (iEnum K ta) := h ▸ pi_enum hg hm ha hs
theorem k_zip {e e2 : Expr} {ta : TA} {p pos tpos : Pos} {elts : List Expr} {kk : Nat} (hg : Gl X "zip") (hm : X.mg "zip" = none) (ha : PA X [e, e2] ta)
    (hs : starEach [e, e2] X.env = (false, eval e X.env) :: starEach [e2] X.env := by rfl) (hpl : (backTo pos (starEach [e2] X.env)).any (·.1) = false := by rfl) (h : X.K = K := by rfl) :
    PI X (.Tuple elts kk tpos) (.Call (.Name "zip" p) [e, e2] [] pos) (iZip K ta) := h ▸ pi_zip hg hm ha hs hpl
theorem k_gtup {es : List Expr} {k : Nat} {t : TGs} {n : Nat} {pos : Pos} (hc : X.calm = true) (ht : PGs X es t) (hn : (assignEach es X.env).length = n := by rfl) (hst : (assignEach es X.env).findIdx? (·.1) = none := by rfl) (h : X.K = K := by rfl) :
    PG X (.Tuple es k pos) (gTup K n t) := h ▸ pg_tup hc ht hn hst
theorem k_gunl {es : List Expr} {k : Nat} {t : TGs} {n : Nat} {pos : Pos} (hc : X.calm = true) (ht : PGs X es t) (hn : (assignEach es X.env).length = n := by rfl) (hst : (assignEach es X.env).findIdx? (·.1) = none := by rfl) (h : X.K = K := by rfl) :
    PG X (.Tuple es k pos) (gUnl K n t) := h ▸ pg_unl hc ht hn hst
theorem k_rev {e : Expr} {te : TE} {k : Nat} {p1 p2 p3 pos : Pos} (he : PE X e te) (h : X.K = K := by rfl) : PE X (.Subscript e (.Slice none none (some (.UnaryOp .USub (.Constant (.int 1) k p1) p2)) p3) pos) (tRevL K te) := h ▸ pe_revL he
theorem k_fld {e : Expr} {ta : TE} {f : Str} {pos : Pos} (he : PE X e ta) (hb : attributeBase e f X.env (eval e X.env) = eval e X.env := by rfl) (h : X.K = K := by rfl) : PE X (.Attribute e f pos) (tFld K ta f) := h ▸ pe_fld he hb
theorem k_bm {T : String} {name : Str} {id : String} {r : V → List V → Hp → VK → Prop} {o e : Expr} {es : List Expr} {to : TE} {t : TA} {apos cpos : Pos} (pa : PlainAttrs T) (slot : Slot T name id) (hty : typeOf (.builtin id) = pure (.type "method_descriptor")) (hm : MtR X id r) (ho : PE X o to) (ha : PA X (e :: es) t)
    (p : PE X (.Call (.Attribute o name apos) (e :: es) [] cpos) (tBM X.K T r to t)) (h : X.K = K := by rfl) : PE X (.Call (.Attribute o name apos) (e :: es) [] cpos) (tBM K T r to t) := h ▸ p
theorem k_bmP {T : String} {r : V → List V → Hp → VK → Prop} {o : Expr} {to : TE} {t : TA} (p : PE X o (tBM X.K T r to t)) (h : X.K = K := by rfl) : PE X o (tBM K T r to t) := h ▸ p
theorem k_bm0P {T : String} {r : V → List V → Hp → VK → Prop} {o : Expr} {to : TE} (p : PE X o (tBM0 X.K T r to)) (h : X.K = K := by rfl) : PE X o (tBM0 K T r to) := h ▸ p
end
end Lx

namespace Lx
open PySem PySem.Spec PyProof.Rows L2
/-! ### data that stand told, each of their lists and tuples where G holds -/
mutual
inductive Tr (G : Addr → Prop) (H : Hp) : V → PyData → Prop
  | non : Tr G H .non .none
  | bl (b : Bool) : Tr G H (.bl b) (.bool b)
  | int (i : Int) : Tr G H (.int i) (.int i)
  | str (x : Str) : Tr G H (.str x) (.str x)
  | lst {a : Addr} {xs : List V} {ds : List PyData} : H a = some (.lst xs) → G a → xs.length ≤ 100000 → TrAll G H xs ds → Tr G H (.ref a) (.list ds)
  | tup {a : Addr} {xs : List V} {ds : List PyData} : H a = some (.tup xs) → G a → xs.length ≤ 100000 → TrAll G H xs ds → Tr G H (.ref a) (.tuple ds)
inductive TrAll (G : Addr → Prop) (H : Hp) : List V → List PyData → Prop
  | nil : TrAll G H [] []
  | cons {v : V} {vs : List V} {d : PyData} {ds : List PyData} : Tr G H v d → TrAll G H vs ds → TrAll G H (v :: vs) (d :: ds)
end
section
variable {K : PySem.W.Frag} {G G' : Addr → Prop} {H H' : Hp}
mutual
theorem Tr.dp : ∀ {v : V} {d : PyData}, Tr G H v d → Dp K H v d
  | _, _, .non => .non
  | _, _, .bl b => .bl b
  | _, _, .int i => .int i
  | _, _, .str x => .str x
  | _, _, .lst h _ _ t => .lst (lst_of h) t.dp
  | _, _, .tup h _ _ t => .tup (tup_of h) t.dp
theorem TrAll.dp : ∀ {v : List V} {d : List PyData}, TrAll G H v d → DpAll K H v d
  | _, _, .nil => .nil
  | _, _, .cons h t => .cons h.dp t.dp
end
mutual
theorem Tr.move (m : ∀ a o, G a → H a = some o → H' a = some o ∧ G' a) : ∀ {v : V} {d : PyData}, Tr G H v d → Tr G' H' v d
  | _, _, .non => .non
  | _, _, .bl b => .bl b
  | _, _, .int i => .int i
  | _, _, .str x => .str x
  | _, _, .lst h g l t => .lst (m _ _ g h).1 (m _ _ g h).2 l (t.move m)
  | _, _, .tup h g l t => .tup (m _ _ g h).1 (m _ _ g h).2 l (t.move m)
theorem TrAll.move (m : ∀ a o, G a → H a = some o → H' a = some o ∧ G' a) : ∀ {v : List V} {d : List PyData}, TrAll G H v d → TrAll G' H' v d
  | _, _, .nil => .nil
  | _, _, .cons h t => .cons (h.move m) (t.move m)
end
theorem Tr.same {v : V} {d : PyData} (h : Tr G H v d) (s : Same H H') : Tr G H' v d := h.move fun a o g e => ⟨s _ _ e, g⟩
theorem Tr.any {v : V} {d : PyData} (h : Tr G H v d) : Tr (fun _ => True) H v d := h.move fun a o g e => ⟨e, trivial⟩
theorem TrAll.same {v : List V} {d : List PyData} (h : TrAll G H v d) (s : Same H H') : TrAll G H' v d := h.move fun a o g e => ⟨s _ _ e, g⟩
theorem TrAll.len : ∀ {v : List V} {d : List PyData}, TrAll G H v d → v.length = d.length
  | _, _, .nil => rfl
  | _, _, .cons _ t => congrArg Nat.succ t.len
theorem TrAll.at : ∀ {vs : List V} {ds : List PyData}, TrAll G H vs ds → ∀ {i : Nat} {v : V}, vs[i]? = some v → ∃ d, ds[i]? = some d ∧ Tr G H v d
  | _, _, .nil, i, v, e => by simp at e
  | _, _, .cons h t, 0, v, e => by
    rw [List.getElem?_cons_zero] at e
    cases e
    exact ⟨_, rfl, h⟩
  | _, _, .cons h t, i + 1, v, e => by
    rw [List.getElem?_cons_succ] at e
    obtain ⟨d, e', z⟩ := t.at e
    exact ⟨d, by rw [List.getElem?_cons_succ]; exact e', z⟩
theorem TrAll.of : ∀ {vs : List V} {ds : List PyData}, vs.length = ds.length → (∀ (i : Nat) (v : V) (d : PyData), vs[i]? = some v → ds[i]? = some d → Tr G H v d) → TrAll G H vs ds
  | [], [], _, _ => .nil
  | v :: vs, d :: ds, e, h => .cons (h 0 v d rfl rfl) (TrAll.of (Nat.succ.inj e) fun i v d a b => h (i + 1) v d a b)
  | [], _ :: _, e, _ => by cases e
  | _ :: _, [], e, _ => by cases e
theorem TrAll.ints (ns : List Int) : TrAll G H (vI ns) (dI ns) := by
  induction ns with
  | nil => exact .nil
  | cons n ns ih => exact .cons (.int n) ih
end
theorem depth_mem {ds : List PyData} {d : PyData} (h : d ∈ ds) : d.depth ≤ PyData.depthAll ds := by
  induction ds with
  | nil => cases h
  | cons e ds ih =>
    show d.depth ≤ max e.depth (PyData.depthAll ds)
    rcases List.mem_cons.mp h with rfl | h
    · exact Nat.le_max_left _ _
    · exact Nat.le_trans (ih h) (Nat.le_max_right _ _)
/-! ### slices -/
theorem cut_lo {xs : List V} {k : Nat} : cutV xs (some ((k : Nat) : Int)) none = xs.drop k := by
  unfold cutV
  rw [HT.sIx_nat, HT.sIx_none]
  by_cases h : k ≤ xs.length
  · rw [Nat.min_eq_left h]
    exact List.take_of_length_le (by rw [List.length_drop]; exact Nat.le_refl _)
  · rw [Nat.min_eq_right (by omega), Nat.sub_self, List.take_zero, List.drop_eq_nil_of_le (by omega)]
theorem cut_hi {xs : List V} {k : Nat} : cutV xs none (some ((k : Nat) : Int)) = xs.take k := by
  unfold cutV
  rw [HT.sIx_nat, HT.sIx_none, List.drop_zero, Nat.sub_zero]
  by_cases h : k ≤ xs.length
  · rw [Nat.min_eq_left h]
  · rw [Nat.min_eq_right (by omega), List.take_length, List.take_of_length_le (by omega)]
theorem vI_drop (ns : List Int) (k : Nat) : (vI ns).drop k = vI (ns.drop k) := List.map_drop.symm
theorem vI_take (ns : List Int) (k : Nat) : (vI ns).take k = vI (ns.take k) := List.map_take.symm
theorem vI_app (a b : List Int) : vI a ++ vI b = vI (a ++ b) := List.map_append.symm
theorem vI_rev (a : List Int) : (vI a).reverse = vI a.reverse := List.map_reverse.symm
theorem vI_set (a : List Int) (n : Nat) (x : Int) : (vI a).set n (.int x) = vI (a.set n x) := List.map_set.symm
/-- a list of values that is a rearranged list of ints -/
theorem perm_vI {xs : List V} {ns : List Int} (h : xs.Perm (vI ns)) : ∃ ms : List Int, xs = vI ms ∧ ms.Perm ns := by
  have un : ∀ zs : List V, (∀ z ∈ zs, ∃ n : Int, z = .int n) → vI (zs.map fun z => match z with | .int n => n | _ => 0) = zs := by
    intro zs
    induction zs with
    | nil => intro _; rfl
    | cons z zs ih =>
      intro hz
      obtain ⟨n, rfl⟩ := hz z List.mem_cons_self
      have e := ih fun y hy => hz y (List.mem_cons_of_mem _ hy)
      show V.int n :: vI (zs.map _) = _
      rw [e]
  refine ⟨xs.map fun z => match z with | .int n => n | _ => 0, (un xs fun z hz => ?_).symm, ?_⟩
  · obtain ⟨n, _, e⟩ := List.mem_map.mp (h.mem_iff.mp hz)
    exact ⟨n, e.symm⟩
  · have p := h.map fun z : V => match z with | .int n => n | _ => 0
    have e : (vI ns).map (fun z : V => match z with | .int n => n | _ => 0) = ns := by
      unfold vI
      rw [List.map_map]
      exact List.map_id ns
    rw [e] at p
    exact p
theorem seq_ix {i : Int} {n : Nat} (h0 : 0 ≤ i) (h1 : i < n) : seqIndex? i n = some i.toNat := (ixN_seq (ixN_ok h0 h1)).1
theorem rgc_pos {j c : Int} (h0 : 0 ≤ j) (h1 : j < 2 ^ 40) (c0 : 1 ≤ c) (c1 : c < 1000000) : RgC 0 j c ((j + c - 1) / c).toNat := by
  have e := rangeSize_pos (len := j) (c := c) c0 h0
  have g0 : 0 ≤ (j + c - 1) / c := Int.ediv_nonneg (by omega) (by omega)
  have g2 : (j + c - 1) / c * c ≤ j + c - 1 := Int.ediv_mul_le _ (by omega)
  have g1 : (j + c - 1) / c ≤ j + c - 1 := by
    refine Int.le_trans ?_ g2
    have := Int.mul_le_mul_of_nonneg_left c0 g0
    rw [Int.mul_one] at this
    exact this
  refine ⟨by omega, by omega, ?_, by rw [e, Int.toNat_of_nonneg g0]⟩
  unfold Builtin.Range.small
  rw [e]
  simp only [Builtin.Range.rangeFitsLong, Bool.and_eq_true, Bool.or_eq_true, decide_eq_true_eq, beq_iff_eq, show c > 0 by omega, if_true]
  refine ⟨⟨⟨⟨by decide, by omega, by omega⟩, by omega, by omega⟩, by omega, by omega⟩, .inr ⟨by omega, by omega⟩⟩
/-! ### where ways join -/
section
variable {ts tu : TS} {R bk ct : L2.St → Hp → Prop} {rt : VK} {σ : L2.St} {H : Hp} {D : Ends}
theorem ifJ {c : Prop} [Decidable c] (J : L2.St → Hp → Prop) (h1 : ∀ R' : L2.St → Hp → Prop, (∀ σ H, J σ H → R' σ H) → c → ts ⟨R', rt, bk, ct⟩ σ H) (h2 : ∀ R' : L2.St → Hp → Prop, (∀ σ H, J σ H → R' σ H) → ¬ c → tu ⟨R', rt, bk, ct⟩ σ H) (hR : ∀ σ H, J σ H → R σ H) :
    if decide c = true then ts ⟨R, rt, bk, ct⟩ σ H else tu ⟨R, rt, bk, ct⟩ σ H := ifD (h1 R hR) (h2 R hR)
theorem seqJ (J : L2.St → Hp → Prop) (h1 : ∀ R' : L2.St → Hp → Prop, (∀ σ H, J σ H → R' σ H) → ts ⟨R', D.rt, D.bk, D.ct⟩ σ H) (hR : ∀ σ H, J σ H → tu D σ H) : tSeq ts tu D σ H := h1 _ hR
end
theorem r_ixLT {K : PySem.W.Frag} {H : Hp} {Q : VK} {v : V} {p : Addr} {xs : List V} {a : Int} (h : Sq H p xs) (e : atI xs a = some v) (q : Q v H) : oOr (rIxL K) (rIxT K) (.ref p) (.int a) H Q :=
  h.elim (fun h => .inl (r_ixL (lst_of h) e q)) fun h => .inr (r_ixT (tup_of h) e q)
/-! ### the same data, its lists and tuples dressed anew -/
mutual
inductive Drs : PyData → PyData → Prop
  | non : Drs .none .none
  | bl (b : Bool) : Drs (.bool b) (.bool b)
  | int (i : Int) : Drs (.int i) (.int i)
  | str (x : Str) : Drs (.str x) (.str x)
  | ll {ds es : List PyData} : DrsAll ds es → Drs (.list ds) (.list es)
  | lt {ds es : List PyData} : DrsAll ds es → Drs (.list ds) (.tuple es)
  | tl {ds es : List PyData} : DrsAll ds es → Drs (.tuple ds) (.list es)
  | tt {ds es : List PyData} : DrsAll ds es → Drs (.tuple ds) (.tuple es)
inductive DrsAll : List PyData → List PyData → Prop
  | nil : DrsAll [] []
  | cons {d e : PyData} {ds es : List PyData} : Drs d e → DrsAll ds es → DrsAll (d :: ds) (e :: es)
end
theorem DrsAll.snoc : ∀ {ds es : List PyData} {d e : PyData}, DrsAll ds es → Drs d e → DrsAll (ds ++ [d]) (es ++ [e])
  | _, _, _, _, .nil, h => .cons h .nil
  | _, _, _, _, .cons g t, h => .cons g (t.snoc h)
theorem DrsAll.len : ∀ {ds es : List PyData}, DrsAll ds es → ds.length = es.length
  | _, _, .nil => rfl
  | _, _, .cons _ t => congrArg Nat.succ t.len
theorem DrsAll.ints : ∀ {ns : List Int} {es : List PyData}, DrsAll (dI ns) es → es = dI ns
  | [], _, .nil => rfl
  | n :: ns, _, .cons h t => by
    cases h
    rw [t.ints]
    rfl
theorem Drs.ints {ns : List Int} {e : PyData} (h : Drs (.list (dI ns)) e) : e = .list (dI ns) ∨ e = .tuple (dI ns) := by
  cases h with
  | ll h => exact .inl (by rw [h.ints])
  | lt h => exact .inr (by rw [h.ints])
theorem TrAll.snoc {G : Addr → Prop} {H : Hp} : ∀ {vs : List V} {ds : List PyData} {v : V} {d : PyData}, TrAll G H vs ds → Tr G H v d → TrAll G H (vs ++ [v]) (ds ++ [d])
  | _, _, _, _, .nil, h => .cons h .nil
  | _, _, _, _, .cons g t, h => .cons g (t.snoc h)
theorem TrAll.val {G : Addr → Prop} {H : Hp} : ∀ {vs : List V} {ns : List Int}, TrAll G H vs (dI ns) → vs = vI ns
  | _, [], .nil => rfl
  | _, n :: ns, .cons h t => by
    cases h
    rw [t.val]
    rfl
theorem Tr.sq {G : Addr → Prop} {H : Hp} {v : V} {ns : List Int} {e : PyData} (h : Tr G H v e) (he : e = .list (dI ns) ∨ e = .tuple (dI ns)) : ∃ a, v = .ref a ∧ G a ∧ Sq H a (vI ns) := by
  rcases he with rfl | rfl
  · cases h with
    | lst h g _ t => rw [t.val] at h; exact ⟨_, rfl, g, .inl h⟩
  · cases h with
    | tup h g _ t => rw [t.val] at h; exact ⟨_, rfl, g, .inr h⟩
/-! ### texts -/
def rAddS : R2 := fun x y H Q => ∃ i j, x = .str i ∧ y = .str j ∧ i.length + j.length ≤ sizeLine ∧ Q (.str (i ++ j)) H
theorem op_addS {X : Cx} : OpR X (binaryOp .Add) rAddS := op_add_str
theorem r_addS {H : Hp} {Q : VK} {a b : Str} (h : a.length + b.length ≤ sizeLine) (q : Q (.str (a ++ b)) H) : rAddS (.str a) (.str b) H Q := ⟨a, b, rfl, rfl, h, q⟩
def rCountS : V → List V → Hp → VK → Prop := fun x xs H Q => ∃ a b, x = .str a ∧ xs = [.str b] ∧ Q (.int (Txt.count a b)) H
theorem mt_countS {X : Cx} : MtR X "str.count" rCountS := mt_count
theorem r_countS {H : Hp} {Q : VK} {a b : Str} (q : Q (.int (Txt.count a b)) H) : rCountS (.str a) [.str b] H Q := ⟨a, b, rfl, rfl, q⟩
theorem r_sortI {K : PySem.W.Frag} {H : Hp} {Q : VK} {a : Addr} {ns : List Int} (h : SqL K H a (vI ns)) (q : ∀ (ns' : List Int) (p : Addr), ns'.Perm ns → ns'.Pairwise (· ≤ ·) → H p = none → Q (.ref p) (upd H p (.lst (vI ns')))) : rSortedI K [.ref a] H Q := ⟨a, ns, rfl, h, q⟩
theorem r_popAt {H : Hp} {Q : VK} {l : Addr} {xs : List V} {i : Int} {y : V} (h : H l = some (.lst xs)) (i0 : 0 ≤ i) (i1 : i < xs.length) (hz : xs.length ≤ 100000) (hy : xs[i.toNat]? = some y) (q : Q y (upd H l (.lst (xs.eraseIdx i.toNat)))) : rPopAt (.ref l) [.int i] H Q :=
  ⟨l, xs, i, i.toNat, y, rfl, rfl, h, by omega, by omega, seq_ix i0 i1, hy, q⟩
theorem r_rev {H : Hp} {Q : VK} {l : Addr} {xs : List V} (h : H l = some (.lst xs)) (q : Q .non (upd H l (.lst xs.reverse))) : rReverse (.ref l) [] H Q := ⟨l, xs, rfl, rfl, h, q⟩
theorem r_in {K : PySem.W.Frag} {H : Hp} {Q : VK} {p : Addr} {x : V} {xs : List V} (h : SqL K H p xs ∨ SqT K H p xs) (f : flatV x = true) (g : xs.all flatV = true) (q : Q (.bl (inV x xs)) H) : rIn K false x (.ref p) H Q := ⟨p, xs, rfl, h, f, g, q⟩
theorem r_notIn {K : PySem.W.Frag} {H : Hp} {Q : VK} {p : Addr} {x : V} {xs : List V} (h : SqL K H p xs ∨ SqT K H p xs) (f : flatV x = true) (g : xs.all flatV = true) (q : Q (.bl (!inV x xs)) H) : rIn K true x (.ref p) H Q := ⟨p, xs, rfl, h, f, g, q⟩
/-! ### the least of ints -/
def minI : List Int → Int
  | [] => 0
  | a :: r => if r = [] then a else if a ≤ minI r then a else minI r
theorem minI_mem : ∀ {ns : List Int}, ns ≠ [] → minI ns ∈ ns
  | [], h => absurd rfl h
  | a :: r, _ => by
    unfold minI
    split
    · exact List.mem_cons_self
    · rename_i hr
      split
      · exact List.mem_cons_self
      · exact List.mem_cons_of_mem _ (minI_mem hr)
theorem minI_le : ∀ {ns : List Int} {y : Int}, y ∈ ns → minI ns ≤ y
  | a :: r, y, h => by
    unfold minI
    split
    · rename_i hr
      subst hr
      rw [List.mem_singleton] at h
      omega
    · rename_i hr
      rcases List.mem_cons.mp h with e | h
      · split <;> omega
      · have ih := minI_le h
        split <;> omega
theorem minI_eq {ns : List Int} {m : Int} (h : m ∈ ns) (l : ∀ y ∈ ns, m ≤ y) : m = minI ns := by
  have h1 := minI_le h
  have h2 := l _ (minI_mem fun e => by rw [e] at h; cases h)
  omega
theorem minI_perm {a b : List Int} (h : a.Perm b) : minI a = minI b := by
  by_cases e : a = []
  · rw [e] at h ⊢
    rw [h.symm.eq_nil]
  · exact minI_eq (h.mem_iff.mp (minI_mem e)) fun y hy => minI_le (h.mem_iff.mpr hy)
theorem r_min {K : PySem.W.Frag} {H : Hp} {Q : VK} {a : Addr} {ns : List Int} (h : SqL K H a (vI ns)) (hn : 0 < ns.length) (q : Q (.int (minI ns)) H) : rMin K [.ref a] H Q :=
  ⟨a, ns, rfl, h, hn, fun m hm hl => by rw [minI_eq hm hl]; exact q⟩
theorem erase_at : ∀ {ns : List Int} {k : Int}, k ∈ ns → ∃ j : Nat, ns[j]? = some k ∧ (∀ m : Nat, m < j → ns[m]? ≠ some k) ∧ ns.eraseIdx j = ns.erase k
  | a :: r, k, h => by
    by_cases e : a = k
    · subst e
      exact ⟨0, rfl, fun m hm => absurd hm (Nat.not_lt_zero _), by rw [List.erase_cons_head]; rfl⟩
    · have hr : k ∈ r := (List.mem_cons.mp h).resolve_left fun z => e z.symm
      obtain ⟨j, h1, h2, h3⟩ := erase_at hr
      refine ⟨j + 1, h1, fun m hm => ?_, ?_⟩
      · cases m with
        | zero => intro z; exact e (Option.some.inj z)
        | succ m => exact h2 m (by omega)
      · rw [List.erase_cons_tail (by simpa using e), List.eraseIdx_cons_succ, h3]
theorem r_remove {H : Hp} {Q : VK} {l : Addr} {ns : List Int} {k : Int} (h : H l = some (.lst (vI ns))) (hk : k ∈ ns) (q : Q .non (upd H l (.lst (vI (ns.erase k))))) : rRemI (.ref l) [.int k] H Q := by
  obtain ⟨j, h1, h2, h3⟩ := erase_at hk
  refine ⟨l, ns, k, j, rfl, rfl, h, h1, h2, ?_⟩
  rw [h3]
  exact q
end Lx

namespace Lx
open PySem PySem.Spec PyProof.Rows L2
/-! ### len(set(xs)) of a list or a tuple of ints, each once -/
theorem nodup_same_len : ∀ {a b : List Int}, a.Nodup → b.Nodup → (∀ x, x ∈ a ↔ x ∈ b) → a.length = b.length
  | [], [], _, _, _ => rfl
  | [], y :: b, _, _, h => absurd ((h y).mpr List.mem_cons_self) (by simp)
  | x :: a, b, ha, hb, h => by
    have hx : x ∈ b := (h x).mp List.mem_cons_self
    rw [List.nodup_cons] at ha
    have ih := nodup_same_len ha.2 (hb.erase x) fun y => by
      rw [hb.mem_erase_iff]
      constructor
      · intro hy
        exact ⟨fun e => ha.1 (e ▸ hy), (h y).mp (List.mem_cons_of_mem _ hy)⟩
      · rintro ⟨hne, hy⟩
        rcases List.mem_cons.mp ((h y).mpr hy) with e | hy
        · exact absurd e hne
        · exact hy
    rw [List.length_erase_of_mem hx] at ih
    have : 0 < b.length := List.length_pos_of_mem hx
    rw [List.length_cons]
    omega
def tLenSet (K : PySem.W.Frag) (ta : TE) : TE := fun σ H Q => ta σ H fun x H1 => ∃ (l : Addr) (ns : List Int), x = .ref l ∧ (SqL K H1 l (vI ns) ∨ SqT K H1 l (vI ns)) ∧ ns.Nodup ∧ ns.length ≤ 4000 ∧ Q (.int (ns.length : Nat)) H1
theorem pe_lenSet (K : PySem.W.Frag) {X : Cx} {a : Expr} {ta : TE} {p p2 q pos : Pos} (hg : Gl X "len") (hm : X.mg "len" = none) (hg2 : Gl X "set") (hm2 : X.mg "set" = none) (ha : PE X a ta) (hc : X.calm = true := by rfl) (hK : X.K = K := by rfl)
    (na : starEach [a] X.env = (false, eval a X.env) :: starEach [] X.env := by rfl) : PE X (.Call (.Name "len" p) [.Call (.Name "set" p2) [a] [] q] [] pos) (tLenSet K ta) := by
  subst hK
  refine ⟨fun pins s σ H Q I h => ?_⟩
  refine Call_ (ld_blt I hg hm boot_len ?_)
  refine PyProof.Rows.callWith_builtin1 (PyProof.Rows.args_cons ?_ rfl) rfl rfl
  refine Call_ (ld_blt I hg2 hm2 boot_set ?_)
  refine PyProof.Rows.callWith_type1 (PyProof.Rows.args_cons (thn (ha.run pins s σ H _ I h) fun v s1 ⟨x, H1, I1, r1, q1⟩ => PyProof.Rows.args_nil ?_) na) na rfl
  obtain ⟨l, ns, rfl, hq, hnd, hl, q1⟩ := q1
  cases r1
  rcases hq with hq | hq
  · obtain ⟨its, r, pl, hz⟩ := I1.list hq
    have hlen : its.toArray.size = ns.length := by rw [List.size_toArray, ← r.length, vI_len]
    refine call_set_list (I1.ok.hd hc) pl.isList (by simpa using RZ.intsAre_vals r) (by rw [hlen]; unfold scanBound; omega) fun h' tk hS hk => ?_
    refine PyProof.Rows.args_nil ?_
    rw [hlen, RZ.firstMet_nodup hnd ns.length (Nat.le_refl _), List.take_length] at hS
    obtain ⟨o, es, ep, t, ho, hex, hd, _, _, _, hf, hn⟩ := hS
    have I2 : Inv X pins σ H1 { s1 with heap := h', toks := tk } := I1.kept fun b o e => hk b o (Heap.lt_size e) e
    exact call_len_set ho hex hd hf (by rw [hn] <;> omega) ⟨.int ns.length, H1, I2.tok _, ⟨_, by rw [hn]⟩, q1⟩
  · obtain ⟨its, r, pl, hz⟩ := I1.tuple hq
    refine call_set_tupI ns (I1.ok.hd hc) pl (by simpa using RZ.intsAre_vals r) (by unfold scanBound; omega) fun h' tk c hS _ hk => ?_
    refine PyProof.Rows.args_nil ?_
    obtain ⟨o, es, ep, t, ho, hex, hd, _, hnd2, hmem, _, hf, hn, _⟩ := hS
    have hn2 : es.size = ns.length := by
      have z := nodup_same_len hnd hnd2 fun x => by rw [← hmem x]; simp
      rw [z, List.length_map, Array.length_toList]
    have I2 : Inv X pins σ H1 { s1 with heap := h', toks := tk } := I1.kept fun b o e => hk b o e
    exact call_len_set ho hex hd hf (by rw [hn2] <;> omega) ⟨.int ns.length, H1, I2.tok _, ⟨_, by rw [hn2]⟩, q1⟩
theorem r_lenSet {K : PySem.W.Frag} {σ : L2.St} {H : Hp} {Q : VK} {ta : TE} (h : ta σ H fun x H1 => ∃ (l : Addr) (ns : List Int), x = .ref l ∧ (SqL K H1 l (vI ns) ∨ SqT K H1 l (vI ns)) ∧ ns.Nodup ∧ ns.length ≤ 4000 ∧ Q (.int (ns.length : Nat)) H1) : tLenSet K ta σ H Q := h
end Lx

namespace Lx
open PySem PySem.Spec PyProof.Rows L2
/-! ### methods, makings, properties where no repr runs around -/
/-- a method as callers see it -/
structure Mt (P : Program) (w : World) (K : PySem.W.Frag) (mg : Str → Option Value) (base : Heap) (k : Nat) (C : Addr) (m : Str) (dvs : List V) (sp : Sp) : Prop where
  ex : ∃ (f : Addr) (fd : FuncData) (ps : List Str) (ds : List Value), FnG P w K mg base k f fd ps sp ∧ Cls K C ∧ Meth K C m f ∧ Binds K fd ps ds ∧ Vals dvs ds
/-- a class as its makers see it -/
structure Cn (P : Program) (w : World) (K : PySem.W.Frag) (mg : Str → Option Value) (base : Heap) (k : Nat) (x : Str) (C : Addr) (dvs : List V) (sp : Sp) : Prop where
  ex : ∃ (f : Addr) (fd : FuncData) (ps : List Str) (ds : List Value), FnG P w K mg base k f fd ps sp ∧ mg x = some (.ref C) ∧ Mk K C f ∧ Binds K fd ps ds ∧ Vals dvs ds
/-- a property as its readers see it -/
structure Pr (P : Program) (w : World) (K : PySem.W.Frag) (mg : Str → Option Value) (base : Heap) (k : Nat) (C : Addr) (m : Str) (sp : Sp) : Prop where
  ex : ∃ (p g : Addr) (fd : FuncData) (ps : List Str), FnG P w K mg base k g fd ps sp ∧ Cls K C ∧ PropOf K C m p g ∧ Binds K fd ps []
section
variable {X : Cx} {k : Nat} {f C : Addr} {fd : FuncData} {ps : List Str} {sp : Sp} {dvs : List V} {ds : List Value} {E : XK} {x m : Str} {p pos apos : Pos} {e o : Expr} {es : List Expr} {ta : TE} {t : TA}
theorem pe_mt {pl : Sem Bool} (M : Mt X.prog X.w X.K X.mg X.base k C m dvs sp) (hG : X.A.guards = some []) (hr : Room k X.A) (hx : Passes (L2.CX X.prog X.w) X E) (he : PE X o ta) (ha : PA X (e :: es) t)
    (hst : starEach (e :: es) X.env = (false, eval e X.env) :: starEach es X.env := by rfl) (hpl : (backTo pos (starEach es X.env)).any (·.1) = false := by rfl)
    (ht : eval (.Call (.Attribute o m apos) (e :: es) [] pos) X.env = (do
      let ov ← eval o X.env
      standAt apos.atName
      let (f, first) ← holding [ov] (getMethod ov m pl)
      callWith pos f first (backTo pos (starEach (e :: es) X.env)) (backToKw pos (keywordEach [] X.env))) := by rfl) :
    PE X (.Call (.Attribute o m apos) (e :: es) [] pos) (tMeth C m sp dvs E ta t) := by
  obtain ⟨f, fd, ps, ds, F, c, hm, hb, hd⟩ := M.ex
  refine ⟨fun pins s σ H Q I h => ?_⟩
  refine PySem.W.methodCall_KW (pl := pl) (thn (he.run pins s σ H _ I h) fun u s1 ⟨x, H1, I1, rx, a, dx, fs, ex, ea, l, q⟩ => ?_) ht
  subst ex
  obtain rfl : u = Value.ref a := rx
  refine getmeth_ok I1 ea c hm l ?_
  refine PySem.W.callWith_K (first := [.ref a]) (h₀ := X.base) I.ok.mod.kin hm.kp (thn (ha.run pos pins s1 σ H1 _ I1 q) fun us s2 ⟨vs, H2, I2, r, q2⟩ => ⟨I2.kIn, ?_⟩) hst hpl
  exact grun (us := .ref a :: us) (vs := .ref a :: vs) F hG hr hb hd hx I2 (.cons rfl r) q2
theorem pe_mt0 {pl : Sem Bool} (M : Mt X.prog X.w X.K X.mg X.base k C m dvs sp) (hG : X.A.guards = some []) (hr : Room k X.A) (hx : Passes (L2.CX X.prog X.w) X E) (he : PE X o ta)
    (ht : eval (.Call (.Attribute o m apos) [] [] pos) X.env = (do
      let ov ← eval o X.env
      standAt apos.atName
      let (f, first) ← holding [ov] (getMethod ov m pl)
      callWith pos f first (backTo pos (starEach [] X.env)) (backToKw pos (keywordEach [] X.env))) := by rfl) :
    PE X (.Call (.Attribute o m apos) [] [] pos) (tMeth C m sp dvs E ta tNil) := by
  obtain ⟨f, fd, ps, ds, F, c, hm, hb, hd⟩ := M.ex
  refine ⟨fun pins s σ H Q I h => ?_⟩
  refine PySem.W.methodCall_KW (pl := pl) (thn (he.run pins s σ H _ I h) fun u s1 ⟨x, H1, I1, rx, a, dx, fs, ex, ea, l, q⟩ => ?_) ht
  subst ex
  obtain rfl : u = Value.ref a := rx
  refine getmeth_ok I1 ea c hm l ?_
  exact PySem.W.callWith_K0 (first := [.ref a]) I1.kIn hm.kp (grun (us := [.ref a]) (vs := [.ref a]) F hG hr hb hd hx I1 (.cons rfl .nil) q)
theorem gmakes {pins : List (Addr × Obj)} {σ : L2.St} {H : Hp} {s : Shared} {Q : VK} {us : List Value} {vs : List V} (M : Mk X.K C f) (F : FnG X.prog X.w X.K X.mg X.base k f fd ps sp) (hG : X.A.guards = some []) (hr : Room (k + 1) X.A) (hb : Binds X.K fd ps ds) (hd : Vals dvs ds)
    (hx : Passes (L2.CX X.prog X.w) X E) (I : Inv X pins σ H s) (r : Vals vs us)
    (h : ∀ x dx, H x = none → H dx = none → dx ≠ x → sp (.ref x :: (vs ++ dvs)) (upd (upd H dx (.own x)) x (.ins C dx [])) (fun v H2 => v = .non ∧ Q (.ref x) H2) E) :
    wpAny (model X.prog X.w) X.A (call (.ref C) us) (EP X pins σ Q) X.xe s := by
  have hq := h (s.heap.objs.size + 1) s.heap.objs.size (I.hok.fresh (Nat.le_succ _)) (I.hok.fresh (Nat.le_refl _)) (Nat.ne_of_lt (Nat.lt_succ_self _))
  have I2 := Inv.made (C := C) I
  have r2 : Vals (V.ref (s.heap.objs.size + 1) :: (vs ++ dvs)) (Value.ref (s.heap.objs.size + 1) :: (us ++ ds)) := .cons rfl (r.append hd)
  have hl : (Value.ref (s.heap.objs.size + 1) :: us ++ ds).length = ps.length := r2.length.symm.trans (F.ln _ _ _ _ hq)
  refine wpAny_call (make_map (f := f) I.kIn M.makes M.init (beq_iff_eq.mp M.fn) (codeAny_mono (F.go _ X.stack _ _ ⟨Value.ref (s.heap.objs.size + 1) :: us, []⟩ (Value.ref (s.heap.objs.size + 1) :: (us ++ ds)) _ _ E hG (hr.make C us [])
    (I2.env0.make C us []) (hb _ (Value.ref (s.heap.objs.size + 1) :: us) I2.kIn hl) r2 hq) fun r s' hq' => ?_))
  cases r with
  | error e => exact hx pins σ _ _ e s' I2 hq'
  | ok fl => cases fl with
    | ret u =>
      obtain ⟨v, H', I3, rv, ev, q3⟩ := I2.after hq'
      subst ev
      exact ⟨rv, ⟨V.ref (s.heap.objs.size + 1), H', I3, rfl, q3⟩⟩
    | next => exact hq'.elim
    | brk => exact hq'.elim
    | cont => exact hq'.elim
theorem pe_cn (D : Cn X.prog X.w X.K X.mg X.base k x C dvs sp) (hG : X.A.guards = some []) (hr : Room (k + 1) X.A) (hx : Passes (L2.CX X.prog X.w) X E) (hg : Gl X x) (ha : PA X (e :: es) t)
    (hdb : (x == ("__debug__" : Str)) = false := by decide) (he : starEach (e :: es) X.env = (false, eval e X.env) :: starEach es X.env := by rfl) (hpl : (backTo pos (starEach es X.env)).any (·.1) = false := by rfl) :
    PE X (.Call (.Name x p) (e :: es) [] pos) (tMake C sp dvs E t) := by
  obtain ⟨f, fd, ps, ds, F, hm, M, hb, hd⟩ := D.ex
  refine ⟨fun pins s σ H Q I h => ?_⟩
  refine wpAny_Call_Name_kw (ld_glob I hg hm ?_ hdb)
  refine PySem.W.callWith_K (h₀ := X.base) I.ok.mod.kin M.kp (thn (ha.run pos pins s σ H _ I h) fun us s1 ⟨vs, H1, I1, r, q⟩ => ⟨I1.kIn, ?_⟩) he hpl
  exact gmakes M F hG hr hb hd hx I1 r q
theorem pe_pr (M : Pr X.prog X.w X.K X.mg X.base k C m sp) (hG : X.A.guards = some []) (hr : Room (k + 1) X.A) (hx : Passes (L2.CX X.prog X.w) X.nox E) (he : PE X e ta)
    (hab : attributeBase e m X.env (eval e X.env) = eval e X.env := by rfl) : PE X (.Attribute e m pos) (tProp C sp [] E ta) := by
  obtain ⟨pa, g, fd, ps, F, c, hp, hb⟩ := M.ex
  refine ⟨fun pins s σ H Q I h => ?_⟩
  refine attr_of hab (thn (he.run pins s σ H _ I h) fun u s1 ⟨x, H1, I1, rx, a, dx, fs, ex, ea, q⟩ => ?_)
  subst ex
  obtain rfl : u = Value.ref a := rx
  obtain ⟨mA, O, _, _, _, _⟩ := ins_get I1.hok ea
  obtain ⟨od, J, _⟩ := O.look
  obtain ⟨rest, hrec⟩ := hp.rec_
  have I2 := I1.tok (s1.toks + 1)
  have hl : ([Value.ref a] ++ []).length = ps.length := (F.ln _ _ _ _ q)
  have hc : (PySem.W.clsIn X.K C).isSome = true := by
    obtain ⟨cd, hc, _⟩ := PySem.W.any_some c.hd
    rw [hc]
    rfl
  refine PySem.W.get_bind I1.kIn J (PySem.W.plainGet_of (c.get m)).1 (PySem.W.findObj_data hc hp.at_ hp.get hp.tak) (PySem.W.plainGet_of (c.get m)).2 (wpAny_call (PySem.W.prop_get (s := { s1 with toks := s1.toks + 1 }) I1.kIn hrec ?_))
  refine codeAny_mono (F.go X.A.in1 X.stack { s1 with toks := s1.toks + 1 } H1 ⟨[.ref a], []⟩ [.ref a] [.ref a] Q E hG hr.in1 I2.env0.in1 (hb _ [.ref a] I2.kIn hl) (.cons rfl .nil) q) fun r s' hq => ?_
  cases r with
  | error er => exact False.elim (hx pins σ H1 { s1 with toks := s1.toks + 1 } er s' (I2.wish _) hq)
  | ok fl => cases fl with
    | ret u =>
      obtain ⟨v, H', I3, rv, q3⟩ := I2.after hq
      show wpAny _ _ (handedOut u) _ _ _
      rw [PySem.W.handedOut_of (handed_of rv)]
      exact wpAny_pure ⟨v, H', I3, rv, q3⟩
    | next => exact hq.elim
    | brk => exact hq.elim
    | cont => exact hq.elim
end
/-- len of an object whose class has its own __len__ -/
structure Ln (P : Program) (w : World) (K : PySem.W.Frag) (mg : Str → Option Value) (base : Heap) (k : Nat) (C : Addr) (sp : Sp) : Prop where
  ex : ∃ (f : Addr) (fd : FuncData) (ps : List Str), FnG P w K mg base k f fd ps sp ∧ PySem.W.findIn K (.ref C) "__len__" = some (some (.ref f)) ∧ PySem.W.isFn K (.ref f) = true ∧ Binds K fd ps []
def rLenOwn (C : Addr) (sp : Sp) (E : XK) : List V → Hp → VK → Prop := fun xs H Q => ∃ a dx fs, xs = [V.ref a] ∧ H a = some (.ins C dx fs) ∧ sp [.ref a] H (fun z H' => ∃ n : Nat, z = .int (n : Int) ∧ n < 2 ^ 62 ∧ Q (.int (n : Int)) H') E
theorem call_lenOwn {X : Cx} {k : Nat} {C : Addr} {sp : Sp} {E : XK} (L : Ln X.prog X.w X.K X.mg X.base k C sp) (hG : X.A.guards = some []) (hr : Room (k + 1) X.A) (hx : Passes (L2.CX X.prog X.w) X E) : CallR X (.builtin "len") (rLenOwn C sp E) := by
  obtain ⟨f, fd, ps, F, hs, hf, hb⟩ := L.ex
  intro pins s σ H xs us Q I r h
  obtain ⟨a, dx, fs, rfl, ea, q⟩ := h
  obtain ⟨u, rfl, ru⟩ := r.one
  cases (show u = Value.ref a from ru)
  obtain ⟨mA, O, _, _, _, _⟩ := ins_get I.hok ea
  obtain ⟨od, J, _⟩ := O.look
  obtain ⟨m, hF⟩ := I.fr
  have hl : ([Value.ref a] ++ []).length = ps.length := (F.ln _ _ _ _ q)
  refine PySem.W.len_K hF I.ok.mod.kin J hs hf (wpAny_call (codeAny_mono (F.go X.A.in1 X.stack s H ⟨[.ref a], []⟩ [.ref a] [.ref a] _ E hG hr.in1 I.env0.in1 (hb _ [.ref a] I.kIn hl) (.cons rfl .nil) q) fun r s' hq => ?_))
  cases r with
  | error er => exact hx pins σ H s er s' I hq
  | ok fl => cases fl with
    | ret u =>
      obtain ⟨v, H', I3, rv, n, rfl, hn, q3⟩ := I.after hq
      obtain ⟨t, rfl⟩ := (show ∃ t, u = Value.int (n : Int) t from rv)
      exact ⟨⟨Int.natCast_nonneg _, by omega⟩, ⟨.int (n : Int), H', I3.tok _, ⟨_, rfl⟩, q3⟩⟩
    | next => exact hq.elim
    | brk => exact hq.elim
    | cont => exact hq.elim
/-! ### readings -/
section
variable {K : PySem.W.Frag} {σ : L2.St} {H : Hp} {Q : VK} {D : Ends} {te ta tv : TE} {tA : TA} {C a dx : Addr} {fs : List (Str × V)} {m f : Str} {v y : V} {sp : Sp} {dvs : List V} {E : XK}
theorem r_fld (h : te σ H fun x H1 => ∃ a C dx fs v, x = .ref a ∧ H1 a = some (.ins C dx fs) ∧ Cls K C ∧ NoAttr K C f ∧ fs.lookup f = some v ∧ Q v H1) : tFld K te f σ H Q := h
theorem r_fldAt {R : V → Prop} (h : H a = some (.ins C dx fs)) (c : Cls K C) (n : NoAttr K C f) (l : fs.lookup f = some v) (q : R v) : ∃ a' C dx fs v, V.ref a = .ref a' ∧ H a' = some (.ins C dx fs) ∧ Cls K C ∧ NoAttr K C f ∧ fs.lookup f = some v ∧ R v := ⟨a, C, dx, fs, v, rfl, h, c, n, l, q⟩
theorem r_sfld (h : tv σ H fun y H1 => te σ H1 fun x H2 => ∃ a C dx fs, x = .ref a ∧ H2 a = some (.ins C dx fs) ∧ Cls K C ∧ NoAttr K C f ∧ fs.length < 1000 ∧ D.nx σ (upd H2 a (.ins C dx (putF f y fs)))) : sFld K te tv f D σ H := h
theorem r_sfldAt {R : Addr → Addr → Addr → List (Str × V) → Prop} (h : H a = some (.ins C dx fs)) (c : Cls K C) (n : NoAttr K C f) (l : fs.length < 1000) (q : R a C dx fs) : ∃ a' C dx fs, V.ref a = .ref a' ∧ H a' = some (.ins C dx fs) ∧ Cls K C ∧ NoAttr K C f ∧ fs.length < 1000 ∧ R a' C dx fs := ⟨a, C, dx, fs, rfl, h, c, n, l, q⟩
theorem r_meth (h : te σ H fun x H1 => ∃ a dx fs, x = .ref a ∧ H1 a = some (.ins C dx fs) ∧ fs.lookup m = none ∧ tA σ H1 fun vs H2 => sp (x :: (vs ++ dvs)) H2 Q E) : tMeth C m sp dvs E te tA σ H Q := h
theorem r_methAt {R : Prop} (h : H a = some (.ins C dx fs)) (l : fs.lookup m = none) (q : R) : ∃ a' dx fs, V.ref a = .ref a' ∧ H a' = some (.ins C dx fs) ∧ fs.lookup m = none ∧ R := ⟨a, dx, fs, rfl, h, l, q⟩
theorem r_make (h : tA σ H fun vs H1 => ∀ x dx, H1 x = none → H1 dx = none → dx ≠ x → sp (.ref x :: (vs ++ dvs)) (upd (upd H1 dx (.own x)) x (.ins C dx [])) (fun v H2 => v = .non ∧ Q (.ref x) H2) E) : tMake C sp dvs E tA σ H Q := h
theorem r_prop (h : te σ H fun x H1 => ∃ a dx fs, x = .ref a ∧ H1 a = some (.ins C dx fs) ∧ sp (.ref a :: dvs) H1 Q E) : tProp C sp dvs E te σ H Q := h
end
/-! ### all kept but what stands at some places -/
def KpL (L : List Addr) (H H' : Hp) : Prop := ∀ b o, b ∉ L → H b = some o → H' b = some o
theorem KpL.refl (L : List Addr) (H : Hp) : KpL L H H := fun _ _ _ h => h
theorem KpL.of {L : List Addr} {H H' : Hp} (s : Same H H') : KpL L H H' := fun b o _ h => s b o h
theorem KpL.same {H H' : Hp} (k : KpL [] H H') : Same H H' := fun b o h => k b o (by simp) h
theorem KpL.trans {L : List Addr} {H H1 H2 : Hp} (a : KpL L H H1) (b : KpL L H1 H2) : KpL L H H2 := fun c o n h => b c o n (a c o n h)
theorem KpL.more {L L' : List Addr} {H H' : Hp} (a : KpL L H H') (s : ∀ x ∈ L, x ∈ L') : KpL L' H H' := fun c o n h => a c o (fun z => n (s _ z)) h
theorem KpL.set {L : List Addr} {p : Addr} {H H' : Hp} {o : HO} (k : KpL L H H') (hp : p ∈ L) : KpL L H (upd H' p o) := fun b u n e => by
  rw [upd_ne (fun z : b = p => n (by rw [z]; exact hp))]
  exact k b u n e
theorem KpL.put {L : List Addr} {p : Addr} {H H' : Hp} {o : HO} (k : KpL L H H') (n : H' p = none) : KpL L H (upd H' p o) := fun b u m e => by
  have := k b u m e
  rw [upd_ne (ne_of_none this n)]
  exact this
theorem KpL.free {L : List Addr} {p : Addr} {H H' : Hp} (k : KpL L H H') (n : H' p = none) (m : p ∉ L) : H p = none := by
  cases q : H p with
  | none => rfl
  | some o =>
    have := k p o m q
    rw [n] at this
    cases this
theorem KpL.kp {r : Addr} {H H' : Hp} (k : KpL [r] H H') : Kp r H H' := fun b o n h => k b o (by simpa using n) h
theorem Kp.kpl {r : Addr} {L : List Addr} {H H' : Hp} (k : Kp r H H') (h : r ∈ L) : KpL L H H' := fun b o n e => k b o (fun z : b = r => n (by rw [z]; exact h)) e
theorem KpL.drop {p : Addr} {L : List Addr} {H H' : Hp} (k : KpL (p :: L) H H') (h : H p = none) : KpL L H H' := fun b o n e => k b o (fun z => by
  rcases List.mem_cons.mp z with z | z
  · rw [z, h] at e; cases e
  · exact n z) e
/-! ### two and three fields -/
theorem lk2_1 {a b : Str} {x y : V} : ([(a, x), (b, y)] : List (Str × V)).lookup a = some x := by simp [List.lookup]
theorem lk2_2 {a b : Str} {x y : V} (h : ¬ b = a) : ([(a, x), (b, y)] : List (Str × V)).lookup b = some y := by
  have : (b == a) = false := by simpa using h
  simp [List.lookup, this]
theorem lk2_0 {a b m : Str} {x y : V} (h1 : ¬ m = a) (h2 : ¬ m = b) : ([(a, x), (b, y)] : List (Str × V)).lookup m = none := by
  have e1 : (m == a) = false := by simpa using h1
  have e2 : (m == b) = false := by simpa using h2
  simp [List.lookup, e1, e2]
theorem lk3_1 {a b c : Str} {x y z : V} : ([(a, x), (b, y), (c, z)] : List (Str × V)).lookup a = some x := by simp [List.lookup]
theorem lk3_2 {a b c : Str} {x y z : V} (h : ¬ b = a) : ([(a, x), (b, y), (c, z)] : List (Str × V)).lookup b = some y := by
  have : (b == a) = false := by simpa using h
  simp [List.lookup, this]
theorem lk3_3 {a b c : Str} {x y z : V} (h : ¬ c = a) (h2 : ¬ c = b) : ([(a, x), (b, y), (c, z)] : List (Str × V)).lookup c = some z := by
  have e1 : (c == a) = false := by simpa using h
  have e2 : (c == b) = false := by simpa using h2
  simp [List.lookup, e1, e2]
theorem lk3_0 {a b c m : Str} {x y z : V} (h1 : ¬ m = a) (h2 : ¬ m = b) (h3 : ¬ m = c) : ([(a, x), (b, y), (c, z)] : List (Str × V)).lookup m = none := by
  have e1 : (m == a) = false := by simpa using h1
  have e2 : (m == b) = false := by simpa using h2
  have e3 : (m == c) = false := by simpa using h3
  simp [List.lookup, e1, e2, e3]
theorem put1 {a : Str} {x : V} : putF a x [] = [(a, x)] := rfl
theorem put2 {a b : Str} {x y : V} (h : ¬ a = b) : putF b y [(a, x)] = [(a, x), (b, y)] := by
  show (if a = b then [(a, y)] else (a, x) :: putF b y []) = _
  rw [if_neg h]
  rfl
theorem put3 {a b c : Str} {x y z : V} (h : ¬ a = c) (h2 : ¬ b = c) : putF c z [(a, x), (b, y)] = [(a, x), (b, y), (c, z)] := by
  show (if a = c then [(a, z), (b, y)] else (a, x) :: putF c z [(b, y)]) = _
  rw [if_neg h, put2 h2]
theorem k_index (K : PySem.W.Frag) {X : Cx} (h : X.K = K := by rfl) : MtR X "list.index" (rIndex K) := h ▸ mt_index
theorem r_index {K : PySem.W.Frag} {H : Hp} {Q : VK} {a : Addr} {ys : List V} {y z : V} {j : Nat} (h : SqL K H a ys) (f : flatV y = true) (g : ys.all flatV = true) (e : ys[j]? = some z) (e2 : eqV z y = true) (no : ∀ (m : Nat) (z' : V), m < j → ys[m]? = some z' → eqV z' y = false) (q : Q (.int (j : Nat)) H) : rIndex K (.ref a) [y] H Q :=
  ⟨a, ys, y, j, z, rfl, rfl, h, f, g, e, e2, no, q⟩
theorem put2_1 {a b : Str} {x y z : V} : putF a y [(a, x), (b, z)] = [(a, y), (b, z)] := by
  show (if a = a then _ else _) = _
  rw [if_pos rfl]
theorem put2_2 {a b : Str} {x y z : V} (h : ¬ a = b) : putF b y [(a, x), (b, z)] = [(a, x), (b, y)] := by
  show (if a = b then _ else (a, x) :: (if b = b then _ else _)) = _
  rw [if_neg h, if_pos rfl]
theorem put3_3 {a b c : Str} {x y z u : V} (h : ¬ a = c) (h2 : ¬ b = c) : putF c u [(a, x), (b, y), (c, z)] = [(a, x), (b, y), (c, u)] := by
  show (if a = c then _ else (a, x) :: (if b = c then _ else (b, y) :: (if c = c then _ else _))) = _
  rw [if_neg h, if_neg h2, if_pos rfl]
def rInsertV : V → List V → Hp → VK → Prop := fun x vs H Q => ∃ (l : Addr) (xs : List V) (i : Int) (y : V), x = .ref l ∧ vs = [.int i, y] ∧ H l = some (.lst xs) ∧ xs.length < sizeLine ∧ 0 ≤ i ∧ i < 2 ^ 63 ∧ Q .non (upd H l (.lst (xs.take i.toNat ++ [y] ++ xs.drop i.toNat)))
theorem mt_insertV {X : Cx} : MtR X "list.insert" rInsertV := mt_insert
theorem r_insert {H : Hp} {Q : VK} {l : Addr} {xs : List V} {i : Nat} {y : V} (h : H l = some (.lst xs)) (z : xs.length ≤ 100000) (iz : i ≤ 100000) (q : Q .non (upd H l (.lst (xs.take i ++ [y] ++ xs.drop i)))) : rInsertV (.ref l) [.int ((i : Nat) : Int), y] H Q :=
  ⟨l, xs, _, y, rfl, rfl, h, szl z, by omega, by omega, by rw [Int.toNat_natCast]; exact q⟩
theorem r_pop {H : Hp} {Q : VK} {l : Addr} {xs : List V} {y : V} (h : H l = some (.lst (xs ++ [y]))) (q : Q y (upd H l (.lst xs))) : rPop (.ref l) [] H Q := by
  refine ⟨l, xs ++ [y], y, rfl, rfl, h, ?_, ?_⟩
  · rw [List.length_append, List.length_singleton, Nat.add_sub_cancel, List.getElem?_append_right (Nat.le_refl _), Nat.sub_self]; rfl
  · rw [List.dropLast_concat]; exact q
end Lx

namespace My
open PySem PySem.Spec PyProof.Rows L2 Lx
local macro_rules | `(tactic| walk_at "hp") => `(tactic| first
  | assumption
  | exact upd_same
  | (refine Eq.trans (upd_ne ?_) ?_; (focus (walk_at "ne")); walk_at "hp")
  | (refine Same.get (by assumption) ?_; walk_at "hp"))
local macro_rules | `(tactic| walk_at "ne") => `(tactic| first
  | assumption
  | exact Ne.symm (by assumption)
  | exact ne_new (by assumption) (by walk_at "hp")
  | exact (ne_new (by assumption) (by walk_at "hp")).symm)
local macro_rules | `(tactic| walk_at "sq") => `(tactic| first
  | assumption
  | exact lst_of (by walk_at "hp")
  | exact tup_of (by walk_at "hp")
  | (refine Same.seq (by assumption) ?_; walk_at "sq")
  | (refine Same.seqT (by assumption) ?_; walk_at "sq"))
local macro_rules | `(tactic| walk_at "lt") => `(tactic| first
  | assumption
  | exact Or.inl (by walk_at "sq")
  | exact Or.inr (by walk_at "sq")
  | exact Sq.or (by walk_at "q"))
local macro_rules | `(tactic| walk_at "q") => `(tactic| first
  | assumption
  | (refine Same.sq (by assumption) ?_; walk_at "q")
  | exact Or.inl (by walk_at "hp")
  | exact Or.inr (by walk_at "hp"))
local macro_rules | `(tactic| walk_at "s1") => `(tactic| with_reducible (first
  | refine r_seq ?_ | refine r_asg ?_ | refine r_name ?_ | refine r_c ?_ | refine r_op ?_ | refine r_if ?_ | refine r_test ?_ | refine r_bl ?_
  | refine r_I0 ?_ | refine r_eqI ?_ | refine r_neI ?_ | refine r_eqS ?_ | refine r_neS ?_ | refine r_eqB ?_ | refine r_neB ?_ | refine r_U ?_
  | refine r_cons ?_ | refine r_nil ?_ | refine r_CB ?_ | refine r_call ?_ | refine r_ret ?_ | refine r_nx ?_ | refine r_rt ?_ | refine r_next ?_ | refine r_retN ?_ | refine r_drop ?_
  | refine r_brk ?_ | refine r_cont ?_ | refine r_bk ?_ | refine r_ct ?_
  | refine r_lst ?_ | refine r_tup ?_ | refine r_new (Nat.le_of_ble_eq_true rfl) ?_ | refine r_sub ?_ | refine r_gcons ?_ | refine r_gnil ?_
  | refine r_B ?_ | refine r_and ?_ | refine r_or ?_ | refine r_not ?_ | refine r_andV ?_ | refine r_orV ?_ | refine r_notV ?_ | refine r_ifE ?_ | refine r_chain ?_
  | refine r_par ?_ | refine r_par3 ?_ | refine r_two ?_ | refine r_three ?_ | refine r_un ?_
  | refine r_BM ?_ | refine r_BM0 ?_ | refine r_tyS ?_ | refine r_sl ?_ | refine r_nop ?_ | refine r_part ?_ | refine r_int ?_ | refine r_revL ?_ | refine r_lstRg ?_ | refine r_rg1 ?_ | refine r_ip ?_ | refine r_isN0 ?_ | refine r_isNi ?_ | refine r_isNr ?_ | refine r_isNb ?_ | refine r_isNs ?_ | refine r_notN0 ?_ | refine r_notNi ?_ | refine r_notNr ?_ | refine r_abs ?_ | refine r_max2 ?_ | refine r_min2 ?_ | refine r_inti ?_ | refine r_intb ?_ | refine r_yes ?_ | refine r_for ?_ | refine r_lc ?_ | refine r_iList ?_ | refine r_iTup ?_ | refine r_iRng1 ?_ | refine r_iRng2 ?_ | refine r_iRng3 ?_ | refine r_iEnum ?_ | refine r_iZip ?_ | refine r_iStr ?_ | refine r_lenSet ?_ | refine r_fld ?_ | refine r_sfld ?_ | refine r_meth ?_ | refine r_make ?_ | refine r_prop ?_ | refine iteT ?_ | refine iteF ?_ | refine ifnT ?_ | refine ifnF ?_))
local macro_rules | `(tactic| walk_at "len") => `(tactic| first
  | assumption
  | exact szl (by (try simp only [vI_len, List.length_append, List.length_cons, List.length_nil, List.length_map, List.length_set, List.length_reverse]); omega)
  | exact sz (by (try simp only [vI_len, List.length_append, List.length_cons, List.length_nil, List.length_map, List.length_set, List.length_reverse]); omega))
local macro_rules | `(tactic| walk_at "side") => `(tactic| first
  | assumption
  | exact Or.inr ⟨by omega, by omega⟩
  | exact Or.inl ⟨by omega, by omega⟩
  | exact Or.inr ⟨by decide, by decide⟩
  | ((show (0 : Int) < _); first | assumption | decide | omega)
  | exact ⟨by decide, by decide⟩
  | exact ⟨by decide, by decide, by decide⟩
  | exact wide_div (b := 200) (by omega) (by omega) (by decide) (by decide)
  | exact wide_div (b := 200) (by decide) (by decide) (by decide) (by decide))
local macro_rules | `(tactic| walk_at "ty") => `(tactic| first
  | exact ty_int | exact ty_bl | exact ty_str | exact ty_non | exact ty_lst (by walk_at "hp") | exact ty_tup (by walk_at "hp"))
local macro_rules | `(tactic| walk_at "kit") => `(tactic| first
  | exact k_ii | exact k_ib | exact k_is | exact k_il | exact k_it | exact k_bi | exact k_bb | exact k_bs | exact k_bl | exact k_bt | exact k_si | exact k_sb | exact k_ss | exact k_sl | exact k_st
  | exact k_ni | exact k_nb | exact k_ns | exact k_nl | exact k_nt | exact k_li | exact k_lb | exact k_ls | exact k_ll | exact k_lt | exact k_ti | exact k_tb | exact k_ts | exact k_tl | exact k_tt)
local macro_rules | `(tactic| walk_at "lk") => `(tactic| first
  | assumption
  | exact lk2_1 | exact lk2_2 (by decide +kernel) | exact lk2_0 (by decide +kernel) (by decide +kernel)
  | exact lk3_1 | exact lk3_2 (by decide +kernel) | exact lk3_3 (by decide +kernel) (by decide +kernel) | exact lk3_0 (by decide +kernel) (by decide +kernel) (by decide +kernel))
local macro_rules | `(tactic| walk_at "fld") => `(tactic| first
  | refine r_fldAt (by walk_at "hp") (by assumption) (by assumption) (by walk_at "lk") ?_
  | refine r_sfldAt (by walk_at "hp") (by assumption) (by assumption) (Nat.le_of_ble_eq_true rfl) ?_
  | refine r_methAt (by walk_at "hp") (by walk_at "lk") ?_)
local macro_rules | `(tactic| walk_at "s2") => `(tactic| first
  | (with_reducible (first | refine ifNF rfl ?_ | refine ifDT rfl ?_))
  | refine ifDF (by decide) ?_
  | refine ifNT (by decide) ?_
  | ((with_reducible show tVar _ _ _ _); refine r_var rfl ?_)
  | ((with_reducible show tAug _ _ _ _ _ _); refine r_aug rfl ?_)
  | ((with_reducible show rI _ _ _ _ _ _); refine r_I (by walk_at "side") ?_)
  | ((with_reducible show rIxL _ _ _ _ _); refine r_ixL (by walk_at "sq") (by first | assumption | rfl) ?_)
  | ((with_reducible show rIxT _ _ _ _ _); refine r_ixT (by walk_at "sq") (by first | assumption | rfl) ?_)
  | ((with_reducible show rSetL _ _ _ _ _); refine r_setL (by walk_at "hp") (by first | assumption | rfl) ?_)
  | ((with_reducible show rSlL _ _ _ _ _ _); refine r_slL (by walk_at "sq") ?_)
  | ((with_reducible show rIsi _ _ _ _); refine isi_of (by walk_at "ty") (by walk_at "kit") ?_)
  | ((with_reducible show rIsiT _ _ _ _); first | refine isiLT_l (by walk_at "hp") (by walk_at "ty") (by walk_at "kit") (by walk_at "kit") ?_ | refine isiLT_t (by walk_at "hp") (by walk_at "ty") (by walk_at "kit") (by walk_at "kit") ?_ | refine isiLT_o (by walk_at "hp") (by walk_at "ty") (by walk_at "kit") (by walk_at "kit") ?_)
  | ((with_reducible show gTup _ _ _ _ _ _ _); refine r_gtup (by walk_at "sq") (by rfl) ?_)
  | ((with_reducible show gUnl _ _ _ _ _ _ _); refine r_gunl (by walk_at "sq") (by rfl) ?_)
  | ((with_reducible show tyV _ _ _ _ ∧ _); refine r_ty (by walk_at "hp") ?_)
  | ((with_reducible show rAppend _ _ _ _); refine r_app (by walk_at "hp") (by walk_at "len") ?_)
  | ((with_reducible show rAddS _ _ _ _); refine r_addS (by first | assumption | exact sz (by omega)) ?_)
  | ((with_reducible show rCountS _ _ _ _); refine r_countS ?_)
  | ((with_reducible show rReverse _ _ _ _); refine r_rev (by walk_at "hp") ?_)
  | ((with_reducible show Lx.rLen _ _ _ _); refine r_len (by walk_at "lt") ?_)
  | ((with_reducible show Lx.rLenS _ _ _); refine r_lenS (by first | assumption | exact sz (by omega)) ?_)
  | ((with_reducible show Lx.rListOf _ _ _ _); refine r_listOf (by walk_at "lt") ?_))
local macro_rules | `(tactic| walk_at "s") => `(tactic| repeat (first | walk_at "s1" | walk_at "s2" | walk_at "fld"))

def topS (i : Nat) : Stmt := PySem.Challenge.pw_leftreturn_k46_undo_and_duplicates.main.body.getD i (.Pass ⟨0, 0, 0, 0⟩)
abbrev Sis_integer : Stmt := topS 11
abbrev Nis_integer : List Str := ["value", "low", "high"]
theorem scis_integer : FnScope Nis_integer ["value", "low", "high"] (defScope Sis_integer) := ⟨rfl, rfl, rfl, by decide +kernel, rfl, by decide +kernel, by decide +kernel⟩

section
variable {P : Program} {w : World} {K : PySem.W.Frag} {mg : Str → Option Value} {base : Heap}
def spIsInteger : Sp := fun vs H Q _ => ∃ (v l : Int) (h : V), vs = [.int v, .int l, h] ∧ ((∃ u : Int, h = .int u ∧ Q (.bl (decide (l ≤ v) && decide (v ≤ u))) H) ∨ (h = .non ∧ Q (.bl (decide (l ≤ v))) H))
theorem ok_is_integer {f : Addr} {fd : FuncData} {k : Nat} (B : Bn mg) (F : FunD K "is_integer" "is_integer" (defArgs Sis_integer) (defBody Sis_integer) (defScope Sis_integer) [.non] [] f fd) : FnG P w K mg base (k + 1) f fd ["value", "low", "high"] spIsInteger := by
  refine gokD F scis_integer (fun vs H Q E h => ?_) (fun cdv A fs s H vs Q E hG hr h => ?_)
  · obtain ⟨_, _, _, rfl, _⟩ := h; rfl
  · obtain ⟨v, l, h, rfl, h⟩ := h
    have hu := hr.units
    refine ⟨_, (pss_cons (ps_if (pw_or (pt_not (pt_val (pe_callB (k_isi K) (by rfl) B.isinstance Bisinstance (pa_cons (pv 0) (pa_cons (pe_bltn (v := .ty "int") (by rfl) B.int Tint rfl) pa_nil))))) (pw_or1 (pt_val (pe_callB (k_isi K) (by rfl) B.isinstance Bisinstance (pa_cons (pv 0) (pa_cons (pe_bltn (v := .ty "bool") (by rfl) B.bool Tbool rfl) pa_nil)))))).pt (pss_one (ps_ret pe_bl)) pss_nil) (pss_one (ps_ret (pe_and (pe_cmpR op_le (pv 1) (pv 0) (nomark _)) (pe_one (pe_or (pe_cmpR op_isN' (pv 2) pe_non (nomark _)) (pe_one (pe_cmpR op_le (pv 0) (pv 2) (nomark _))))))))), ?_⟩
    walk_at "s"
    refine ifD (fun h1 => ?_) (fun h1 => ?_)
    · walk_at "s"
      rcases h with ⟨u, rfl, q⟩ | ⟨rfl, q⟩
      · walk_at "s"
        rw [decide_eq_true h1] at q
        exact q
      · walk_at "s"
        rw [decide_eq_true h1] at q
        exact q
    · walk_at "s"
      rcases h with ⟨u, rfl, q⟩ | ⟨rfl, q⟩
      · rw [decide_eq_false h1] at q
        exact q
      · rw [decide_eq_false h1] at q
        exact q
end

abbrev Scheck_size : Stmt := topS 12
abbrev Ncheck_size : List Str := ["size"]
theorem sccheck_size : FnScope Ncheck_size ["size"] (defScope Scheck_size) := ⟨rfl, rfl, rfl, by decide +kernel, rfl, by decide +kernel, by decide +kernel⟩
abbrev SShelf_d__init_d_ : Stmt := inClass (topS 13) 0
abbrev NShelf_d__init_d_ : List Str := ["self", "size"]
theorem scShelf_d__init_d_ : FnScope NShelf_d__init_d_ ["self", "size"] (defScope SShelf_d__init_d_) := ⟨rfl, rfl, rfl, by decide +kernel, rfl, by decide +kernel, by decide +kernel⟩
abbrev SShelf_can_take : Stmt := inClass (topS 13) 1
abbrev NShelf_can_take : List Str := ["self", "place"]
theorem scShelf_can_take : FnScope NShelf_can_take ["self", "place"] (defScope SShelf_can_take) := ⟨rfl, rfl, rfl, by decide +kernel, rfl, by decide +kernel, by decide +kernel⟩
abbrev SShelf_can_return : Stmt := inClass (topS 13) 2
abbrev NShelf_can_return : List Str := ["self", "book"]
theorem scShelf_can_return : FnScope NShelf_can_return ["self", "book"] (defScope SShelf_can_return) := ⟨rfl, rfl, rfl, by decide +kernel, rfl, by decide +kernel, by decide +kernel⟩
abbrev SShelf_take : Stmt := inClass (topS 13) 3
abbrev NShelf_take : List Str := ["self", "place", "book"]
theorem scShelf_take : FnScope NShelf_take ["self", "place"] (defScope SShelf_take) := ⟨rfl, rfl, rfl, by decide +kernel, rfl, by decide +kernel, by decide +kernel⟩
abbrev SShelf_put_back : Stmt := inClass (topS 13) 4
abbrev NShelf_put_back : List Str := ["self", "book", "place"]
theorem scShelf_put_back : FnScope NShelf_put_back ["self", "book"] (defScope SShelf_put_back) := ⟨rfl, rfl, rfl, by decide +kernel, rfl, by decide +kernel, by decide +kernel⟩

/-! a shelf -/
def bV : Option Int → V
  | some i => .int i
  | none => .non
def vB (bs : List (Option Int)) : List V := bs.map bV
theorem vB_len (bs : List (Option Int)) : (vB bs).length = bs.length := List.length_map ..
theorem vB_at {bs : List (Option Int)} {i : Nat} {x : Option Int} (h : bs[i]? = some x) : (vB bs)[i]? = some (bV x) := by
  unfold vB; rw [List.getElem?_map, h]; rfl
theorem vB_set (bs : List (Option Int)) (n : Nat) (x : Option Int) : (vB bs).set n (bV x) = vB (bs.set n x) := List.map_set.symm
theorem vB_flat (bs : List (Option Int)) : (vB bs).all flatV = true := by
  unfold vB
  rw [List.all_map]
  exact List.all_eq_true.mpr fun x _ => by cases x <;> rfl
abbrev shF (b t : Addr) : List (Str × V) := [("books", V.ref b), ("taken", V.ref t)]
/-- a shelf at s: its books at b, the books out at t -/
structure ShelfAt (C : Addr) (H : Hp) (s b t : Addr) (bs : List (Option Int)) (tk : List Int) : Prop where
  ob : ∃ dx, H s = some (.ins C dx (shF b t))
  hb : H b = some (.lst (vB bs))
  ht : H t = some (.lst (vI tk))
  ne : b ≠ t
structure ShK (K : PySem.W.Frag) (C : Addr) : Prop where
  cl : Cls K C
  nb : NoAttr K C "books"
  nt : NoAttr K C "taken"
theorem ShelfAt.same {C : Addr} {H H' : Hp} {s b t : Addr} {bs : List (Option Int)} {tk : List Int} (h : ShelfAt C H s b t bs tk) (k : Same H H') : ShelfAt C H' s b t bs tk := by
  obtain ⟨⟨dx, h1⟩, h2, h3, h4⟩ := h
  exact ⟨⟨dx, k _ _ h1⟩, k _ _ h2, k _ _ h3, h4⟩
section
variable {P : Program} {w : World} {K : PySem.W.Frag} {mg : Str → Option Value} {base : Heap}
def spCheckSize : Sp := fun vs H Q _ => ∃ n : Int, vs = [.int n] ∧ 1 ≤ n ∧ n ≤ 200 ∧ Q .non H
theorem ok_check_size {f : Addr} {fd : FuncData} (c_MAX_SIZE : Gc mg "MAX_SIZE" (.int 200)) (D_is_integer : Df P w K mg base 1 "is_integer" [] spIsInteger) (F : Fun K "check_size" "check_size" Scheck_size f fd) : FnG P w K mg base 2 f fd ["size"] spCheckSize := by
  refine gok F sccheck_size (fun vs H Q E h => ?_) (fun cdv A fs s H vs Q E hG hr h => ?_)
  · obtain ⟨_, rfl, _⟩ := h; rfl
  · obtain ⟨n, rfl, h1, h2, q⟩ := h
    have hu := hr.units
    refine ⟨_, (pss_one (ps_if (pt_not (pt_val (pe_df D_is_integer hG (hr.mono (by first | decide | omega)) passL (by rfl) (pa_cons (pv 0) (pa_cons pe_int (pa_cons (pe_gc c_MAX_SIZE (by rfl)) pa_nil)))))) (pss_one ps_never) pss_nil)), ?_⟩
    walk_at "s"
    refine ⟨_, _, _, rfl, .inl ⟨_, rfl, ?_⟩⟩
    rw [decide_eq_true h1, decide_eq_true h2]
    walk_at "s"
    exact q
def spShInit (C : Addr) : Sp := fun vs H Q _ => ∃ (s dx : Addr) (n : Nat), vs = [.ref s, .int n] ∧ H s = some (.ins C dx []) ∧ n ≤ 200 ∧ ∀ H' b t, KpL [s] H H' → H b = none → H t = none → ShelfAt C H' s b t ((List.range n).map fun i => some ((i : Nat) : Int)) [] → Q .non H'
theorem iota_vB (n : Nat) : rgV 0 (n : Int) = vB ((List.range n).map fun i => some ((i : Nat) : Int)) := by
  unfold rgV vB
  rw [List.map_map, show ((n : Int) - 0).toNat = n by omega]
  exact List.map_congr_left fun i _ => by show V.int (0 + (i : Int)) = V.int ((i : Nat) : Int); rw [Int.zero_add]
theorem ok_Shelf_init {C f : Addr} {fd : FuncData} {k : Nat} (B : Bn mg) (S : ShK K C) (F : Fun K "__init__" "Shelf.__init__" SShelf_d__init_d_ f fd) : FnG P w K mg base (k + 1) f fd ["self", "size"] (spShInit C) := by
  refine gok F scShelf_d__init_d_ (fun vs H Q E h => ?_) (fun cdv A fs s H vs Q E hG hr h => ?_)
  · obtain ⟨_, _, _, rfl, _⟩ := h; rfl
  · obtain ⟨s, dx, n, rfl, hs, hn, q⟩ := h
    have hu := hr.units
    obtain ⟨cl, nb, nt⟩ := S
    refine ⟨_, (pss_cons (ps_fld (pv 0) (pe_listRg rfl (by rfl) B.list (prg_1 (by rfl) B.range (pv 1))) rfl) (pss_one (ps_fld (pv 0) (pe_lst pa_nil) rfl))), ?_⟩
    walk_at "s"
    refine ⟨.of_le (by omega) (by omega) (by omega) (by omega), fun b nb => ?_⟩
    rw [iota_vB]
    have nsb : s ≠ b := ne_new nb hs
    have hs1 := (same_new (o := .lst (vB ((List.range n).map fun i => some ((i : Nat) : Int)))) nb) _ _ hs
    walk_at "s"
    rw [put1]
    intro t nt
    have nst : s ≠ t := ne_new nt upd_same
    have nbt : b ≠ t := ne_new nt ((upd_ne nsb.symm).trans upd_same)
    have nt0 : H t = none := by
      rw [upd_ne nst.symm, upd_ne nbt.symm] at nt
      exact nt
    walk_at "s"
    rw [put2 (by decide +kernel)]
    refine q _ b t ?_ nb nt0 ⟨⟨dx, upd_same⟩, (upd_ne nsb.symm).trans ((upd_ne nbt).trans ((upd_ne nsb.symm).trans upd_same)), (upd_ne nst.symm).trans upd_same, nbt⟩
    exact (((KpL.of (same_new nb)).set (List.mem_singleton.mpr rfl)).put nt).set (List.mem_singleton.mpr rfl)
def spCanTake (C : Addr) : Sp := fun vs H Q _ => ∃ (s b t : Addr) (bs : List (Option Int)) (tk : List Int) (p : Nat) (i : Int), vs = [.ref s, .int p] ∧ ShelfAt C H s b t bs tk ∧ bs[p]? = some (some i) ∧ Q (.bl true) H
theorem ok_Shelf_can_take {C f : Addr} {fd : FuncData} (B : Bn mg) (S : ShK K C) (D_is_integer : Df P w K mg base 1 "is_integer" [] spIsInteger) (F : Fun K "can_take" "Shelf.can_take" SShelf_can_take f fd) : FnG P w K mg base 2 f fd ["self", "place"] (spCanTake C) := by
  refine gok F scShelf_can_take (fun vs H Q E h => ?_) (fun cdv A fs s H vs Q E hG hr h => ?_)
  · obtain ⟨_, _, _, _, _, _, _, rfl, _⟩ := h; rfl
  · obtain ⟨s, b, t, bs, tk, p, i, rfl, ⟨⟨dx, hs⟩, hb, ht, nbt⟩, hp, q⟩ := h
    have hu := hr.units
    obtain ⟨cl, nb, nt⟩ := S
    refine ⟨_, (pss_one (ps_ret (pe_and (pe_df D_is_integer hG (hr.mono (by first | decide | omega)) passL (by rfl) (pa_cons (pv 1) (pa_cons pe_int (pa_cons (pe_op op_sub (pe_callB (k_len K) (by rfl) B.len Blen (pa_cons (k_fld K (pv 0)) pa_nil)) pe_int) pa_nil)))) (pe_one (pe_cmpR op_notN' (pe_ix (k_ixL K) (k_fld K (pv 0)) (pv 1) (fun _ _ => rfl)) pe_non (nomark _)))))), ?_⟩
    walk_at "s"
    have pl : p < bs.length := (List.getElem?_eq_some_iff.mp hp).1
    refine ⟨_, _, _, rfl, .inl ⟨_, rfl, ?_⟩⟩
    rw [vB_len, decide_eq_true (show (0 : Int) ≤ (p : Int) by omega), decide_eq_true (show (p : Int) ≤ (bs.length : Int) - 1 by omega), Bool.and_self]
    have e : atI (vB bs) (p : Int) = some (.int i) := atI_nat (vB_at hp)
    walk_at "s"
    exact q
def spCanReturn (C : Addr) : Sp := fun vs H Q _ => ∃ (s b t : Addr) (bs : List (Option Int)) (tk : List Int) (i : Int), vs = [.ref s, .int i] ∧ ShelfAt C H s b t bs tk ∧ 0 ≤ i ∧ i ∈ tk ∧ Q (.bl true) H
theorem ok_Shelf_can_return {C f : Addr} {fd : FuncData} (S : ShK K C) (D_is_integer_2 : Df P w K mg base 1 "is_integer" [.non] spIsInteger) (F : Fun K "can_return" "Shelf.can_return" SShelf_can_return f fd) : FnG P w K mg base 2 f fd ["self", "book"] (spCanReturn C) := by
  refine gok F scShelf_can_return (fun vs H Q E h => ?_) (fun cdv A fs s H vs Q E hG hr h => ?_)
  · obtain ⟨_, _, _, _, _, _, rfl, _⟩ := h; rfl
  · obtain ⟨s, b, t, bs, tk, i, rfl, ⟨⟨dx, hs⟩, hb, ht, nbt⟩, h0, hi, q⟩ := h
    have hu := hr.units
    obtain ⟨cl, nb, nt⟩ := S
    refine ⟨_, (pss_one (ps_ret (pe_and (pe_df D_is_integer_2 hG (hr.mono (by first | decide | omega)) passL (by rfl) (pa_cons (pv 1) (pa_cons pe_int pa_nil))) (pe_one (pe_cmpR (k_in K) (pv 1) (k_fld K (pv 0)) rfl))))), ?_⟩
    walk_at "s"
    refine ⟨_, _, _, rfl, .inr ⟨rfl, ?_⟩⟩
    rw [decide_eq_true h0]
    walk_at "s"
    refine r_in (.inl (lst_of ht)) rfl (flat_ints tk) ?_
    rw [inV_ints, decide_eq_true hi]
    exact q
def spTake (C : Addr) : Sp := fun vs H Q _ => ∃ (s b t : Addr) (bs : List (Option Int)) (tk : List Int) (p : Nat) (i : Int), vs = [.ref s, .int p] ∧ ShelfAt C H s b t bs tk ∧ bs[p]? = some (some i) ∧ tk.length ≤ 1000 ∧ ∀ H', KpL [b, t] H H' → ShelfAt C H' s b t (bs.set p none) (tk ++ [i]) → Q (.int i) H'
theorem ok_Shelf_take {C f : Addr} {fd : FuncData} {k : Nat} (B : Bn mg) (S : ShK K C) (F : Fun K "take" "Shelf.take" SShelf_take f fd) : FnG P w K mg base (k + 1) f fd ["self", "place"] (spTake C) := by
  refine gok F scShelf_take (fun vs H Q E h => ?_) (fun cdv A fs s H vs Q E hG hr h => ?_)
  · obtain ⟨_, _, _, _, _, _, _, rfl, _⟩ := h; rfl
  · obtain ⟨s, b, t, bs, tk, p, i, rfl, ⟨⟨dx, hs⟩, hb, ht, nbt⟩, hp, hl, q⟩ := h
    have hu := hr.units
    obtain ⟨cl, nb, nt⟩ := S
    refine ⟨_, (pss_cons (ps_set (i := 2) scShelf_take.nd rfl (Or.inl rfl) (pe_ix (k_ixL K) (k_fld K (pv 0)) (pv 1) (fun _ _ => rfl))) (pss_cons (ps_asg pe_non (pg_sub (k_fld K (pv 0)) (pv 1) set_list)) (pss_cons (ps_expr (k_bmP K (pe_bm PySem.F.plainAttrs_list PySem.F.slot_list_append PySem.F.type_list_append mt_append (k_fld K (pv 0)) (pa_cons (pv 2) pa_nil)))) (pss_one (ps_ret (pv 2)))))), ?_⟩
    have pl : p < bs.length := (List.getElem?_eq_some_iff.mp hp).1
    have e : atI (vB bs) (p : Int) = some (.int i) := atI_nat (vB_at hp)
    have e1 : ixN (vB bs).length (p : Int) = some p := by rw [vB_len, ixN_ok (by omega) (by omega), Int.toNat_natCast]
    have nsb : s ≠ b := fun z => by rw [z, hb] at hs; cases hs
    have nst : s ≠ t := fun z => by rw [z, ht] at hs; cases hs
    have tl : (vI tk).length ≤ 1000 := by rw [vI_len]; exact hl
    walk_at "s"
    refine q _ ((KpL.refl _ _).set (by simp) |>.set (by simp)) ⟨⟨dx, (upd_ne nst).trans ((upd_ne nsb).trans hs)⟩, ?_, ?_, nbt⟩
    · rw [upd_ne nbt, upd_same]
      exact congrArg (fun l => some (HO.lst l)) (vB_set bs p none)
    · rw [upd_same]
      exact congrArg (fun l => some (HO.lst l)) (vI_app tk [i])
def spPutBack (C : Addr) : Sp := fun vs H Q _ => ∃ (s b t : Addr) (bs : List (Option Int)) (tk : List Int) (p : Nat) (i : Int), vs = [.ref s, .int i] ∧ ShelfAt C H s b t bs tk ∧ bs[p]? = some none ∧ (∀ m : Nat, m < p → bs[m]? ≠ some none) ∧ i ∈ tk ∧ ∀ H', KpL [b, t] H H' → ShelfAt C H' s b t (bs.set p (some i)) (tk.erase i) → Q (.int p) H'
theorem ok_Shelf_put_back {C f : Addr} {fd : FuncData} {k : Nat} (B : Bn mg) (S : ShK K C) (F : Fun K "put_back" "Shelf.put_back" SShelf_put_back f fd) : FnG P w K mg base (k + 1) f fd ["self", "book"] (spPutBack C) := by
  refine gok F scShelf_put_back (fun vs H Q E h => ?_) (fun cdv A fs s H vs Q E hG hr h => ?_)
  · obtain ⟨_, _, _, _, _, _, _, rfl, _⟩ := h; rfl
  · obtain ⟨s, b, t, bs, tk, p, i, rfl, ⟨⟨dx, hs⟩, hb, ht, nbt⟩, hp, hm, hi, q⟩ := h
    have hu := hr.units
    obtain ⟨cl, nb, nt⟩ := S
    refine ⟨_, (pss_cons (ps_set (i := 2) scShelf_put_back.nd rfl (Or.inl rfl) (k_bmP K (pe_bm PySem.F.plainAttrs_list PySem.F.slot_list_index PySem.F.type_list_index (k_index K) (k_fld K (pv 0)) (pa_cons pe_non pa_nil)))) (pss_cons (ps_asg (pv 1) (pg_sub (k_fld K (pv 0)) (pv 2) set_list)) (pss_cons (ps_expr (k_bmP K (pe_bm PySem.F.plainAttrs_list PySem.F.slot_list_remove PySem.F.type_list_remove mt_remove (k_fld K (pv 0)) (pa_cons (pv 1) pa_nil)))) (pss_one (ps_ret (pv 2)))))), ?_⟩
    have pl : p < bs.length := (List.getElem?_eq_some_iff.mp hp).1
    have e1 : ixN (vB bs).length (p : Int) = some p := by rw [vB_len, ixN_ok (by omega) (by omega), Int.toNat_natCast]
    have nsb : s ≠ b := fun z => by rw [z, hb] at hs; cases hs
    have nst : s ≠ t := fun z => by rw [z, ht] at hs; cases hs
    walk_at "s"
    refine r_index (lst_of hb) rfl (vB_flat bs) (vB_at hp) rfl (fun m z' hm' hz => ?_) ?_
    · unfold vB at hz
      rw [List.getElem?_map] at hz
      cases hx : bs[m]? with
      | none => rw [hx] at hz; cases hz
      | some x =>
        rw [hx] at hz
        cases hz
        cases x with
        | none => exact absurd hx (hm m hm')
        | some j => rfl
    · have ht1 : upd H b (.lst ((vB bs).set p (.int i))) t = some (.lst (vI tk)) := (upd_ne nbt.symm).trans ht
      walk_at "s"
      refine r_remove ht1 hi ?_
      walk_at "s"
      refine q _ ((KpL.refl _ _).set (by simp) |>.set (by simp)) ⟨⟨dx, (upd_ne nst).trans ((upd_ne nsb).trans hs)⟩, ?_, upd_same, nbt⟩
      rw [upd_ne nbt, upd_same]
      exact congrArg (fun l => some (HO.lst l)) (vB_set bs p (some i))
end

abbrev SLiveShelf_d__init_d_ : Stmt := inClass (topS 15) 1
abbrev NLiveShelf_d__init_d_ : List Str := ["self", "size"]
theorem scLiveShelf_d__init_d_ : FnScope NLiveShelf_d__init_d_ ["self", "size"] (defScope SLiveShelf_d__init_d_) := ⟨rfl, rfl, rfl, by decide +kernel, rfl, by decide +kernel, by decide +kernel⟩
abbrev SLiveShelf_is_complete : Stmt := inClass (topS 15) 3
abbrev NLiveShelf_is_complete : List Str := ["self"]
theorem scLiveShelf_is_complete : FnScope NLiveShelf_is_complete ["self"] (defScope SLiveShelf_is_complete) := ⟨rfl, rfl, rfl, by decide +kernel, rfl, by decide +kernel, by decide +kernel⟩
abbrev SLiveShelf_d__len_d_ : Stmt := inClass (topS 15) 4
abbrev NLiveShelf_d__len_d_ : List Str := ["self"]
theorem scLiveShelf_d__len_d_ : FnScope NLiveShelf_d__len_d_ ["self"] (defScope SLiveShelf_d__len_d_) := ⟨rfl, rfl, rfl, by decide +kernel, rfl, by decide +kernel, by decide +kernel⟩
abbrev SLiveShelf_take_book : Stmt := inClass (topS 15) 6
abbrev NLiveShelf_take_book : List Str := ["self", "place", "book"]
theorem scLiveShelf_take_book : FnScope NLiveShelf_take_book ["self", "place"] (defScope SLiveShelf_take_book) := ⟨rfl, rfl, rfl, by decide +kernel, rfl, by decide +kernel, by decide +kernel⟩
abbrev SLiveShelf_return_book : Stmt := inClass (topS 15) 7
abbrev NLiveShelf_return_book : List Str := ["self", "book", "order", "place"]
theorem scLiveShelf_return_book : FnScope NLiveShelf_return_book ["self", "book"] (defScope SLiveShelf_return_book) := ⟨rfl, rfl, rfl, by decide +kernel, rfl, by decide +kernel, by decide +kernel⟩
abbrev SLiveShelf_current_books : Stmt := inClass (topS 15) 9
abbrev NLiveShelf_current_books : List Str := ["self"]
theorem scLiveShelf_current_books : FnScope NLiveShelf_current_books ["self"] (defScope SLiveShelf_current_books) := ⟨rfl, rfl, rfl, by decide +kernel, rfl, by decide +kernel, by decide +kernel⟩
abbrev SLiveShelf_current_gaps : Stmt := inClass (topS 15) 10
abbrev NLiveShelf_current_gaps : List Str := ["self", "place", "book"]
theorem scLiveShelf_current_gaps : FnScope NLiveShelf_current_gaps ["self"] (defScope SLiveShelf_current_gaps) := ⟨rfl, rfl, rfl, by decide +kernel, rfl, by decide +kernel, by decide +kernel⟩
abbrev SLiveShelf_current_out : Stmt := inClass (topS 15) 11
abbrev NLiveShelf_current_out : List Str := ["self"]
theorem scLiveShelf_current_out : FnScope NLiveShelf_current_out ["self"] (defScope SLiveShelf_current_out) := ⟨rfl, rfl, rfl, by decide +kernel, rfl, by decide +kernel, by decide +kernel⟩
abbrev SLiveShelf_current_schedule : Stmt := inClass (topS 15) 13
abbrev NLiveShelf_current_schedule : List Str := ["self", "step"]
theorem scLiveShelf_current_schedule : FnScope NLiveShelf_current_schedule ["self"] (defScope SLiveShelf_current_schedule) := ⟨rfl, rfl, rfl, by decide +kernel, rfl, by decide +kernel, by decide +kernel⟩

/-! a live shelf -/
structure Stp where
  k : Bool
  x : Int
  p : Int
  b : Int
  o : Int
def kd (k : Bool) : Str := if k then "take" else "return"
def stV (s : Stp) : List V := [.str (kd s.k), .int s.x, .int s.p, .int s.b, .int s.o]
def curD (s : Stp) : PyData := .tuple [.str (kd s.k), .int s.x]
/-- a list at d of steps -/
def SL (H : Hp) (d : Addr) (dn : List Stp) : Prop := ∃ as : List Addr, H d = some (.lst (as.map V.ref)) ∧ as.length = dn.length ∧ ∀ (i : Nat) (a : Addr) (s : Stp), as[i]? = some a → dn[i]? = some s → H a = some (.tup (stV s))
theorem SL.same {H H' : Hp} {d : Addr} {dn : List Stp} (h : SL H d dn) (s : Same H H') : SL H' d dn := by
  obtain ⟨as, h1, h2, h3⟩ := h
  exact ⟨as, s _ _ h1, h2, fun i a p e1 e2 => s _ _ (h3 i a p e1 e2)⟩
theorem SL.set {H : Hp} {d x : Addr} {o : HO} {dn : List Stp} {ys : List V} (h : SL H d dn) (n : d ≠ x) (hx : H x = some (.lst ys)) : SL (L2.upd H x o) d dn := by
  obtain ⟨as, h1, h2, h3⟩ := h
  refine ⟨as, (upd_ne n).trans h1, h2, fun i a p e1 e2 => ?_⟩
  have z := h3 i a p e1 e2
  have ne : a ≠ x := fun e => by rw [e, hx] at z; cases z
  exact (upd_ne ne).trans z
theorem SL.kpl {H H' : Hp} {d : Addr} {L : List Addr} {dn : List Stp} (h : SL H d dn) (k : KpL L H H') (n : d ∉ L) (hL : ∀ x ∈ L, ∃ ys, H x = some (.lst ys)) : SL H' d dn := by
  obtain ⟨as, h1, h2, h3⟩ := h
  refine ⟨as, k _ _ n h1, h2, fun i a p e1 e2 => ?_⟩
  have z := h3 i a p e1 e2
  exact k _ _ (fun m => by obtain ⟨ys, hy⟩ := hL a m; rw [hy] at z; cases z) z
theorem SL.app {H : Hp} {d t : Addr} {dn : List Stp} {s : Stp} (h : SL H d dn) (ht : H t = some (.tup (stV s))) :
    ∃ xs, H d = some (.lst xs) ∧ xs.length = dn.length ∧ SL (L2.upd H d (.lst (xs ++ [.ref t]))) d (dn ++ [s]) := by
  obtain ⟨as, h1, h2, h3⟩ := h
  refine ⟨as.map V.ref, h1, by rw [List.length_map, h2], as ++ [t], ?_, by simp [h2], fun i a q e1 e2 => ?_⟩
  · rw [upd_same, List.map_append]; rfl
  · have key : ∀ b q, H b = some (.tup (stV q)) → L2.upd H d (.lst (as.map V.ref ++ [.ref t])) b = some (.tup (stV q)) := by
      intro b q z
      have ne : b ≠ d := fun e => by rw [e, h1] at z; cases z
      exact (upd_ne ne).trans z
    by_cases hi : i < as.length
    · rw [List.getElem?_append_left hi] at e1
      rw [List.getElem?_append_left (by omega)] at e2
      exact key a q (h3 i a q e1 e2)
    · have hi' : i = as.length := by
        have := (List.getElem?_eq_some_iff.mp e1).1
        rw [List.length_append, List.length_singleton] at this
        omega
      subst hi'
      rw [List.getElem?_append_right (Nat.le_refl _), Nat.sub_self] at e1
      rw [List.getElem?_append_right (by omega), h2, Nat.sub_self] at e2
      cases e1; cases e2
      exact key t s ht
abbrev lvF (n : Int) (s d : Addr) : List (Str × V) := [("size", V.int n), ("shelf", V.ref s), ("done", V.ref d)]
structure LiveAt (CL CS : Addr) (H : Hp) (v s b t d : Addr) (n : Nat) (bs : List (Option Int)) (tk : List Int) (dn : List Stp) : Prop where
  ob : ∃ dx, H v = some (.ins CL dx (lvF n s d))
  sh : ShelfAt CS H s b t bs tk
  dn : SL H d dn
  nb : b ≠ d
  nt : t ≠ d
theorem LiveAt.same {CL CS : Addr} {H H' : Hp} {v s b t d : Addr} {n : Nat} {bs : List (Option Int)} {tk : List Int} {dn : List Stp} (h : LiveAt CL CS H v s b t d n bs tk dn) (k : Same H H') : LiveAt CL CS H' v s b t d n bs tk dn := by
  obtain ⟨⟨dx, h1⟩, h2, h3, h4, h5⟩ := h
  exact ⟨⟨dx, k _ _ h1⟩, h2.same k, h3.same k, h4, h5⟩
structure LvK (K : PySem.W.Frag) (C : Addr) : Prop where
  cl : Cls K C
  nz : NoAttr K C "size"
  ns : NoAttr K C "shelf"
  nd : NoAttr K C "done"
/-- the places that are empty -/
def gaps (bs : List (Option Int)) : List Int := ((List.range bs.length).filter fun i => decide (bs[i]? = some none)).map fun i => ((i : Nat) : Int)
/-- where a book stands -/
def pof (bs : List (Option Int)) (i : Int) : V := match bs.findIdx? (fun x => decide (x = some i)) with
  | some j => .int ((j : Nat) : Int)
  | none => .non
theorem take_succ' {α : Type} {p : List α} {i : Nat} {b : α} (h : p[i]? = some b) : p.take (i + 1) = p.take i ++ [b] := by rw [List.take_add_one, h]; rfl
section
variable {P : Program} {w : World} {K : PySem.W.Frag} {mg : Str → Option Value} {base : Heap}
def spLvInit (CL CS : Addr) : Sp := fun vs H Q _ => ∃ (v dx : Addr) (n : Nat), vs = [.ref v, .int n] ∧ H v = some (.ins CL dx []) ∧ 1 ≤ n ∧ n ≤ 200 ∧ ∀ H' s b t d, KpL [v] H H' → H s = none → H b = none → H t = none → H d = none → LiveAt CL CS H' v s b t d n ((List.range n).map fun i => some ((i : Nat) : Int)) [] [] → Q .non H'
theorem ok_Live_init {CL CS f : Addr} {fd : FuncData} (B : Bn mg) (S : LvK K CL) (D_check_size : Df P w K mg base 2 "check_size" [] spCheckSize) (N_Shelf : Cn P w K mg base 1 "Shelf" CS [] (spShInit CS)) (F : Fun K "__init__" "LiveShelf.__init__" SLiveShelf_d__init_d_ f fd) : FnG P w K mg base 3 f fd ["self", "size"] (spLvInit CL CS) := by
  refine gok F scLiveShelf_d__init_d_ (fun vs H Q E h => ?_) (fun cdv A fs s H vs Q E hG hr h => ?_)
  · obtain ⟨_, _, _, rfl, _⟩ := h; rfl
  · obtain ⟨v, dv, n, rfl, hv, hn, hn2, q⟩ := h
    have hu := hr.units
    obtain ⟨cl, nz, ns, nd⟩ := S
    refine ⟨_, (pss_cons (ps_expr (pe_df D_check_size hG (hr.mono (by first | decide | omega)) passL (by rfl) (pa_cons (pv 1) pa_nil))) (pss_cons (ps_fld (pv 0) (pv 1) rfl) (pss_cons (ps_fld (pv 0) (pe_cn N_Shelf hG (hr.mono (by first | decide | omega)) passL (by rfl) (pa_cons (pv 1) pa_nil)) rfl) (pss_one (ps_fld (pv 0) (pe_lst pa_nil) rfl))))), ?_⟩
    walk_at "s"
    refine ⟨n, rfl, by omega, by omega, ?_⟩
    walk_at "s"
    rw [put1]
    intro s dx n1 n2 ndx
    have nvs : v ≠ s := fun z => by rw [z, upd_same] at n1; cases n1
    have nvd : v ≠ dx := fun z => by rw [z, upd_same] at n2; cases n2
    have ns0 : H s = none := by rw [upd_ne nvs.symm] at n1; exact n1
    have nd0 : H dx = none := by rw [upd_ne nvd.symm] at n2; exact n2
    refine ⟨s, dx, n, rfl, upd_same, hn2, fun H' b t hK nb nt hS => ⟨rfl, ?_⟩⟩
    have nvb : v ≠ b := fun z => by rw [← z, upd_ne nvs, upd_ne nvd, upd_same] at nb; cases nb
    have nvt : v ≠ t := fun z => by rw [← z, upd_ne nvs, upd_ne nvd, upd_same] at nt; cases nt
    have hv' : H' v = some (.ins CL dv [(("size" : Str), V.int (n : Int))]) := hK _ _ (by simpa using nvs) ((upd_ne nvs).trans ((upd_ne nvd).trans upd_same))
    have kv : KpL [v] H H' := by
      have k1 : KpL [v, s] H (upd (upd (upd H v (.ins CL dv [(("size" : Str), V.int (n : Int))])) dx (.own s)) s (.ins CS dx [])) :=
        (((KpL.refl _ _).set (by simp)).put (by exact n2)).set (by simp)
      have k2 : KpL [s, v] H H' := (k1.trans (hK.more (by simp))).more (by simp)
      exact k2.drop ns0
    obtain ⟨⟨ds, hs⟩, hb, ht, nbt⟩ := hS
    have off : ∀ x, upd (upd (upd H v (.ins CL dv [(("size" : Str), V.int (n : Int))])) dx (.own s)) s (.ins CS dx []) x = none → H x = none := fun x hx => by
      have a1 : x ≠ s := fun z => by rw [z, upd_same] at hx; cases hx
      have a2 : x ≠ dx := fun z => by rw [z, upd_ne ndx, upd_same] at hx; cases hx
      have a3 : x ≠ v := fun z => by rw [z, upd_ne nvs, upd_ne nvd, upd_same] at hx; cases hx
      rw [upd_ne a1, upd_ne a2, upd_ne a3] at hx
      exact hx
    walk_at "s"
    rw [put2 (by decide +kernel)]
    intro d nd3
    have nvd3 : v ≠ d := fun z => by rw [← z, upd_same] at nd3; cases nd3
    have nd4 : H' d = none := by rw [upd_ne nvd3.symm] at nd3; exact nd3
    have nds : d ≠ s := fun z => by rw [z, hs] at nd4; cases nd4
    have ndb : d ≠ b := fun z => by rw [z, hb] at nd4; cases nd4
    have ndt : d ≠ t := fun z => by rw [z, ht] at nd4; cases nd4
    walk_at "s"
    rw [put3 (by decide +kernel) (by decide +kernel)]
    refine q _ s b t d ?_ ns0 (off b nb) (off t nt) (kv.free nd4 (by simpa using nvd3.symm)) ⟨⟨dv, upd_same⟩, ⟨⟨ds, ?_⟩, ?_, ?_, nbt⟩, ⟨[], ?_, rfl, fun i a s e1 _ => by simp at e1⟩, ndb.symm, ndt.symm⟩
    · exact ((kv.set (by simp)).put nd3).set (by simp)
    · rw [upd_ne nvs.symm, upd_ne nds.symm, upd_ne nvs.symm]; exact hs
    · rw [upd_ne nvb.symm, upd_ne ndb.symm, upd_ne nvb.symm]; exact hb
    · rw [upd_ne nvt.symm, upd_ne ndt.symm, upd_ne nvt.symm]; exact ht
    · rw [upd_ne nvd3.symm, upd_same]; rfl
def spLvBooks (CL CS : Addr) : Sp := fun vs H Q _ => ∃ (v s b t d : Addr) (n : Nat) (bs : List (Option Int)) (tk : List Int) (dn : List Stp), vs = [.ref v] ∧ LiveAt CL CS H v s b t d n bs tk dn ∧ ∀ H' p, Same H H' → H p = none → H' p = some (.lst (vB bs)) → Q (.ref p) H'
theorem ok_Live_current_books {CL CS f : Addr} {fd : FuncData} {k : Nat} (B : Bn mg) (S : LvK K CL) (SS : ShK K CS) (F : Fun K "current_books" "LiveShelf.current_books" SLiveShelf_current_books f fd) : FnG P w K mg base (k + 1) f fd ["self"] (spLvBooks CL CS) := by
  refine gok F scLiveShelf_current_books (fun vs H Q E h => ?_) (fun cdv A fs s H vs Q E hG hr h => ?_)
  · obtain ⟨_, _, _, _, _, _, _, _, _, rfl, _⟩ := h; rfl
  · obtain ⟨v, s, b, t, d, n, bs, tk, dn, rfl, ⟨⟨dx, hv⟩, ⟨⟨ds, hs⟩, hb, ht, nbt⟩, hdn, n1, n2⟩, q⟩ := h
    have hu := hr.units
    obtain ⟨cl, nz, ns, nd⟩ := S
    obtain ⟨cs, sb, st⟩ := SS
    refine ⟨_, (pss_one (ps_ret (pe_callTy (k_list K) (by rfl) B.list Tlist (pa_cons (k_fld K (k_fld K (pv 0))) pa_nil)))), ?_⟩
    walk_at "s"
    intro p np
    exact q _ p (same_new np) np upd_same
def spLvOut (CL CS : Addr) : Sp := fun vs H Q _ => ∃ (v s b t d : Addr) (n : Nat) (bs : List (Option Int)) (tk : List Int) (dn : List Stp), vs = [.ref v] ∧ LiveAt CL CS H v s b t d n bs tk dn ∧ ∀ H' p, Same H H' → H p = none → H' p = some (.lst (vI tk)) → Q (.ref p) H'
theorem ok_Live_current_out {CL CS f : Addr} {fd : FuncData} {k : Nat} (B : Bn mg) (S : LvK K CL) (SS : ShK K CS) (F : Fun K "current_out" "LiveShelf.current_out" SLiveShelf_current_out f fd) : FnG P w K mg base (k + 1) f fd ["self"] (spLvOut CL CS) := by
  refine gok F scLiveShelf_current_out (fun vs H Q E h => ?_) (fun cdv A fs s H vs Q E hG hr h => ?_)
  · obtain ⟨_, _, _, _, _, _, _, _, _, rfl, _⟩ := h; rfl
  · obtain ⟨v, s, b, t, d, n, bs, tk, dn, rfl, ⟨⟨dx, hv⟩, ⟨⟨ds, hs⟩, hb, ht, nbt⟩, hdn, n1, n2⟩, q⟩ := h
    have hu := hr.units
    obtain ⟨cl, nz, ns, nd⟩ := S
    obtain ⟨cs, sb, st⟩ := SS
    refine ⟨_, (pss_one (ps_ret (pe_callTy (k_list K) (by rfl) B.list Tlist (pa_cons (k_fld K (k_fld K (pv 0))) pa_nil)))), ?_⟩
    walk_at "s"
    intro p np
    exact q _ p (same_new np) np upd_same
def spLvGaps (CL CS : Addr) : Sp := fun vs H Q _ => ∃ (v s b t d : Addr) (n : Nat) (bs : List (Option Int)) (tk : List Int) (dn : List Stp), vs = [.ref v] ∧ LiveAt CL CS H v s b t d n bs tk dn ∧ bs.length ≤ 1000 ∧ ∀ H' p, Same H H' → H p = none → H' p = some (.lst (vI (gaps bs))) → Q (.ref p) H'
theorem ok_Live_current_gaps {CL CS f : Addr} {fd : FuncData} {k : Nat} (B : Bn mg) (S : LvK K CL) (SS : ShK K CS) (F : Fun K "current_gaps" "LiveShelf.current_gaps" SLiveShelf_current_gaps f fd) : FnG P w K mg base (k + 1) f fd ["self"] (spLvGaps CL CS) := by
  refine gok F scLiveShelf_current_gaps (fun vs H Q E h => ?_) (fun cdv A fs s H vs Q E hG hr h => ?_)
  · obtain ⟨_, _, _, _, _, _, _, _, _, rfl, _⟩ := h; rfl
  · obtain ⟨v, s, b, t, d, n, bs, tk, dn, rfl, ⟨⟨dx, hv⟩, ⟨⟨ds, hs⟩, hb, ht, nbt⟩, hdn, n1, n2⟩, hl, q⟩ := h
    have hu := hr.units
    obtain ⟨cl, nz, ns, nd⟩ := S
    obtain ⟨cs, sb, st⟩ := SS
    refine ⟨_, (pss_one (ps_ret (pe_lc (own := [("place", 1), ("book", 2)]) rfl scLiveShelf_current_gaps.nd (k_enum K (by rfl) B.enumerate (pa_cons (k_fld K (k_fld K (pv 0))) pa_nil)) (blkOk_by (own := [("place", 1), ("book", 2)]) (N := NLiveShelf_current_gaps) (sc := defScope SLiveShelf_current_gaps) (by decide +kernel)) (fun _ _ _ _ _ => (k_gtup (n := 2) K rfl (pgs_cons (pg_name (i := 1) scLiveShelf_current_gaps.nd rfl (Or.inl rfl)) (pgs_cons (pg_name (i := 2) scLiveShelf_current_gaps.nd rfl (Or.inl rfl)) pgs_nil)))) (fun _ _ _ _ _ => (pts_one (pt_cmpR op_isN' (pv 2) pe_non (nomark _)))) (fun _ _ _ _ _ => (pv 1))))), ?_⟩
    walk_at "s"
    refine ⟨b, vB bs, rfl, lst_of hb, fun Dl nD => ?_⟩
    refine lc_pure src_enum (fun i => decide (bs[i]? = some none)) (fun i => .int (i : Nat)) (by rw [vB_len]; omega) (fun H' s' => lst_of (s' _ _ hb)) ?_ nD fun H3 s3 hD => ?_
    · rintro i v H4 H5 Yes No hi s3 ⟨T, x, rfl, nT, rfl, hx⟩ hY hN
      rw [vB_len] at hi
      have e := vB_at (List.getElem?_eq_getElem hi)
      rw [e] at hx
      cases hx
      rw [List.getElem?_eq_getElem hi] at hY hN
      have sT := same_new (o := .tup [.int (i : Nat), bV bs[i]]) nT
      walk_at "s"
      refine ⟨rfl, ?_⟩
      walk_at "s"
      generalize bs[i] = o at *
      cases o with
      | none =>
        refine r_isN0 ?_
        walk_at "s"
        exact hY (by simp) _ sT
      | some j =>
        refine r_isNi ?_
        walk_at "s"
        exact hN (by simp) _ sT
    · walk_at "s"
      refine q _ Dl s3 nD (hD.trans ?_)
      rw [vB_len]
      unfold giv gaps vI
      rw [List.map_map]
      rfl
def spLvLen (CL CS : Addr) : Sp := fun vs H Q _ => ∃ (v s b t d : Addr) (n : Nat) (bs : List (Option Int)) (tk : List Int) (dn : List Stp), vs = [.ref v] ∧ LiveAt CL CS H v s b t d n bs tk dn ∧ Q (.int (dn.length : Nat)) H
theorem ok_Live_len {CL CS f : Addr} {fd : FuncData} {k : Nat} (B : Bn mg) (S : LvK K CL) (F : Fun K "__len__" "LiveShelf.__len__" SLiveShelf_d__len_d_ f fd) : FnG P w K mg base (k + 1) f fd ["self"] (spLvLen CL CS) := by
  refine gok F scLiveShelf_d__len_d_ (fun vs H Q E h => ?_) (fun cdv A fs s H vs Q E hG hr h => ?_)
  · obtain ⟨_, _, _, _, _, _, _, _, _, rfl, _⟩ := h; rfl
  · obtain ⟨v, s, b, t, d, n, bs, tk, dn, rfl, ⟨⟨dx, hv⟩, _, ⟨as, h1, h2, h3⟩, n1, n2⟩, q⟩ := h
    have hu := hr.units
    obtain ⟨cl, nz, ns, nd⟩ := S
    refine ⟨_, (pss_one (ps_ret (pe_callB (k_len K) (by rfl) B.len Blen (pa_cons (k_fld K (pv 0)) pa_nil)))), ?_⟩
    walk_at "s"
    rw [List.length_map, h2]
    exact q
def spLvDone (CL CS : Addr) : Sp := fun vs H Q _ => ∃ (v s b t d : Addr) (n : Nat) (bs : List (Option Int)) (tk : List Int) (dn : List Stp), vs = [.ref v] ∧ LiveAt CL CS H v s b t d n bs tk dn ∧ ∀ H', Same H H' → Q (.bl (decide (tk = []))) H'
theorem ok_Live_is_complete {CL CS f : Addr} {fd : FuncData} {k : Nat} (B : Bn mg) (S : LvK K CL) (SS : ShK K CS) (F : Fun K "is_complete" "LiveShelf.is_complete" SLiveShelf_is_complete f fd) : FnG P w K mg base (k + 1) f fd ["self"] (spLvDone CL CS) := by
  refine gok F scLiveShelf_is_complete (fun vs H Q E h => ?_) (fun cdv A fs s H vs Q E hG hr h => ?_)
  · obtain ⟨_, _, _, _, _, _, _, _, _, rfl, _⟩ := h; rfl
  · obtain ⟨v, s, b, t, d, n, bs, tk, dn, rfl, ⟨⟨dx, hv⟩, ⟨⟨ds, hs⟩, hb, ht, nbt⟩, hdn, n1, n2⟩, q⟩ := h
    have hu := hr.units
    obtain ⟨cl, nz, ns, nd⟩ := S
    obtain ⟨cs, sb, st⟩ := SS
    refine ⟨_, (pss_one (ps_ret (pe_cmpR (k_eqD K hu) (k_fld K (k_fld K (pv 0))) (pe_lst pa_nil) (nomark _)))), ?_⟩
    walk_at "s"
    intro e ne
    refine r_eqLI (xs := tk) (ys := []) (lst_of ((same_new ne) _ _ ht)) (lst_of upd_same) ?_
    exact q _ (same_new ne)
def spLvSched (CL CS : Addr) : Sp := fun vs H Q _ => ∃ (v s b t d : Addr) (n : Nat) (bs : List (Option Int)) (tk : List Int) (dn : List Stp), vs = [.ref v] ∧ LiveAt CL CS H v s b t d n bs tk dn ∧ dn.length ≤ 1000 ∧ ∀ H' p, Same H H' → H p = none → Tr (fun a => H a = none) H' (.ref p) (.list (dn.map curD)) → Q (.ref p) H'
theorem ok_Live_current_schedule {CL CS f : Addr} {fd : FuncData} {k : Nat} (B : Bn mg) (S : LvK K CL) (F : Fun K "current_schedule" "LiveShelf.current_schedule" SLiveShelf_current_schedule f fd) : FnG P w K mg base (k + 1) f fd ["self"] (spLvSched CL CS) := by
  refine gok F scLiveShelf_current_schedule (fun vs H Q E h => ?_) (fun cdv A fs s H vs Q E hG hr h => ?_)
  · obtain ⟨_, _, _, _, _, _, _, _, _, rfl, _⟩ := h; rfl
  · obtain ⟨v, s, b, t, d, n, bs, tk, dn, rfl, ⟨⟨dx, hv⟩, _, ⟨as, h1, h2, h3⟩, n1, n2⟩, hl, q⟩ := h
    have hu := hr.units
    obtain ⟨cl, nz, ns, nd⟩ := S
    refine ⟨_, (pss_one (ps_ret (pe_lc (own := [("step", 1)]) rfl scLiveShelf_current_schedule.nd (k_piL K (k_fld K (pv 0))) (blkOk_by (own := [("step", 1)]) (N := NLiveShelf_current_schedule) (sc := defScope SLiveShelf_current_schedule) (by decide +kernel)) (fun _ _ _ _ _ => (pg_name (i := 1) scLiveShelf_current_schedule.nd rfl (Or.inl rfl))) (fun _ _ _ _ _ => pts_nil) (fun _ _ _ _ _ => (pe_slice (k_slT K) (pv 1) po_none (po_some pe_int)))))), ?_⟩
    walk_at "s"
    refine ⟨d, rfl, ⟨_, lst_of h1⟩, fun Dl nD => ?_⟩
    refine lc_src (src_list (xs := as.map V.ref)) (fun i H' => ∃ acc, Same H H' ∧ H' Dl = some (.lst acc) ∧ acc.length = i ∧ TrAll (fun a => H a = none ∧ a ≠ Dl) H' acc ((dn.take i).map curD)) (fun i H' h => by obtain ⟨_, s', _⟩ := h; exact lst_of (s' _ _ h1))
      ⟨[], same_new nD, upd_same, rfl, by rw [List.take_zero]; exact .nil⟩ ?_ ?_
    · rintro i v H3 H4 hi ⟨acc, sA, hD, la, hT⟩ ⟨rfl, hv⟩
      rw [List.length_map] at hi
      have e1 := List.getElem?_eq_getElem hi
      have e2 := List.getElem?_eq_getElem (show i < dn.length by omega)
      rw [List.getElem?_map, e1] at hv
      cases hv
      have hS := sA _ _ (h3 i _ _ e1 e2)
      walk_at "s"
      refine ⟨rfl, ?_⟩
      walk_at "s"
      refine ⟨_, _, rfl, tup_of hS, fun z => ?_, fun _ p np => ?_⟩
      · exact absurd z.2 (by show ¬ (min 2 5 = 5); decide)
      · have hp0 := sA.free np
        have npD : p ≠ Dl := fun z => by rw [z, hD] at np; cases np
        have sp := same_new (o := .tup (cutV (stV (dn[i]'(by omega))) none (some 2))) np
        refine ⟨acc, (upd_ne npD.symm).trans hD, szl (by omega), acc ++ [.ref p], ?_, upd_same, by rw [List.length_append, la]; rfl, ?_⟩
        · exact same_set (sA.trans sp) nD
        · rw [take_succ' e2, List.map_append]
          refine TrAll.snoc (hT.move fun a o g e => ⟨(upd_ne g.2).trans (sp _ _ e), g⟩) (.tup ((upd_ne npD).trans upd_same) ⟨hp0, npD⟩ (by show _ ≤ 100000; exact Nat.le_trans (cutV_length _ _ _) (by show 5 ≤ _; decide)) (.cons (.str _) (.cons (.int _) .nil)))
    · rintro H3 ⟨acc, sA, hD, la, hT⟩
      rw [List.length_map, h2, List.take_length] at hT
      rw [List.length_map, h2] at la
      walk_at "s"
      exact q _ Dl sA nD (.lst hD nD (by omega) (hT.move fun a o g e => ⟨e, g.1⟩))
theorem pof_in (bs : List (Option Int)) (i : Int) : inV (.int i) (vB bs) = decide (some i ∈ bs) := by
  unfold inV vB
  rw [List.any_map]
  induction bs with
  | nil => simp
  | cons x bs ih =>
    rw [List.any_cons, ih]
    have e : ((fun y => eqV y (V.int i)) ∘ bV) x = decide (x = some i) := by
      cases x with
      | none => rfl
      | some j =>
        show eqV (.int j) (.int i) = _
        by_cases h : j = i <;> simp [eqV, h]
    rw [e]
    by_cases h : x = some i
    · subst h; simp
    · have h' : ¬ some i = x := fun z => h z.symm
      simp [h, h']
theorem pof_at {bs : List (Option Int)} {i : Int} {j : Nat} (h : bs[j]? = some (some i)) (no : ∀ m : Nat, m < j → bs[m]? ≠ some (some i)) : pof bs i = .int ((j : Nat) : Int) := by
  unfold pof
  have e : bs.findIdx? (fun x => decide (x = some i)) = some j := by
    rw [List.findIdx?_eq_some_iff_getElem]
    have hj := (List.getElem?_eq_some_iff.mp h)
    have hj1 := hj.1
    refine ⟨hj.1, by rw [hj.2]; simp, fun m hm => ?_⟩
    have := no m hm
    rw [List.getElem?_eq_getElem (by omega)] at this
    simpa using this
  rw [e]
theorem pof_no {bs : List (Option Int)} {i : Int} (h : some i ∉ bs) : pof bs i = .non := by
  unfold pof
  have e : bs.findIdx? (fun x => decide (x = some i)) = none := by
    rw [List.findIdx?_eq_none_iff]
    intro x hx
    simp
    exact fun z => h (z ▸ hx)
  rw [e]
/-- the first place of a book that is there -/
theorem first_at {bs : List (Option Int)} {x : Option Int} (h : x ∈ bs) : ∃ j : Nat, bs[j]? = some x ∧ ∀ m : Nat, m < j → bs[m]? ≠ some x := by
  induction bs with
  | nil => cases h
  | cons y bs ih =>
    by_cases e : y = x
    · exact ⟨0, by rw [e]; rfl, fun m hm => absurd hm (Nat.not_lt_zero _)⟩
    · obtain ⟨j, h1, h2⟩ := ih ((List.mem_cons.mp h).resolve_left fun z => e z.symm)
      refine ⟨j + 1, h1, fun m hm => ?_⟩
      cases m with
      | zero => intro z; exact e (Option.some.inj z)
      | succ m => exact h2 m (by omega)
theorem r_indexB {K : PySem.W.Frag} {H : Hp} {Q : VK} {a : Addr} {bs : List (Option Int)} {i : Int} (h : SqL K H a (vB bs)) (hi : some i ∈ bs) (q : Q (pof bs i) H) : rIndex K (.ref a) [.int i] H Q := by
  obtain ⟨j, h1, h2⟩ := first_at hi
  rw [pof_at h1 h2] at q
  refine r_index h rfl (vB_flat bs) (vB_at h1) (by show (i == i) = true; simp) (fun m z' hm hz => ?_) q
  unfold vB at hz
  rw [List.getElem?_map] at hz
  cases hx : bs[m]? with
  | none => rw [hx] at hz; cases hz
  | some x =>
    rw [hx] at hz
    cases hz
    cases x with
    | none => rfl
    | some k =>
      show (k == i) = false
      have : k ≠ i := fun z => h2 m hm (by rw [hx, z])
      simpa using this
def spLvTake (CL CS : Addr) : Sp := fun vs H Q _ => ∃ (v s b t d : Addr) (n : Nat) (bs : List (Option Int)) (tk : List Int) (dn : List Stp) (p : Nat) (i : Int), vs = [.ref v, .int p] ∧ LiveAt CL CS H v s b t d n bs tk dn ∧ bs[p]? = some (some i) ∧ tk.length ≤ 900 ∧ dn.length ≤ 900 ∧
  ∀ H', KpL [b, t, d] H H' → LiveAt CL CS H' v s b t d n (bs.set p none) (tk ++ [i]) (dn ++ [⟨true, p, p, i, ((tk.length : Nat) : Int)⟩]) → Q (.int i) H'
theorem ok_Live_take_book {CL CS f : Addr} {fd : FuncData} (B : Bn mg) (c_TAKE : Gc mg "TAKE" (.str "take")) (S : LvK K CL) (SS : ShK K CS) (M_Shelf_can_take : Mt P w K mg base 2 CS "can_take" [] (spCanTake CS)) (M_Shelf_take : Mt P w K mg base 1 CS "take" [] (spTake CS)) (F : Fun K "take_book" "LiveShelf.take_book" SLiveShelf_take_book f fd) : FnG P w K mg base 3 f fd ["self", "place"] (spLvTake CL CS) := by
  refine gok F scLiveShelf_take_book (fun vs H Q E h => ?_) (fun cdv A fs s H vs Q E hG hr h => ?_)
  · obtain ⟨_, _, _, _, _, _, _, _, _, _, _, rfl, _⟩ := h; rfl
  · obtain ⟨v, s, b, t, d, n, bs, tk, dn, p, i, rfl, ⟨⟨dx, hv⟩, hS, hdn, n1, n2⟩, hp, hl, hl2, q⟩ := h
    have hu := hr.units
    obtain ⟨cl, nz, ns, nd⟩ := S
    obtain ⟨cs, sb, st⟩ := SS
    obtain ⟨⟨ds, hs⟩, hb, ht, nbt⟩ := id hS
    have nvb : v ≠ b := fun z => by rw [z, hb] at hv; cases hv
    have nvt : v ≠ t := fun z => by rw [z, ht] at hv; cases hv
    refine ⟨_, (pss_cons (ps_if (pt_not (pt_val (pe_mt M_Shelf_can_take hG (hr.mono (by first | decide | omega)) passL (k_fld K (pv 0)) (pa_cons (pv 1) pa_nil)))) (pss_one ps_never) pss_nil) (pss_cons (ps_set (i := 2) scLiveShelf_take_book.nd rfl (Or.inl rfl) (pe_mt M_Shelf_take hG (hr.mono (by first | decide | omega)) passL (k_fld K (pv 0)) (pa_cons (pv 1) pa_nil))) (pss_cons (ps_expr (k_bmP K (pe_bm PySem.F.plainAttrs_list PySem.F.slot_list_append PySem.F.type_list_append mt_append (k_fld K (pv 0)) (pa_cons (pe_tup (pa_cons (pe_gc c_TAKE (by rfl)) (pa_cons (pv 1) (pa_cons (pv 1) (pa_cons (pv 2) (pa_cons (pe_op op_sub (pe_callB (k_len K) (by rfl) B.len Blen (pa_cons (k_fld K (k_fld K (pv 0))) pa_nil)) pe_int) pa_nil)))))) pa_nil)))) (pss_one (ps_ret (pv 2)))))), ?_⟩
    walk_at "s"
    refine ⟨s, b, t, bs, tk, p, i, rfl, hS, hp, ?_⟩
    walk_at "s"
    refine ⟨s, b, t, bs, tk, p, i, rfl, hS, hp, by omega, fun H1 hK1 hS1 => ?_⟩
    have hv1 := hK1 _ _ (by simp; exact ⟨nvb, nvt⟩) hv
    have hdn1 := hdn.kpl hK1 (by simp; exact ⟨n1.symm, n2.symm⟩) (by simp; exact ⟨⟨_, hb⟩, ⟨_, ht⟩⟩)
    obtain ⟨⟨ds1, hs1⟩, hb1, ht1, _⟩ := id hS1
    obtain ⟨as, g1, g2, g3⟩ := id hdn1
    walk_at "s"
    rw [vI_len, List.length_append, List.length_singleton]
    intro u nu
    have su := same_new (o := .tup [.str "take", .int p, .int p, .int i, .int (((tk.length + 1 : Nat) : Int) - 1)]) nu
    have eu : (((tk.length + 1 : Nat) : Int) - 1) = ((tk.length : Nat) : Int) := by omega
    rw [eu] at su ⊢
    obtain ⟨xs, x1, x2, x3⟩ := (hdn1.same su).app (t := u) (s := ⟨true, p, p, i, ((tk.length : Nat) : Int)⟩) upd_same
    have ex : xs = as.map V.ref := HO.lst.inj (Option.some.inj (x1.symm.trans (su _ _ g1)))
    subst ex
    have al : (as.map V.ref).length ≤ 900 := by rw [List.length_map, g2]; exact hl2
    walk_at "s"
    have nvd : v ≠ d := fun z => by rw [z, g1] at hv1; cases hv1
    have nsd : s ≠ d := fun z => by rw [z, g1] at hs1; cases hs1
    refine q _ (((hK1.more (by simp)).put nu).set (by simp)) ⟨⟨dx, (upd_ne nvd).trans (su _ _ hv1)⟩, ⟨⟨ds1, (upd_ne nsd).trans (su _ _ hs1)⟩, (upd_ne n1).trans (su _ _ hb1), (upd_ne n2).trans (su _ _ ht1), nbt⟩, x3, n1, n2⟩
def spLvReturn (CL CS : Addr) : Sp := fun vs H Q _ => ∃ (v s b t d : Addr) (n : Nat) (bs : List (Option Int)) (tk : List Int) (dn : List Stp) (p o : Nat) (i : Int), vs = [.ref v, .int i] ∧ LiveAt CL CS H v s b t d n bs tk dn ∧ 0 ≤ i ∧ bs[p]? = some none ∧ (∀ m : Nat, m < p → bs[m]? ≠ some none) ∧ tk[o]? = some i ∧ (∀ m : Nat, m < o → tk[m]? ≠ some i) ∧ dn.length ≤ 900 ∧
  ∀ H', KpL [b, t, d] H H' → LiveAt CL CS H' v s b t d n (bs.set p (some i)) (tk.erase i) (dn ++ [⟨false, i, p, i, o⟩]) → Q (.int p) H'
theorem ok_Live_return_book {CL CS f : Addr} {fd : FuncData} (B : Bn mg) (c_RETURN : Gc mg "RETURN" (.str "return")) (S : LvK K CL) (SS : ShK K CS) (M_Shelf_can_return : Mt P w K mg base 2 CS "can_return" [] (spCanReturn CS)) (M_Shelf_put_back : Mt P w K mg base 1 CS "put_back" [] (spPutBack CS)) (F : Fun K "return_book" "LiveShelf.return_book" SLiveShelf_return_book f fd) : FnG P w K mg base 3 f fd ["self", "book"] (spLvReturn CL CS) := by
  refine gok F scLiveShelf_return_book (fun vs H Q E h => ?_) (fun cdv A fs s H vs Q E hG hr h => ?_)
  · obtain ⟨_, _, _, _, _, _, _, _, _, _, _, _, rfl, _⟩ := h; rfl
  · obtain ⟨v, s, b, t, d, n, bs, tk, dn, p, o, i, rfl, ⟨⟨dx, hv⟩, hS, hdn, n1, n2⟩, h0, hp, hp2, ho, ho2, hl2, q⟩ := h
    have hu := hr.units
    obtain ⟨cl, nz, ns, nd⟩ := S
    obtain ⟨cs, sb, st⟩ := SS
    obtain ⟨⟨ds, hs⟩, hb, ht, nbt⟩ := id hS
    have nvb : v ≠ b := fun z => by rw [z, hb] at hv; cases hv
    have nvt : v ≠ t := fun z => by rw [z, ht] at hv; cases hv
    have him : i ∈ tk := List.mem_of_getElem? ho
    refine ⟨_, (pss_cons (ps_if (pt_not (pt_val (pe_mt M_Shelf_can_return hG (hr.mono (by first | decide | omega)) passL (k_fld K (pv 0)) (pa_cons (pv 1) pa_nil)))) (pss_one ps_never) pss_nil) (pss_cons (ps_set (i := 2) scLiveShelf_return_book.nd rfl (Or.inl rfl) (k_bmP K (pe_bm PySem.F.plainAttrs_list PySem.F.slot_list_index PySem.F.type_list_index (k_index K) (k_fld K (k_fld K (pv 0))) (pa_cons (pv 1) pa_nil)))) (pss_cons (ps_set (i := 3) scLiveShelf_return_book.nd rfl (Or.inl rfl) (pe_mt M_Shelf_put_back hG (hr.mono (by first | decide | omega)) passL (k_fld K (pv 0)) (pa_cons (pv 1) pa_nil))) (pss_cons (ps_expr (k_bmP K (pe_bm PySem.F.plainAttrs_list PySem.F.slot_list_append PySem.F.type_list_append mt_append (k_fld K (pv 0)) (pa_cons (pe_tup (pa_cons (pe_gc c_RETURN (by rfl)) (pa_cons (pv 1) (pa_cons (pv 3) (pa_cons (pv 1) (pa_cons (pv 2) pa_nil)))))) pa_nil)))) (pss_one (ps_ret (pv 3))))))), ?_⟩
    walk_at "s"
    refine ⟨s, b, t, bs, tk, i, rfl, hS, h0, him, ?_⟩
    walk_at "s"
    refine r_index (j := o) (z := .int i) (lst_of ht) rfl (flat_ints tk) (by unfold vI; rw [List.getElem?_map, ho]; rfl) (by show (i == i) = true; simp) (fun m z' hm hz => ?_) ?_
    · unfold vI at hz
      rw [List.getElem?_map] at hz
      cases hx : tk[m]? with
      | none => rw [hx] at hz; cases hz
      | some x =>
        rw [hx] at hz
        cases hz
        show (x == i) = false
        have : x ≠ i := fun z => ho2 m hm (by rw [hx, z])
        simpa using this
    walk_at "s"
    refine ⟨s, b, t, bs, tk, p, i, rfl, hS, hp, hp2, him, fun H1 hK1 hS1 => ?_⟩
    have hv1 := hK1 _ _ (by simp; exact ⟨nvb, nvt⟩) hv
    have hdn1 := hdn.kpl hK1 (by simp; exact ⟨n1.symm, n2.symm⟩) (by simp; exact ⟨⟨_, hb⟩, ⟨_, ht⟩⟩)
    obtain ⟨⟨ds1, hs1⟩, hb1, ht1, _⟩ := id hS1
    obtain ⟨as, g1, g2, g3⟩ := id hdn1
    walk_at "s"
    intro u nu
    have su := same_new (o := .tup [.str "return", .int i, .int p, .int i, .int ((o : Nat) : Int)]) nu
    obtain ⟨xs, x1, x2, x3⟩ := (hdn1.same su).app (t := u) (s := ⟨false, i, p, i, o⟩) upd_same
    have ex : xs = as.map V.ref := HO.lst.inj (Option.some.inj (x1.symm.trans (su _ _ g1)))
    subst ex
    have al : (as.map V.ref).length ≤ 900 := by rw [List.length_map, g2]; exact hl2
    walk_at "s"
    have nvd : v ≠ d := fun z => by rw [z, g1] at hv1; cases hv1
    have nsd : s ≠ d := fun z => by rw [z, g1] at hs1; cases hs1
    refine q _ (((hK1.more (by simp)).put nu).set (by simp)) ⟨⟨dx, (upd_ne nvd).trans (su _ _ hv1)⟩, ⟨⟨ds1, (upd_ne nsd).trans (su _ _ hs1)⟩, (upd_ne n1).trans (su _ _ hb1), (upd_ne n2).trans (su _ _ ht1), nbt⟩, x3, n1, n2⟩
end

abbrev SLiveShelf_undo : Stmt := inClass (topS 15) 8
abbrev NLiveShelf_undo : List Str := ["self", "kind", "value", "place", "book", "order"]
theorem scLiveShelf_undo : FnScope NLiveShelf_undo ["self"] (defScope SLiveShelf_undo) := ⟨rfl, rfl, rfl, by decide +kernel, rfl, by decide +kernel, by decide +kernel⟩
abbrev SLiveShelf_duplicate : Stmt := inClass (topS 15) 14
abbrev NLiveShelf_duplicate : List Str := ["self", "found"]
theorem scLiveShelf_duplicate : FnScope NLiveShelf_duplicate ["self"] (defScope SLiveShelf_duplicate) := ⟨rfl, rfl, rfl, by decide +kernel, rfl, by decide +kernel, by decide +kernel⟩

section
variable {P : Program} {w : World} {K : PySem.W.Frag} {mg : Str → Option Value} {base : Heap}
def spLvUndo (CL CS : Addr) : Sp := fun vs H Q _ => ∃ (v s b t d : Addr) (n : Nat) (bs : List (Option Int)) (tk : List Int) (dn : List Stp) (st : Stp) (p : Nat), vs = [.ref v] ∧ LiveAt CL CS H v s b t d n bs tk (dn ++ [st]) ∧ st.p = p ∧ p < bs.length ∧ tk.length ≤ 900 ∧ dn.length ≤ 900 ∧
  (st.k = true → ∃ tk0 i, tk = tk0 ++ [i] ∧ ∀ H', KpL [b, t, d] H H' → LiveAt CL CS H' v s b t d n (bs.set p (some st.b)) tk0 dn → Q .non H') ∧
  (st.k = false → ∃ o : Nat, st.o = o ∧ o ≤ tk.length ∧ ∀ H', KpL [b, t, d] H H' → LiveAt CL CS H' v s b t d n (bs.set p none) (tk.take o ++ [st.b] ++ tk.drop o) dn → Q .non H')
theorem SL.pop {H : Hp} {d : Addr} {dn : List Stp} {st : Stp} (h : SL H d (dn ++ [st])) : ∃ (as : List Addr) (u : Addr), H d = some (.lst (as.map V.ref ++ [.ref u])) ∧ H u = some (.tup (stV st)) ∧ SL (L2.upd H d (.lst (as.map V.ref))) d dn := by
  obtain ⟨as, h1, h2, h3⟩ := h
  rw [List.length_append, List.length_singleton] at h2
  have ne : as ≠ [] := fun z => by rw [z] at h2; simp at h2
  have e : as = as.dropLast ++ [as.getLast ne] := (List.dropLast_concat_getLast ne).symm
  generalize as.dropLast = bs at e
  generalize as.getLast ne = u at e
  subst e
  have bl : bs.length = dn.length := by rw [List.length_append, List.length_singleton] at h2; omega
  have hu : H u = some (.tup (stV st)) := h3 bs.length u st (by rw [List.getElem?_append_right (Nat.le_refl _), Nat.sub_self]; rfl) (by rw [bl, List.getElem?_append_right (Nat.le_refl _), Nat.sub_self]; rfl)
  refine ⟨bs, u, by rw [h1, List.map_append]; rfl, hu, bs, upd_same, bl, fun i a s e1 e2 => ?_⟩
  have hi := (List.getElem?_eq_some_iff.mp e1).1
  have z := h3 i a s (by rw [List.getElem?_append_left hi]; exact e1) (by rw [List.getElem?_append_left (by omega)]; exact e2)
  have ne2 : a ≠ d := fun q => by rw [q, h1] at z; cases z
  exact (upd_ne ne2).trans z
def stD (s : Stp) : PyData := .tuple [.str (kd s.k), .int s.x, .int s.p, .int s.b, .int s.o]
theorem SL.tr {H : Hp} {d : Addr} {dn : List Stp} (h : SL H d dn) (hl : dn.length ≤ 100000) : Tr (fun _ => True) H (.ref d) (.list (dn.map stD)) := by
  obtain ⟨as, h1, h2, h3⟩ := h
  refine .lst h1 trivial (by rw [List.length_map]; omega) (TrAll.of (by rw [List.length_map, List.length_map]; exact h2) fun i v d e1 e2 => ?_)
  rw [List.getElem?_map] at e1 e2
  cases ha : as[i]? with
  | none => rw [ha] at e1; cases e1
  | some a =>
    cases hc : dn[i]? with
    | none => rw [hc] at e2; cases e2
    | some c =>
      rw [ha] at e1
      rw [hc] at e2
      cases e1; cases e2
      exact .tup (h3 i a c ha hc) trivial (by show 5 ≤ 100000; decide) (.cons (.str _) (.cons (.int _) (.cons (.int _) (.cons (.int _) (.cons (.int _) .nil)))))
theorem canLay_st : ∀ dn : List Stp, PyData.canLayAll0 (dn.map stD) = true
  | [] => rfl
  | s :: dn => by
    have ih := canLay_st dn
    simp only [List.map_cons, PyData.canLayAll0, Bool.and_eq_true]
    refine ⟨?_, ih⟩
    simp [stD, PyData.canLay0, PyData.canLayAll0]
    cases s.k <;> decide +kernel
theorem shaped_st (dn : List Stp) : SeqAt.shaped (.list (dn.map stD)) = true := by
  unfold SeqAt.shaped
  have h1 : PyData.canLay0 (.list (dn.map stD)) = true := by unfold PyData.canLay0; exact canLay_st dn
  have h2 : PyData.depth (.list (dn.map stD)) ≤ 64 := by
    show PyData.depthAll (dn.map stD) + 1 ≤ 64
    have := depthAll_le (ds := dn.map stD) (m := 1) fun d hd => by
      obtain ⟨s, _, rfl⟩ := List.mem_map.mp hd
      exact Nat.le_refl _
    omega
  rw [h1, decide_eq_true h2]
  rfl
theorem eqv_st {dn : List Stp} (h : dn ≠ []) : PyData.eqv (.list (dn.map stD)) (.list []) = false := by
  cases dn with
  | nil => exact absurd rfl h
  | cons s dn => unfold PyData.eqv; rfl
theorem ok_Live_undo {CL CS f : Addr} {fd : FuncData} {k : Nat} (B : Bn mg) (c_TAKE : Gc mg "TAKE" (.str "take")) (S : LvK K CL) (SS : ShK K CS) (F : Fun K "undo" "LiveShelf.undo" SLiveShelf_undo f fd) : FnG P w K mg base (k + 1) f fd ["self"] (spLvUndo CL CS) := by
  refine gok F scLiveShelf_undo (fun vs H Q E h => ?_) (fun cdv A fs s H vs Q E hG hr h => ?_)
  · obtain ⟨_, _, _, _, _, _, _, _, _, _, _, rfl, _⟩ := h; rfl
  · obtain ⟨v, s, b, t, d, n, bs, tk, dn, st, p, rfl, ⟨⟨dx, hv⟩, ⟨⟨ds, hs⟩, hb, ht, nbt⟩, hdn, n1, n2⟩, ep, pl, hl1, hl2, qT, qR⟩ := h
    have hu := hr.units
    obtain ⟨cl, nz, ns, nd⟩ := S
    obtain ⟨cs, sb, st'⟩ := SS
    obtain ⟨as, u, g1, g2, g3⟩ := SL.pop hdn
    refine ⟨_, (pss_cons (ps_if (pt_cmpR (k_eqD K hu) (k_fld K (pv 0)) (pe_lst pa_nil) (nomark _)) (pss_one ps_never) pss_nil) (pss_cons (ps_asg (k_bm0P K (pe_bm0 PySem.F.plainAttrs_list PySem.F.slot_list_pop PySem.F.type_list_pop mt_pop (k_fld K (pv 0)))) (k_gtup (n := 5) K rfl (pgs_cons (pg_name (i := 1) scLiveShelf_undo.nd rfl (Or.inl rfl)) (pgs_cons (pg_name (i := 2) scLiveShelf_undo.nd rfl (Or.inl rfl)) (pgs_cons (pg_name (i := 3) scLiveShelf_undo.nd rfl (Or.inl rfl)) (pgs_cons (pg_name (i := 4) scLiveShelf_undo.nd rfl (Or.inl rfl)) (pgs_cons (pg_name (i := 5) scLiveShelf_undo.nd rfl (Or.inl rfl)) pgs_nil))))))) (pss_one (ps_if (pt_cmpR op_eq (pv 1) (pe_gc c_TAKE (by rfl)) (nomark _)) (pss_cons (ps_asg (pv 4) (pg_sub (k_fld K (k_fld K (pv 0))) (pv 3) set_list)) (pss_one (ps_expr (k_bm0P K (pe_bm0 PySem.F.plainAttrs_list PySem.F.slot_list_pop PySem.F.type_list_pop mt_pop (k_fld K (k_fld K (pv 0)))))))) (pss_cons (ps_asg pe_non (pg_sub (k_fld K (k_fld K (pv 0))) (pv 3) set_list)) (pss_one (ps_expr (k_bmP K (pe_bm PySem.F.plainAttrs_list PySem.F.slot_list_insert PySem.F.type_list_insert mt_insertV (k_fld K (k_fld K (pv 0))) (pa_cons (pv 5) (pa_cons (pv 4) pa_nil))))))))))), ?_⟩
    walk_at "s"
    intro e ne
    have se := same_new (o := .lst []) ne
    refine ⟨_, _, (hdn.same se).tr (by rw [List.length_append, List.length_singleton]; omega) |>.dp, .lst (lst_of upd_same) .nil, shaped_st _, by decide, ?_⟩
    rw [eqv_st (by simp)]
    have g1e := se _ _ g1
    have g2e := se _ _ g2
    have hve := se _ _ hv
    walk_at "s"
    refine r_pop g1e ?_
    have nud : u ≠ d := fun z => by rw [z, g1] at g2; cases g2
    have g2d : upd (upd H e (.lst [])) d (.lst (as.map V.ref)) u = some (.tup (stV st)) := (upd_ne nud).trans g2e
    have hvd : v ≠ d := fun z => by rw [z, g1] at hv; cases hv
    have hsd : s ≠ d := fun z => by rw [z, g1] at hs; cases hs
    have nvb : v ≠ b := fun z => by rw [z, hb] at hv; cases hv
    have nvt : v ≠ t := fun z => by rw [z, ht] at hv; cases hv
    have nsb : s ≠ b := fun z => by rw [z, hb] at hs; cases hs
    have nst : s ≠ t := fun z => by rw [z, ht] at hs; cases hs
    have hv1 : upd (upd H e (.lst [])) d (.lst (as.map V.ref)) v = some (.ins CL dx (lvF n s d)) := (upd_ne hvd).trans hve
    have hs1 : upd (upd H e (.lst [])) d (.lst (as.map V.ref)) s = some (.ins CS ds (shF b t)) := (upd_ne hsd).trans (se _ _ hs)
    have hb1 : upd (upd H e (.lst [])) d (.lst (as.map V.ref)) b = some (.lst (vB bs)) := (upd_ne n1).trans (se _ _ hb)
    have ht1 : upd (upd H e (.lst [])) d (.lst (as.map V.ref)) t = some (.lst (vI tk)) := (upd_ne n2).trans (se _ _ ht)
    have k1 : KpL [b, t, d] H (upd (upd H e (.lst [])) d (.lst (as.map V.ref))) := (KpL.of se).set (by simp)
    have dn1 : SL (upd (upd H e (.lst [])) d (.lst (as.map V.ref))) d dn := by
      obtain ⟨as2, u2, q1, _, q3⟩ := SL.pop (hdn.same se)
      have e2 := HO.lst.inj (Option.some.inj (g1e.symm.trans q1))
      have e3 : as.map V.ref = as2.map V.ref := by
        have := congrArg List.dropLast e2
        rwa [List.dropLast_concat, List.dropLast_concat] at this
      rw [e3]
      exact q3
    generalize upd (upd H e (.lst [])) d (.lst (as.map V.ref)) = H1 at *
    obtain ⟨sk, sx, sp, sbk, so⟩ := st
    have ep' : sp = p := ep
    subst ep'
    have g2l : H1 u = some (.tup [V.str (kd sk), .int sx, .int (p : Int), .int sbk, .int so]) := g2d
    clear g2d
    have e1 : ixN (vB bs).length (p : Int) = some p := by rw [vB_len, ixN_ok (by omega) (by omega), Int.toNat_natCast]
    walk_at "s"
    cases sk with
    | true =>
      obtain ⟨tk0, i, rfl, q⟩ := qT rfl
      try refine ifDT (by decide) ?_
      walk_at "s"
      have ht2 : upd H1 b (.lst ((vB bs).set p (.int sbk))) t = some (.lst (vI tk0 ++ [.int i])) := (upd_ne nbt.symm).trans (ht1.trans (by rw [show vI (tk0 ++ [i]) = vI tk0 ++ [V.int i] from (vI_app tk0 [i]).symm]))
      refine r_pop ht2 ?_
      walk_at "s"
      refine q _ ((k1.set (by simp)).set (by simp)) ⟨⟨dx, (upd_ne nvt).trans ((upd_ne nvb).trans hv1)⟩, ⟨⟨ds, (upd_ne nst).trans ((upd_ne nsb).trans hs1)⟩, ?_, upd_same, nbt⟩, (dn1.set n1.symm hb1).set n2.symm ht2, n1, n2⟩
      rw [upd_ne nbt, upd_same]
      exact congrArg (fun l => some (HO.lst l)) (vB_set bs p (some sbk))
    | false =>
      obtain ⟨o, eo, ho, q⟩ := qR rfl
      have eo' : so = o := eo
      subst eo'
      try refine ifDF (by decide) ?_
      walk_at "s"
      have ht2 : upd H1 b (.lst ((vB bs).set p .non)) t = some (.lst (vI tk)) := (upd_ne nbt.symm).trans ht1
      refine r_insert (i := o) ht2 (by rw [vI_len]; omega) (by omega) ?_
      walk_at "s"
      refine q _ ((k1.set (by simp)).set (by simp)) ⟨⟨dx, (upd_ne nvt).trans ((upd_ne nvb).trans hv1)⟩, ⟨⟨ds, (upd_ne nst).trans ((upd_ne nsb).trans hs1)⟩, ?_, ?_, nbt⟩, (dn1.set n1.symm hb1).set n2.symm ht2, n1, n2⟩
      · rw [upd_ne nbt, upd_same]
        exact congrArg (fun l => some (HO.lst l)) (vB_set bs p none)
      · rw [upd_same, vI_take, vI_drop]
        exact congrArg (fun l => some (HO.lst l)) (by rw [show [V.int sbk] = vI [sbk] from rfl, vI_app, vI_app])
def spLvDup (CL CS : Addr) : Sp := fun vs H Q _ => ∃ (v s b t d : Addr) (n : Nat) (bs : List (Option Int)) (tk : List Int) (dn : List Stp), vs = [.ref v] ∧ LiveAt CL CS H v s b t d n bs tk dn ∧ 1 ≤ n ∧ n ≤ 200 ∧ dn.length ≤ 90000 ∧ ∀ H' v' s' b' t' d', Same H H' → H v' = none → H s' = none → H b' = none → H t' = none → H d' = none → LiveAt CL CS H' v' s' b' t' d' n bs tk dn → Q (.ref v') H'
theorem ok_Live_duplicate {CL CS f : Addr} {fd : FuncData} (B : Bn mg) (S : LvK K CL) (SS : ShK K CS) (N_LiveShelf : Cn P w K mg base 3 "LiveShelf" CL [] (spLvInit CL CS)) (F : Fun K "duplicate" "LiveShelf.duplicate" SLiveShelf_duplicate f fd) : FnG P w K mg base 5 f fd ["self"] (spLvDup CL CS) := by
  refine gok F scLiveShelf_duplicate (fun vs H Q E h => ?_) (fun cdv A fs s H vs Q E hG hr h => ?_)
  · obtain ⟨_, _, _, _, _, _, _, _, _, rfl, _⟩ := h; rfl
  · obtain ⟨v, s, b, t, d, n, bs, tk, dn, rfl, hL, hn1, hn2, hdl, q⟩ := h
    have hu := hr.units
    have hL' := hL
    obtain ⟨⟨dx, hv⟩, ⟨⟨ds, hs⟩, hb, ht, nbt⟩, ⟨as, a1, a2, a3⟩, n1, n2⟩ := hL'
    obtain ⟨cl, nz, ns, nd⟩ := S
    obtain ⟨cs, sb, st'⟩ := SS
    refine ⟨_, (pss_cons (ps_set (i := 1) scLiveShelf_duplicate.nd rfl (Or.inl rfl) (pe_cn N_LiveShelf hG (hr.mono (by first | decide | omega)) passL (by rfl) (pa_cons (k_fld K (pv 0)) pa_nil))) (pss_cons (ps_fld (k_fld K (pv 1)) (pe_callTy (k_list K) (by rfl) B.list Tlist (pa_cons (k_fld K (k_fld K (pv 0))) pa_nil)) rfl) (pss_cons (ps_fld (k_fld K (pv 1)) (pe_callTy (k_list K) (by rfl) B.list Tlist (pa_cons (k_fld K (k_fld K (pv 0))) pa_nil)) rfl) (pss_cons (ps_fld (pv 1) (pe_callTy (k_list K) (by rfl) B.list Tlist (pa_cons (k_fld K (pv 0)) pa_nil)) rfl) (pss_one (ps_ret (pv 1))))))), ?_⟩
    walk_at "s"
    intro v2 dv nv2 ndv2 ndne
    have s0 : Same H (upd (upd H dv (.own v2)) v2 (.ins CL dv [])) := (same_new ndv2).trans (same_new (by rw [upd_ne ndne.symm]; exact nv2))
    refine ⟨v2, dv, n, rfl, upd_same, hn1, hn2, fun H1 s2 b2 t2 d2 hK1 ns2 nb2 nt2 nd2 hL1 => ⟨rfl, ?_⟩⟩
    have s1 : Same H H1 := fun x o hx => hK1 x o (by simp; intro e; rw [e, nv2] at hx; cases hx) (s0 _ _ hx)
    have ns20 := s0.free ns2
    obtain ⟨⟨dx1, hv1⟩, ⟨⟨ds1, hs1⟩, hb1, ht1, nbt1⟩, ⟨as1, c1, c2, c3⟩, m1, m2⟩ := hL1
    have hv' := s1 _ _ hv
    have hs' := s1 _ _ hs
    have hb' := s1 _ _ hb
    have ht' := s1 _ _ ht
    have a1' := s1 _ _ a1
    walk_at "s"
    intro b3 nb3
    have z1 := same_new (o := .lst (vB bs)) nb3
    have nb3s : s2 ≠ b3 := ne_new nb3 hs1
    have hv3 := z1 _ _ hv1
    have hs3 := z1 _ _ hs1
    walk_at "s"
    rw [put2_1]
    have nss : s ≠ s2 := fun e => by rw [e, ns20] at hs; cases hs
    have nvs : v ≠ s2 := fun e => by rw [e, ns20] at hv; cases hv
    have nts : t ≠ s2 := fun e => by rw [e, ns20] at ht; cases ht
    have nds : d ≠ s2 := fun e => by rw [e, ns20] at a1; cases a1
    have nv2s : v2 ≠ s2 := fun e => by rw [e, hs1] at hv1; cases hv1
    have H4eq : ∀ x o, x ≠ s2 → H1 x = some o → upd (upd H1 b3 (.lst (vB bs))) s2 (.ins CS ds1 [(("books" : Str), V.ref b3), ("taken", V.ref t2)]) x = some o := fun x o ne h => (upd_ne ne).trans (z1 _ _ h)
    have hv4 := H4eq _ _ nvs hv'
    have hs4 := H4eq _ _ nss hs'
    have ht4 := H4eq _ _ nts ht'
    have hv24 := H4eq _ _ nv2s hv1
    walk_at "s"
    have hs24 : upd (upd H1 b3 (.lst (vB bs))) s2 (.ins CS ds1 [(("books" : Str), V.ref b3), ("taken", V.ref t2)]) s2 = some (.ins CS ds1 [(("books" : Str), V.ref b3), ("taken", V.ref t2)]) := upd_same
    have hb4 : upd (upd H1 b3 (.lst (vB bs))) s2 (.ins CS ds1 [(("books" : Str), V.ref b3), ("taken", V.ref t2)]) b3 = some (.lst (vB bs)) := (upd_ne nb3s.symm).trans upd_same
    have ha4 := H4eq _ _ nds a1'
    have has4 : ∀ x o, x ≠ s2 → H1 x = some o → upd (upd H1 b3 (.lst (vB bs))) s2 (.ins CS ds1 [(("books" : Str), V.ref b3), ("taken", V.ref t2)]) x = some o := H4eq
    have nb30 : H b3 = none := s1.free nb3
    generalize upd (upd H1 b3 (.lst (vB bs))) s2 (.ins CS ds1 [(("books" : Str), V.ref b3), ("taken", V.ref t2)]) = H4 at *
    intro t3 nt3
    have z2 := same_new (o := .lst (vI tk)) nt3
    have hv5 := z2 _ _ hv24
    have hs5 := z2 _ _ hs24
    have nt3s : s2 ≠ t3 := ne_new nt3 hs24
    walk_at "s"
    rw [put2_2 (by decide +kernel)]
    have H6eq : ∀ x o, x ≠ s2 → H4 x = some o → upd (upd H4 t3 (.lst (vI tk))) s2 (.ins CS ds1 [(("books" : Str), V.ref b3), ("taken", V.ref t3)]) x = some o := fun x o ne h => (upd_ne ne).trans (z2 _ _ h)
    have hv6 := H6eq _ _ nvs hv4
    have ha6 := H6eq _ _ nds ha4
    have hv26 := H6eq _ _ nv2s hv24
    have hb6 := H6eq _ _ nb3s.symm hb4
    have ht6 : upd (upd H4 t3 (.lst (vI tk))) s2 (.ins CS ds1 [(("books" : Str), V.ref b3), ("taken", V.ref t3)]) t3 = some (.lst (vI tk)) := (upd_ne nt3s.symm).trans upd_same
    have hs26 : upd (upd H4 t3 (.lst (vI tk))) s2 (.ins CS ds1 [(("books" : Str), V.ref b3), ("taken", V.ref t3)]) s2 = some (.ins CS ds1 [(("books" : Str), V.ref b3), ("taken", V.ref t3)]) := upd_same
    have nbt3 : b3 ≠ t3 := ne_new nt3 hb4
    have nt40 : ∀ x o, x ≠ s2 → H1 x = some o → H4 x = some o := has4
    have nt30 : H t3 = none := by
      cases e : H t3 with
      | none => rfl
      | some o =>
        have := nt40 t3 o (fun q => nt3s q.symm) (s1 _ _ e)
        rw [nt3] at this
        cases this
    generalize upd (upd H4 t3 (.lst (vI tk))) s2 (.ins CS ds1 [(("books" : Str), V.ref b3), ("taken", V.ref t3)]) = H6 at *
    walk_at "s"
    intro d3 nd3
    have z3 := same_new (o := .lst (as.map V.ref)) nd3
    have hv7 := z3 _ _ hv26
    have nd3v : v2 ≠ d3 := ne_new nd3 hv26
    walk_at "s"
    rw [put3_3 (by decide +kernel) (by decide +kernel)]
    have H8eq : ∀ x o, x ≠ v2 → H6 x = some o → upd (upd H6 d3 (.lst (as.map V.ref))) v2 (.ins CL dx1 [(("size" : Str), V.int (n : Int)), ("shelf", V.ref s2), ("done", V.ref d3)]) x = some o := fun x o ne h => (upd_ne ne).trans (z3 _ _ h)
    have nv2b : b3 ≠ v2 := fun e => by rw [e, hv26] at hb6; cases hb6
    have nv2t : t3 ≠ v2 := fun e => by rw [e, hv26] at ht6; cases ht6
    have all : ∀ x o, H x = some o → upd (upd H6 d3 (.lst (as.map V.ref))) v2 (.ins CL dx1 [(("size" : Str), V.int (n : Int)), ("shelf", V.ref s2), ("done", V.ref d3)]) x = some o := fun x o hx => by
      have a1 : x ≠ s2 := fun e => by rw [e, ns20] at hx; cases hx
      have a2 : x ≠ v2 := fun e => by rw [e, nv2] at hx; cases hx
      exact H8eq _ _ a2 (H6eq _ _ a1 (nt40 _ _ a1 (s1 _ _ hx)))
    have nd30 : H d3 = none := by
      cases e : H d3 with
      | none => rfl
      | some o =>
        have a1 : d3 ≠ s2 := fun q => by rw [q, ns20] at e; cases e
        have := H6eq _ _ a1 (nt40 d3 o a1 (s1 _ _ e))
        rw [nd3] at this
        cases this
    walk_at "s"
    refine q _ v2 s2 b3 t3 d3 all nv2 ns20 nb30 nt30 nd30 ⟨⟨dx1, upd_same⟩, ⟨⟨ds1, H8eq _ _ nv2s.symm hs26⟩, H8eq _ _ nv2b hb6, H8eq _ _ nv2t ht6, nbt3⟩, ⟨as, (upd_ne nd3v.symm).trans upd_same, a2, fun i x st e1 e2 => all _ _ (a3 i x st e1 e2)⟩, ne_new nd3 hb6, ne_new nd3 ht6⟩
end

abbrev Slaw_reel : Stmt := topS 17
abbrev Nlaw_reel : List Str := ["script", "stir", "cell", "great"]
theorem sclaw_reel : FnScope Nlaw_reel ["script"] (defScope Slaw_reel) := ⟨rfl, rfl, rfl, by decide +kernel, rfl, by decide +kernel, by decide +kernel⟩
abbrev Slaw_draw : Stmt := topS 18
abbrev Nlaw_draw : List Str := ["reel", "many", "rest", "extra", "stir"]
theorem sclaw_draw : FnScope Nlaw_draw ["reel", "many"] (defScope Slaw_draw) := ⟨rfl, rfl, rfl, by decide +kernel, rfl, by decide +kernel, by decide +kernel⟩

abbrev RM : Int := 170141183460469231731687303715884105727
/-- the reel at r; the places of B are none of its own -/
def RA (H : Hp) (r : Addr) (B : List Addr) : Prop := ∃ (g c : Addr) (gs cs : List Int) (k t : Int), H r = some (.lst [.ref g, .ref c, .int k, .int t]) ∧ H g = some (.lst (vI gs)) ∧ H c = some (.lst (vI cs)) ∧ g ≠ r ∧ c ≠ r ∧ gs.length ≤ 100000 ∧ 1 ≤ cs.length ∧ cs.length ≤ 100000 ∧ 0 ≤ t ∧ t < 2 ^ 140 ∧
  ∀ x ∈ B, x ≠ r ∧ x ≠ g ∧ x ≠ c ∧ H x ≠ none
theorem RA.same {H H' : Hp} {r : Addr} {B : List Addr} (h : RA H r B) (s : Same H H') : RA H' r B := by
  obtain ⟨g, c, gs, cs, k, t, h1, h2, h3, n1, n2, l1, l2, l3, t0, t1, hb⟩ := h
  refine ⟨g, c, gs, cs, k, t, s _ _ h1, s _ _ h2, s _ _ h3, n1, n2, l1, l2, l3, t0, t1, fun x hx => ?_⟩
  obtain ⟨a, b, d, e⟩ := hb x hx
  refine ⟨a, b, d, ?_⟩
  obtain ⟨o, ho⟩ := Option.ne_none_iff_exists'.mp e
  rw [s _ _ ho]; simp
theorem RA.got {H : Hp} {r : Addr} {B : List Addr} (h : RA H r B) : H r ≠ none := by
  obtain ⟨g, c, gs, cs, k, t, h1, _⟩ := h
  rw [h1]; simp
theorem RA.ne {H : Hp} {r p : Addr} {B : List Addr} (h : RA H r B) (e : H p = none) : r ≠ p := fun z => h.got (z ▸ e)
theorem RA.less {H : Hp} {r : Addr} {B B' : List Addr} (h : RA H r B) (s : ∀ x ∈ B', x ∈ B) : RA H r B' := by
  obtain ⟨g, c, gs, cs, k, t, h1, h2, h3, n1, n2, l1, l2, l3, t0, t1, hb⟩ := h
  exact ⟨g, c, gs, cs, k, t, h1, h2, h3, n1, n2, l1, l2, l3, t0, t1, fun x hx => hb x (s x hx)⟩
theorem RA.off {H : Hp} {r x : Addr} {B : List Addr} (h : RA H r B) (hx : x ∈ B) : x ≠ r := by
  obtain ⟨g, c, gs, cs, k, t, h1, h2, h3, n1, n2, l1, l2, l3, t0, t1, hb⟩ := h
  exact (hb x hx).1
/-- a new place -/
theorem RA.new {H : Hp} {r p : Addr} {o : HO} {B : List Addr} (h : RA H r B) (e : H p = none) : RA (L2.upd H p o) r (p :: B) := by
  obtain ⟨g, c, gs, cs, k, t, h1, h2, h3, n1, n2, l1, l2, l3, t0, t1, hb⟩ := h
  have d1 : p ≠ r := fun z => by rw [z, h1] at e; cases e
  have d2 : p ≠ g := fun z => by rw [z, h2] at e; cases e
  have d3 : p ≠ c := fun z => by rw [z, h3] at e; cases e
  refine ⟨g, c, gs, cs, k, t, (upd_ne d1.symm).trans h1, (upd_ne d2.symm).trans h2, (upd_ne d3.symm).trans h3, n1, n2, l1, l2, l3, t0, t1, fun x hx => ?_⟩
  rcases List.mem_cons.mp hx with rfl | hx
  · exact ⟨d1, d2, d3, by rw [upd_same]; simp⟩
  · obtain ⟨a, b, d, z⟩ := hb x hx
    exact ⟨a, b, d, by rw [upd_ne (fun q : x = p => z (by rw [q]; exact e))]; exact z⟩
/-- a change at one of B -/
theorem RA.set {H : Hp} {r p : Addr} {o : HO} {B : List Addr} (h : RA H r B) (hp : p ∈ B) : RA (L2.upd H p o) r B := by
  obtain ⟨g, c, gs, cs, k, t, h1, h2, h3, n1, n2, l1, l2, l3, t0, t1, hb⟩ := h
  obtain ⟨d1, d2, d3, _⟩ := hb p hp
  refine ⟨g, c, gs, cs, k, t, (upd_ne d1.symm).trans h1, (upd_ne d2.symm).trans h2, (upd_ne d3.symm).trans h3, n1, n2, l1, l2, l3, t0, t1, fun x hx => ?_⟩
  obtain ⟨a, b, d, z⟩ := hb x hx
  refine ⟨a, b, d, ?_⟩
  by_cases e : x = p
  · rw [e, upd_same]; simp
  · rw [upd_ne e]; exact z
theorem ra_off {H H4 : Hp} {r g c p : Addr} {B : List Addr} {o o' : HO} (hb : ∀ x ∈ B, x ≠ r ∧ x ≠ g ∧ x ≠ c ∧ H x ≠ none) (s : Same H H4) (n : H4 p = none) : ∀ x ∈ B, x ≠ r ∧ x ≠ p ∧ x ≠ c ∧ L2.upd (L2.upd H4 p o) r o' x ≠ none := by
  intro x hx
  obtain ⟨a, b, d, z⟩ := hb x hx
  obtain ⟨u, hu⟩ := Option.ne_none_iff_exists'.mp z
  have h4 := s _ _ hu
  have np : x ≠ p := fun q => by rw [q, n] at h4; cases h4
  exact ⟨a, np, d, by rw [upd_ne a, upd_ne np, h4]; simp⟩
theorem rep_flat (n : Nat) (x : Int) : (List.replicate n [V.int x]).flatten = vI (List.replicate n x) := by
  induction n with
  | zero => rfl
  | succ n ih => rw [List.replicate_succ, List.flatten_cons, ih, List.replicate_succ]; rfl
section
variable {P : Program} {w : World} {K : PySem.W.Frag} {mg : Str → Option Value} {base : Heap}
def spDraw : Sp := fun vs H Q _ => ∃ (r : Addr) (n : Int) (B : List Addr), vs = [.ref r, .int n] ∧ RA H r B ∧ 0 < n ∧ n < 2 ^ 200 ∧ ∀ d H', 0 ≤ d → d < n → RA H' r B → Kp r H H' → Q (.int d) H'
theorem rM : ∀ y : Int, 0 ≤ y % RM ∧ y % RM < RM := fun y => ⟨Int.emod_nonneg _ (by decide), Int.emod_lt_of_pos _ (by decide)⟩
theorem rMe : (2 : Int) ^ Int.toNat 64 * 2 ^ Int.toNat 63 - 1 = RM := by decide +kernel
theorem ok_law_draw {f : Addr} {fd : FuncData} {k : Nat} (B : Bn mg) (F : Fun K "_law_draw" "_law_draw" Slaw_draw f fd) : FnG P w K mg base (k + 1) f fd ["reel", "many"] spDraw := by
  refine gok F sclaw_draw (fun vs H Q E h => ?_) (fun cdv A fs s H vs Q E hG hr h => ?_)
  · obtain ⟨r, n, _, rfl, _⟩ := h; rfl
  · obtain ⟨r, n, Bx, rfl, ⟨g, c, gs, cs, k, t, hR, hg, hc, ngr, ncr, l1, l2, l3, t0, t1, hb⟩, hn, hn2, q⟩ := h
    have hu := hr.units
    have md : ∀ y : Int, 0 ≤ y % n ∧ y % n < n := fun y => ⟨Int.emod_nonneg _ (by omega), Int.emod_lt_of_pos _ hn⟩
    refine ⟨_, (pss_cons (ps_if (pt_cmpR (k_neD K hu) (pe_ix (k_ixL K) (pv 0) pe_int (fun _ _ => rfl)) (pe_lst pa_nil) (nomark _)) (pss_cons (ps_set (i := 2) sclaw_draw.nd rfl (Or.inl rfl) (pe_ix (k_ixL K) (pe_ix (k_ixL K) (pv 0) pe_int (fun _ _ => rfl)) pe_int (fun _ _ => rfl))) (pss_cons (ps_asg (pe_op op_cat (pe_op op_rep (pe_lst (pa_cons (pe_op op_fdivW (pv 2) (pv 1)) pa_nil)) (pe_callTy call_int1' (by rfl) B.int Tint (pa_cons (pe_cmpR op_ge (pv 2) (pv 1) (nomark _)) pa_nil))) (pe_slice (k_slL K) (pe_ix (k_ixL K) (pv 0) pe_int (fun _ _ => rfl)) (po_some pe_int) po_none)) (pg_sub (pv 0) pe_int set_list)) (pss_one (ps_ret (pe_op op_mod (pv 2) (pv 1)))))) pss_nil) (pss_cons (ps_asg (pe_op op_add (pe_ix (k_ixL K) (pv 0) pe_int (fun _ _ => rfl)) pe_int) (pg_sub (pv 0) pe_int set_list)) (pss_cons (ps_set (i := 3) sclaw_draw.nd rfl (Or.inl rfl) (pe_ix (k_ixL K) (pe_ix (k_ixL K) (pv 0) pe_int (fun _ _ => rfl)) (pe_op op_mod (pe_ix (k_ixL K) (pv 0) pe_int (fun _ _ => rfl)) (pe_callB (k_len K) (by rfl) B.len Blen (pa_cons (pe_ix (k_ixL K) (pv 0) pe_int (fun _ _ => rfl)) pa_nil))) (fun _ _ => rfl))) (pss_cons (ps_set (i := 4) sclaw_draw.nd rfl (Or.inl rfl) (pe_op op_add (pe_op op_add (pe_op op_mulW (pe_ix (k_ixL K) (pv 0) pe_int (fun _ _ => rfl)) (pe_ix (k_ixL K) (pv 0) pe_int (fun _ _ => rfl))) (pe_op op_mul (pe_op op_add (pv 3) pe_int) pe_int)) (pe_op op_mul (pe_ix (k_ixL K) (pv 0) pe_int (fun _ _ => rfl)) pe_int))) (pss_cons (ps_asg (pe_op op_mod (pv 4) (pe_op op_sub (pe_op op_mul (pe_op op_pow pe_int pe_int) (pe_op op_pow pe_int pe_int)) pe_int)) (pg_sub (pv 0) pe_int set_list)) (pss_one (ps_ret (pe_op op_mod (pe_op op_fdivW (pe_ix (k_ixL K) (pv 0) pe_int (fun _ _ => rfl)) (pe_op op_pow pe_int pe_int)) (pv 1))))))))), ?_⟩
    walk_at "s"
    intro e ne
    have s1 := same_new (o := .lst []) ne
    refine r_neLI (xs := gs) (ys := []) (lst_of (s1 _ _ hg)) (lst_of upd_same) ?_
    walk_at "s"
    refine ifN (fun h0 => ?_) (fun h0 => ?_)
    · obtain ⟨x, gt, rfl⟩ : ∃ x gt, gs = x :: gt := by
        cases gs with
        | nil => exact absurd rfl h0
        | cons x gt => exact ⟨x, gt, rfl⟩
      have hR1 := s1 _ _ hR
      have hg1 := s1 _ _ hg
      have e0 : atI (vI (x :: gt)) 0 = some (.int x) := atI_ok (by decide) rfl
      walk_at "s"
      intro p1 n1
      have s2 := s1.trans (same_new (o := .lst [.int (x / n)]) n1)
      walk_at "s"
      have em : (if decide (n ≤ x) = true then (1 : Int) else 0) = (((if n ≤ x then 1 else 0 : Nat)) : Int) := by
        by_cases h : n ≤ x
        · rw [decide_eq_true h, if_pos h]; rfl
        · rw [decide_eq_false h, if_neg h]; rfl
      rw [em]
      have lm : (if n ≤ x then 1 else 0 : Nat) ≤ 1 := by split <;> decide
      generalize (if n ≤ x then 1 else 0 : Nat) = m at lm
      refine r_rep upd_same (by show 1 * m ≤ 100000; omega) (by omega) fun p2 n2 => ?_
      rw [rep_flat]
      have s3 := s2.trans (same_new (o := .lst (vI (List.replicate m (x / n)))) n2)
      have hR3 := s3 _ _ hR
      have hg3 := s3 _ _ hg
      walk_at "s"
      intro p3 n3
      rw [show cutV (vI (x :: gt)) (some 1) none = vI gt from (cut_lo (k := 1)).trans rfl]
      have s4 := s3.trans (same_new (o := .lst (vI gt)) n3)
      refine r_cat (xs := vI (List.replicate m (x / n))) (zs := vI gt) (by walk_at "hp") upd_same (sz (by rw [vI_len, vI_len, List.length_replicate]; have : gt.length + 1 ≤ 100000 := l1; omega)) fun p4 n4 => ?_
      rw [vI_app]
      have s5 := s4.trans (same_new (o := .lst (vI (List.replicate m (x / n) ++ gt))) n4)
      have hR5 := s5 _ _ hR
      have hc5 := s5 _ _ hc
      have n4r : p4 ≠ r := (ne_new n4 (s4 _ _ hR)).symm
      walk_at "s"
      refine q _ _ (md _).1 (md _).2 ⟨p4, c, _, cs, k, t, upd_same, (upd_ne n4r).trans upd_same, (upd_ne ncr).trans hc5, n4r, ncr, ?_, l2, l3, t0, t1, ra_off hb s4 n4⟩ ((Kp.of s5).trans Kp.set)
      rw [List.length_append, List.length_replicate]
      have : gt.length + 1 ≤ 100000 := l1
      omega
    · subst h0
      have hR1 := s1 _ _ hR
      have hg1 := s1 _ _ hg
      have hc1 := s1 _ _ hc
      have ner : e ≠ r := fun z => by rw [z, hR] at ne; cases ne
      have cl : ((vI cs).length : Int) = (cs.length : Int) := by rw [vI_len]
      walk_at "s"
      rw [cl]
      have j0 : 0 ≤ (k + 1) % (cs.length : Int) := Int.emod_nonneg _ (by omega)
      have j1 : (k + 1) % (cs.length : Int) < (cs.length : Int) := Int.emod_lt_of_pos _ (by omega)
      have hc2 : upd (upd H e (.lst [])) r (.lst ([V.ref g, .ref c, .int k, .int t].set (Int.toNat 2) (.int (k + 1)))) c = some (.lst (vI cs)) := (upd_ne ncr).trans hc1
      refine r_ixL (lst_of hc2) (atI_ints j0 j1) ?_
      walk_at "s"
      have tb : t.natAbs < 2 ^ 140 := by omega
      refine r_I (wide_mul (a := 140) (b := 140) tb tb (by decide) (by decide) (by decide)) ?_
      walk_at "s"
      rw [rMe]
      exact q _ _ (md _).1 (md _).2 ⟨g, c, _, cs, _, _, upd_same, (upd_ne ngr).trans ((upd_ne ngr).trans hg1), (upd_ne ncr).trans ((upd_ne ncr).trans hc1), ngr, ncr, l1, l2, l3, (rM _).1, Int.lt_trans (rM _).2 (by decide), fun x hx => by
        obtain ⟨a, b, d, z⟩ := hb x hx
        obtain ⟨u, hu⟩ := Option.ne_none_iff_exists'.mp z
        refine ⟨a, b, d, ?_⟩
        rw [upd_ne a, upd_ne a, s1 _ _ hu]; simp⟩ ((Kp.of s1).trans (Kp.set.trans Kp.set))
def spReel (K : PySem.W.Frag) : Sp := fun vs H Q _ => ∃ (a : Addr) (ns : List Int), vs = [.ref a] ∧ SqL K H a (ns.map V.int) ∧ ns.length ≤ 63 ∧ ∀ H' r, Same H H' → H r = none → RA H' r [] → Q (.ref r) H'
theorem giv_ints (n : Nat) (p : Nat → Bool) (f : Nat → Int) : giv n p (fun i => .int (f i)) = vI (((List.range n).filter p).map f) := by
  unfold giv vI
  rw [List.map_map]
  rfl
theorem ok_law_reel {f : Addr} {fd : FuncData} {k : Nat} (B : Bn mg) (F : Fun K "_law_reel" "_law_reel" Slaw_reel f fd) : FnG P w K mg base (k + 1) f fd ["script"] (spReel K) := by
  refine gok F sclaw_reel (fun vs H Q E h => ?_) (fun cdv A fs s H vs Q E hG hr h => ?_)
  · obtain ⟨_, _, rfl, _⟩ := h; rfl
  · obtain ⟨a, ns, rfl, hA, hl, q⟩ := h
    have hu := hr.units
    refine ⟨_, (pss_cons (ps_set (i := 1) sclaw_reel.nd rfl (Or.inl rfl) (pe_op op_pow pe_int pe_int)) (pss_cons (ps_for (passes_of rfl) rfl (k_piL K (pe_slice (k_slL K) (pv 0) po_none (po_some pe_int))) (pg_name (i := 2) sclaw_reel.nd rfl (Or.inl rfl)) (pss_one (ps_set (i := 1) sclaw_reel.nd rfl (Or.inl rfl) (pe_op op_mod (pe_op op_add (pe_op op_add (pe_op op_mulW (pv 1) (pv 1)) (pe_op op_mod (pv 2) pe_int)) pe_int) (pe_op op_sub (pe_op op_mul (pe_op op_pow pe_int pe_int) (pe_op op_pow pe_int pe_int)) pe_int))))) (pss_cons (ps_setLc (i := 3) (own := [("cell", 2)]) rfl sclaw_reel.nd rfl rfl (sw_true rfl rfl rfl (by decide +kernel)) (k_piL K (pe_slice (k_slL K) (pv 0) po_none (po_some pe_int))) (blkOk_by (own := [("cell", 2)]) (N := Nlaw_reel) (sc := defScope Slaw_reel) (by decide +kernel)) (fun _ _ _ _ _ => (pg_name (i := 2) sclaw_reel.nd rfl (Or.inl rfl))) (fun _ _ _ _ _ => (pts_one (pt_cmpR op_ge (pv 2) (pe_op op_pow pe_int pe_int) (nomark _)))) (fun _ _ _ _ _ => (pe_op op_sub (pv 2) (pe_op op_pow pe_int pe_int)))) (pss_one (ps_ret (pe_lst (pa_cons (pv 3) (pa_cons (pe_op op_cat (pe_lc (own := [("cell", 2)]) rfl sclaw_reel.nd (k_piL K (pe_slice (k_slL K) (pv 0) po_none (po_some pe_int))) (blkOk_by (own := [("cell", 2)]) (N := Nlaw_reel) (sc := defScope Slaw_reel) (by decide +kernel)) (fun _ _ _ _ _ => (pg_name (i := 2) sclaw_reel.nd rfl (Or.inl rfl))) (fun _ _ _ _ _ => pts_nil) (fun _ _ _ _ _ => (pe_op op_mod (pv 2) pe_int))) (pe_lst (pa_cons pe_int pa_nil))) (pa_cons pe_int (pa_cons (pv 1) pa_nil)))))))))), ?_⟩
    walk_at "s"
    intro t0 n0
    have ec : cutV (ns.map V.int) none (some 63) = vI (ns.take 63) := (cut_hi (k := 63)).trans (vI_take ns 63)
    rw [ec]
    have lc : (ns.take 63).length ≤ 63 := by rw [List.length_take]; omega
    have s1 := same_new (o := .lst (vI (ns.take 63))) n0
    refine ⟨t0, rfl, ⟨_, lst_of upd_same⟩, ?_⟩
    have e19 : (19 : Int) ^ Int.toNat 31 = 4378865740046709085864680868712732574619 := by decide +kernel
    rw [e19]
    refine for_src (src_list (xs := vI (ns.take 63))) (fun i σ H' => ∃ t v2, σ = [some (.ref a), some (.int t), v2, none] ∧ H' = upd H t0 (.lst (vI (ns.take 63))) ∧ 0 ≤ t ∧ t < 2 ^ 140) (fun i σ H' h => by obtain ⟨_, _, _, h, _⟩ := h; rw [h]; exact lst_of upd_same)
      ⟨_, none, rfl, rfl, by decide, by decide⟩ ?_ ?_
    · rintro i v σ H1 H1' hi ⟨t, v2, rfl, rfl, h0, h1⟩ ⟨rfl, hv⟩
      rw [vI_len] at hi
      rw [vI_at hi] at hv
      cases hv
      walk_at "s"
      have tb : t.natAbs < 2 ^ 140 := by omega
      refine r_I (wide_mul (a := 140) (b := 140) tb tb (by decide) (by decide) (by decide)) ?_
      walk_at "s"
      rw [rMe]
      exact ⟨_, _, rfl, rfl, (rM _).1, Int.lt_trans (rM _).2 (by decide)⟩
    · rintro σ H1 ⟨t, v2, rfl, rfl, h0, h1⟩
      have hA1 := s1.seq hA
      walk_at "s"
      intro t1 n1
      rw [ec]
      have s2 := s1.trans (same_new (o := .lst (vI (ns.take 63))) n1)
      refine ⟨t1, rfl, ⟨_, lst_of upd_same⟩, fun D1 nD1 => ?_⟩
      refine lc_pure (src_list (xs := vI (ns.take 63))) (fun i => decide (10 ^ Int.toNat 18 ≤ (ns.take 63).getD i 0)) (fun i => .int ((ns.take 63).getD i 0 - 10 ^ Int.toNat 18)) (by rw [vI_len]; omega) (fun H' s' => lst_of (s' _ _ upd_same)) ?_ nD1 fun H2 sA hD1 => ?_
      · rintro i v H3 H4 Yes No hi s3 ⟨rfl, hv⟩ hY hN
        rw [vI_len] at hi
        rw [vI_at hi] at hv
        cases hv
        have eg : (ns.take 63).getD i 0 = (ns.take 63)[i] := by rw [List.getD_eq_getElem?_getD, List.getElem?_eq_getElem hi]; rfl
        rw [eg] at hY hN
        walk_at "s"
        refine ⟨rfl, ?_⟩
        walk_at "s"
        refine ifD (fun hc => ?_) (fun hc => ?_)
        · walk_at "s"
          exact hY (decide_eq_true hc) _ (Same.refl _)
        · exact hN (decide_eq_false hc) _ (Same.refl _)
      · rw [giv_ints, vI_len] at hD1
        have gl : ((List.range (ns.take 63).length).filter fun i => decide (10 ^ Int.toNat 18 ≤ (ns.take 63).getD i 0)).length ≤ 63 := Nat.le_trans (List.length_filter_le _ _) (by rw [List.length_range]; exact lc)
        generalize eG : ((List.range (ns.take 63).length).filter fun i => decide (10 ^ Int.toNat 18 ≤ (ns.take 63).getD i 0)).map (fun i => (ns.take 63).getD i 0 - 10 ^ Int.toNat 18) = great at hD1
        have gl2 : great.length ≤ 63 := by rw [← eG, List.length_map]; exact gl
        have s3 := s2.trans sA
        have hA3 := s3.seq hA
        walk_at "s"
        intro t2 n2
        rw [ec]
        have s4 := s3.trans (same_new (o := .lst (vI (ns.take 63))) n2)
        refine ⟨t2, rfl, ⟨_, lst_of upd_same⟩, fun D2 nD2 => ?_⟩
        refine lc_pure (src_list (xs := vI (ns.take 63))) (fun _ => true) (fun i => .int ((ns.take 63).getD i 0 % 1000003)) (by rw [vI_len]; omega) (fun H' s' => lst_of (s' _ _ upd_same)) ?_ nD2 fun H5 sB hD2 => ?_
        · rintro i v H6 H7 Yes No hi s3 ⟨rfl, hv⟩ hY hN
          rw [vI_len] at hi
          rw [vI_at hi] at hv
          cases hv
          have eg : (ns.take 63).getD i 0 = (ns.take 63)[i] := by rw [List.getD_eq_getElem?_getD, List.getElem?_eq_getElem hi]; rfl
          rw [eg] at hY
          walk_at "s"
          refine ⟨rfl, ?_⟩
          walk_at "s"
          exact hY rfl _ (Same.refl _)
        · rw [giv_ints, vI_len] at hD2
          have cl : (((List.range (ns.take 63).length).filter fun _ => true).map fun i => (ns.take 63).getD i 0 % 1000003).length ≤ 63 := by
            rw [List.length_map]
            exact Nat.le_trans (List.length_filter_le _ _) (by rw [List.length_range]; exact lc)
          generalize (((List.range (ns.take 63).length).filter fun _ => true).map fun i => (ns.take 63).getD i 0 % 1000003) = cells at hD2 cl
          have s5 := s4.trans sB
          have hg5 := sB _ _ ((same_new (o := .lst (vI (ns.take 63))) n2) _ _ hD1)
          walk_at "s"
          intro t3 n3
          refine r_cat (xs := vI cells) (zs := vI [57]) (by walk_at "hp") upd_same (sz (by rw [vI_len]; show cells.length + 1 ≤ _; omega)) fun p np => ?_
          rw [vI_app]
          walk_at "s"
          intro r nr
          have s6 := ((same_new (o := .lst [.int 57]) n3).trans (same_new (o := .lst (vI (cells ++ [57]))) np))
          have nD0 : H D1 = none := s2.free nD1
          have s7 := s6.trans (same_new (o := .lst [.ref D1, .ref p, .int 0, .int t]) nr)
          exact q _ r (s5.trans s7) (s5.free (s6.free nr)) ⟨D1, p, great, cells ++ [57], 0, t, upd_same, s7 _ _ hg5, (upd_ne (ne_new nr upd_same)).trans upd_same, ne_new nr (s6 _ _ hg5), ne_new nr upd_same, by omega, by rw [List.length_append]; show 1 ≤ _ + 1; omega, by rw [List.length_append]; show cells.length + 1 ≤ _; omega, h0, h1, fun x hx => by cases hx⟩
end

abbrev Slaw_moved : Stmt := topS 19
abbrev Nlaw_moved : List Str := ["model", "kind", "number", "books", "out", "done", "found", "book"]
theorem sclaw_moved : FnScope Nlaw_moved ["model", "kind", "number"] (defScope Slaw_moved) := ⟨rfl, rfl, rfl, by decide +kernel, rfl, by decide +kernel, by decide +kernel⟩
abbrev Slaw_next : Stmt := topS 20
abbrev Nlaw_next : List Str := ["reel", "model", "books", "out", "there", "place", "book"]
theorem sclaw_next : FnScope Nlaw_next ["reel", "model"] (defScope Slaw_next) := ⟨rfl, rfl, rfl, by decide +kernel, rfl, by decide +kernel, by decide +kernel⟩

/-- the law's model of a shelf, at m: its books, the books out, what was done -/
def Mo (G : Addr → Prop) (H : Hp) (m : Addr) (bs : List (Option Int)) (tk : List Int) (dn : List Stp) : Prop := ∃ mb mo md : Addr, H m = some (.lst [.ref mb, .ref mo, .ref md]) ∧ G m ∧ H mb = some (.lst (vB bs)) ∧ G mb ∧ H mo = some (.lst (vI tk)) ∧ G mo ∧ Tr G H (.ref md) (.list (dn.map curD))
theorem Mo.move {G G' : Addr → Prop} {H H' : Hp} {m : Addr} {bs : List (Option Int)} {tk : List Int} {dn : List Stp} (h : Mo G H m bs tk dn) (k : ∀ a o, G a → H a = some o → H' a = some o ∧ G' a) : Mo G' H' m bs tk dn := by
  obtain ⟨mb, mo, md, h1, g1, h2, g2, h3, g3, h4⟩ := h
  exact ⟨mb, mo, md, (k _ _ g1 h1).1, (k _ _ g1 h1).2, (k _ _ g2 h2).1, (k _ _ g2 h2).2, (k _ _ g3 h3).1, (k _ _ g3 h3).2, h4.move k⟩
theorem Mo.same {G : Addr → Prop} {H H' : Hp} {m : Addr} {bs : List (Option Int)} {tk : List Int} {dn : List Stp} (h : Mo G H m bs tk dn) (k : Same H H') : Mo G H' m bs tk dn := h.move fun a o g e => ⟨k _ _ e, g⟩
/-- the places of a shelf that hold a book -/
def full (bs : List (Option Int)) : List Int := ((List.range bs.length).filter fun i => decide (bs[i]? ≠ some none)).map fun i => ((i : Nat) : Int)
theorem full_mem {bs : List (Option Int)} {x : Int} (h : x ∈ full bs) : 0 ≤ x ∧ ∃ i, bs[x.toNat]? = some (some i) := by
  obtain ⟨j, hj, rfl⟩ := List.mem_map.mp h
  rw [List.mem_filter] at hj
  have hl := List.mem_range.mp hj.1
  refine ⟨by omega, ?_⟩
  rw [Int.toNat_natCast]
  have hne := of_decide_eq_true hj.2
  rw [List.getElem?_eq_getElem hl] at hne ⊢
  cases e : bs[j] with
  | none => rw [e] at hne; exact absurd rfl hne
  | some i => exact ⟨i, rfl⟩
theorem full_nil {bs : List (Option Int)} (h : full bs = []) : ∀ x ∈ bs, x = none := by
  intro x hx
  obtain ⟨j, hj, rfl⟩ := List.getElem_of_mem hx
  have : (List.range bs.length).filter (fun i => decide (bs[i]? ≠ some none)) = [] := List.map_eq_nil_iff.mp h
  have := List.filter_eq_nil_iff.mp this j (List.mem_range.mpr hj)
  rw [List.getElem?_eq_getElem hj] at this
  cases e : bs[j] with
  | none => rfl
  | some i => rw [e] at this; simp at this
theorem vB_drop (bs : List (Option Int)) (k : Nat) : (vB bs).drop k = vB (bs.drop k) := List.map_drop.symm
theorem vB_take (bs : List (Option Int)) (k : Nat) : (vB bs).take k = vB (bs.take k) := List.map_take.symm
theorem vB_app (a b : List (Option Int)) : vB a ++ vB b = vB (a ++ b) := List.map_append.symm
theorem set_cut {α : Type} (l : List α) (p : Nat) (x : α) (h : p < l.length) : (l.take p ++ [x]) ++ l.drop (p + 1) = l.set p x := by
  rw [List.set_eq_take_append_cons_drop, if_pos h, List.append_assoc]
  rfl
/-- the others, in their order -/
theorem erase_cut {tk : List Int} (h : tk.Nodup) (x : Int) : ((List.range tk.length).filter fun i => decide (tk[i]? ≠ some x)).map (fun i => tk.getD i 0) = tk.erase x := by
  have e : (List.range tk.length).map (fun i => tk.getD i 0) = tk := by
    apply List.ext_getElem?
    intro j
    rw [List.getElem?_map]
    by_cases hj : j < tk.length
    · rw [List.getElem?_range hj, List.getElem?_eq_getElem hj]
      show some (tk.getD j 0) = _
      rw [List.getD_eq_getElem?_getD, List.getElem?_eq_getElem hj]
      rfl
    · rw [List.getElem?_eq_none_iff.mpr (show (List.range tk.length).length ≤ j by rw [List.length_range]; omega), List.getElem?_eq_none_iff.mpr (show tk.length ≤ j by omega)]
      rfl
  rw [h.erase_eq_filter]
  conv => rhs; rw [← e]
  rw [List.filter_map]
  refine congrArg (List.map _) (List.filter_congr fun i hi => ?_)
  have hl := List.mem_range.mp hi
  rw [List.getElem?_eq_getElem hl]
  show decide (some tk[i] ≠ some x) = (tk.getD i 0 != x)
  rw [List.getD_eq_getElem?_getD, List.getElem?_eq_getElem hl]
  show decide (some tk[i] ≠ some x) = (tk[i] != x)
  by_cases h : tk[i] = x <;> simp [h]
section
variable {P : Program} {w : World} {K : PySem.W.Frag} {mg : Str → Option Value} {base : Heap}
def spNext : Sp := fun vs H Q _ => ∃ (r m : Addr) (B : List Addr) (G : Addr → Prop) (bs : List (Option Int)) (tk : List Int) (dn : List Stp), vs = [.ref r, .ref m] ∧ RA H r B ∧ Mo G H m bs tk dn ∧ (∀ a, G a → a ≠ r) ∧ bs.length ≤ 1000 ∧ tk.length ≤ 1000 ∧ 1 ≤ bs.length ∧ (tk = [] → none ∉ bs) ∧
  ∀ H' p k x, H' p = some (.tup [.str (kd k), .int x]) → Kp r H H' → RA H' r B → (k = true → 0 ≤ x ∧ ∃ i, bs[x.toNat]? = some (some i)) → (k = false → x ∈ tk) → Q (.ref p) H'
theorem ok_law_next {f : Addr} {fd : FuncData} (B : Bn mg) (D_law_draw : Df P w K mg base 1 "_law_draw" [] spDraw) (F : Fun K "_law_next" "_law_next" Slaw_next f fd) : FnG P w K mg base 2 f fd ["reel", "model"] spNext := by
  refine gok F sclaw_next (fun vs H Q E h => ?_) (fun cdv A fs s H vs Q E hG hr h => ?_)
  · obtain ⟨_, _, _, _, _, _, _, rfl, _⟩ := h; rfl
  · obtain ⟨r, m, Bx, G, bs, tk, dn, rfl, hR, ⟨mb, mo, md, h1, g1, h2, g2, h3, g3, h4⟩, hGr, hbl, htl, hb1, hne, q⟩ := h
    have hu := hr.units
    have nmb := hGr _ g2
    have nmo := hGr _ g3
    have two : ∀ x : Int, x ≤ 100000 → x < 2 ^ 200 := fun x h => Int.lt_of_le_of_lt h (by decide)
    refine ⟨_, (pss_cons (ps_par (i := 2) (j := 3) rfl sclaw_next.nd rfl rfl (by decide) rfl rfl (pa_cons (pe_ix (k_ixL K) (pv 1) pe_int (fun _ _ => rfl)) (pa_cons (pe_ix (k_ixL K) (pv 1) pe_int (fun _ _ => rfl)) pa_nil)) (by with_unfolding_all rfl)) (pss_cons (ps_setLc (i := 4) (own := [("place", 5), ("book", 6)]) rfl sclaw_next.nd rfl rfl (sw_true rfl rfl rfl (by decide +kernel)) (k_enum K (by rfl) B.enumerate (pa_cons (pv 2) pa_nil)) (blkOk_by (own := [("place", 5), ("book", 6)]) (N := Nlaw_next) (sc := defScope Slaw_next) (by decide +kernel)) (fun _ _ _ _ _ => (k_gtup (n := 2) K rfl (pgs_cons (pg_name (i := 5) sclaw_next.nd rfl (Or.inl rfl)) (pgs_cons (pg_name (i := 6) sclaw_next.nd rfl (Or.inl rfl)) pgs_nil)))) (fun _ _ _ _ _ => (pts_one (pt_cmpR op_notN' (pv 6) pe_non (nomark _)))) (fun _ _ _ _ _ => (pv 5))) (pss_cons (ps_if (pw_and (pt_cmpR (k_neD K hu) (pv 4) (pe_lst pa_nil) (nomark _)) (pw_and1 (pw_or (pt_cmpR (k_eqD K hu) (pv 3) (pe_lst pa_nil) (nomark _)) (pw_or1 (pt_cmpR op_lt (pe_df D_law_draw hG (hr.mono (by first | decide | omega)) passL (by rfl) (pa_cons (pv 0) (pa_cons pe_int pa_nil))) pe_int (nomark _)))).pt)).pt (pss_one (ps_ret (pe_tup (pa_cons pe_str (pa_cons (pe_ix (k_ixL K) (pv 4) (pe_df D_law_draw hG (hr.mono (by first | decide | omega)) passL (by rfl) (pa_cons (pv 0) (pa_cons (pe_callB (k_len K) (by rfl) B.len Blen (pa_cons (pv 4) pa_nil)) pa_nil))) (fun _ _ => rfl)) pa_nil))))) pss_nil) (pss_one (ps_ret (pe_tup (pa_cons pe_str (pa_cons (pe_ix (k_ixL K) (pv 3) (pe_df D_law_draw hG (hr.mono (by first | decide | omega)) passL (by rfl) (pa_cons (pv 0) (pa_cons (pe_callB (k_len K) (by rfl) B.len Blen (pa_cons (pv 3) pa_nil)) pa_nil))) (fun _ _ => rfl)) pa_nil)))))))), ?_⟩
    walk_at "s"
    refine ⟨mb, vB bs, rfl, lst_of h2, fun Dl nD => ?_⟩
    refine lc_pure src_enum (fun i => decide (bs[i]? ≠ some none)) (fun i => .int (i : Nat)) (by rw [vB_len]; omega) (fun H' s' => lst_of (s' _ _ h2)) ?_ nD fun H3 s3 hD => ?_
    · rintro i v H4 H5 Yes No hi s3 ⟨T, x, rfl, nT, rfl, hx⟩ hY hN
      rw [vB_len] at hi
      have e := vB_at (List.getElem?_eq_getElem hi)
      rw [e] at hx
      cases hx
      rw [List.getElem?_eq_getElem hi] at hY hN
      have sT := same_new (o := .tup [.int (i : Nat), bV bs[i]]) nT
      walk_at "s"
      refine ⟨rfl, ?_⟩
      walk_at "s"
      generalize bs[i] = o at *
      cases o with
      | none =>
        refine r_notN0 ?_
        walk_at "s"
        exact hN (by simp) _ sT
      | some j =>
        refine r_notNi ?_
        walk_at "s"
        exact hY (by simp) _ sT
    · have eD : giv (vB bs).length (fun i => decide (bs[i]? ≠ some none)) (fun i => V.int ((i : Nat) : Int)) = vI (full bs) := by
        rw [vB_len]
        unfold giv full vI
        rw [List.map_map]
        rfl
      rw [eD] at hD
      have hR3 := hR.same s3
      have h3' := s3 _ _ h3
      have nDr : Dl ≠ r := (hR.ne nD).symm
      have fl : (full bs).length ≤ 1000 := by
        unfold full
        rw [List.length_map]
        exact Nat.le_trans (List.length_filter_le _ _) (by rw [List.length_range]; exact hbl)
      walk_at "s"
      intro e1 ne1
      have s4 := same_new (o := .lst []) ne1
      refine r_neLI (xs := full bs) (ys := []) (lst_of (s4 _ _ hD)) (lst_of upd_same) ?_
      walk_at "s"
      have hR4 := hR3.same s4
      have h34 := s4 _ _ h3'
      have hD4 := s4 _ _ hD
      have hK4 : Kp r H (upd H3 e1 (.lst [])) := Kp.of (s3.trans s4)
      refine ifN (fun hf => ?_) (fun hf => ?_)
      · walk_at "s"
        intro e2 ne2
        have s5 := same_new (o := .lst []) ne2
        refine r_eqLI (xs := tk) (ys := []) (lst_of (s5 _ _ h34)) (lst_of upd_same) ?_
        have hR5 := hR4.same s5
        have hK5 := hK4.trans (Kp.of s5)
        have hD5 := s5 _ _ hD4
        have h35 := s5 _ _ h34
        walk_at "s"
        refine ifD (fun ht => ?_) (fun ht => ?_)
        · walk_at "s"
          refine ⟨r, _, Bx, rfl, hR5, by rw [vI_len]; have := List.length_pos_iff.mpr hf; omega, two _ (by rw [vI_len]; omega), fun x H6 x0 x1 hR6 hK6 => ?_⟩
          rw [vI_len] at x1
          have h36 := hK6.get nDr hD5
          refine r_ixL (lst_of h36) (atI_ints x0 x1) ?_
          walk_at "s"
          intro p np
          refine q _ p true _ upd_same ((Kp.trans hK5 hK6).put ((Kp.trans hK5 hK6).free np (hR6.ne np).symm)) ((hR6.new np).less fun a h => List.mem_cons_of_mem _ h) (fun _ => full_mem ?_) fun z => by cases z
          rw [List.getD_eq_getElem?_getD, List.getElem?_eq_getElem (show x.toNat < (full bs).length by omega)]
          exact List.getElem_mem _
        · walk_at "s"
          refine ⟨r, 5, Bx, rfl, hR5, by decide, by decide, fun c H7 c0 c1 hR7 hK7 => ?_⟩
          have hK57 := hK5.trans hK7
          have hD7 := hK7.get nDr hD5
          have h37 := hK7.get nmo h35
          walk_at "s"
          refine ifD (fun _ => ?_) (fun _ => ?_)
          · walk_at "s"
            refine ⟨r, _, Bx, rfl, hR7, by rw [vI_len]; have := List.length_pos_iff.mpr hf; omega, two _ (by rw [vI_len]; omega), fun x H6 x0 x1 hR6 hK6 => ?_⟩
            rw [vI_len] at x1
            have h36 := hK6.get nDr hD7
            refine r_ixL (lst_of h36) (atI_ints x0 x1) ?_
            walk_at "s"
            intro p np
            refine q _ p true _ upd_same ((Kp.trans hK57 hK6).put ((Kp.trans hK57 hK6).free np (hR6.ne np).symm)) ((hR6.new np).less fun a h => List.mem_cons_of_mem _ h) (fun _ => full_mem ?_) fun z => by cases z
            rw [List.getD_eq_getElem?_getD, List.getElem?_eq_getElem (show x.toNat < (full bs).length by omega)]
            exact List.getElem_mem _
          · walk_at "s"
            refine ⟨r, _, Bx, rfl, hR7, by rw [vI_len]; have := List.length_pos_iff.mpr ht; omega, two _ (by rw [vI_len]; omega), fun x H6 x0 x1 hR6 hK6 => ?_⟩
            rw [vI_len] at x1
            have h36 := hK6.get nmo h37
            refine r_ixL (lst_of h36) (atI_ints x0 x1) ?_
            walk_at "s"
            intro p np
            refine q _ p false _ upd_same ((Kp.trans hK57 hK6).put ((Kp.trans hK57 hK6).free np (hR6.ne np).symm)) ((hR6.new np).less fun a h => List.mem_cons_of_mem _ h) (fun z => by cases z) fun _ => ?_
            rw [List.getD_eq_getElem?_getD, List.getElem?_eq_getElem (show x.toNat < tk.length by omega)]
            exact List.getElem_mem _
      · have ht : tk ≠ [] := fun z => by
          cases bs with
          | nil => simp at hb1
          | cons x bt =>
            have := full_nil hf x List.mem_cons_self
            rw [this] at hne
            exact hne z List.mem_cons_self
        walk_at "s"
        refine ⟨r, _, Bx, rfl, hR4, by rw [vI_len]; have := List.length_pos_iff.mpr ht; omega, two _ (by rw [vI_len]; omega), fun x H6 x0 x1 hR6 hK6 => ?_⟩
        rw [vI_len] at x1
        have h36 := hK6.get nmo h34
        refine r_ixL (lst_of h36) (atI_ints x0 x1) ?_
        walk_at "s"
        intro p np
        refine q _ p false _ upd_same ((Kp.trans hK4 hK6).put ((Kp.trans hK4 hK6).free np (hR6.ne np).symm)) ((hR6.new np).less fun a h => List.mem_cons_of_mem _ h) (fun z => by cases z) fun _ => ?_
        rw [List.getD_eq_getElem?_getD, List.getElem?_eq_getElem (show x.toNat < tk.length by omega)]
        exact List.getElem_mem _
def spMoved : Sp := fun vs H Q _ => ∃ (m : Addr) (G : Addr → Prop) (bs : List (Option Int)) (tk : List Int) (dn : List Stp) (s : Stp), vs = [.ref m, .str (kd s.k), .int s.x] ∧ Mo G H m bs tk dn ∧ bs.length ≤ 1000 ∧ tk.length ≤ 1000 ∧ dn.length ≤ 1000 ∧
  (s.k = true → ∃ (p : Nat) (i : Int), s.x = p ∧ bs[p]? = some (some i) ∧ ∀ H' m' t, Same H H' → H' t = some (.tup [.ref m', .int i]) → Mo (fun a => G a ∨ H a = none) H' m' (bs.set p none) (tk ++ [i]) (dn ++ [s]) → Q (.ref t) H') ∧
  (s.k = false → ∃ p : Nat, bs[p]? = some none ∧ (∀ m : Nat, m < p → bs[m]? ≠ some none) ∧ tk.Nodup ∧ ∀ H' m' t, Same H H' → H' t = some (.tup [.ref m', .int ((p : Nat) : Int)]) → Mo (fun a => G a ∨ H a = none) H' m' (bs.set p (some s.x)) (tk.erase s.x) (dn ++ [s]) → Q (.ref t) H')
theorem ok_law_moved {f : Addr} {fd : FuncData} {k : Nat} (B : Bn mg) (F : Fun K "_law_moved" "_law_moved" Slaw_moved f fd) : FnG P w K mg base (k + 1) f fd ["model", "kind", "number"] spMoved := by
  refine gok F sclaw_moved (fun vs H Q E h => ?_) (fun cdv A fs s H vs Q E hG hr h => ?_)
  · obtain ⟨_, _, _, _, _, _, rfl, _⟩ := h; rfl
  · obtain ⟨m, G, bs, tk, dn, s, rfl, ⟨mb, mo, md, h1, g1, h2, g2, h3, g3, h4⟩, hbl, htl, hdl, qT, qR⟩ := h
    have hu := hr.units
    refine ⟨_, (pss_cons (ps_asg (pv 0) (k_gunl (n := 3) K rfl (pgs_cons (pg_name (i := 3) sclaw_moved.nd rfl (Or.inl rfl)) (pgs_cons (pg_name (i := 4) sclaw_moved.nd rfl (Or.inl rfl)) (pgs_cons (pg_name (i := 5) sclaw_moved.nd rfl (Or.inl rfl)) pgs_nil))))) (pss_cons (ps_if (pt_cmpR op_eq (pv 1) pe_str (nomark _)) (pss_cons (ps_set (i := 6) sclaw_moved.nd rfl (Or.inl rfl) (pe_ix (k_ixL K) (pv 3) (pv 2) (fun _ _ => rfl))) (pss_cons (ps_set (i := 3) sclaw_moved.nd rfl (Or.inl rfl) (pe_op op_cat (pe_op op_cat (pe_slice (k_slL K) (pv 3) po_none (po_some (pv 2))) (pe_lst (pa_cons pe_non pa_nil))) (pe_slice (k_slL K) (pv 3) (po_some (pe_op op_add (pv 2) pe_int)) po_none))) (pss_one (ps_set (i := 4) sclaw_moved.nd rfl (Or.inl rfl) (pe_op op_cat (pv 4) (pe_lst (pa_cons (pv 6) pa_nil))))))) (pss_cons (ps_set (i := 6) sclaw_moved.nd rfl (Or.inl rfl) (k_bmP K (pe_bm PySem.F.plainAttrs_list PySem.F.slot_list_index PySem.F.type_list_index (k_index K) (pv 3) (pa_cons pe_non pa_nil)))) (pss_cons (ps_set (i := 3) sclaw_moved.nd rfl (Or.inl rfl) (pe_op op_cat (pe_op op_cat (pe_slice (k_slL K) (pv 3) po_none (po_some (pv 6))) (pe_lst (pa_cons (pv 2) pa_nil))) (pe_slice (k_slL K) (pv 3) (po_some (pe_op op_add (pv 6) pe_int)) po_none))) (pss_one (ps_setLc (i := 4) (own := [("book", 7)]) rfl sclaw_moved.nd rfl rfl (sw_true rfl rfl rfl (by decide +kernel)) (k_piL K (pv 4)) (blkOk_by (own := [("book", 7)]) (N := Nlaw_moved) (sc := defScope Slaw_moved) (by decide +kernel)) (fun _ _ _ _ _ => (pg_name (i := 7) sclaw_moved.nd rfl (Or.inl rfl))) (fun _ _ _ _ _ => (pts_one (pt_cmpR op_ne (pv 7) (pv 2) (nomark _)))) (fun _ _ _ _ _ => (pv 7))))))) (pss_one (ps_ret (pe_tup (pa_cons (pe_lst (pa_cons (pv 3) (pa_cons (pv 4) (pa_cons (pe_op op_cat (pv 5) (pe_lst (pa_cons (pe_tup (pa_cons (pv 1) (pa_cons (pv 2) pa_nil))) pa_nil))) pa_nil)))) (pa_cons (pv 6) pa_nil))))))), ?_⟩
    walk_at "s"
    rw [show decide (kd s.k = ("take" : Str)) = s.k by cases s.k <;> decide]
    have hk2 : ∀ k, s.k = k → s.k = true ∨ s.k = false := fun _ _ => by cases s.k <;> simp
    rcases hk2 _ rfl with hk | hk
    · obtain ⟨p, i, ex, hp, q⟩ := qT hk
      have pl : p < bs.length := (List.getElem?_eq_some_iff.mp hp).1
      have ea : atI (vB bs) s.x = some (.int i) := by rw [ex]; exact atI_nat (vB_at hp)
      refine ifB (fun _ => ?_) (fun z => by rw [hk] at z; cases z)
      walk_at "s"
      intro a1 n1
      rw [ex, show cutV (vB bs) none (some (p : Int)) = vB (bs.take p) from cut_hi.trans (vB_take bs p)]
      have s1 := same_new (o := .lst (vB (bs.take p))) n1
      walk_at "s"
      intro a2 n2
      have s2 := s1.trans (same_new (o := .lst [.non]) n2)
      refine r_cat (xs := vB (bs.take p)) (zs := vB [none]) (by walk_at "hp") upd_same (sz (by rw [vB_len, List.length_take]; show _ + 1 ≤ _; omega)) fun a3 n3 => ?_
      rw [vB_app]
      have s3 := s2.trans (same_new (o := .lst (vB (bs.take p ++ [none]))) n3)
      have h23 := s3 _ _ h2
      walk_at "s"
      intro a4 n4
      rw [show cutV (vB bs) (some ((p : Int) + 1)) none = vB (bs.drop (p + 1)) from (cut_lo (k := p + 1)).trans (vB_drop bs (p + 1))]
      have s4 := s3.trans (same_new (o := .lst (vB (bs.drop (p + 1)))) n4)
      refine r_cat (xs := vB (bs.take p ++ [none])) (zs := vB (bs.drop (p + 1))) (by walk_at "hp") upd_same (sz (by rw [vB_len, vB_len, List.length_append, List.length_take, List.length_drop]; show _ + 1 + _ ≤ _; omega)) fun nb nnb => ?_
      rw [vB_app, set_cut bs p none pl]
      have s5 := s4.trans (same_new (o := .lst (vB (bs.set p none))) nnb)
      have h35 := s5 _ _ h3
      walk_at "s"
      intro a6 n6
      have s6 := s5.trans (same_new (o := .lst [.int i]) n6)
      refine r_cat (xs := vI tk) (zs := vI [i]) (by walk_at "hp") upd_same (sz (by rw [vI_len]; show _ + 1 ≤ _; omega)) fun no nno => ?_
      rw [vI_app]
      have s7 := s6.trans (same_new (o := .lst (vI (tk ++ [i]))) nno)
      have hnb := ((same_new n6).trans (same_new (o := .lst (vI (tk ++ [i]))) nno)) _ _ (upd_same (H := upd (upd (upd (upd H a1 (.lst (vB (bs.take p)))) a2 (.lst [.non])) a3 (.lst (vB (bs.take p ++ [none])))) a4 (.lst (vB (bs.drop (p + 1))))) (a := nb) (o := .lst (vB (bs.set p none))))
      have h4c := h4.same s7
      cases h4c with
      | lst e1 gd hz hT =>
      rename_i xs
      have xl := hT.len
      rw [List.length_map] at xl
      walk_at "s"
      intro t0 nt0
      have s01 := same_new (o := .tup [.str (kd s.k), .int p]) nt0
      walk_at "s"
      intro l1 nl1
      have s02 := s01.trans (same_new (o := .lst [.ref t0]) nl1)
      refine r_cat (xs := xs) (zs := [.ref t0]) (by walk_at "hp") upd_same (sz (by show xs.length + 1 ≤ _; omega)) fun d2 nd2 => ?_
      have s03 := s02.trans (same_new (o := .lst (xs ++ [.ref t0])) nd2)
      walk_at "s"
      intro m' nm
      have s04 := s03.trans (same_new (o := .lst [.ref nb, .ref no, .ref d2]) nm)
      walk_at "s"
      intro t nt
      have s05 := s04.trans (same_new (o := .tup [.ref m', .int i]) nt)
      have sA := s7
      refine q _ m' t (sA.trans s05) upd_same ⟨nb, no, d2, (same_new nt) _ _ upd_same, .inr ((sA.trans s03).free nm), s05 _ _ hnb, .inr (s4.free nnb), s05 _ _ upd_same, .inr (s6.free nno), ?_⟩
      rw [List.map_append]
      refine .lst (((same_new nm).trans (same_new nt)) _ _ upd_same) (.inr ((sA.trans s02).free nd2)) (by rw [List.length_append]; show xs.length + 1 ≤ _; omega) (TrAll.snoc (hT.move fun a o g e => ⟨s05 _ _ e, .inl g⟩) (by rw [show curD s = PyData.tuple [.str (kd s.k), .int p] by unfold curD; first | rfl | rw [ex]]; exact .tup (((same_new nl1).trans ((same_new nd2).trans ((same_new nm).trans (same_new nt)))) _ _ upd_same) (.inr (sA.free nt0)) (Nat.le_of_ble_eq_true rfl) (.cons (.str _) (.cons (.int _) .nil))))
    · obtain ⟨p, hp, hp2, hnd, q⟩ := qR hk
      have pl : p < bs.length := (List.getElem?_eq_some_iff.mp hp).1
      refine ifB (fun z => by rw [hk] at z; cases z) (fun _ => ?_)
      walk_at "s"
      refine r_index (lst_of h2) rfl (vB_flat bs) (vB_at hp) rfl (fun m z' hm' hz => ?_) ?_
      · unfold vB at hz
        rw [List.getElem?_map] at hz
        cases hx : bs[m]? with
        | none => rw [hx] at hz; cases hz
        | some x =>
          rw [hx] at hz
          cases hz
          cases x with
          | none => exact absurd hx (hp2 m hm')
          | some j => rfl
      walk_at "s"
      intro a1 n1
      rw [show cutV (vB bs) none (some (p : Int)) = vB (bs.take p) from cut_hi.trans (vB_take bs p)]
      have s1 := same_new (o := .lst (vB (bs.take p))) n1
      walk_at "s"
      intro a2 n2
      have s2 := s1.trans (same_new (o := .lst [.int s.x]) n2)
      refine r_cat (xs := vB (bs.take p)) (zs := vB [some s.x]) (by walk_at "hp") upd_same (sz (by rw [vB_len, List.length_take]; show _ + 1 ≤ _; omega)) fun a3 n3 => ?_
      rw [vB_app]
      have s3 := s2.trans (same_new (o := .lst (vB (bs.take p ++ [some s.x]))) n3)
      have h23 := s3 _ _ h2
      walk_at "s"
      intro a4 n4
      rw [show cutV (vB bs) (some ((p : Int) + 1)) none = vB (bs.drop (p + 1)) from (cut_lo (k := p + 1)).trans (vB_drop bs (p + 1))]
      have s4 := s3.trans (same_new (o := .lst (vB (bs.drop (p + 1)))) n4)
      refine r_cat (xs := vB (bs.take p ++ [some s.x])) (zs := vB (bs.drop (p + 1))) (by walk_at "hp") upd_same (sz (by rw [vB_len, vB_len, List.length_append, List.length_take, List.length_drop]; show _ + 1 + _ ≤ _; omega)) fun nb nnb => ?_
      rw [vB_app, set_cut bs p (some s.x) pl]
      have s5 := s4.trans (same_new (o := .lst (vB (bs.set p (some s.x)))) nnb)
      have h35 := s5 _ _ h3
      walk_at "s"
      refine ⟨mo, rfl, ⟨_, lst_of h35⟩, fun no nno => ?_⟩
      refine lc_pure (src_list (xs := vI tk)) (fun i => decide (tk[i]? ≠ some s.x)) (fun i => .int (tk.getD i 0)) (by rw [vI_len]; omega) (fun H' s' => lst_of (s' _ _ h35)) ?_ nno fun H6 s6' hno => ?_
      · rintro i v H7 H8 Yes No hi s7 ⟨rfl, hv⟩ hY hN
        rw [vI_len] at hi
        rw [vI_at hi] at hv
        cases hv
        have eg : tk.getD i 0 = tk[i] := by rw [List.getD_eq_getElem?_getD, List.getElem?_eq_getElem hi]; rfl
        rw [eg, List.getElem?_eq_getElem hi] at hY
        rw [List.getElem?_eq_getElem hi] at hN
        walk_at "s"
        refine ⟨rfl, ?_⟩
        walk_at "s"
        refine ifN (fun hc => ?_) (fun hc => ?_)
        · walk_at "s"
          exact hY (by simpa using hc) _ (Same.refl _)
        · exact hN (by simp [hc]) _ (Same.refl _)
      have eo : giv (vI tk).length (fun i => decide (tk[i]? ≠ some s.x)) (fun i => V.int (tk.getD i 0)) = vI (tk.erase s.x) := by
        rw [giv_ints, vI_len]
        exact congrArg vI (erase_cut hnd s.x)
      rw [eo] at hno
      have s7 := s5.trans s6'
      have hnb := s6' _ _ (upd_same (H := upd (upd (upd (upd H a1 (.lst (vB (bs.take p)))) a2 (.lst [.int s.x])) a3 (.lst (vB (bs.take p ++ [some s.x])))) a4 (.lst (vB (bs.drop (p + 1))))) (a := nb) (o := .lst (vB (bs.set p (some s.x)))))
      have h4c := h4.same s7
      cases h4c with
      | lst e1 gd hz hT =>
      rename_i xs
      have xl := hT.len
      rw [List.length_map] at xl
      walk_at "s"
      intro t0 nt0
      have s01 := same_new (o := .tup [.str (kd s.k), .int s.x]) nt0
      walk_at "s"
      intro l1 nl1
      have s02 := s01.trans (same_new (o := .lst [.ref t0]) nl1)
      refine r_cat (xs := xs) (zs := [.ref t0]) (by walk_at "hp") upd_same (sz (by show xs.length + 1 ≤ _; omega)) fun d2 nd2 => ?_
      have s03 := s02.trans (same_new (o := .lst (xs ++ [.ref t0])) nd2)
      walk_at "s"
      intro m' nm
      have s04 := s03.trans (same_new (o := .lst [.ref nb, .ref no, .ref d2]) nm)
      walk_at "s"
      intro t nt
      have s05 := s04.trans (same_new (o := .tup [.ref m', .int ((p : Nat) : Int)]) nt)
      have sA := s7
      refine q _ m' t (sA.trans s05) upd_same ⟨nb, no, d2, (same_new nt) _ _ upd_same, .inr ((sA.trans s03).free nm), s05 _ _ hnb, .inr (s4.free nnb), s05 _ _ hno, .inr (s5.free nno), ?_⟩
      rw [List.map_append]
      refine .lst (((same_new nm).trans (same_new nt)) _ _ upd_same) (.inr ((sA.trans s02).free nd2)) (by rw [List.length_append]; show xs.length + 1 ≤ _; omega) (TrAll.snoc (hT.move fun a o g e => ⟨s05 _ _ e, .inl g⟩) (by rw [show curD s = PyData.tuple [.str (kd s.k), .int s.x] by unfold curD; first | rfl | rw [ex]]; exact .tup (((same_new nl1).trans ((same_new nd2).trans ((same_new nm).trans (same_new nt)))) _ _ upd_same) (.inr (sA.free nt0)) (Nat.le_of_ble_eq_true rfl) (.cons (.str _) (.cons (.int _) .nil))))
end

abbrev Slaw_shows : Stmt := topS 21
abbrev Nlaw_shows : List Str := ["some", "model", "books", "out", "done", "due", "seen", "place", "book"]
theorem sclaw_shows : FnScope Nlaw_shows ["some", "model"] (defScope Slaw_shows) := ⟨rfl, rfl, rfl, by decide +kernel, rfl, by decide +kernel, by decide +kernel⟩

def dB (bs : List (Option Int)) : List PyData := bs.map fun x => match x with | some i => .int i | none => .none
theorem dpAll_B {K : PySem.W.Frag} {H : Hp} : ∀ bs : List (Option Int), DpAll K H (vB bs) (dB bs)
  | [] => .nil
  | none :: bs => .cons .non (dpAll_B bs)
  | some i :: bs => .cons (.int i) (dpAll_B bs)
theorem dp_B {K : PySem.W.Frag} {H : Hp} {a : Addr} {bs : List (Option Int)} (h : SqL K H a (vB bs)) : Dp K H (.ref a) (.list (dB bs)) := .lst h (dpAll_B bs)
theorem _root_.Lx.Shows.mono {d : PyData} {k m k' m' : Nat} (h : Shows d k m) (a : k ≤ k') (b : m ≤ m') : Shows d k' m' := ⟨h.s, h.n, Nat.le_trans h.k a, Nat.le_trans h.z b⟩
theorem shows_kd (k : Bool) : Shows (.str (kd k)) 0 10 := by
  cases k
  · exact ⟨by decide +kernel, by decide +kernel, by decide +kernel, by decide +kernel⟩
  · exact ⟨by decide +kernel, by decide +kernel, by decide +kernel, by decide +kernel⟩
theorem shows_bl (b : Bool) : Shows (.bool b) 0 5 := by
  cases b
  · exact ⟨rfl, rfl, Nat.le_refl _, by decide +kernel⟩
  · exact ⟨rfl, rfl, Nat.le_refl _, by decide +kernel⟩
abbrev Sm (x : Int) : Prop := 0 ≤ x ∧ x < 10 ^ 6
theorem shows_sm {x : Int} (h : Sm x) : Shows (.int x) 0 6 := shows_int (by decide) (by decide) h.1 h.2
/-- all its numbers are small -/
structure Sml (bs : List (Option Int)) (tk : List Int) (dn : List Stp) : Prop where
  lb : bs.length ≤ 900
  lt : tk.length ≤ 900
  ld : dn.length ≤ 900
  b : ∀ i, some i ∈ bs → Sm i
  t : ∀ i ∈ tk, Sm i
  d : ∀ s ∈ dn, Sm s.x
theorem shows_listI {ns : List Int} (h : ∀ x ∈ ns, Sm x) (hl : ns.length ≤ 900) : Shows (.list (dI ns)) 1 8000 := by
  have := shows_list (k := 0) (m := 6) (n := 900) (ds := dI ns) (fun d hd => by
    obtain ⟨x, hx, rfl⟩ := dI_mem hd
    exact shows_sm (h x hx)) (by show (ns.map PyData.int).length ≤ 900; rw [List.length_map]; exact hl)
  exact this.mono (Nat.le_refl _) (by decide)
theorem shows_listB {bs : List (Option Int)} (h : ∀ i, some i ∈ bs → Sm i) (hl : bs.length ≤ 900) : Shows (.list (dB bs)) 1 8000 := by
  have := shows_list (k := 0) (m := 6) (n := 900) (ds := dB bs) (fun d hd => by
    obtain ⟨x, hx, rfl⟩ := List.mem_map.mp hd
    cases x with
    | none => exact shows_none.mono (Nat.le_refl _) (by decide)
    | some i => exact shows_sm (h i hx)) (by show (bs.map _).length ≤ 900; rw [List.length_map]; exact hl)
  exact this.mono (Nat.le_refl _) (by decide)
theorem shows_done {dn : List Stp} (h : ∀ s ∈ dn, Sm s.x) (hl : dn.length ≤ 900) : Shows (.list (dn.map curD)) 2 30000 := by
  have := shows_list (k := 1) (m := 27) (n := 900) (ds := dn.map curD) (fun d hd => by
    obtain ⟨s, hs, rfl⟩ := List.mem_map.mp hd
    have := shows_tup (k := 0) (m := 10) (n := 2) (ds := [.str (kd s.k), .int s.x]) (fun d hd => by
      rcases List.mem_cons.mp hd with rfl | hd
      · exact shows_kd _
      · rw [List.mem_singleton] at hd
        subst hd
        exact (shows_sm (h s hs)).mono (Nat.le_refl _) (by decide)) (Nat.le_refl _)
    exact this.mono (Nat.le_refl _) (by decide)) (by rw [List.length_map]; exact hl)
  exact this.mono (Nat.le_refl _) (by decide)
theorem gaps_sm {bs : List (Option Int)} (hl : bs.length ≤ 900) : (∀ x ∈ gaps bs, Sm x) ∧ (gaps bs).length ≤ 900 := by
  constructor
  · intro x hx
    obtain ⟨j, hj, rfl⟩ := List.mem_map.mp hx
    rw [List.mem_filter] at hj
    have := List.mem_range.mp hj.1
    constructor
    · omega
    · have : (900 : Int) < 10 ^ 6 := by decide
      omega
  · unfold gaps
    rw [List.length_map]
    exact Nat.le_trans (List.length_filter_le _ _) (by rw [List.length_range]; exact hl)
def dShow (bs : List (Option Int)) (tk : List Int) (dn : List Stp) : PyData := .list [.list (dB bs), .list (dI (gaps bs)), .list (dI tk), .list (dn.map curD), .int (dn.length : Nat), .bool (decide (tk = []))]
theorem shows_show {bs : List (Option Int)} {tk : List Int} {dn : List Stp} (h : Sml bs tk dn) : Shows (dShow bs tk dn) 3 180014 := by
  have g := gaps_sm h.lb
  refine shows_list (k := 2) (m := 30000) (n := 6) (fun d hd => ?_) (Nat.le_refl _)
  simp only [List.mem_cons, List.not_mem_nil, or_false] at hd
  rcases hd with rfl | rfl | rfl | rfl | rfl | rfl
  · exact (shows_listB h.b h.lb).mono (by decide) (by decide)
  · exact (shows_listI g.1 g.2).mono (by decide) (by decide)
  · exact (shows_listI h.t h.lt).mono (by decide) (by decide)
  · exact shows_done h.d h.ld
  · have := h.ld
    have e : (900 : Int) < 10 ^ 6 := by decide
    exact (shows_sm (x := ((dn.length : Nat) : Int)) ⟨by omega, by omega⟩).mono (by decide) (by decide)
  · exact (shows_bl _).mono (by decide) (by decide)
section
variable {P : Program} {w : World} {K : PySem.W.Frag} {mg : Str → Option Value} {base : Heap}
def spShows (CL CS : Addr) : Sp := fun vs H Q _ => ∃ (v s b t d m : Addr) (n : Nat) (G : Addr → Prop) (bs : List (Option Int)) (tk : List Int) (dn : List Stp), vs = [.ref v, .ref m] ∧ LiveAt CL CS H v s b t d n bs tk dn ∧ Mo G H m bs tk dn ∧ Sml bs tk dn ∧ ∀ H', Same H H' → Q (.bl true) H'
theorem ok_law_shows {CL CS f : Addr} {fd : FuncData} (B : Bn mg) (M_LiveShelf_current_books : Mt P w K mg base 1 CL "current_books" [] (spLvBooks CL CS)) (M_LiveShelf_current_gaps : Mt P w K mg base 1 CL "current_gaps" [] (spLvGaps CL CS)) (M_LiveShelf_current_out : Mt P w K mg base 1 CL "current_out" [] (spLvOut CL CS)) (M_LiveShelf_current_schedule : Mt P w K mg base 1 CL "current_schedule" [] (spLvSched CL CS))
    (L_LiveShelf : Ln P w K mg base 1 CL (spLvLen CL CS)) (P_LiveShelf_is_complete : Pr P w K mg base 1 CL "is_complete" (spLvDone CL CS)) (F : Fun K "_law_shows" "_law_shows" Slaw_shows f fd) : FnG P w K mg base 3 f fd ["some", "model"] (spShows CL CS) := by
  refine gok F sclaw_shows (fun vs H Q E h => ?_) (fun cdv A fs s H vs Q E hG hr h => ?_)
  · obtain ⟨_, _, _, _, _, _, _, _, _, _, _, rfl, _⟩ := h; rfl
  · obtain ⟨v, s, b, t, d, m, n, G, bs, tk, dn, rfl, hL, ⟨mb, mo, md, h1, g1, h2, g2, h3, g3, h4⟩, hS, q⟩ := h
    have hu := hr.units
    have hbl := hS.lb
    have hld := hS.ld
    refine ⟨_, (pss_cons (ps_asg (pv 1) (k_gunl (n := 3) K rfl (pgs_cons (pg_name (i := 2) sclaw_shows.nd rfl (Or.inl rfl)) (pgs_cons (pg_name (i := 3) sclaw_shows.nd rfl (Or.inl rfl)) (pgs_cons (pg_name (i := 4) sclaw_shows.nd rfl (Or.inl rfl)) pgs_nil))))) (pss_cons (ps_set (i := 5) sclaw_shows.nd rfl (Or.inl rfl) (pe_lst (pa_cons (pv 2) (pa_cons (pe_lc (own := [("place", 7), ("book", 8)]) rfl sclaw_shows.nd (k_enum K (by rfl) B.enumerate (pa_cons (pv 2) pa_nil)) (blkOk_by (own := [("place", 7), ("book", 8)]) (N := Nlaw_shows) (sc := defScope Slaw_shows) (by decide +kernel)) (fun _ _ _ _ _ => (k_gtup (n := 2) K rfl (pgs_cons (pg_name (i := 7) sclaw_shows.nd rfl (Or.inl rfl)) (pgs_cons (pg_name (i := 8) sclaw_shows.nd rfl (Or.inl rfl)) pgs_nil)))) (fun _ _ _ _ _ => (pts_one (pt_cmpR op_isN' (pv 8) pe_non (nomark _)))) (fun _ _ _ _ _ => (pv 7))) (pa_cons (pv 3) (pa_cons (pv 4) (pa_cons (pe_callB (k_len K) (by rfl) B.len Blen (pa_cons (pv 4) pa_nil)) (pa_cons (pe_cmpR (k_eqD K hu) (pv 3) (pe_lst pa_nil) (nomark _)) pa_nil)))))))) (pss_cons (ps_set (i := 6) sclaw_shows.nd rfl (Or.inl rfl) (pe_lst (pa_cons (pe_mt0 M_LiveShelf_current_books hG (hr.mono (by first | decide | omega)) passL (pv 0)) (pa_cons (pe_mt0 M_LiveShelf_current_gaps hG (hr.mono (by first | decide | omega)) passL (pv 0)) (pa_cons (pe_mt0 M_LiveShelf_current_out hG (hr.mono (by first | decide | omega)) passL (pv 0)) (pa_cons (pe_mt0 M_LiveShelf_current_schedule hG (hr.mono (by first | decide | omega)) passL (pv 0)) pa_nil)))))) (pss_one (ps_ret (pe_cmpR op_eq (pe_callB (k_repr K hG hu) (by rfl) B.repr Brepr (pa_cons (pe_op op_cat (pv 6) (pe_lst (pa_cons (pe_callB (call_lenOwn L_LiveShelf hG (hr.mono (by first | decide | omega)) passL) (by rfl) B.len Blen (pa_cons (pv 0) pa_nil)) (pa_cons (pe_pr P_LiveShelf_is_complete hG (hr.mono (by first | decide | omega)) passL (pv 0)) pa_nil)))) pa_nil)) (pe_callB (k_repr K hG hu) (by rfl) B.repr Brepr (pa_cons (pv 5) pa_nil)) (nomark _))))))), ?_⟩
    walk_at "s"
    refine ⟨mb, vB bs, rfl, lst_of h2, fun Dl nD => ?_⟩
    refine lc_pure src_enum (fun i => decide (bs[i]? = some none)) (fun i => .int (i : Nat)) (by rw [vB_len]; omega) (fun H' s' => lst_of (s' _ _ h2)) ?_ nD fun H3 s3 hD => ?_
    · rintro i v H4 H5 Yes No hi s3 ⟨T, x, rfl, nT, rfl, hx⟩ hY hN
      rw [vB_len] at hi
      have e := vB_at (List.getElem?_eq_getElem hi)
      rw [e] at hx
      cases hx
      rw [List.getElem?_eq_getElem hi] at hY hN
      have sT := same_new (o := .tup [.int (i : Nat), bV bs[i]]) nT
      walk_at "s"
      refine ⟨rfl, ?_⟩
      walk_at "s"
      generalize bs[i] = o at *
      cases o with
      | none =>
        refine r_isN0 ?_
        walk_at "s"
        exact hY (by simp) _ sT
      | some j =>
        refine r_isNi ?_
        walk_at "s"
        exact hN (by simp) _ sT
    · have eD : giv (vB bs).length (fun i => decide (bs[i]? = some none)) (fun i => V.int ((i : Nat) : Int)) = vI (gaps bs) := by
        rw [vB_len]
        unfold giv gaps vI
        rw [List.map_map]
        rfl
      rw [eD] at hD
      have h43 := h4.same s3
      have h23 := s3 _ _ h2
      have h33 := s3 _ _ h3
      have hL3 := hL.same s3
      cases id h43 with
      | lst e1 gd hz hT =>
      rename_i xs
      have xl := hT.len
      rw [List.length_map] at xl
      walk_at "s"
      rw [xl]
      intro e0 ne0
      have s4 := same_new (o := .lst []) ne0
      have h34 := s4 _ _ h33
      refine r_eqLI (xs := tk) (ys := []) (lst_of h34) (lst_of upd_same) ?_
      walk_at "s"
      intro du ndu
      have s5 := s4.trans (same_new (o := .lst [.ref mb, .ref Dl, .ref mo, .ref md, .int (dn.length : Nat), .bl (decide (tk = []))]) ndu)
      have hdu : upd (upd H3 e0 (.lst [])) du (.lst [.ref mb, .ref Dl, .ref mo, .ref md, .int (dn.length : Nat), .bl (decide (tk = []))]) du = some (.lst [.ref mb, .ref Dl, .ref mo, .ref md, .int (dn.length : Nat), .bl (decide (tk = []))]) := upd_same
      have hL5 := hL3.same s5
      obtain ⟨dv5, hv5⟩ := hL5.ob
      walk_at "s"
      refine ⟨v, s, b, t, d, n, bs, tk, dn, rfl, hL5, fun H6 p1 s6 np1 hp1 => ?_⟩
      have hL6 := hL5.same s6
      obtain ⟨dv6, hv6⟩ := hL6.ob
      walk_at "s"
      refine ⟨v, s, b, t, d, n, bs, tk, dn, rfl, hL6, by omega, fun H7 p2 s7 np2 hp2 => ?_⟩
      have hL7 := hL6.same s7
      obtain ⟨dv7, hv7⟩ := hL7.ob
      walk_at "s"
      refine ⟨v, s, b, t, d, n, bs, tk, dn, rfl, hL7, fun H8 p3 s8 np3 hp3 => ?_⟩
      have hL8 := hL7.same s8
      obtain ⟨dv8, hv8⟩ := hL8.ob
      walk_at "s"
      refine ⟨v, s, b, t, d, n, bs, tk, dn, rfl, hL8, by omega, fun H9 p4 s9 np4 hp4 => ?_⟩
      walk_at "s"
      intro se nse
      have s10 := same_new (o := .lst [.ref p1, .ref p2, .ref p3, .ref p4]) nse
      have hL10 := (hL8.same s9).same s10
      obtain ⟨dv10, hv10⟩ := hL10.ob
      walk_at "s"
      refine ⟨v, dv10, _, rfl, hv10, v, s, b, t, d, n, bs, tk, dn, rfl, hL10, dn.length, rfl, by omega, ?_⟩
      walk_at "s"
      refine ⟨v, dv10, _, rfl, hv10, v, s, b, t, d, n, bs, tk, dn, rfl, hL10, fun H11 s11 => ?_⟩
      walk_at "s"
      intro l2 nl2
      have s12 := same_new (o := .lst [.int (dn.length : Nat), .bl (decide (tk = []))]) nl2
      refine r_cat (xs := [.ref p1, .ref p2, .ref p3, .ref p4]) (zs := [.int (dn.length : Nat), .bl (decide (tk = []))]) ((s11.trans s12) _ _ upd_same) upd_same (sz (by show 4 + 2 ≤ _; decide)) fun sn nsn => ?_
      have s13 := same_new (o := .lst ([.ref p1, .ref p2, .ref p3, .ref p4] ++ [.int (dn.length : Nat), .bl (decide (tk = []))])) nsn
      have s1013 := s10.trans (s11.trans (s12.trans s13))
      have hshow := shows_show hS
      have g1' := (s7.trans (s8.trans (s9.trans s1013))) _ _ hp1
      have g2' := (s8.trans (s9.trans s1013)) _ _ hp2
      have g3' := (s9.trans s1013) _ _ hp3
      have g4' : Tr (fun _ => True) _ (.ref p4) _ := (hp4.same s1013).any
      walk_at "s"
      refine r_repr (d := dShow bs tk dn) (.lst (lst_of upd_same) (.cons (dp_B (lst_of g1')) (.cons (dp_listI (lst_of g2')) (.cons (dp_listI (lst_of g3')) (.cons g4'.dp (.cons (.int _) (.cons (.bl _) .nil))))))) hshow (by decide) (by decide) ?_
      have s513 := s6.trans (s7.trans (s8.trans (s9.trans s1013)))
      walk_at "s"
      refine r_repr (d := dShow bs tk dn) (.lst (lst_of (s513 _ _ hdu)) (.cons (dp_B (lst_of ((s5.trans s513) _ _ h23))) (.cons (dp_listI (lst_of ((s5.trans s513) _ _ hD))) (.cons (dp_listI (lst_of ((s5.trans s513) _ _ h33))) (.cons (h43.same (s5.trans s513)).dp (.cons (.int _) (.cons (.bl _) .nil))))))) hshow (by decide) (by decide) ?_
      walk_at "s"
      rw [decide_eq_true rfl]
      exact q _ (s3.trans (s5.trans s513))
end

/-- a shelf's state as play makes it -/
structure St (n : Nat) (bs : List (Option Int)) (tk : List Int) : Prop where
  len : bs.length = n
  cnt : bs.count none = tk.length
  nd : tk.Nodup
  rt : ∀ i ∈ tk, 0 ≤ i ∧ i < n
  rb : ∀ i, some i ∈ bs → 0 ≤ i ∧ i < n
  off : ∀ i, some i ∈ bs → i ∉ tk
  inj : ∀ (p q : Nat) (i : Int), bs[p]? = some (some i) → bs[q]? = some (some i) → p = q
def allB (n : Nat) : List (Option Int) := (List.range n).map fun i => some ((i : Nat) : Int)
theorem allB_at {n i : Nat} (h : i < n) : (allB n)[i]? = some (some ((i : Nat) : Int)) := by
  unfold allB
  rw [List.getElem?_map, List.getElem?_range h]
  rfl
theorem St.init (n : Nat) : St n (allB n) [] := by
  have e : (allB n).length = n := by unfold allB; rw [List.length_map, List.length_range]
  refine ⟨e, ?_, .nil, fun i h => absurd h (by simp), fun i h => ?_, fun i _ h => absurd h (by simp), fun p q i hp hq => ?_⟩
  · rw [List.count_eq_zero.mpr]
    · rfl
    · intro h
      obtain ⟨j, _, e⟩ := List.mem_map.mp h
      cases e
  · obtain ⟨j, hj, e⟩ := List.mem_map.mp h
    cases e
    have := List.mem_range.mp hj
    constructor <;> omega
  · have lp := (List.getElem?_eq_some_iff.mp hp).1
    have lq := (List.getElem?_eq_some_iff.mp hq).1
    rw [allB_at (by omega)] at hp hq
    have h1 := Option.some.inj (Option.some.inj hp)
    have h2 := Option.some.inj (Option.some.inj hq)
    omega
theorem set_mem {bs : List (Option Int)} {p : Nat} {x y : Option Int} (h : y ∈ bs.set p x) : y = x ∨ y ∈ bs := by
  rcases List.mem_or_eq_of_mem_set h with h | h
  · exact .inr h
  · exact .inl h
theorem cnt_set : ∀ (bs : List (Option Int)) (p : Nat) (x y : Option Int), bs[p]? = some y → (bs.set p x).count none + (if y = none then 1 else 0) = bs.count none + (if x = none then 1 else 0)
  | [], p, x, y, h => by simp at h
  | z :: bs, 0, x, y, h => by
    have : z = y := Option.some.inj h
    subst this
    show (x :: bs).count none + _ = (z :: bs).count none + _
    rw [List.count_cons, List.count_cons]
    cases z <;> cases x <;> simp
  | z :: bs, p + 1, x, y, h => by
    have ih := cnt_set bs p x y h
    show (z :: bs.set p x).count none + _ = (z :: bs).count none + _
    rw [List.count_cons, List.count_cons]
    omega
theorem St.take {n : Nat} {bs : List (Option Int)} {tk : List Int} {p : Nat} {i : Int} (h : St n bs tk) (hp : bs[p]? = some (some i)) : St n (bs.set p none) (tk ++ [i]) := by
  have him : some i ∈ bs := List.mem_of_getElem? hp
  have hni := h.off i him
  have pl := (List.getElem?_eq_some_iff.mp hp).1
  have c := cnt_set bs p none (some i) hp
  have hcnt := h.cnt
  have at' : ∀ (q : Nat) (j : Int), (bs.set p none)[q]? = some (some j) → q ≠ p ∧ bs[q]? = some (some j) := by
    intro q j hq
    by_cases e : p = q
    · subst e
      rw [List.getElem?_set_self pl] at hq
      cases hq
    · rw [List.getElem?_set_ne e] at hq
      exact ⟨fun z => e z.symm, hq⟩
  refine ⟨by rw [List.length_set]; exact h.len, ?_, ?_, ?_, ?_, ?_, ?_⟩
  · rw [List.length_append, List.length_singleton]
    simp at c
    omega
  · rw [List.nodup_append]
    refine ⟨h.nd, by simp, fun a ha b hb e => ?_⟩
    rw [List.mem_singleton] at hb
    subst hb; subst e
    exact hni ha
  · intro j hj
    rcases List.mem_append.mp hj with hj | hj
    · exact h.rt j hj
    · rw [List.mem_singleton] at hj; subst hj; exact h.rb _ him
  · intro j hj
    rcases set_mem hj with e | hj
    · cases e
    · exact h.rb j hj
  · intro j hj hm
    obtain ⟨q, hq⟩ := List.mem_iff_getElem?.mp hj
    obtain ⟨hqp, hq⟩ := at' q j hq
    rcases List.mem_append.mp hm with hm | hm
    · exact h.off j (List.mem_of_getElem? hq) hm
    · rw [List.mem_singleton] at hm
      subst hm
      exact hqp (h.inj q p _ hq hp)
  · intro q q' j hq hq'
    exact h.inj q q' j (at' q j hq).2 (at' q' j hq').2
theorem St.gap {n : Nat} {bs : List (Option Int)} {tk : List Int} (h : St n bs tk) (ht : tk ≠ []) : none ∈ bs := by
  have := h.cnt
  have := List.length_pos_iff.mpr ht
  exact List.count_pos_iff.mp (by omega)
theorem St.full {n : Nat} {bs : List (Option Int)} {tk : List Int} (h : St n bs tk) (ht : tk = []) : none ∉ bs := by
  have := h.cnt
  rw [ht] at this
  exact List.count_eq_zero.mp this
theorem St.back {n : Nat} {bs : List (Option Int)} {tk : List Int} {p : Nat} {i : Int} (h : St n bs tk) (hp : bs[p]? = some none) (hi : i ∈ tk) : St n (bs.set p (some i)) (tk.erase i) := by
  have pl := (List.getElem?_eq_some_iff.mp hp).1
  have c := cnt_set bs p (some i) none hp
  have hcnt := h.cnt
  have tl := List.length_pos_of_mem hi
  have at' : ∀ (q : Nat) (j : Int), (bs.set p (some i))[q]? = some (some j) → (q = p ∧ j = i) ∨ (q ≠ p ∧ bs[q]? = some (some j)) := by
    intro q j hq
    by_cases e : p = q
    · subst e
      rw [List.getElem?_set_self pl] at hq
      cases hq
      exact .inl ⟨rfl, rfl⟩
    · rw [List.getElem?_set_ne e] at hq
      exact .inr ⟨fun z => e z.symm, hq⟩
  have no : ∀ q : Nat, bs[q]? ≠ some (some i) := fun q hq => h.off i (List.mem_of_getElem? hq) hi
  refine ⟨by rw [List.length_set]; exact h.len, ?_, h.nd.erase _, fun j hj => h.rt j (List.mem_of_mem_erase hj), ?_, ?_, ?_⟩
  · rw [List.length_erase_of_mem hi]
    simp at c
    omega
  · intro j hj
    rcases set_mem hj with e | hj
    · cases e; exact h.rt i hi
    · exact h.rb j hj
  · intro j hj hm
    obtain ⟨q, hq⟩ := List.mem_iff_getElem?.mp hj
    have hm2 := (h.nd.mem_erase_iff).mp hm
    rcases at' q j hq with ⟨_, e⟩ | ⟨_, hq⟩
    · exact hm2.1 e
    · exact h.off j (List.mem_of_getElem? hq) hm2.2
  · intro q q' j hq hq'
    rcases at' q j hq with ⟨e1, e2⟩ | ⟨e1, hq⟩
    · rcases at' q' j hq' with ⟨f1, f2⟩ | ⟨f1, hq'⟩
      · rw [e1, f1]
      · rw [e2] at hq'
        exact absurd hq' (no q')
    · rcases at' q' j hq' with ⟨f1, f2⟩ | ⟨f1, hq'⟩
      · rw [f2] at hq
        exact absurd hq (no q)
      · exact h.inj q q' j hq hq'
theorem St.sml {n : Nat} {bs : List (Option Int)} {tk : List Int} {dn : List Stp} (h : St n bs tk) (hn : n ≤ 200) (hd : dn.length ≤ 900) (hx : ∀ s ∈ dn, Sm s.x) : Sml bs tk dn := by
  have e : (200 : Int) < 10 ^ 6 := by decide
  have c := h.cnt
  have cl := List.count_le_length (a := none) (l := bs)
  have hl := h.len
  exact ⟨by omega, by omega, hd, fun i hi => ⟨(h.rb i hi).1, by have := (h.rb i hi).2; omega⟩, fun i hi => ⟨(h.rt i hi).1, by have := (h.rt i hi).2; omega⟩, hx⟩
theorem LiveAt.kpr {CL CS : Addr} {H H' : Hp} {r v s b t d : Addr} {n : Nat} {bs : List (Option Int)} {tk : List Int} {dn : List Stp} {ys : List V} (h : LiveAt CL CS H v s b t d n bs tk dn) (k : Kp r H H') (hr : H r = some (.lst ys)) (hb : b ≠ r) (ht : t ≠ r) (hd : d ≠ r) : LiveAt CL CS H' v s b t d n bs tk dn := by
  obtain ⟨⟨dx, h1⟩, ⟨⟨ds, h2⟩, h3, h4, h5⟩, ⟨as, a1, a2, a3⟩, h7, h8⟩ := h
  have nv : v ≠ r := fun e => by rw [e, hr] at h1; cases h1
  have ns : s ≠ r := fun e => by rw [e, hr] at h2; cases h2
  refine ⟨⟨dx, k _ _ nv h1⟩, ⟨⟨ds, k _ _ ns h2⟩, k _ _ hb h3, k _ _ ht h4, h5⟩, ⟨as, k _ _ hd a1, a2, fun i a s e1 e2 => ?_⟩, h7, h8⟩
  have z := a3 i a s e1 e2
  exact k _ _ (fun e => by rw [e, hr] at z; cases z) z
theorem RA.val {H : Hp} {r : Addr} {B : List Addr} (h : RA H r B) : ∃ ys, H r = some (.lst ys) := by
  obtain ⟨g, c, gs, cs, k, t, h1, _⟩ := h
  exact ⟨_, h1⟩
theorem RA.kpl {H H' : Hp} {r : Addr} {B L : List Addr} (h : RA H r B) (k : KpL L H H') (hL : ∀ x ∈ L, x ∈ B) (hB : ∀ x ∈ B, H' x ≠ none) : RA H' r B := by
  obtain ⟨g, c, gs, cs, k', t, h1, h2, h3, n1, n2, l1, l2, l3, t0, t1, hb⟩ := h
  refine ⟨g, c, gs, cs, k', t, k _ _ (fun z => (hb _ (hL _ z)).1 rfl) h1, k _ _ (fun z => (hb _ (hL _ z)).2.1 rfl) h2, k _ _ (fun z => (hb _ (hL _ z)).2.2.1 rfl) h3, n1, n2, l1, l2, l3, t0, t1, fun x hx => ?_⟩
  obtain ⟨a, b, d, _⟩ := hb x hx
  exact ⟨a, b, d, hB x hx⟩
theorem RA.grow {H H' : Hp} {r : Addr} {B L : List Addr} (h : RA H r B) (s : Same H H') (hL : ∀ x ∈ L, H x = none ∧ H' x ≠ none) : RA H' r (L ++ B) := by
  have h' := h.same s
  obtain ⟨g, c, gs, cs, k, t, h1, h2, h3, _⟩ := h
  obtain ⟨g', c', gs', cs', k', t', h1', h2', h3', n1, n2, l1, l2, l3, t0, t1, hb⟩ := h'
  have e := (s _ _ h1).symm.trans h1'
  have e2 := HO.lst.inj (Option.some.inj e)
  injection e2 with ea eb
  injection eb with ec _
  cases ea; cases ec
  refine ⟨g, c, gs', cs', k', t', h1', h2', h3', n1, n2, l1, l2, l3, t0, t1, fun x hx => ?_⟩
  rcases List.mem_append.mp hx with hx | hx
  · obtain ⟨z, z'⟩ := hL x hx
    refine ⟨?_, ?_, ?_, z'⟩
    · intro q; rw [q, h1] at z; cases z
    · intro q; rw [q, h2] at z; cases z
    · intro q; rw [q, h3] at z; cases z
  · exact hb x hx

/-! what was done tells the state -/
def step1 (s : List (Option Int) × List Int) (st : Stp) : List (Option Int) × List Int :=
  if st.k then (s.1.set st.p.toNat none, s.2 ++ [st.b]) else (s.1.set st.p.toNat (some st.b), s.2.erase st.b)
def runS (n : Nat) (dn : List Stp) : List (Option Int) × List Int := dn.foldl step1 (allB n, [])
theorem runS_app (n : Nat) (dn : List Stp) (st : Stp) : runS n (dn ++ [st]) = step1 (runS n dn) st := by
  unfold runS
  rw [List.foldl_append]
  rfl
/-- a step that may be done -/
def StepOk (s : List (Option Int) × List Int) (st : Stp) : Prop :=
  (∃ (p : Nat) (i : Int), st = ⟨true, p, p, i, ((s.2.length : Nat) : Int)⟩ ∧ s.1[p]? = some (some i)) ∨
  (∃ (p o : Nat) (i : Int), st = ⟨false, i, p, i, o⟩ ∧ s.1[p]? = some none ∧ s.2[o]? = some i ∧ ∀ m : Nat, m < o → s.2[m]? ≠ some i)
inductive Vld (n : Nat) : List Stp → Prop
  | nil : Vld n []
  | snoc {dn : List Stp} {st : Stp} : Vld n dn → StepOk (runS n dn) st → Vld n (dn ++ [st])
theorem Vld.pop {n : Nat} {dn : List Stp} {st : Stp} (h : Vld n (dn ++ [st])) : Vld n dn ∧ StepOk (runS n dn) st := by
  generalize e : dn ++ [st] = l at h
  cases h with
  | nil => exact absurd e (by simp)
  | snoc a b =>
    have e1 := List.append_inj_left' e rfl
    have e2 := List.append_inj_right' e rfl
    cases e1; cases e2
    exact ⟨a, b⟩
theorem StepOk.st {n : Nat} {s : List (Option Int) × List Int} {st : Stp} (h : St n s.1 s.2) (o : StepOk s st) : St n (step1 s st).1 (step1 s st).2 := by
  rcases o with ⟨p, i, rfl, hp⟩ | ⟨p, o, i, rfl, hp, ho, _⟩
  · show St n (s.1.set ((p : Nat) : Int).toNat none) (s.2 ++ [i])
    rw [Int.toNat_natCast]
    exact h.take hp
  · show St n (s.1.set ((p : Nat) : Int).toNat (some i)) (s.2.erase i)
    rw [Int.toNat_natCast]
    exact h.back hp (List.mem_of_getElem? ho)
theorem Vld.st {n : Nat} {dn : List Stp} (h : Vld n dn) : St n (runS n dn).1 (runS n dn).2 := by
  induction h with
  | nil => exact St.init n
  | snoc a b ih =>
    rw [runS_app]
    exact b.st ih
theorem Vld.take {n : Nat} {dn : List Stp} (h : Vld n dn) : ∀ i, Vld n (dn.take i) := by
  induction h with
  | nil => intro i; rw [List.take_nil]; exact .nil
  | snoc a b ih =>
    rename_i dn st
    intro i
    by_cases hi : i ≤ dn.length
    · rw [List.take_append_of_le_length hi]
      exact ih i
    · rw [List.take_of_length_le (by rw [List.length_append]; show dn.length + 1 ≤ i; omega)]
      exact .snoc a b
theorem Vld.sm {n : Nat} {dn : List Stp} (h : Vld n dn) (hn : n ≤ 200) : ∀ s ∈ dn, Sm s.x := by
  have e : (200 : Int) < 10 ^ 6 := by decide
  induction h with
  | nil => intro s hs; cases hs
  | snoc a b ih =>
    intro s hs
    rcases List.mem_append.mp hs with hs | hs
    · exact ih s hs
    · rw [List.mem_singleton] at hs
      subst hs
      have hst := a.st
      rcases b with ⟨p, i, rfl, hp⟩ | ⟨p, o, i, rfl, hp, ho, _⟩
      · have pl := (List.getElem?_eq_some_iff.mp hp).1
        have := hst.len
        exact ⟨by show 0 ≤ ((p : Nat) : Int); omega, by show ((p : Nat) : Int) < _; omega⟩
      · have := hst.rt i (List.mem_of_getElem? ho)
        exact ⟨this.1, by show i < _; omega⟩

abbrev Slaw_moves : Stmt := topS 22
abbrev Nlaw_moves : List Str := ["reel", "some", "past", "kind", "number", "model", "due", "found"]
theorem sclaw_moves : FnScope Nlaw_moves ["reel", "some", "past"] (defScope Slaw_moves) := ⟨rfl, rfl, rfl, by decide +kernel, rfl, by decide +kernel, by decide +kernel⟩
abbrev Slaw_undone : Stmt := topS 23
abbrev Nlaw_undone : List Str := ["some", "past", "many", "step"]
theorem sclaw_undone : FnScope Nlaw_undone ["some", "past", "many"] (defScope Slaw_undone) := ⟨rfl, rfl, rfl, by decide +kernel, rfl, by decide +kernel, by decide +kernel⟩

theorem atI_last (xs : List V) (y : V) : atI (xs ++ [y]) (-1) = some y := by
  unfold atI
  rw [show ixN (xs ++ [y]).length (-1) = some xs.length by
    unfold ixN
    rw [List.length_append, List.length_singleton, if_neg (by decide), if_pos (by omega)]
    exact congrArg some (by omega)]
  show (xs ++ [y])[xs.length]? = some y
  rw [List.getElem?_append_right (Nat.le_refl _), Nat.sub_self]
  rfl
/-- a live shelf at v and the list at p of its models, from the first to the last -/
structure Trk (CL CS : Addr) (G : Addr → Prop) (H : Hp) (v s b t d p : Addr) (n : Nat) (dn : List Stp) (ms : List Addr) : Prop where
  lv : LiveAt CL CS H v s b t d n (runS n dn).1 (runS n dn).2 dn
  hp : H p = some (.lst (ms.map V.ref))
  ml : ms.length = dn.length + 1
  mo : ∀ (i : Nat) (m : Addr), ms[i]? = some m → Mo G H m (runS n (dn.take i)).1 (runS n (dn.take i)).2 (dn.take i)
  vl : Vld n dn
  pb : p ≠ b ∧ p ≠ t ∧ p ≠ d
theorem Trk.last {CL CS : Addr} {G : Addr → Prop} {H : Hp} {v s b t d p : Addr} {n : Nat} {dn : List Stp} {ms : List Addr} (h : Trk CL CS G H v s b t d p n dn ms) : ∃ (ms0 : List Addr) (m : Addr), ms = ms0 ++ [m] ∧ ms0.length = dn.length ∧ Mo G H m (runS n dn).1 (runS n dn).2 dn ∧ atI (ms.map V.ref) (-1) = some (.ref m) := by
  have ml := h.ml
  have ne : ms ≠ [] := fun z => by rw [z] at ml; simp at ml
  have e : ms = ms.dropLast ++ [ms.getLast ne] := (List.dropLast_concat_getLast ne).symm
  generalize ms.dropLast = ms0 at e
  generalize ms.getLast ne = m at e
  subst e
  rw [List.length_append, List.length_singleton] at ml
  have l0 : ms0.length = dn.length := by omega
  have hm := h.mo ms0.length m (by rw [List.getElem?_append_right (Nat.le_refl _), Nat.sub_self]; rfl)
  rw [l0, List.take_length] at hm
  refine ⟨ms0, m, rfl, l0, hm, ?_⟩
  rw [List.map_append]
  exact atI_last _ _
/-- changes elsewhere -/
theorem Trk.kpl {CL CS : Addr} {G : Addr → Prop} {H H' : Hp} {v s b t d p : Addr} {n : Nat} {dn : List Stp} {ms : List Addr} {L : List Addr} (h : Trk CL CS G H v s b t d p n dn ms) (k : KpL L H H') (hL : ∀ x ∈ L, ∃ ys, H x = some (.lst ys)) (hb : b ∉ L) (ht : t ∉ L) (hd : d ∉ L) (hp : p ∉ L) (hG : ∀ x, G x → x ∉ L) : Trk CL CS G H' v s b t d p n dn ms := by
  obtain ⟨⟨⟨dx, h1⟩, ⟨⟨ds, h2⟩, h3, h4, h5⟩, h6, h7, h8⟩, g2, g3, g4, g5, g6⟩ := h
  have nv : v ∉ L := fun e => by obtain ⟨ys, hy⟩ := hL v e; rw [hy] at h1; cases h1
  have ns : s ∉ L := fun e => by obtain ⟨ys, hy⟩ := hL s e; rw [hy] at h2; cases h2
  exact ⟨⟨⟨dx, k _ _ nv h1⟩, ⟨⟨ds, k _ _ ns h2⟩, k _ _ hb h3, k _ _ ht h4, h5⟩, h6.kpl k hd hL, h7, h8⟩, k _ _ hp g2, g3, fun i m e => (g4 i m e).move fun a o g e => ⟨k _ _ (hG _ g) e, g⟩, g5, g6⟩
theorem Trk.same {CL CS : Addr} {G : Addr → Prop} {H H' : Hp} {v s b t d p : Addr} {n : Nat} {dn : List Stp} {ms : List Addr} (h : Trk CL CS G H v s b t d p n dn ms) (k : Same H H') : Trk CL CS G H' v s b t d p n dn ms :=
  h.kpl (L := []) (KpL.of k) (by simp) (by simp) (by simp) (by simp) (by simp) (by simp)
theorem RA.fresh {H : Hp} {r x : Addr} {B : List Addr} (h : RA H r B) (e : H x = none) : x ∉ r :: B := by
  intro hx
  rcases List.mem_cons.mp hx with rfl | hx
  · exact h.got e
  · obtain ⟨g, c, gs, cs, k, t, h1, h2, h3, n1, n2, l1, l2, l3, t0, t1, hb⟩ := h
    exact (hb x hx).2.2.2 e
theorem RA.live {H : Hp} {r : Addr} {B : List Addr} (h : RA H r B) : ∀ x ∈ B, H x ≠ none := by
  obtain ⟨g, c, gs, cs, k, t, h1, h2, h3, n1, n2, l1, l2, l3, t0, t1, hb⟩ := h
  exact fun x hx => (hb x hx).2.2.2
theorem alive_kpl {H H' : Hp} {M L : List Addr} (a : ∀ x ∈ M, H x ≠ none) (k : KpL L H H') (l : ∀ x ∈ L, H' x ≠ none) : ∀ x ∈ M, H' x ≠ none := by
  intro x hx
  by_cases e : x ∈ L
  · exact l x e
  · obtain ⟨o, ho⟩ := Option.ne_none_iff_exists'.mp (a x hx)
    rw [k _ _ e ho]; simp
theorem LiveAt.alive {CL CS : Addr} {H : Hp} {v s b t d : Addr} {n : Nat} {bs : List (Option Int)} {tk : List Int} {dn : List Stp} (h : LiveAt CL CS H v s b t d n bs tk dn) : ∀ x ∈ [b, t, d], H x ≠ none := by
  obtain ⟨_, ⟨_, p3, p4, _⟩, ⟨_, p6, _⟩, _, _⟩ := h
  intro x hx
  simp only [List.mem_cons, List.not_mem_nil, or_false] at hx
  rcases hx with rfl | rfl | rfl
  · rw [p3]; simp
  · rw [p4]; simp
  · rw [p6]; simp
theorem Trk.snoc {CL CS : Addr} {G : Addr → Prop} {H H' : Hp} {v s b t d p m : Addr} {n : Nat} {dn : List Stp} {ms : List Addr} {st : Stp} (h : Trk CL CS G H v s b t d p n dn ms) (k : KpL [b, t, d] H H') (hG : ∀ x, G x → x ∉ [b, t, d, p]) (o : StepOk (runS n dn) st)
    (hl : LiveAt CL CS H' v s b t d n (runS n (dn ++ [st])).1 (runS n (dn ++ [st])).2 (dn ++ [st])) (hm : Mo G H' m (runS n (dn ++ [st])).1 (runS n (dn ++ [st])).2 (dn ++ [st])) :
    Trk CL CS G (L2.upd H' p (.lst (ms.map V.ref ++ [.ref m]))) v s b t d p n (dn ++ [st]) (ms ++ [m]) := by
  obtain ⟨_, g2, g3, g4, g5, g6⟩ := h
  have hp' : H' p = some (.lst (ms.map V.ref)) := k _ _ (by simp; exact ⟨g6.1, g6.2.1, g6.2.2⟩) g2
  refine ⟨hl.kpr (r := p) Kp.set hp' g6.1.symm g6.2.1.symm g6.2.2.symm, ?_, by rw [List.length_append, List.length_append, g3]; rfl, fun i m' e => ?_, .snoc g5 o, g6⟩
  · rw [upd_same, List.map_append]; rfl
  · have keep : ∀ x o, G x → H' x = some o → L2.upd H' p (.lst (ms.map V.ref ++ [.ref m])) x = some o ∧ G x := fun x o g e => ⟨(upd_ne (fun z : x = p => hG x g (by simp [z]))).trans e, g⟩
    by_cases hi : i < ms.length
    · rw [List.getElem?_append_left hi] at e
      rw [List.take_append_of_le_length (by omega)]
      exact ((g4 i m' e).move fun x o g e => ⟨k _ _ (fun z => hG x g (by simp at z ⊢; rcases z with z | z | z <;> simp [z])) e, g⟩).move keep
    · have hi' : i = ms.length := by
        have := (List.getElem?_eq_some_iff.mp e).1
        rw [List.length_append, List.length_singleton] at this
        omega
      subst hi'
      rw [List.getElem?_append_right (Nat.le_refl _), Nat.sub_self] at e
      cases e
      rw [List.take_of_length_le (by rw [List.length_append]; show dn.length + 1 ≤ _; omega)]
      exact hm.move keep
theorem set_back {α : Type} {l : List α} {p : Nat} {x y : α} (h : l[p]? = some x) : (l.set p y).set p x = l := by
  have hl := (List.getElem?_eq_some_iff.mp h).1
  have e := (List.getElem?_eq_some_iff.mp h).2
  rw [List.set_set, ← e, List.set_getElem_self]
theorem erase_back : ∀ {l : List Int} {o : Nat} {x : Int}, l[o]? = some x → (∀ m : Nat, m < o → l[m]? ≠ some x) → (l.erase x).take o ++ [x] ++ (l.erase x).drop o = l
  | [], o, x, h, _ => by simp at h
  | y :: l, 0, x, h, _ => by
    have : y = x := Option.some.inj h
    subst this
    rw [List.erase_cons_head]
    simp
  | y :: l, o + 1, x, h, no => by
    have ne : y ≠ x := fun e => no 0 (Nat.succ_pos _) (by rw [e]; rfl)
    have ih := erase_back (l := l) (o := o) (x := x) h fun m hm => no (m + 1) (by omega)
    rw [List.erase_cons_tail (by simpa using ne)]
    show y :: ((l.erase x).take o ++ [x] ++ (l.erase x).drop o) = _
    rw [ih]
theorem Trk.unsnoc {CL CS : Addr} {G : Addr → Prop} {H H' : Hp} {v s b t d p : Addr} {n : Nat} {dn : List Stp} {ms ms0 : List Addr} {m : Addr} {st : Stp} (h : Trk CL CS G H v s b t d p n (dn ++ [st]) ms) (em : ms = ms0 ++ [m]) (k : KpL [b, t, d] H H') (hG : ∀ x, G x → x ∉ [b, t, d, p])
    (hl : LiveAt CL CS H' v s b t d n (runS n dn).1 (runS n dn).2 dn) : H' p = some (.lst (ms0.map V.ref ++ [.ref m])) ∧ Trk CL CS G (L2.upd H' p (.lst (ms0.map V.ref))) v s b t d p n dn ms0 := by
  obtain ⟨_, g2, g3, g4, g5, g6⟩ := h
  subst em
  have hp' : H' p = some (.lst ((ms0 ++ [m]).map V.ref)) := k _ _ (by simp; exact ⟨g6.1, g6.2.1, g6.2.2⟩) g2
  have ml : ms0.length = dn.length + 1 := by rw [List.length_append, List.length_append] at g3; exact Nat.succ.inj g3
  refine ⟨by rw [hp', List.map_append]; rfl, hl.kpr (r := p) Kp.set hp' g6.1.symm g6.2.1.symm g6.2.2.symm, upd_same, ml, fun i m' e => ?_, g5.pop.1, g6⟩
  have hi := (List.getElem?_eq_some_iff.mp e).1
  have z := g4 i m' (by rw [List.getElem?_append_left hi]; exact e)
  rw [List.take_append_of_le_length (by omega)] at z
  exact (z.move fun x o g e => ⟨k _ _ (fun z => hG x g (by simp at z ⊢; rcases z with z | z | z <;> simp [z])) e, g⟩).move fun x o g e => ⟨(upd_ne (fun z : x = p => hG x g (by simp [z]))).trans e, g⟩
section
variable {P : Program} {w : World} {K : PySem.W.Frag} {mg : Str → Option Value} {base : Heap}
def spMoves (CL CS : Addr) : Sp := fun vs H Q _ => ∃ (r v s b t d p : Addr) (n : Nat) (dn : List Stp) (ms M : List Addr), vs = [.ref r, .ref v, .ref p] ∧ RA H r M ∧ (∀ x ∈ [b, t, d, p], x ∈ M) ∧ Trk CL CS (fun x => x ∉ r :: M) H v s b t d p n dn ms ∧ 1 ≤ n ∧ n ≤ 200 ∧ dn.length ≤ 500 ∧
  ∀ H' st ms', KpL [r, b, t, d, p] H H' → RA H' r M → Trk CL CS (fun x => x ∉ r :: M) H' v s b t d p n (dn ++ [st]) ms' → Q (.bl true) H'
theorem ok_law_moves {CL CS f : Addr} {fd : FuncData} (B : Bn mg) (D_law_next : Df P w K mg base 2 "_law_next" [] spNext) (D_law_moved : Df P w K mg base 1 "_law_moved" [] spMoved)
    (D_law_shows : Df P w K mg base 3 "_law_shows" [] (spShows CL CS)) (M_LiveShelf_take_book : Mt P w K mg base 3 CL "take_book" [] (spLvTake CL CS)) (M_LiveShelf_return_book : Mt P w K mg base 3 CL "return_book" [] (spLvReturn CL CS)) (F : Fun K "_law_moves" "_law_moves" Slaw_moves f fd) : FnG P w K mg base 4 f fd ["reel", "some", "past"] (spMoves CL CS) := by
  refine gok F sclaw_moves (fun vs H Q E h => ?_) (fun cdv A fs s H vs Q E hG hr h => ?_)
  · obtain ⟨_, _, _, _, _, _, _, _, _, _, _, rfl, _⟩ := h; rfl
  · obtain ⟨r, v, s, b, t, d, p, n, dn, ms, M, rfl, hR, hM, hT, hn1, hn2, hdl, q⟩ := h
    have hu := hr.units
    obtain ⟨ms0, m, ems, l0, hmo, eat⟩ := hT.last
    have hS := hT.vl.st
    have hcnt := hS.cnt
    have hcl := List.count_le_length (a := none) (l := (runS n dn).1)
    have hlen := hS.len
    have hp := hT.hp
    refine ⟨_, (pss_cons (ps_asg (pe_df D_law_next hG (hr.mono (by first | decide | omega)) passL (by rfl) (pa_cons (pv 0) (pa_cons (pe_ix (k_ixL K) (pv 2) (pe_un un_neg pe_int) (fun _ _ => rfl)) pa_nil))) (k_gtup (n := 2) K rfl (pgs_cons (pg_name (i := 3) sclaw_moves.nd rfl (Or.inl rfl)) (pgs_cons (pg_name (i := 4) sclaw_moves.nd rfl (Or.inl rfl)) pgs_nil)))) (pss_cons (ps_asg (pe_df D_law_moved hG (hr.mono (by first | decide | omega)) passL (by rfl) (pa_cons (pe_ix (k_ixL K) (pv 2) (pe_un un_neg pe_int) (fun _ _ => rfl)) (pa_cons (pv 3) (pa_cons (pv 4) pa_nil)))) (k_gtup (n := 2) K rfl (pgs_cons (pg_name (i := 5) sclaw_moves.nd rfl (Or.inl rfl)) (pgs_cons (pg_name (i := 6) sclaw_moves.nd rfl (Or.inl rfl)) pgs_nil)))) (pss_cons (ps_set (i := 7) sclaw_moves.nd rfl (Or.inl rfl) (pe_ifExp (pt_cmpR op_eq (pv 3) pe_str (nomark _)) (pe_mt M_LiveShelf_take_book hG (hr.mono (by first | decide | omega)) passL (pv 1) (pa_cons (pv 4) pa_nil)) (pe_mt M_LiveShelf_return_book hG (hr.mono (by first | decide | omega)) passL (pv 1) (pa_cons (pv 4) pa_nil)))) (pss_cons (ps_expr (k_bmP K (pe_bm PySem.F.plainAttrs_list PySem.F.slot_list_append PySem.F.type_list_append mt_append (pv 2) (pa_cons (pv 5) pa_nil)))) (pss_one (ps_ret (pe_and (pe_cmpR op_eq (pv 7) (pv 6) (nomark _)) (pe_one (pe_df D_law_shows hG (hr.mono (by first | decide | omega)) passL (by rfl) (pa_cons (pv 1) (pa_cons (pv 5) pa_nil))))))))))), ?_⟩
    walk_at "s"
    refine ⟨r, m, M, _, _, _, dn, rfl, hR, hmo, fun x g z => g (by simp [z]), by omega, by omega, by omega, hS.full, fun H1 pp k x hpp hK1 hR1 hk1 hk0 => ?_⟩
    obtain ⟨ry, hry⟩ := hR.val
    have nMr : ∀ x ∈ M, x ≠ r := fun x hx => hR.off hx
    have hT1 := hT.kpl (L := [r]) (hK1.kpl (by simp)) (by simp; exact ⟨ry, hry⟩) (by simp; exact nMr _ (hM b (by simp))) (by simp; exact nMr _ (hM t (by simp))) (by simp; exact nMr _ (hM d (by simp))) (by simp; exact nMr _ (hM p (by simp))) (fun x g => by simp; exact fun z => g (by simp [z]))
    have hp1 := hT1.hp
    obtain ⟨ms1, m1, ems1, l1, hmo1, eat1⟩ := hT1.last
    walk_at "s"
    have hS1 := hT1.vl.st
    cases k with
    | true =>
      obtain ⟨x0, i0, hpx⟩ := hk1 rfl
      obtain ⟨pl, rfl⟩ := Int.eq_ofNat_of_zero_le x0
      rw [Int.toNat_natCast] at hpx
      refine ⟨m1, _, _, _, dn, ⟨true, pl, pl, i0, (((runS n dn).2.length : Nat) : Int)⟩, rfl, hmo1, by omega, by omega, by omega, fun _ => ⟨pl, i0, rfl, hpx, fun H2 m' tt s2 htt hMm => ?_⟩, fun z => (by cases z)⟩
      have est : runS n (dn ++ [(⟨true, pl, pl, i0, (((runS n dn).2.length : Nat) : Int)⟩ : Stp)]) = ((runS n dn).1.set pl none, (runS n dn).2 ++ [i0]) := by
        rw [runS_app]
        unfold step1
        simp
      have hM2 : Mo (fun x => x ∉ r :: M) H2 m' (runS n (dn ++ [(⟨true, pl, pl, i0, (((runS n dn).2.length : Nat) : Int)⟩ : Stp)])).1 (runS n (dn ++ [(⟨true, pl, pl, i0, (((runS n dn).2.length : Nat) : Int)⟩ : Stp)])).2 (dn ++ [(⟨true, pl, pl, i0, (((runS n dn).2.length : Nat) : Int)⟩ : Stp)]) := by
        rw [est]
        exact hMm.move fun x o g e => ⟨e, g.elim id fun z => hR1.fresh z⟩
      have hT2 := hT1.same s2
      have hR2 := hR1.same s2
      obtain ⟨dv2, hv2⟩ := hT2.lv.ob
      walk_at "s"
      try refine ifDT (by decide) ?_
      walk_at "s"
      refine ⟨v, s, b, t, d, n, _, _, dn, pl, i0, rfl, hT2.lv, hpx, by omega, by omega, fun H3 hK3 hL3 => ?_⟩
      have hR3 := hR2.kpl hK3 (fun x hx => hM x (by simp at hx ⊢; rcases hx with hx | hx | hx <;> simp [hx])) (alive_kpl hR2.live hK3 hL3.alive)
      rw [← show (runS n (dn ++ [(⟨true, pl, pl, i0, (((runS n dn).2.length : Nat) : Int)⟩ : Stp)])).1 = (runS n dn).1.set pl none by rw [est], ← show (runS n (dn ++ [(⟨true, pl, pl, i0, (((runS n dn).2.length : Nat) : Int)⟩ : Stp)])).2 = (runS n dn).2 ++ [i0] by rw [est]] at hL3
      have hok : StepOk (runS n dn) (⟨true, pl, pl, i0, (((runS n dn).2.length : Nat) : Int)⟩ : Stp) := .inl ⟨pl, i0, rfl, hpx⟩
      generalize (⟨true, pl, pl, i0, (((runS n dn).2.length : Nat) : Int)⟩ : Stp) = st at *
      have hM3 := hM2.move (G' := fun x => x ∉ r :: M) (H' := H3) fun x o g e => ⟨hK3 _ _ (fun z => g (List.mem_cons_of_mem _ (hM x (by simp at z ⊢; rcases z with z | z | z <;> simp [z])))) e, g⟩
      have hT4 := hT2.snoc hK3 (fun x g z => g (List.mem_cons_of_mem _ (hM x z))) hok hL3 hM3
      have hp3 : H3 p = some (.lst (ms.map V.ref)) := hK3 _ _ (by simp; exact ⟨hT.pb.1, hT.pb.2.1, hT.pb.2.2⟩) hT2.hp
      have msl : ms.length ≤ 900 := by rw [hT.ml]; omega
      have hv3 := hL3.ob
      walk_at "s"
      have hM4 := hM3.move (G' := fun x => x ∉ r :: M) (H' := upd H3 p (.lst (ms.map V.ref ++ [.ref m']))) fun x o g e => ⟨(upd_ne (fun z : x = p => g (by rw [z]; exact List.mem_cons_of_mem _ (hM p (by simp))))).trans e, g⟩
      refine ⟨v, s, b, t, d, m', n, _, _, _, _, rfl, hT4.lv, hM4, hT4.vl.st.sml hn2 (by rw [List.length_append, List.length_singleton]; omega) (hT4.vl.sm hn2), fun H5 s5 => ?_⟩
      refine q H5 st _ ?_ ((hR3.set (hM p (by simp))).same s5) (hT4.same s5)
      exact ((((hK1.kpl (by simp)).trans (KpL.of s2)).trans (hK3.more (by simp))).set (by simp)).trans (KpL.of s5)
    | false =>
      have hxt := hk0 rfl
      have hx0 := hS1.rt x hxt
      obtain ⟨pl, hpx, hp2⟩ := first_at (hS1.gap (fun z => by rw [z] at hxt; cases hxt))
      obtain ⟨o, ho, ho2, _⟩ := erase_at hxt
      refine ⟨m1, _, _, _, dn, ⟨false, x, pl, x, o⟩, rfl, hmo1, by omega, by omega, by omega, fun z => (by cases z), fun _ => ⟨pl, hpx, hp2, hS1.nd, fun H2 m' tt s2 htt hMm => ?_⟩⟩
      have est : runS n (dn ++ [(⟨false, x, pl, x, o⟩ : Stp)]) = ((runS n dn).1.set pl (some x), (runS n dn).2.erase x) := by
        rw [runS_app]
        unfold step1
        simp
      have hM2 : Mo (fun x => x ∉ r :: M) H2 m' (runS n (dn ++ [(⟨false, x, pl, x, o⟩ : Stp)])).1 (runS n (dn ++ [(⟨false, x, pl, x, o⟩ : Stp)])).2 (dn ++ [(⟨false, x, pl, x, o⟩ : Stp)]) := by
        rw [est]
        exact hMm.move fun x o g e => ⟨e, g.elim id fun z => hR1.fresh z⟩
      have hT2 := hT1.same s2
      have hR2 := hR1.same s2
      obtain ⟨dv2, hv2⟩ := hT2.lv.ob
      walk_at "s"
      try refine ifDF (by decide) ?_
      walk_at "s"
      refine ⟨v, s, b, t, d, n, _, _, dn, pl, o, x, rfl, hT2.lv, hx0.1, hpx, hp2, ho, ho2, by omega, fun H3 hK3 hL3 => ?_⟩
      have hR3 := hR2.kpl hK3 (fun x hx => hM x (by simp at hx ⊢; rcases hx with hx | hx | hx <;> simp [hx])) (alive_kpl hR2.live hK3 hL3.alive)
      rw [← show (runS n (dn ++ [(⟨false, x, pl, x, o⟩ : Stp)])).1 = (runS n dn).1.set pl (some x) by rw [est], ← show (runS n (dn ++ [(⟨false, x, pl, x, o⟩ : Stp)])).2 = (runS n dn).2.erase x by rw [est]] at hL3
      have hok : StepOk (runS n dn) (⟨false, x, pl, x, o⟩ : Stp) := .inr ⟨pl, o, x, rfl, hpx, ho, ho2⟩
      generalize (⟨false, x, pl, x, o⟩ : Stp) = st at *
      have hM3 := hM2.move (G' := fun x => x ∉ r :: M) (H' := H3) fun x o g e => ⟨hK3 _ _ (fun z => g (List.mem_cons_of_mem _ (hM x (by simp at z ⊢; rcases z with z | z | z <;> simp [z])))) e, g⟩
      have hT4 := hT2.snoc hK3 (fun x g z => g (List.mem_cons_of_mem _ (hM x z))) hok hL3 hM3
      have hp3 : H3 p = some (.lst (ms.map V.ref)) := hK3 _ _ (by simp; exact ⟨hT.pb.1, hT.pb.2.1, hT.pb.2.2⟩) hT2.hp
      have msl : ms.length ≤ 900 := by rw [hT.ml]; omega
      have hv3 := hL3.ob
      walk_at "s"
      have hM4 := hM3.move (G' := fun x => x ∉ r :: M) (H' := upd H3 p (.lst (ms.map V.ref ++ [.ref m']))) fun x o g e => ⟨(upd_ne (fun z : x = p => g (by rw [z]; exact List.mem_cons_of_mem _ (hM p (by simp))))).trans e, g⟩
      refine ⟨v, s, b, t, d, m', n, _, _, _, _, rfl, hT4.lv, hM4, hT4.vl.st.sml hn2 (by rw [List.length_append, List.length_singleton]; omega) (hT4.vl.sm hn2), fun H5 s5 => ?_⟩
      refine q H5 st _ ?_ ((hR3.set (hM p (by simp))).same s5) (hT4.same s5)
      exact ((((hK1.kpl (by simp)).trans (KpL.of s2)).trans (hK3.more (by simp))).set (by simp)).trans (KpL.of s5)
def spUndone (CL CS : Addr) : Sp := fun vs H Q _ => ∃ (r v s b t d p : Addr) (n : Nat) (dn : List Stp) (ms M : List Addr) (many : Int), vs = [.ref v, .ref p, .int many] ∧ RA H r M ∧ (∀ x ∈ [b, t, d, p], x ∈ M) ∧ Trk CL CS (fun x => x ∉ r :: M) H v s b t d p n dn ms ∧ 1 ≤ n ∧ n ≤ 200 ∧ dn.length ≤ 500 ∧ 0 ≤ many ∧ many ≤ 1000 ∧
  ∀ H' (k : Nat) ms', k ≤ dn.length → (k : Int) = (if (dn.length : Int) < many then (dn.length : Int) else many) → KpL [r, b, t, d, p] H H' → RA H' r M → Trk CL CS (fun x => x ∉ r :: M) H' v s b t d p n (dn.take (dn.length - k)) ms' → Q (.bl true) H'
theorem ok_law_undone {CL CS f : Addr} {fd : FuncData} (B : Bn mg) (D_law_shows : Df P w K mg base 3 "_law_shows" [] (spShows CL CS)) (M_LiveShelf_undo : Mt P w K mg base 1 CL "undo" [] (spLvUndo CL CS)) (F : Fun K "_law_undone" "_law_undone" Slaw_undone f fd) : FnG P w K mg base 4 f fd ["some", "past", "many"] (spUndone CL CS) := by
  refine gok F sclaw_undone (fun vs H Q E h => ?_) (fun cdv A fs s H vs Q E hG hr h => ?_)
  · obtain ⟨_, _, _, _, _, _, _, _, _, _, _, _, rfl, _⟩ := h; rfl
  · obtain ⟨r, v, s, b, t, d, p, n, dn, ms, M, many, rfl, hR, hM, hT, hn1, hn2, hdl, h0, h1, q⟩ := h
    have hu := hr.units
    have hp := hT.hp
    have ml := hT.ml
    refine ⟨_, (pss_cons (ps_for (passes_of rfl) rfl (pi_range1 (by rfl) B.range (pa_cons (pe_callB (call_min2' rfl) (by rfl) B.min Bmin (pa_cons (pv 2) (pa_cons (pe_op op_sub (pe_callB (k_len K) (by rfl) B.len Blen (pa_cons (pv 1) pa_nil)) pe_int) pa_nil))) pa_nil)) (pg_name (i := 3) sclaw_undone.nd rfl (Or.inl rfl)) (pss_cons (ps_if (pt_cmpR op_notN' (pe_mt0 M_LiveShelf_undo hG (hr.mono (by first | decide | omega)) passL (pv 0)) pe_non (nomark _)) (pss_one (ps_ret pe_bl)) pss_nil) (pss_cons (ps_expr (k_bm0P K (pe_bm0 PySem.F.plainAttrs_list PySem.F.slot_list_pop PySem.F.type_list_pop mt_pop (pv 1)))) (pss_one (ps_if (pt_not (pt_val (pe_df D_law_shows hG (hr.mono (by first | decide | omega)) passL (by rfl) (pa_cons (pv 0) (pa_cons (pe_ix (k_ixL K) (pv 1) (pe_un un_neg pe_int) (fun _ _ => rfl)) pa_nil))))) (pss_one (ps_ret pe_bl)) pss_nil))))) (pss_one (ps_ret pe_bl))), ?_⟩
    walk_at "s"
    rw [List.length_map, ml]
    have ec : (((dn.length + 1 : Nat) : Int) - 1) = ((dn.length : Nat) : Int) := by omega
    rw [ec]
    have hc : ∃ k : Nat, (if ((dn.length : Nat) : Int) < many then ((dn.length : Nat) : Int) else many) = (k : Int) ∧ k ≤ dn.length := by
      split
      · exact ⟨dn.length, rfl, Nat.le_refl _⟩
      · exact ⟨many.toNat, (Int.toNat_of_nonneg h0).symm, by omega⟩
    obtain ⟨c, hc1, hc2⟩ := hc
    have qq := hc1
    rw [hc1]
    refine ⟨_, rfl, by omega, by omega, ?_⟩
    rw [Int.toNat_natCast]
    refine for_src src_range (fun i σ H' => ∃ ms' v3, σ = [some (.ref v), some (.ref p), some (.int many), v3] ∧ Trk CL CS (fun x => x ∉ r :: M) H' v s b t d p n (dn.take (dn.length - i)) ms' ∧ KpL [r, b, t, d, p] H H' ∧ RA H' r M) (fun _ _ _ _ => trivial)
      ⟨ms, none, rfl, by rw [Nat.sub_zero, List.take_length]; exact hT, KpL.refl _ _, hR⟩ ?_ ?_
    · rintro i x σ H1 H2 hi ⟨ms', v3, rfl, hT1, hK1, hR1⟩ ⟨rfl, rfl⟩
      have hdi : dn.length - i = (dn.length - (i + 1)) + 1 := by omega
      have hst := List.getElem?_eq_getElem (show dn.length - (i + 1) < dn.length by omega)
      rw [hdi, take_succ' hst] at hT1
      generalize dn[dn.length - (i + 1)]'(by omega) = st at hT1
      have dl : (dn.take (dn.length - (i + 1))).length ≤ 500 := by rw [List.length_take]; omega
      generalize dn.take (dn.length - (i + 1)) = dn0 at *
      obtain ⟨hV, hok⟩ := hT1.vl.pop
      have hS := hV.st
      have hSt := hT1.vl.st
      have hcnt := hSt.cnt
      have hcl := List.count_le_length (a := none) (l := (runS n (dn0 ++ [st])).1)
      have hlen := hSt.len
      obtain ⟨ms0, m, em, l0, hmo, eat⟩ := hT1.last
      obtain ⟨dv1, hv1⟩ := hT1.lv.ob
      have erun := runS_app n dn0 st
      have key : ∀ H3, KpL [b, t, d] H2 H3 → LiveAt CL CS H3 v s b t d n (runS n dn0).1 (runS n dn0).2 dn0 → ∃ ms0 m, H3 p = some (.lst (ms0.map V.ref ++ [.ref m])) ∧ Trk CL CS (fun x => x ∉ r :: M) (upd H3 p (.lst (ms0.map V.ref))) v s b t d p n dn0 ms0 ∧ RA H3 r M := by
        intro H3 hK3 hL3
        have z := hT1.unsnoc em hK3 (fun x g z => g (List.mem_cons_of_mem _ (hM x z))) hL3
        exact ⟨ms0, m, z.1, z.2, hR1.kpl hK3 (fun x hx => hM x (by simp at hx ⊢; rcases hx with hx | hx | hx <;> simp [hx])) (alive_kpl hR1.live hK3 hL3.alive)⟩
      have fin : ∀ H3, KpL [b, t, d] H2 H3 → LiveAt CL CS H3 v s b t d n (runS n dn0).1 (runS n dn0).2 dn0 → ∃ ms0 m, H3 p = some (.lst (ms0.map V.ref ++ [.ref m])) ∧ Trk CL CS (fun x => x ∉ r :: M) (upd H3 p (.lst (ms0.map V.ref))) v s b t d p n dn0 ms0 ∧ RA (upd H3 p (.lst (ms0.map V.ref))) r M ∧ KpL [r, b, t, d, p] H (upd H3 p (.lst (ms0.map V.ref))) := by
        intro H3 hK3 hL3
        obtain ⟨ms0, m, e1, e2, e3⟩ := key H3 hK3 hL3
        exact ⟨ms0, m, e1, e2, e3.set (hM p (by simp)), (hK1.trans (hK3.more (by simp))).set (by simp)⟩
      walk_at "s"
      rcases hok with ⟨p0, i0, rfl, hp0⟩ | ⟨p0, o, i0, rfl, hp0, ho, ho2⟩
      · have e1 : (runS n (dn0 ++ [(⟨true, p0, p0, i0, (((runS n dn0).2.length : Nat) : Int)⟩ : Stp)])) = ((runS n dn0).1.set p0 none, (runS n dn0).2 ++ [i0]) := by
          rw [erun]
          unfold step1
          simp
        have pl := (List.getElem?_eq_some_iff.mp hp0).1
        have hl0 := hS.len
        refine ⟨v, s, b, t, d, n, _, _, dn0, _, p0, rfl, hT1.lv, rfl, by rw [e1, List.length_set]; exact pl, by omega, by omega, fun _ => ⟨(runS n dn0).2, i0, by rw [e1], fun H3 hK3 hL3 => ?_⟩, fun z => by cases z⟩
        rw [e1, set_back hp0] at hL3
        obtain ⟨ms1, m1, hp3, hT4, hR4, hK4⟩ := fin H3 hK3 hL3
        walk_at "s"
        refine r_pop hp3 ?_
        obtain ⟨ms2, m2, em2, l2, hmo4, eat4⟩ := hT4.last
        have hp4 := hT4.hp
        walk_at "s"
        refine ⟨v, s, b, t, d, m2, n, _, _, _, dn0, rfl, hT4.lv, hmo4, hT4.vl.st.sml hn2 (by omega) (hT4.vl.sm hn2), fun H5 s5 => ?_⟩
        walk_at "s"
        exact ⟨ms1, _, rfl, hT4.same s5, hK4.trans (KpL.of s5), hR4.same s5⟩
      · have e1 : (runS n (dn0 ++ [(⟨false, i0, p0, i0, o⟩ : Stp)])) = ((runS n dn0).1.set p0 (some i0), (runS n dn0).2.erase i0) := by
          rw [erun]
          unfold step1
          simp
        have pl := (List.getElem?_eq_some_iff.mp hp0).1
        have ol := (List.getElem?_eq_some_iff.mp ho).1
        have hl0 := hS.len
        refine ⟨v, s, b, t, d, n, _, _, dn0, _, p0, rfl, hT1.lv, rfl, by rw [e1, List.length_set]; exact pl, by omega, by omega, fun z => (by cases z), fun _ => ⟨o, rfl, by rw [e1, List.length_erase_of_mem (List.mem_of_getElem? ho)]; omega, fun H3 hK3 hL3 => ?_⟩⟩
        rw [e1, set_back hp0, erase_back ho ho2] at hL3
        obtain ⟨ms1, m1, hp3, hT4, hR4, hK4⟩ := fin H3 hK3 hL3
        walk_at "s"
        refine r_pop hp3 ?_
        obtain ⟨ms2, m2, em2, l2, hmo4, eat4⟩ := hT4.last
        have hp4 := hT4.hp
        walk_at "s"
        refine ⟨v, s, b, t, d, m2, n, _, _, _, dn0, rfl, hT4.lv, hmo4, hT4.vl.st.sml hn2 (by omega) (hT4.vl.sm hn2), fun H5 s5 => ?_⟩
        walk_at "s"
        exact ⟨ms1, _, rfl, hT4.same s5, hK4.trans (KpL.of s5), hR4.same s5⟩
    · rintro σ H1 ⟨ms', v3, rfl, hT1, hK1, hR1⟩
      walk_at "s"
      exact q H1 c ms' hc2 hc1.symm hK1 hR1 hT1
end

theorem Trk.lists {CL CS : Addr} {G : Addr → Prop} {H : Hp} {v s b t d p : Addr} {n : Nat} {dn : List Stp} {ms : List Addr} (h : Trk CL CS G H v s b t d p n dn ms) : ∀ x ∈ [b, t, d, p], ∃ ys, H x = some (.lst ys) := by
  obtain ⟨⟨_, ⟨_, p3, p4, _⟩, ⟨_, p6, _⟩, _, _⟩, g2, _⟩ := h
  intro x hx
  simp only [List.mem_cons, List.not_mem_nil, or_false] at hx
  rcases hx with rfl | rfl | rfl | rfl
  · exact ⟨_, p3⟩
  · exact ⟨_, p4⟩
  · exact ⟨_, p6⟩
  · exact ⟨_, g2⟩
theorem Trk.weak {CL CS : Addr} {G G' : Addr → Prop} {H : Hp} {v s b t d p : Addr} {n : Nat} {dn : List Stp} {ms : List Addr} (h : Trk CL CS G H v s b t d p n dn ms) (g : ∀ x o, H x = some o → G x → G' x) : Trk CL CS G' H v s b t d p n dn ms := by
  obtain ⟨h1, g2, g3, g4, g5, g6⟩ := h
  exact ⟨h1, g2, g3, fun i m e => (g4 i m e).move fun a o z e => ⟨e, g a o e z⟩, g5, g6⟩
/-- two live shelves with their pasts -/
structure Two (CL CS : Addr) (H : Hp) (r : Addr) (n : Nat) (v s b t d p : Addr) (dn : List Stp) (ms : List Addr) (v' s' b' t' d' p' : Addr) (dn' : List Stp) (ms' : List Addr) : Prop where
  ra : RA H r [b, t, d, p, b', t', d', p']
  a : Trk CL CS (fun x => x ∉ r :: [b, t, d, p, b', t', d', p']) H v s b t d p n dn ms
  a' : Trk CL CS (fun x => x ∉ r :: [b, t, d, p, b', t', d', p']) H v' s' b' t' d' p' n dn' ms'
  dj : ∀ x ∈ [b, t, d, p], x ∉ [b', t', d', p']
section
variable {CL CS : Addr} {H H' : Hp} {r : Addr} {n : Nat} {v s b t d p : Addr} {dn : List Stp} {ms : List Addr} {v' s' b' t' d' p' : Addr} {dn' : List Stp} {ms' : List Addr}
theorem Two.same (h : Two CL CS H r n v s b t d p dn ms v' s' b' t' d' p' dn' ms') (k : Same H H') : Two CL CS H' r n v s b t d p dn ms v' s' b' t' d' p' dn' ms' := ⟨h.ra.same k, h.a.same k, h.a'.same k, h.dj⟩
theorem Two.swap (h : Two CL CS H r n v s b t d p dn ms v' s' b' t' d' p' dn' ms') : Two CL CS H r n v' s' b' t' d' p' dn' ms' v s b t d p dn ms := by
  have e : ∀ x, x ∉ r :: [b, t, d, p, b', t', d', p'] → x ∉ r :: [b', t', d', p', b, t, d, p] := fun x g z => g (by
    simp only [List.mem_cons, List.not_mem_nil, or_false] at z ⊢
    rcases z with z | z | z | z | z | z | z | z | z <;> simp [z])
  exact ⟨h.ra.less (fun x hx => by
    simp only [List.mem_cons, List.not_mem_nil, or_false] at hx ⊢
    rcases hx with z | z | z | z | z | z | z | z <;> simp [z]), h.a'.weak fun x _ _ g => e x g, h.a.weak fun x _ _ g => e x g, fun x hx hy => h.dj x hy hx⟩
/-- the first shelf goes on -/
theorem Two.first {dn2 : List Stp} {ms2 : List Addr} (h : Two CL CS H r n v s b t d p dn ms v' s' b' t' d' p' dn' ms') (k : KpL [r, b, t, d, p] H H') (hr : RA H' r [b, t, d, p, b', t', d', p']) (h2 : Trk CL CS (fun x => x ∉ r :: [b, t, d, p, b', t', d', p']) H' v s b t d p n dn2 ms2) : Two CL CS H' r n v s b t d p dn2 ms2 v' s' b' t' d' p' dn' ms' := by
  have nr : ∀ x ∈ [b', t', d', p'], x ∉ [r, b, t, d, p] := fun x hx z => by
    rcases List.mem_cons.mp z with rfl | z
    · exact h.ra.off (List.mem_append_right [b, t, d, p] hx) rfl
    · exact h.dj x z hx
  refine ⟨hr, h2, h.a'.kpl k (fun x hx => ?_) (nr _ (by simp)) (nr _ (by simp)) (nr _ (by simp)) (nr _ (by simp)) (fun x g z => g ?_), h.dj⟩
  · rcases List.mem_cons.mp hx with rfl | hx
    · exact h.ra.val
    · exact h.a.lists x hx
  · simp only [List.mem_cons, List.not_mem_nil, or_false] at z ⊢
    rcases z with z | z | z | z | z <;> simp [z]
/-- draws -/
theorem Two.kp (h : Two CL CS H r n v s b t d p dn ms v' s' b' t' d' p' dn' ms') (k : Kp r H H') (hr : RA H' r [b, t, d, p, b', t', d', p']) : Two CL CS H' r n v s b t d p dn ms v' s' b' t' d' p' dn' ms' := by
  have nr : ∀ x ∈ [b, t, d, p, b', t', d', p'], x ∉ [r] := fun x hx z => h.ra.off hx (List.mem_singleton.mp z)
  have hv : ∀ x ∈ [r], ∃ ys, H x = some (.lst ys) := fun x hx => by rw [List.mem_singleton] at hx; subst hx; exact h.ra.val
  have hG : ∀ x, x ∉ r :: [b, t, d, p, b', t', d', p'] → x ∉ [r] := fun x g z => g (by rw [List.mem_singleton] at z; simp [z])
  exact ⟨hr, h.a.kpl (k.kpl (by simp)) hv (nr _ (by simp)) (nr _ (by simp)) (nr _ (by simp)) (nr _ (by simp)) hG, h.a'.kpl (k.kpl (by simp)) hv (nr _ (by simp)) (nr _ (by simp)) (nr _ (by simp)) (nr _ (by simp)) hG, h.dj⟩
/-- one shelf and its duplicate, at places new since H -/
theorem Two.dup {G : Addr → Prop} {B : List Addr} {v2 s2 b2 t2 d2 p2 : Addr} (hR : RA H r B) (hB : ∀ x ∈ [b, t, d, p], x ∈ B) (h : Trk CL CS G H v s b t d p n dn ms) (hG : ∀ x, G x → x ∉ r :: [b, t, d, p]) (k : Same H H') (hb : H b2 = none) (ht : H t2 = none) (hd : H d2 = none) (hp : H p2 = none) (hpb : p2 ≠ b2 ∧ p2 ≠ t2 ∧ p2 ≠ d2)
    (hl : LiveAt CL CS H' v2 s2 b2 t2 d2 n (runS n dn).1 (runS n dn).2 dn) (hpp : H' p2 = some (.lst (ms.map V.ref))) : Two CL CS H' r n v s b t d p dn ms v2 s2 b2 t2 d2 p2 dn ms := by
  have new : ∀ x ∈ [b2, t2, d2, p2], H x = none := fun x hx => by
    simp only [List.mem_cons, List.not_mem_nil, or_false] at hx
    rcases hx with rfl | rfl | rfl | rfl <;> assumption
  have hw := h.weak (G' := fun x => x ∉ r :: [b, t, d, p, b2, t2, d2, p2]) fun x o e g z => by
    rcases List.mem_cons.mp z with z | z
    · exact hG x g (by simp [z])
    · rcases List.mem_append.mp (show x ∈ [b, t, d, p] ++ [b2, t2, d2, p2] from z) with z | z
      · exact hG x g (List.mem_cons_of_mem _ z)
      · rw [new x z] at e; cases e
  have hw' := hw.same k
  refine ⟨?_, hw', ⟨hl, hpp, h.ml, hw'.mo, h.vl, hpb⟩, fun x hx z => ?_⟩
  · have al := hl.alive
    refine (hR.grow k (L := [b2, t2, d2, p2]) fun x hx => ⟨new x hx, ?_⟩).less fun x hx => ?_
    · simp only [List.mem_cons, List.not_mem_nil, or_false] at hx
      rcases hx with rfl | rfl | rfl | rfl
      · exact al _ (by simp)
      · exact al _ (by simp)
      · exact al _ (by simp)
      · rw [hpp]; simp
    · rcases List.mem_append.mp (show x ∈ [b, t, d, p] ++ [b2, t2, d2, p2] from hx) with hx | hx
      · exact List.mem_append_right _ (hB x hx)
      · exact List.mem_append_left _ hx
  · obtain ⟨ys, hy⟩ := h.lists x hx
    rw [new x z] at hy
    cases hy
end

abbrev Slaw : Stmt := topS 24
abbrev Nlaw : List Str := ["script", "reel", "k", "size", "some", "past", "mate", "other", "step", "way"]
theorem sclaw : FnScope Nlaw ["script"] (defScope Slaw) := ⟨rfl, rfl, rfl, by decide +kernel, rfl, by decide +kernel, by decide +kernel⟩

theorem trk_init {CL CS : Addr} {H6 : Hp} {r v s b t d p mb mo md m : Addr} {n : Nat} {ys : List V} (hL : LiveAt CL CS H6 v s b t d n (allB n) [] []) (hr : H6 r = some (.lst ys)) (nmb : H6 mb = none) (nmo : L2.upd H6 mb (.lst (vB (allB n))) mo = none) (nmd : L2.upd (L2.upd H6 mb (.lst (vB (allB n)))) mo (.lst []) md = none)
    (nm : L2.upd (L2.upd (L2.upd H6 mb (.lst (vB (allB n)))) mo (.lst [])) md (.lst []) m = none) (np : L2.upd (L2.upd (L2.upd (L2.upd H6 mb (.lst (vB (allB n)))) mo (.lst [])) md (.lst [])) m (.lst [.ref mb, .ref mo, .ref md]) p = none) :
    Same H6 (L2.upd (L2.upd (L2.upd (L2.upd (L2.upd H6 mb (.lst (vB (allB n)))) mo (.lst [])) md (.lst [])) m (.lst [.ref mb, .ref mo, .ref md])) p (.lst [.ref m])) ∧ H6 p = none ∧
    Trk CL CS (fun x => x ∉ r :: [b, t, d, p]) (L2.upd (L2.upd (L2.upd (L2.upd (L2.upd H6 mb (.lst (vB (allB n)))) mo (.lst [])) md (.lst [])) m (.lst [.ref mb, .ref mo, .ref md])) p (.lst [.ref m])) v s b t d p n [] [m] := by
  have z1 := same_new (o := .lst (vB (allB n))) nmb
  have z2 := z1.trans (same_new (o := .lst []) nmo)
  have z3 := z2.trans (same_new (o := .lst []) nmd)
  have z4 := z3.trans (same_new (o := .lst [.ref mb, .ref mo, .ref md]) nm)
  have y5 := same_new (o := .lst [.ref m]) np
  have z5 := z4.trans y5
  have y4 := (same_new (o := .lst [.ref mb, .ref mo, .ref md]) nm).trans y5
  have y3 := (same_new (o := .lst []) nmd).trans y4
  have y2 := (same_new (o := .lst []) nmo).trans y3
  obtain ⟨⟨dxx, q1⟩, ⟨⟨dss, q2⟩, q3, q4, q5⟩, ⟨aas, q6, _⟩, q7, q8⟩ := id hL
  have np6 := z4.free np
  have npb : p ≠ b := fun e => by rw [e, q3] at np6; cases np6
  have npt : p ≠ t := fun e => by rw [e, q4] at np6; cases np6
  have npd : p ≠ d := fun e => by rw [e, q6] at np6; cases np6
  have fresh : ∀ x, H6 x = none → x ≠ p → x ∉ r :: [b, t, d, p] := fun x hx hp => by
    simp only [List.mem_cons, List.not_mem_nil, or_false, not_or]
    refine ⟨?_, ?_, ?_, ?_, hp⟩
    · intro e; rw [e, hr] at hx; cases hx
    · intro e; rw [e, q3] at hx; cases hx
    · intro e; rw [e, q4] at hx; cases hx
    · intro e; rw [e, q6] at hx; cases hx
  refine ⟨z5, np6, hL.same z5, upd_same, rfl, fun i m' e => ?_, .nil, npb, npt, npd⟩
  cases i with
  | succ i => simp at e
  | zero =>
    cases e
    refine ⟨mb, mo, md, y5 _ _ upd_same, fresh _ (z3.free nm) (ne_new np upd_same), y2 _ _ upd_same, fresh _ nmb (ne_new np (((same_new nmo).trans ((same_new nmd).trans (same_new nm))) _ _ upd_same)), y3 _ _ upd_same, fresh _ (z1.free nmo) (ne_new np (((same_new nmd).trans (same_new nm)) _ _ upd_same)), .lst (y4 _ _ upd_same) (fresh _ (z2.free nmd) (ne_new np ((same_new nm) _ _ upd_same))) (by decide) .nil⟩
section
variable {P : Program} {w : World} {K : PySem.W.Frag} {mg : Str → Option Value} {base : Heap}
def spLaw (K : PySem.W.Frag) : Sp := fun vs H Q _ => ∃ (a : Addr) (ns : List Int), vs = [.ref a] ∧ SqL K H a (ns.map V.int) ∧ ns.length ≤ 63 ∧ ∀ H', Q (.bl true) H'
theorem ok_law {CL CS f : Addr} {fd : FuncData} (B : Bn mg) (D_law_reel : Df P w K mg base 1 "_law_reel" [] (spReel K)) (D_law_draw : Df P w K mg base 1 "_law_draw" [] spDraw) (D_law_moves : Df P w K mg base 4 "_law_moves" [] (spMoves CL CS)) (D_law_undone : Df P w K mg base 4 "_law_undone" [] (spUndone CL CS))
    (D_law_shows : Df P w K mg base 3 "_law_shows" [] (spShows CL CS)) (N_LiveShelf : Cn P w K mg base 3 "LiveShelf" CL [] (spLvInit CL CS)) (M_LiveShelf_duplicate : Mt P w K mg base 5 CL "duplicate" [] (spLvDup CL CS)) (L_LiveShelf : Ln P w K mg base 1 CL (spLvLen CL CS)) (F : Fun K "law" "law" Slaw f fd) : FnG P w K mg base 7 f fd ["script"] (spLaw K) := by
  refine gok F sclaw (fun vs H Q E h => ?_) (fun cdv A fs s H vs Q E hG hr h => ?_)
  · obtain ⟨_, _, rfl, _⟩ := h; rfl
  · obtain ⟨a, ns, rfl, hA, hl, q⟩ := h
    have hu := hr.units
    have two : ∀ x : Int, x ≤ 100000 → x < 2 ^ 200 := fun x h => Int.lt_of_le_of_lt h (by decide)
    refine ⟨_, (pss_cons (ps_set (i := 1) sclaw.nd rfl (Or.inl rfl) (pe_df D_law_reel hG (hr.mono (by first | decide | omega)) passL (by rfl) (pa_cons (pv 0) pa_nil))) (pss_cons (ps_for (passes_of rfl) rfl (pi_range1 (by rfl) B.range (pa_cons (pe_op op_add pe_int (pe_callB (call_min2' rfl) (by rfl) B.min Bmin (pa_cons (pe_callB (k_len K) (by rfl) B.len Blen (pa_cons (pv 0) pa_nil)) (pa_cons pe_int pa_nil)))) pa_nil)) (pg_name (i := 2) sclaw.nd rfl (Or.inl rfl)) (pss_cons (ps_set (i := 3) sclaw.nd rfl (Or.inl rfl) (pe_ix (k_ixL K) (pe_lst (pa_cons (pe_op op_add pe_int (pe_df D_law_draw hG (hr.mono (by first | decide | omega)) passL (by rfl) (pa_cons (pv 1) (pa_cons pe_int pa_nil)))) (pa_cons pe_int pa_nil))) (pe_callTy call_int1' (by rfl) B.int Tint (pa_cons (pe_cmpR op_eq (pv 2) pe_int (nomark _)) pa_nil)) (fun _ _ => rfl))) (pss_cons (ps_par (i := 4) (j := 5) rfl sclaw.nd rfl rfl (by decide) rfl rfl (pa_cons (pe_cn N_LiveShelf hG (hr.mono (by first | decide | omega)) passL (by rfl) (pa_cons (pv 3) pa_nil)) (pa_cons (pe_lst (pa_cons (pe_lst (pa_cons (pe_listRg rfl (by rfl) B.list (prg_1 (by rfl) B.range (pv 3))) (pa_cons (pe_lst pa_nil) (pa_cons (pe_lst pa_nil) pa_nil)))) pa_nil)) pa_nil)) (by with_unfolding_all rfl)) (pss_cons (ps_par (i := 6) (j := 7) rfl sclaw.nd rfl rfl (by decide) rfl rfl (pa_cons (pe_mt0 M_LiveShelf_duplicate hG (hr.mono (by first | decide | omega)) passL (pv 4)) (pa_cons (pe_callTy (k_list K) (by rfl) B.list Tlist (pa_cons (pv 5) pa_nil)) pa_nil)) (by with_unfolding_all rfl)) (pss_one (ps_for (passes_of rfl) rfl (pi_range1 (by rfl) B.range (pa_cons (pe_df D_law_draw hG (hr.mono (by first | decide | omega)) passL (by rfl) (pa_cons (pv 1) (pa_cons pe_int pa_nil))) pa_nil)) (pg_name (i := 8) sclaw.nd rfl (Or.inl rfl)) (pss_cons (ps_set (i := 9) sclaw.nd rfl (Or.inl rfl) (pe_df D_law_draw hG (hr.mono (by first | decide | omega)) passL (by rfl) (pa_cons (pv 1) (pa_cons pe_int pa_nil)))) (pss_cons (ps_if (pt_cmpR op_eq (pv 9) pe_int (nomark _)) (pss_one (ps_par (i := 6) (j := 7) rfl sclaw.nd rfl rfl (by decide) rfl rfl (pa_cons (pe_mt0 M_LiveShelf_duplicate hG (hr.mono (by first | decide | omega)) passL (pv 4)) (pa_cons (pe_callTy (k_list K) (by rfl) B.list Tlist (pa_cons (pv 5) pa_nil)) pa_nil)) (by with_unfolding_all rfl))) (pss_one (ps_if (pw_and (pt_cmpR op_eq (pv 9) pe_int (nomark _)) (pw_and1 (pt_not (pt_val (pe_df D_law_undone hG (hr.mono (by first | decide | omega)) passL (by rfl) (pa_cons (pv 4) (pa_cons (pv 5) (pa_cons (pe_op op_add pe_int (pe_df D_law_draw hG (hr.mono (by first | decide | omega)) passL (by rfl) (pa_cons (pv 1) (pa_cons pe_int pa_nil)))) pa_nil)))))))).pt (pss_one (ps_ret pe_bl)) (pss_one (ps_if (pw_and (pt_cmpR op_eq (pv 9) pe_int (nomark _)) (pw_and1 (pt_not (pt_val (pe_df D_law_undone hG (hr.mono (by first | decide | omega)) passL (by rfl) (pa_cons (pv 6) (pa_cons (pv 7) (pa_cons (pe_op op_add pe_int (pe_df D_law_draw hG (hr.mono (by first | decide | omega)) passL (by rfl) (pa_cons (pv 1) (pa_cons pe_int pa_nil)))) pa_nil)))))))).pt (pss_one (ps_ret pe_bl)) (pss_one (ps_if (pw_and (pt_cmpR op_eq (pv 9) pe_int (nomark _)) (pw_and1 (pt_not (pt_val (pe_df D_law_moves hG (hr.mono (by first | decide | omega)) passL (by rfl) (pa_cons (pv 1) (pa_cons (pv 6) (pa_cons (pv 7) pa_nil)))))))).pt (pss_one (ps_ret pe_bl)) (pss_one (ps_if (pw_and (pt_cmpR op_gt (pv 9) pe_int (nomark _)) (pw_and1 (pt_not (pt_val (pe_df D_law_moves hG (hr.mono (by first | decide | omega)) passL (by rfl) (pa_cons (pv 1) (pa_cons (pv 4) (pa_cons (pv 5) pa_nil)))))))).pt (pss_one (ps_ret pe_bl)) pss_nil))))))))) (pss_one (ps_if (pw_or (pt_not (pt_val (pe_df D_law_shows hG (hr.mono (by first | decide | omega)) passL (by rfl) (pa_cons (pv 6) (pa_cons (pe_ix (k_ixL K) (pv 7) (pe_un un_neg pe_int) (fun _ _ => rfl)) pa_nil))))) (pw_or1 (pt_not (pt_val (pe_df D_law_shows hG (hr.mono (by first | decide | omega)) passL (by rfl) (pa_cons (pv 4) (pa_cons (pe_ix (k_ixL K) (pv 5) (pe_un un_neg pe_int) (fun _ _ => rfl)) pa_nil))))))).pt (pss_one (ps_ret pe_bl)) pss_nil)))))))))) (pss_cons (ps_par (i := 4) (j := 5) rfl sclaw.nd rfl rfl (by decide) rfl rfl (pa_cons (pe_cn N_LiveShelf hG (hr.mono (by first | decide | omega)) passL (by rfl) (pa_cons pe_int pa_nil)) (pa_cons (pe_lst (pa_cons (pe_lst (pa_cons (pe_listRg rfl (by rfl) B.list (prg_1 (by rfl) B.range pe_int)) (pa_cons (pe_lst pa_nil) (pa_cons (pe_lst pa_nil) pa_nil)))) pa_nil)) pa_nil)) (by with_unfolding_all rfl)) (pss_cons (ps_for (passes_of rfl) rfl (pi_range1 (by rfl) B.range (pa_cons (pe_df D_law_draw hG (hr.mono (by first | decide | omega)) passL (by rfl) (pa_cons (pv 1) (pa_cons pe_int pa_nil))) pa_nil)) (pg_name (i := 8) sclaw.nd rfl (Or.inl rfl)) (pss_one (ps_if (pt_not (pt_val (pe_df D_law_moves hG (hr.mono (by first | decide | omega)) passL (by rfl) (pa_cons (pv 1) (pa_cons (pv 4) (pa_cons (pv 5) pa_nil)))))) (pss_one (ps_ret pe_bl)) pss_nil))) (pss_one (ps_ret (pe_and (pe_df D_law_undone hG (hr.mono (by first | decide | omega)) passL (by rfl) (pa_cons (pv 4) (pa_cons (pv 5) (pa_cons pe_int pa_nil)))) (pe_one (pe_cmpR op_eq (pe_callB (call_lenOwn L_LiveShelf hG (hr.mono (by first | decide | omega)) passL) (by rfl) B.len Blen (pa_cons (pv 4) pa_nil)) pe_int (nomark _)))))))))), ?_⟩
    walk_at "s"
    refine ⟨a, ns, rfl, hA, hl, fun H1 r s1 nr hR1 => ?_⟩
    have hA1 := s1.seq hA
    walk_at "s"
    rw [List.length_map]
    have hc : 2 ≤ 2 + (if (4 : Int) < (ns.length : Int) then (4 : Int) else (ns.length : Int)) ∧ 2 + (if (4 : Int) < (ns.length : Int) then (4 : Int) else (ns.length : Int)) ≤ 6 := by split <;> omega
    generalize 2 + (if (4 : Int) < (ns.length : Int) then (4 : Int) else (ns.length : Int)) = c at hc
    refine ⟨_, rfl, by omega, by omega, ?_⟩
    refine for_src src_range (fun i σ H' => ∃ v2 v3 v4 v5 v6 v7 v8 v9, σ = [some (.ref a), some (.ref r), v2, v3, v4, v5, v6, v7, v8, v9] ∧ RA H' r []) (fun _ _ _ _ => trivial) ⟨none, none, none, none, none, none, none, none, rfl, hR1⟩ ?_ ?_
    · rintro i v σ H3 H2 hi ⟨v2, v3, v4, v5, v6, v7, v8, v9, rfl, hR2⟩ ⟨rfl, rfl⟩
      walk_at "s"
      refine ⟨r, 8, [], rfl, hR2, by decide, by decide, fun e1 H3 e10 e11 hR3 hK3 => ?_⟩
      walk_at "s"
      intro t0 nt0
      have hR4 := hR3.same (same_new (o := .lst [.int (1 + e1), .int 200]) nt0)
      walk_at "s"
      obtain ⟨n, hm, hn1, hn2⟩ : ∃ n : Nat, atI [V.int (1 + e1), V.int 200] (if decide ((0 : Int) + (i : Int) = 1) = true then 1 else 0) = some (.int (n : Int)) ∧ 1 ≤ n ∧ n ≤ 200 := by
        split
        · exact ⟨200, rfl, by decide, by decide⟩
        · exact ⟨(1 + e1).toNat, by rw [Int.toNat_of_nonneg (by omega)]; rfl, by omega, by omega⟩
      refine r_ixL (lst_of upd_same) hm ?_
      generalize upd H3 t0 (.lst [.int (1 + e1), .int 200]) = H4 at *
      walk_at "s"
      intro lv dv nlv ndv ndl
      have s45 : Same H4 (upd (upd H4 dv (.own lv)) lv (.ins CL dv [])) := (same_new (o := .own lv) ndv).trans (same_new (o := .ins CL dv []) (by rw [upd_ne ndl.symm]; exact nlv))
      refine ⟨lv, dv, n, rfl, upd_same, hn1, hn2, fun H6 sh b t d hK6 nsh nb nt nd hL6 => ⟨rfl, ?_⟩⟩
      have s46 : Same H4 H6 := fun x o hx => hK6 x o (by simp; intro e; rw [e, nlv] at hx; cases hx) (s45 _ _ hx)
      have nb4 := s45.free nb
      have nt4 := s45.free nt
      have nd4 := s45.free nd
      walk_at "s"
      refine ⟨.of_le (by omega) (by omega) (by omega) (by omega), fun mb nmb => ?_⟩
      rw [iota_vB, show ((List.range n).map fun i => some ((i : Nat) : Int)) = allB n from rfl]
      walk_at "s"
      intro mo nmo
      walk_at "s"
      intro md nmd
      walk_at "s"
      intro m nm
      walk_at "s"
      intro p np
      obtain ⟨ry, hr4⟩ := hR4.val
      obtain ⟨z5, np6, hT7⟩ := trk_init (r := r) hL6 (s46 _ _ hr4) nmb nmo nmd nm np
      have np4 := s46.free np6
      have hR7 : RA _ r [b, t, d, p] := (hR4.grow (s46.trans z5) (L := [b, t, d, p]) (fun x hx => by
        obtain ⟨ys, hy⟩ := hT7.lists x hx
        refine ⟨?_, by rw [hy]; simp⟩
        simp only [List.mem_cons, List.not_mem_nil, or_false] at hx
        rcases hx with rfl | rfl | rfl | rfl <;> assumption)).less (by simp)
      generalize upd (upd (upd (upd (upd H6 mb (.lst (vB (allB n)))) mo (.lst [])) md (.lst [])) m (.lst [.ref mb, .ref mo, .ref md])) p (.lst [.ref m]) = H7 at *
      obtain ⟨dv7, hv7⟩ := hT7.lv.ob
      have hp7 := hT7.hp
      walk_at "s"
      refine ⟨lv, sh, b, t, d, n, _, _, [], rfl, hT7.lv, hn1, hn2, by decide, fun H8 w2 s2 b2 t2 d2 s78 nw2 ns2 nb2 nt2 nd2 hL8 => ?_⟩
      have hp8 := s78 _ _ hp7
      walk_at "s"
      intro p2 np2
      have s89 := same_new (o := .lst ([m].map V.ref)) np2
      have hW : Two CL CS (upd H8 p2 (.lst ([m].map V.ref))) r n lv sh b t d p [] [m] w2 s2 b2 t2 d2 p2 [] [m] := by
        obtain ⟨_, ⟨_, u3, u4, _⟩, ⟨_, u6, _⟩, _, _⟩ := id hL8
        exact Two.dup hR7 (fun x hx => hx) hT7 (fun x g => g) (s78.trans s89) nb2 nt2 nd2 (s78.free np2) ⟨fun e => (by rw [e, u3] at np2; cases np2), fun e => (by rw [e, u4] at np2; cases np2), fun e => (by rw [e, u6] at np2; cases np2)⟩ (hL8.same s89) upd_same
      walk_at "s"
      refine ⟨r, 81, _, rfl, hW.ra, by decide, by decide, fun e2 H10 e20 e21 hR10 hK10 => ?_⟩
      have hW10 := hW.kp hK10 hR10
      walk_at "s"
      refine ⟨_, rfl, by omega, by omega, ?_⟩
      refine for_src src_range (fun j σ H' => ∃ dn ms w2 s2 b2 t2 d2 p2 dn2 ms2 v8 v9, σ = [some (.ref a), some (.ref r), some (.int (0 + (i : Int))), some (.int (n : Int)), some (.ref lv), some (.ref p), some (.ref w2), some (.ref p2), v8, v9] ∧ Two CL CS H' r n lv sh b t d p dn ms w2 s2 b2 t2 d2 p2 dn2 ms2 ∧ dn.length ≤ j ∧ dn2.length ≤ j) (fun _ _ _ _ => trivial)
        ⟨[], [m], w2, s2, b2, t2, d2, p2, [], [m], v8, v9, rfl, hW10, Nat.le_refl _, Nat.le_refl _⟩ ?_ ?_
      · rintro j v σ H11 H12 hj ⟨dn, ms, w2, s2, b2, t2, d2, p2, dn2, ms2, v8, v9, rfl, hW, hd1, hd2⟩ ⟨rfl, rfl⟩
        walk_at "s"
        refine ⟨r, 8, _, rfl, hW.ra, by decide, by decide, fun way H13 w0 w1 hR13 hK13 => ?_⟩
        have hW13 := hW.kp hK13 hR13
        walk_at "s"
        refine ifJ (fun σ H' => ∃ dn ms w2 s2 b2 t2 d2 p2 dn2 ms2 v8 v9, σ = [some (.ref a), some (.ref r), some (.int (0 + (i : Int))), some (.int (n : Int)), some (.ref lv), some (.ref p), some (.ref w2), some (.ref p2), v8, v9] ∧ Two CL CS H' r n lv sh b t d p dn ms w2 s2 b2 t2 d2 p2 dn2 ms2 ∧ dn.length ≤ j + 1 ∧ dn2.length ≤ j + 1) (fun R hR hw => ?_) (fun R hR hw => ?_) ?_
        · obtain ⟨dv13, hv13⟩ := hW13.a.lv.ob
          have hp13 := hW13.a.hp
          walk_at "s"
          refine ⟨lv, sh, b, t, d, n, _, _, dn, rfl, hW13.a.lv, hn1, hn2, by omega, fun H14 w3 s3 b3 t3 d3 s34 nw3 ns3 nb3 nt3 nd3 hL14 => ?_⟩
          have hp14 := s34 _ _ hp13
          walk_at "s"
          intro p3 np3
          have s45 := same_new (o := .lst (ms.map V.ref)) np3
          have hW14 : Two CL CS (upd H14 p3 (.lst (ms.map V.ref))) r n lv sh b t d p dn ms w3 s3 b3 t3 d3 p3 dn ms := by
            obtain ⟨_, ⟨_, u3, u4, _⟩, ⟨_, u6, _⟩, _, _⟩ := id hL14
            exact Two.dup hW13.ra (fun x hx => List.mem_append_left [b2, t2, d2, p2] hx) hW13.a (fun x g z => g (by
              rcases List.mem_cons.mp z with z | z
              · simp [z]
              · exact List.mem_cons_of_mem _ (List.mem_append_left [b2, t2, d2, p2] z))) (s34.trans s45) nb3 nt3 nd3 (s34.free np3) ⟨fun e => (by rw [e, u3] at np3; cases np3), fun e => (by rw [e, u4] at np3; cases np3), fun e => (by rw [e, u6] at np3; cases np3)⟩ (hL14.same s45) upd_same
          walk_at "s"
          exact hR _ _ ⟨dn, ms, w3, s3, b3, t3, d3, p3, dn, ms, _, _, rfl, hW14, by omega, by omega⟩
        · have hM1 : ∀ x ∈ [b, t, d, p], x ∈ [b, t, d, p, b2, t2, d2, p2] := fun x hx => List.mem_append_left [b2, t2, d2, p2] hx
          have hM2 : ∀ x ∈ [b2, t2, d2, p2], x ∈ [b2, t2, d2, p2, b, t, d, p] := fun x hx => List.mem_append_left [b, t, d, p] hx
          walk_at "s"
          refine ifD (fun hw1 => ?_) (fun hw1 => ?_)
          · walk_at "s"
            refine ⟨r, 4, _, rfl, hW13.ra, by decide, by decide, fun e H14 f0 f1 hR14 hK14 => ?_⟩
            have hW14 := hW13.kp hK14 hR14
            walk_at "s"
            refine ⟨r, lv, sh, b, t, d, p, n, dn, ms, _, _, rfl, hW14.ra, hM1, hW14.a, hn1, hn2, by omega, by omega, by omega, fun H15 k ms' hk _ hK15 hR15 hT15 => ?_⟩
            walk_at "s"
            repeat (refine ifDF (by omega) ?_; walk_at "s")
            exact hR _ _ ⟨_, ms', w2, s2, b2, t2, d2, p2, dn2, ms2, _, _, rfl, hW14.first hK15 hR15 hT15, by rw [List.length_take]; omega, by omega⟩
          · walk_at "s"
            refine ifD (fun hw2 => ?_) (fun hw2 => ?_)
            · walk_at "s"
              refine ⟨r, 2, _, rfl, hW13.ra, by decide, by decide, fun e H14 f0 f1 hR14 hK14 => ?_⟩
              have hW14 := (hW13.kp hK14 hR14).swap
              walk_at "s"
              refine ⟨r, w2, s2, b2, t2, d2, p2, n, dn2, ms2, _, _, rfl, hW14.ra, hM2, hW14.a, hn1, hn2, by omega, by omega, by omega, fun H15 k ms' hk _ hK15 hR15 hT15 => ?_⟩
              walk_at "s"
              repeat (refine ifDF (by omega) ?_; walk_at "s")
              exact hR _ _ ⟨dn, ms, w2, s2, b2, t2, d2, p2, _, ms', _, _, rfl, (hW14.first hK15 hR15 hT15).swap, by omega, by rw [List.length_take]; omega⟩
            · walk_at "s"
              refine ifD (fun hw3 => ?_) (fun hw3 => ?_)
              · walk_at "s"
                have hW14 := hW13.swap
                refine ⟨r, w2, s2, b2, t2, d2, p2, n, dn2, ms2, _, rfl, hW14.ra, hM2, hW14.a, hn1, hn2, by omega, fun H15 st ms' hK15 hR15 hT15 => ?_⟩
                walk_at "s"
                repeat (refine ifDF (by omega) ?_; walk_at "s")
                exact hR _ _ ⟨dn, ms, w2, s2, b2, t2, d2, p2, _, ms', _, _, rfl, (hW14.first hK15 hR15 hT15).swap, by omega, by rw [List.length_append, List.length_singleton]; omega⟩
              · walk_at "s"
                refine ifD (fun hw4 => ?_) (fun hw4 => ?_)
                · walk_at "s"
                  refine ⟨r, lv, sh, b, t, d, p, n, dn, ms, _, rfl, hW13.ra, hM1, hW13.a, hn1, hn2, by omega, fun H15 st ms' hK15 hR15 hT15 => ?_⟩
                  walk_at "s"
                  exact hR _ _ ⟨_, ms', w2, s2, b2, t2, d2, p2, dn2, ms2, _, _, rfl, hW13.first hK15 hR15 hT15, by rw [List.length_append, List.length_singleton]; omega, by omega⟩
                · walk_at "s"
                  exact hR _ _ ⟨dn, ms, w2, s2, b2, t2, d2, p2, dn2, ms2, _, _, rfl, hW13, by omega, by omega⟩
        · rintro σ H14 ⟨dn, ms, w2, s2, b2, t2, d2, p2, dn2, ms2, v8, v9, rfl, hW, hd1, hd2⟩
          obtain ⟨_, m2, _, _, hm2, ea2⟩ := hW.a'.last
          have hp2 := hW.a'.hp
          walk_at "s"
          refine ⟨w2, s2, b2, t2, d2, m2, n, _, _, _, dn2, rfl, hW.a'.lv, hm2, hW.a'.vl.st.sml hn2 (by omega) (hW.a'.vl.sm hn2), fun H15 s15 => ?_⟩
          have hW15 := hW.same s15
          obtain ⟨_, m1, _, _, hm1, ea1⟩ := hW15.a.last
          have hp1 := hW15.a.hp
          walk_at "s"
          refine ⟨lv, sh, b, t, d, m1, n, _, _, _, dn, rfl, hW15.a.lv, hm1, hW15.a.vl.st.sml hn2 (by omega) (hW15.a.vl.sm hn2), fun H16 s16 => ?_⟩
          walk_at "s"
          exact ⟨dn, ms, w2, s2, b2, t2, d2, p2, dn2, ms2, _, _, rfl, hW15.same s16, hd1, hd2⟩
      · rintro σ H11 ⟨dn, ms, w2, s2, b2, t2, d2, p2, dn2, ms2, v8, v9, rfl, hW, hd1, hd2⟩
        walk_at "s"
        exact ⟨_, _, _, _, _, _, _, _, rfl, hW.ra.less (by simp)⟩
    · rintro σ H4 ⟨v2, v3, v4, v5, v6, v7, v8, v9, rfl, hR4⟩
      walk_at "s"
      intro lv dv nlv ndv ndl
      have s45 : Same H4 (upd (upd H4 dv (.own lv)) lv (.ins CL dv [])) := (same_new (o := .own lv) ndv).trans (same_new (o := .ins CL dv []) (by rw [upd_ne ndl.symm]; exact nlv))
      refine ⟨lv, dv, 200, rfl, upd_same, by decide, by decide, fun H6 sh b t d hK6 nsh nb nt nd hL6 => ⟨rfl, ?_⟩⟩
      have s46 : Same H4 H6 := fun x o hx => hK6 x o (by simp; intro e; rw [e, nlv] at hx; cases hx) (s45 _ _ hx)
      have nb4 := s45.free nb
      have nt4 := s45.free nt
      have nd4 := s45.free nd
      walk_at "s"
      refine ⟨.of_le (by omega) (by omega) (by omega) (by omega), fun mb nmb => ?_⟩
      rw [show rgV 0 (200 : Int) = vB (allB 200) from iota_vB 200]
      rw [show ((List.range 200).map fun i => some ((i : Nat) : Int)) = allB 200 from rfl] at hL6
      walk_at "s"
      intro mo nmo
      walk_at "s"
      intro md nmd
      walk_at "s"
      intro m nm
      walk_at "s"
      intro p np
      obtain ⟨ry, hr4⟩ := hR4.val
      obtain ⟨z5, np6, hT7⟩ := trk_init (r := r) hL6 (s46 _ _ hr4) nmb nmo nmd nm np
      have np4 := s46.free np6
      have hR7 : RA _ r [b, t, d, p] := (hR4.grow (s46.trans z5) (L := [b, t, d, p]) (fun x hx => by
        obtain ⟨ys, hy⟩ := hT7.lists x hx
        refine ⟨?_, by rw [hy]; simp⟩
        simp only [List.mem_cons, List.not_mem_nil, or_false] at hx
        rcases hx with rfl | rfl | rfl | rfl <;> assumption)).less (by simp)
      generalize upd (upd (upd (upd (upd H6 mb (.lst (vB (allB 200)))) mo (.lst [])) md (.lst [])) m (.lst [.ref mb, .ref mo, .ref md])) p (.lst [.ref m]) = H7 at *
      walk_at "s"
      refine ⟨r, 151, _, rfl, hR7, by decide, by decide, fun e2 H10 e20 e21 hR10 hK10 => ?_⟩
      have hT10 := hT7.kpl (L := [r]) (hK10.kpl (by simp)) (by simp; exact hR7.val) (by simp; exact hR7.off (by simp)) (by simp; exact hR7.off (by simp)) (by simp; exact hR7.off (by simp)) (by simp; exact hR7.off (by simp)) (fun x g => by simp; exact fun z => g (by simp [z]))
      walk_at "s"
      refine ⟨_, rfl, by omega, by omega, ?_⟩
      refine for_src src_range (fun j σ H' => ∃ dn ms v2 v3 v6 v7 v8 v9, σ = [some (.ref a), some (.ref r), v2, v3, some (.ref lv), some (.ref p), v6, v7, v8, v9] ∧ RA H' r [b, t, d, p] ∧ Trk CL CS (fun x => x ∉ r :: [b, t, d, p]) H' lv sh b t d p 200 dn ms ∧ dn.length ≤ j) (fun _ _ _ _ => trivial)
        ⟨[], [m], _, _, _, _, _, _, rfl, hR10, hT10, Nat.le_refl _⟩ ?_ ?_
      · rintro j v σ H11 H12 hj ⟨dn, ms, v2, v3, v6, v7, v8, v9, rfl, hR, hT, hd⟩ ⟨rfl, rfl⟩
        walk_at "s"
        refine ⟨r, lv, sh, b, t, d, p, 200, dn, ms, _, rfl, hR, fun x hx => hx, hT, by decide, by decide, by omega, fun H15 st ms' hK15 hR15 hT15 => ?_⟩
        walk_at "s"
        exact ⟨_, ms', _, _, _, _, _, _, rfl, hR15, hT15, by rw [List.length_append, List.length_singleton]; omega⟩
      · rintro σ H11 ⟨dn, ms, v2, v3, v6, v7, v8, v9, rfl, hR, hT, hd⟩
        walk_at "s"
        refine ⟨r, lv, sh, b, t, d, p, 200, dn, ms, _, 150, rfl, hR, fun x hx => hx, hT, by decide, by decide, by omega, by decide, by decide, fun H15 k ms' hk hk2 hK15 hR15 hT15 => ?_⟩
        have ek : dn.length - k = 0 := by
          have : dn.length ≤ 150 := by omega
          split at hk2 <;> omega
        rw [ek, List.take_zero] at hT15
        obtain ⟨dxv, hvv⟩ := hT15.lv.ob
        walk_at "s"
        refine ⟨lv, dxv, _, rfl, hvv, ⟨lv, sh, b, t, d, 200, _, _, [], rfl, hT15.lv, 0, rfl, by decide, ?_⟩⟩
        walk_at "s"
        exact q _
end

theorem all_mk {l : PySem.W.OpenLaw} {w : World} {K : PySem.W.Frag} {h : Heap} {mg : Str → Option Value} {fa : Addr} (X : K.In h) (G : h.Ns mainGlobals mg) (hfa : mg "law" = some (.ref fa))
    {f_is_integer : Addr} {od_is_integer an_is_integer : Option Addr} {sl_is_integer : Array (Option Value)} {oc_is_integer kV_is_integer dc_is_integer pm_is_integer cd_is_integer ct_is_integer : Value}
    {T_is_integer : Addr} {oT_is_integer : Value} {dT_is_integer : Option Addr} {nT_is_integer : Nat} {sT_is_integer : Array (Option Value)}
    {f_check_size : Addr} {od_check_size an_check_size : Option Addr} {sl_check_size : Array (Option Value)} {oc_check_size kV_check_size dc_check_size pm_check_size cd_check_size ct_check_size : Value}
    {f_law_reel : Addr} {od_law_reel an_law_reel : Option Addr} {sl_law_reel : Array (Option Value)} {oc_law_reel kV_law_reel dc_law_reel pm_law_reel cd_law_reel ct_law_reel : Value}
    {f_law_draw : Addr} {od_law_draw an_law_draw : Option Addr} {sl_law_draw : Array (Option Value)} {oc_law_draw kV_law_draw dc_law_draw pm_law_draw cd_law_draw ct_law_draw : Value}
    {f_law_moved : Addr} {od_law_moved an_law_moved : Option Addr} {sl_law_moved : Array (Option Value)} {oc_law_moved kV_law_moved dc_law_moved pm_law_moved cd_law_moved ct_law_moved : Value}
    {f_law_next : Addr} {od_law_next an_law_next : Option Addr} {sl_law_next : Array (Option Value)} {oc_law_next kV_law_next dc_law_next pm_law_next cd_law_next ct_law_next : Value}
    {f_law_shows : Addr} {od_law_shows an_law_shows : Option Addr} {sl_law_shows : Array (Option Value)} {oc_law_shows kV_law_shows dc_law_shows pm_law_shows cd_law_shows ct_law_shows : Value}
    {f_law_moves : Addr} {od_law_moves an_law_moves : Option Addr} {sl_law_moves : Array (Option Value)} {oc_law_moves kV_law_moves dc_law_moves pm_law_moves cd_law_moves ct_law_moves : Value}
    {f_law_undone : Addr} {od_law_undone an_law_undone : Option Addr} {sl_law_undone : Array (Option Value)} {oc_law_undone kV_law_undone dc_law_undone pm_law_undone cd_law_undone ct_law_undone : Value}
    {f_law : Addr} {od_law an_law : Option Addr} {sl_law : Array (Option Value)} {oc_law kV_law dc_law pm_law cd_law ct_law : Value}
    {C_Shelf : Addr}
    {f_Shelf_d__init_d_ : Addr} {od_Shelf_d__init_d_ an_Shelf_d__init_d_ : Option Addr} {sl_Shelf_d__init_d_ : Array (Option Value)} {oc_Shelf_d__init_d_ kV_Shelf_d__init_d_ dc_Shelf_d__init_d_ pm_Shelf_d__init_d_ cd_Shelf_d__init_d_ ct_Shelf_d__init_d_ : Value}
    {f_Shelf_can_take : Addr} {od_Shelf_can_take an_Shelf_can_take : Option Addr} {sl_Shelf_can_take : Array (Option Value)} {oc_Shelf_can_take kV_Shelf_can_take dc_Shelf_can_take pm_Shelf_can_take cd_Shelf_can_take ct_Shelf_can_take : Value}
    {f_Shelf_can_return : Addr} {od_Shelf_can_return an_Shelf_can_return : Option Addr} {sl_Shelf_can_return : Array (Option Value)} {oc_Shelf_can_return kV_Shelf_can_return dc_Shelf_can_return pm_Shelf_can_return cd_Shelf_can_return ct_Shelf_can_return : Value}
    {f_Shelf_take : Addr} {od_Shelf_take an_Shelf_take : Option Addr} {sl_Shelf_take : Array (Option Value)} {oc_Shelf_take kV_Shelf_take dc_Shelf_take pm_Shelf_take cd_Shelf_take ct_Shelf_take : Value}
    {f_Shelf_put_back : Addr} {od_Shelf_put_back an_Shelf_put_back : Option Addr} {sl_Shelf_put_back : Array (Option Value)} {oc_Shelf_put_back kV_Shelf_put_back dc_Shelf_put_back pm_Shelf_put_back cd_Shelf_put_back ct_Shelf_put_back : Value}
    {C_LiveShelf : Addr}
    {f_LiveShelf_d__init_d_ : Addr} {od_LiveShelf_d__init_d_ an_LiveShelf_d__init_d_ : Option Addr} {sl_LiveShelf_d__init_d_ : Array (Option Value)} {oc_LiveShelf_d__init_d_ kV_LiveShelf_d__init_d_ dc_LiveShelf_d__init_d_ pm_LiveShelf_d__init_d_ cd_LiveShelf_d__init_d_ ct_LiveShelf_d__init_d_ : Value}
    {f_LiveShelf_take_book : Addr} {od_LiveShelf_take_book an_LiveShelf_take_book : Option Addr} {sl_LiveShelf_take_book : Array (Option Value)} {oc_LiveShelf_take_book kV_LiveShelf_take_book dc_LiveShelf_take_book pm_LiveShelf_take_book cd_LiveShelf_take_book ct_LiveShelf_take_book : Value}
    {f_LiveShelf_return_book : Addr} {od_LiveShelf_return_book an_LiveShelf_return_book : Option Addr} {sl_LiveShelf_return_book : Array (Option Value)} {oc_LiveShelf_return_book kV_LiveShelf_return_book dc_LiveShelf_return_book pm_LiveShelf_return_book cd_LiveShelf_return_book ct_LiveShelf_return_book : Value}
    {f_LiveShelf_undo : Addr} {od_LiveShelf_undo an_LiveShelf_undo : Option Addr} {sl_LiveShelf_undo : Array (Option Value)} {oc_LiveShelf_undo kV_LiveShelf_undo dc_LiveShelf_undo pm_LiveShelf_undo cd_LiveShelf_undo ct_LiveShelf_undo : Value}
    {f_LiveShelf_current_books : Addr} {od_LiveShelf_current_books an_LiveShelf_current_books : Option Addr} {sl_LiveShelf_current_books : Array (Option Value)} {oc_LiveShelf_current_books kV_LiveShelf_current_books dc_LiveShelf_current_books pm_LiveShelf_current_books cd_LiveShelf_current_books ct_LiveShelf_current_books : Value}
    {f_LiveShelf_current_gaps : Addr} {od_LiveShelf_current_gaps an_LiveShelf_current_gaps : Option Addr} {sl_LiveShelf_current_gaps : Array (Option Value)} {oc_LiveShelf_current_gaps kV_LiveShelf_current_gaps dc_LiveShelf_current_gaps pm_LiveShelf_current_gaps cd_LiveShelf_current_gaps ct_LiveShelf_current_gaps : Value}
    {f_LiveShelf_current_out : Addr} {od_LiveShelf_current_out an_LiveShelf_current_out : Option Addr} {sl_LiveShelf_current_out : Array (Option Value)} {oc_LiveShelf_current_out kV_LiveShelf_current_out dc_LiveShelf_current_out pm_LiveShelf_current_out cd_LiveShelf_current_out ct_LiveShelf_current_out : Value}
    {f_LiveShelf_current_schedule : Addr} {od_LiveShelf_current_schedule an_LiveShelf_current_schedule : Option Addr} {sl_LiveShelf_current_schedule : Array (Option Value)} {oc_LiveShelf_current_schedule kV_LiveShelf_current_schedule dc_LiveShelf_current_schedule pm_LiveShelf_current_schedule cd_LiveShelf_current_schedule ct_LiveShelf_current_schedule : Value}
    {f_LiveShelf_duplicate : Addr} {od_LiveShelf_duplicate an_LiveShelf_duplicate : Option Addr} {sl_LiveShelf_duplicate : Array (Option Value)} {oc_LiveShelf_duplicate kV_LiveShelf_duplicate dc_LiveShelf_duplicate pm_LiveShelf_duplicate cd_LiveShelf_duplicate ct_LiveShelf_duplicate : Value}
    {f_LiveShelf_is_complete : Addr} {od_LiveShelf_is_complete an_LiveShelf_is_complete : Option Addr} {sl_LiveShelf_is_complete : Array (Option Value)} {oc_LiveShelf_is_complete kV_LiveShelf_is_complete dc_LiveShelf_is_complete pm_LiveShelf_is_complete cd_LiveShelf_is_complete ct_LiveShelf_is_complete : Value}
    {p_LiveShelf_is_complete : Addr} {rs_LiveShelf_is_complete : List Value}
    {f_LiveShelf_d__len_d_ : Addr} {od_LiveShelf_d__len_d_ an_LiveShelf_d__len_d_ : Option Addr} {sl_LiveShelf_d__len_d_ : Array (Option Value)} {oc_LiveShelf_d__len_d_ kV_LiveShelf_d__len_d_ dc_LiveShelf_d__len_d_ pm_LiveShelf_d__len_d_ cd_LiveShelf_d__len_d_ ct_LiveShelf_d__len_d_ : Value}
    {t_MAX_SIZE : Tok}
    {t_TAKE : Tok}
    {t_RETURN : Tok}
    (a_is_integer : PySem.W.nsIn K mainGlobals "is_integer" = some (some (.ref f_is_integer)))
    (l_is_integer : K.lookup f_is_integer = some ⟨oc_is_integer, od_is_integer, .func (PySem.W.fnOf "is_integer" "is_integer" (defArgs Sis_integer) (defBody Sis_integer) (defScope Sis_integer) (.ref T_is_integer) kV_is_integer dc_is_integer pm_is_integer an_is_integer cd_is_integer ct_is_integer), sl_is_integer⟩)
    (t_is_integer : K.lookup T_is_integer = some ⟨oT_is_integer, dT_is_integer, .seq #[.none] nT_is_integer, sT_is_integer⟩)
    (c_is_integer : PySem.W.codeIn K cd_is_integer "is_integer" = true)
    (k_is_integer : PySem.W.keepIn K (.ref f_is_integer) = true)
    (a_check_size : PySem.W.nsIn K mainGlobals "check_size" = some (some (.ref f_check_size)))
    (l_check_size : K.lookup f_check_size = some ⟨oc_check_size, od_check_size, .func (PySem.W.fnOf "check_size" "check_size" (defArgs Scheck_size) (defBody Scheck_size) (defScope Scheck_size) .none kV_check_size dc_check_size pm_check_size an_check_size cd_check_size ct_check_size), sl_check_size⟩)
    (c_check_size : PySem.W.codeIn K cd_check_size "check_size" = true)
    (k_check_size : PySem.W.keepIn K (.ref f_check_size) = true)
    (a_law_reel : PySem.W.nsIn K mainGlobals "_law_reel" = some (some (.ref f_law_reel)))
    (l_law_reel : K.lookup f_law_reel = some ⟨oc_law_reel, od_law_reel, .func (PySem.W.fnOf "_law_reel" "_law_reel" (defArgs Slaw_reel) (defBody Slaw_reel) (defScope Slaw_reel) .none kV_law_reel dc_law_reel pm_law_reel an_law_reel cd_law_reel ct_law_reel), sl_law_reel⟩)
    (c_law_reel : PySem.W.codeIn K cd_law_reel "_law_reel" = true)
    (k_law_reel : PySem.W.keepIn K (.ref f_law_reel) = true)
    (a_law_draw : PySem.W.nsIn K mainGlobals "_law_draw" = some (some (.ref f_law_draw)))
    (l_law_draw : K.lookup f_law_draw = some ⟨oc_law_draw, od_law_draw, .func (PySem.W.fnOf "_law_draw" "_law_draw" (defArgs Slaw_draw) (defBody Slaw_draw) (defScope Slaw_draw) .none kV_law_draw dc_law_draw pm_law_draw an_law_draw cd_law_draw ct_law_draw), sl_law_draw⟩)
    (c_law_draw : PySem.W.codeIn K cd_law_draw "_law_draw" = true)
    (k_law_draw : PySem.W.keepIn K (.ref f_law_draw) = true)
    (a_law_moved : PySem.W.nsIn K mainGlobals "_law_moved" = some (some (.ref f_law_moved)))
    (l_law_moved : K.lookup f_law_moved = some ⟨oc_law_moved, od_law_moved, .func (PySem.W.fnOf "_law_moved" "_law_moved" (defArgs Slaw_moved) (defBody Slaw_moved) (defScope Slaw_moved) .none kV_law_moved dc_law_moved pm_law_moved an_law_moved cd_law_moved ct_law_moved), sl_law_moved⟩)
    (c_law_moved : PySem.W.codeIn K cd_law_moved "_law_moved" = true)
    (k_law_moved : PySem.W.keepIn K (.ref f_law_moved) = true)
    (a_law_next : PySem.W.nsIn K mainGlobals "_law_next" = some (some (.ref f_law_next)))
    (l_law_next : K.lookup f_law_next = some ⟨oc_law_next, od_law_next, .func (PySem.W.fnOf "_law_next" "_law_next" (defArgs Slaw_next) (defBody Slaw_next) (defScope Slaw_next) .none kV_law_next dc_law_next pm_law_next an_law_next cd_law_next ct_law_next), sl_law_next⟩)
    (c_law_next : PySem.W.codeIn K cd_law_next "_law_next" = true)
    (k_law_next : PySem.W.keepIn K (.ref f_law_next) = true)
    (a_law_shows : PySem.W.nsIn K mainGlobals "_law_shows" = some (some (.ref f_law_shows)))
    (l_law_shows : K.lookup f_law_shows = some ⟨oc_law_shows, od_law_shows, .func (PySem.W.fnOf "_law_shows" "_law_shows" (defArgs Slaw_shows) (defBody Slaw_shows) (defScope Slaw_shows) .none kV_law_shows dc_law_shows pm_law_shows an_law_shows cd_law_shows ct_law_shows), sl_law_shows⟩)
    (c_law_shows : PySem.W.codeIn K cd_law_shows "_law_shows" = true)
    (k_law_shows : PySem.W.keepIn K (.ref f_law_shows) = true)
    (a_law_moves : PySem.W.nsIn K mainGlobals "_law_moves" = some (some (.ref f_law_moves)))
    (l_law_moves : K.lookup f_law_moves = some ⟨oc_law_moves, od_law_moves, .func (PySem.W.fnOf "_law_moves" "_law_moves" (defArgs Slaw_moves) (defBody Slaw_moves) (defScope Slaw_moves) .none kV_law_moves dc_law_moves pm_law_moves an_law_moves cd_law_moves ct_law_moves), sl_law_moves⟩)
    (c_law_moves : PySem.W.codeIn K cd_law_moves "_law_moves" = true)
    (k_law_moves : PySem.W.keepIn K (.ref f_law_moves) = true)
    (a_law_undone : PySem.W.nsIn K mainGlobals "_law_undone" = some (some (.ref f_law_undone)))
    (l_law_undone : K.lookup f_law_undone = some ⟨oc_law_undone, od_law_undone, .func (PySem.W.fnOf "_law_undone" "_law_undone" (defArgs Slaw_undone) (defBody Slaw_undone) (defScope Slaw_undone) .none kV_law_undone dc_law_undone pm_law_undone an_law_undone cd_law_undone ct_law_undone), sl_law_undone⟩)
    (c_law_undone : PySem.W.codeIn K cd_law_undone "_law_undone" = true)
    (k_law_undone : PySem.W.keepIn K (.ref f_law_undone) = true)
    (a_law : PySem.W.nsIn K mainGlobals "law" = some (some (.ref f_law)))
    (l_law : K.lookup f_law = some ⟨oc_law, od_law, .func (PySem.W.fnOf "law" "law" (defArgs Slaw) (defBody Slaw) (defScope Slaw) .none kV_law dc_law pm_law an_law cd_law ct_law), sl_law⟩)
    (c_law : PySem.W.codeIn K cd_law "law" = true)
    (k_law : PySem.W.keepIn K (.ref f_law) = true)
    (aC_Shelf : PySem.W.nsIn K mainGlobals "Shelf" = some (some (.ref C_Shelf)))
    (a_Shelf_d__init_d_ : PySem.W.findIn K (.ref C_Shelf) "__init__" = some (some (.ref f_Shelf_d__init_d_)))
    (i_Shelf_d__init_d_ : PySem.W.isFn K (.ref f_Shelf_d__init_d_) = true)
    (l_Shelf_d__init_d_ : K.lookup f_Shelf_d__init_d_ = some ⟨oc_Shelf_d__init_d_, od_Shelf_d__init_d_, .func (PySem.W.fnOf "__init__" "Shelf.__init__" (defArgs SShelf_d__init_d_) (defBody SShelf_d__init_d_) (defScope SShelf_d__init_d_) .none kV_Shelf_d__init_d_ dc_Shelf_d__init_d_ pm_Shelf_d__init_d_ an_Shelf_d__init_d_ cd_Shelf_d__init_d_ ct_Shelf_d__init_d_), sl_Shelf_d__init_d_⟩)
    (c_Shelf_d__init_d_ : PySem.W.codeIn K cd_Shelf_d__init_d_ "Shelf.__init__" = true)
    (k_Shelf_d__init_d_ : PySem.W.keepIn K (.ref f_Shelf_d__init_d_) = true)
    (a_Shelf_can_take : PySem.W.findIn K (.ref C_Shelf) "can_take" = some (some (.ref f_Shelf_can_take)))
    (i_Shelf_can_take : PySem.W.isFn K (.ref f_Shelf_can_take) = true)
    (l_Shelf_can_take : K.lookup f_Shelf_can_take = some ⟨oc_Shelf_can_take, od_Shelf_can_take, .func (PySem.W.fnOf "can_take" "Shelf.can_take" (defArgs SShelf_can_take) (defBody SShelf_can_take) (defScope SShelf_can_take) .none kV_Shelf_can_take dc_Shelf_can_take pm_Shelf_can_take an_Shelf_can_take cd_Shelf_can_take ct_Shelf_can_take), sl_Shelf_can_take⟩)
    (c_Shelf_can_take : PySem.W.codeIn K cd_Shelf_can_take "Shelf.can_take" = true)
    (k_Shelf_can_take : PySem.W.keepIn K (.ref f_Shelf_can_take) = true)
    (a_Shelf_can_return : PySem.W.findIn K (.ref C_Shelf) "can_return" = some (some (.ref f_Shelf_can_return)))
    (i_Shelf_can_return : PySem.W.isFn K (.ref f_Shelf_can_return) = true)
    (l_Shelf_can_return : K.lookup f_Shelf_can_return = some ⟨oc_Shelf_can_return, od_Shelf_can_return, .func (PySem.W.fnOf "can_return" "Shelf.can_return" (defArgs SShelf_can_return) (defBody SShelf_can_return) (defScope SShelf_can_return) .none kV_Shelf_can_return dc_Shelf_can_return pm_Shelf_can_return an_Shelf_can_return cd_Shelf_can_return ct_Shelf_can_return), sl_Shelf_can_return⟩)
    (c_Shelf_can_return : PySem.W.codeIn K cd_Shelf_can_return "Shelf.can_return" = true)
    (k_Shelf_can_return : PySem.W.keepIn K (.ref f_Shelf_can_return) = true)
    (a_Shelf_take : PySem.W.findIn K (.ref C_Shelf) "take" = some (some (.ref f_Shelf_take)))
    (i_Shelf_take : PySem.W.isFn K (.ref f_Shelf_take) = true)
    (l_Shelf_take : K.lookup f_Shelf_take = some ⟨oc_Shelf_take, od_Shelf_take, .func (PySem.W.fnOf "take" "Shelf.take" (defArgs SShelf_take) (defBody SShelf_take) (defScope SShelf_take) .none kV_Shelf_take dc_Shelf_take pm_Shelf_take an_Shelf_take cd_Shelf_take ct_Shelf_take), sl_Shelf_take⟩)
    (c_Shelf_take : PySem.W.codeIn K cd_Shelf_take "Shelf.take" = true)
    (k_Shelf_take : PySem.W.keepIn K (.ref f_Shelf_take) = true)
    (a_Shelf_put_back : PySem.W.findIn K (.ref C_Shelf) "put_back" = some (some (.ref f_Shelf_put_back)))
    (i_Shelf_put_back : PySem.W.isFn K (.ref f_Shelf_put_back) = true)
    (l_Shelf_put_back : K.lookup f_Shelf_put_back = some ⟨oc_Shelf_put_back, od_Shelf_put_back, .func (PySem.W.fnOf "put_back" "Shelf.put_back" (defArgs SShelf_put_back) (defBody SShelf_put_back) (defScope SShelf_put_back) .none kV_Shelf_put_back dc_Shelf_put_back pm_Shelf_put_back an_Shelf_put_back cd_Shelf_put_back ct_Shelf_put_back), sl_Shelf_put_back⟩)
    (c_Shelf_put_back : PySem.W.codeIn K cd_Shelf_put_back "Shelf.put_back" = true)
    (k_Shelf_put_back : PySem.W.keepIn K (.ref f_Shelf_put_back) = true)
    (pg_Shelf : PySem.W.plainGet K C_Shelf Str.empty = true)
    (hd_Shelf : PySem.W.hasDictIn K C_Shelf = true)
    (po_Shelf : PySem.W.plainOver K C_Shelf = true)
    (sa_Shelf : PySem.W.findIn K (.ref C_Shelf) "__setattr__" = some (some (.builtin "object.__setattr__")))
    (mk_Shelf : PySem.W.makesIn K C_Shelf = true)
    (kc_Shelf : PySem.W.keepIn K (.ref C_Shelf) = true)
    (n_Shelf_books : PySem.W.findIn K (.ref C_Shelf) "books" = some none)
    (n_Shelf_taken : PySem.W.findIn K (.ref C_Shelf) "taken" = some none)
    (aC_LiveShelf : PySem.W.nsIn K mainGlobals "LiveShelf" = some (some (.ref C_LiveShelf)))
    (a_LiveShelf_d__init_d_ : PySem.W.findIn K (.ref C_LiveShelf) "__init__" = some (some (.ref f_LiveShelf_d__init_d_)))
    (i_LiveShelf_d__init_d_ : PySem.W.isFn K (.ref f_LiveShelf_d__init_d_) = true)
    (l_LiveShelf_d__init_d_ : K.lookup f_LiveShelf_d__init_d_ = some ⟨oc_LiveShelf_d__init_d_, od_LiveShelf_d__init_d_, .func (PySem.W.fnOf "__init__" "LiveShelf.__init__" (defArgs SLiveShelf_d__init_d_) (defBody SLiveShelf_d__init_d_) (defScope SLiveShelf_d__init_d_) .none kV_LiveShelf_d__init_d_ dc_LiveShelf_d__init_d_ pm_LiveShelf_d__init_d_ an_LiveShelf_d__init_d_ cd_LiveShelf_d__init_d_ ct_LiveShelf_d__init_d_), sl_LiveShelf_d__init_d_⟩)
    (c_LiveShelf_d__init_d_ : PySem.W.codeIn K cd_LiveShelf_d__init_d_ "LiveShelf.__init__" = true)
    (k_LiveShelf_d__init_d_ : PySem.W.keepIn K (.ref f_LiveShelf_d__init_d_) = true)
    (a_LiveShelf_take_book : PySem.W.findIn K (.ref C_LiveShelf) "take_book" = some (some (.ref f_LiveShelf_take_book)))
    (i_LiveShelf_take_book : PySem.W.isFn K (.ref f_LiveShelf_take_book) = true)
    (l_LiveShelf_take_book : K.lookup f_LiveShelf_take_book = some ⟨oc_LiveShelf_take_book, od_LiveShelf_take_book, .func (PySem.W.fnOf "take_book" "LiveShelf.take_book" (defArgs SLiveShelf_take_book) (defBody SLiveShelf_take_book) (defScope SLiveShelf_take_book) .none kV_LiveShelf_take_book dc_LiveShelf_take_book pm_LiveShelf_take_book an_LiveShelf_take_book cd_LiveShelf_take_book ct_LiveShelf_take_book), sl_LiveShelf_take_book⟩)
    (c_LiveShelf_take_book : PySem.W.codeIn K cd_LiveShelf_take_book "LiveShelf.take_book" = true)
    (k_LiveShelf_take_book : PySem.W.keepIn K (.ref f_LiveShelf_take_book) = true)
    (a_LiveShelf_return_book : PySem.W.findIn K (.ref C_LiveShelf) "return_book" = some (some (.ref f_LiveShelf_return_book)))
    (i_LiveShelf_return_book : PySem.W.isFn K (.ref f_LiveShelf_return_book) = true)
    (l_LiveShelf_return_book : K.lookup f_LiveShelf_return_book = some ⟨oc_LiveShelf_return_book, od_LiveShelf_return_book, .func (PySem.W.fnOf "return_book" "LiveShelf.return_book" (defArgs SLiveShelf_return_book) (defBody SLiveShelf_return_book) (defScope SLiveShelf_return_book) .none kV_LiveShelf_return_book dc_LiveShelf_return_book pm_LiveShelf_return_book an_LiveShelf_return_book cd_LiveShelf_return_book ct_LiveShelf_return_book), sl_LiveShelf_return_book⟩)
    (c_LiveShelf_return_book : PySem.W.codeIn K cd_LiveShelf_return_book "LiveShelf.return_book" = true)
    (k_LiveShelf_return_book : PySem.W.keepIn K (.ref f_LiveShelf_return_book) = true)
    (a_LiveShelf_undo : PySem.W.findIn K (.ref C_LiveShelf) "undo" = some (some (.ref f_LiveShelf_undo)))
    (i_LiveShelf_undo : PySem.W.isFn K (.ref f_LiveShelf_undo) = true)
    (l_LiveShelf_undo : K.lookup f_LiveShelf_undo = some ⟨oc_LiveShelf_undo, od_LiveShelf_undo, .func (PySem.W.fnOf "undo" "LiveShelf.undo" (defArgs SLiveShelf_undo) (defBody SLiveShelf_undo) (defScope SLiveShelf_undo) .none kV_LiveShelf_undo dc_LiveShelf_undo pm_LiveShelf_undo an_LiveShelf_undo cd_LiveShelf_undo ct_LiveShelf_undo), sl_LiveShelf_undo⟩)
    (c_LiveShelf_undo : PySem.W.codeIn K cd_LiveShelf_undo "LiveShelf.undo" = true)
    (k_LiveShelf_undo : PySem.W.keepIn K (.ref f_LiveShelf_undo) = true)
    (a_LiveShelf_current_books : PySem.W.findIn K (.ref C_LiveShelf) "current_books" = some (some (.ref f_LiveShelf_current_books)))
    (i_LiveShelf_current_books : PySem.W.isFn K (.ref f_LiveShelf_current_books) = true)
    (l_LiveShelf_current_books : K.lookup f_LiveShelf_current_books = some ⟨oc_LiveShelf_current_books, od_LiveShelf_current_books, .func (PySem.W.fnOf "current_books" "LiveShelf.current_books" (defArgs SLiveShelf_current_books) (defBody SLiveShelf_current_books) (defScope SLiveShelf_current_books) .none kV_LiveShelf_current_books dc_LiveShelf_current_books pm_LiveShelf_current_books an_LiveShelf_current_books cd_LiveShelf_current_books ct_LiveShelf_current_books), sl_LiveShelf_current_books⟩)
    (c_LiveShelf_current_books : PySem.W.codeIn K cd_LiveShelf_current_books "LiveShelf.current_books" = true)
    (k_LiveShelf_current_books : PySem.W.keepIn K (.ref f_LiveShelf_current_books) = true)
    (a_LiveShelf_current_gaps : PySem.W.findIn K (.ref C_LiveShelf) "current_gaps" = some (some (.ref f_LiveShelf_current_gaps)))
    (i_LiveShelf_current_gaps : PySem.W.isFn K (.ref f_LiveShelf_current_gaps) = true)
    (l_LiveShelf_current_gaps : K.lookup f_LiveShelf_current_gaps = some ⟨oc_LiveShelf_current_gaps, od_LiveShelf_current_gaps, .func (PySem.W.fnOf "current_gaps" "LiveShelf.current_gaps" (defArgs SLiveShelf_current_gaps) (defBody SLiveShelf_current_gaps) (defScope SLiveShelf_current_gaps) .none kV_LiveShelf_current_gaps dc_LiveShelf_current_gaps pm_LiveShelf_current_gaps an_LiveShelf_current_gaps cd_LiveShelf_current_gaps ct_LiveShelf_current_gaps), sl_LiveShelf_current_gaps⟩)
    (c_LiveShelf_current_gaps : PySem.W.codeIn K cd_LiveShelf_current_gaps "LiveShelf.current_gaps" = true)
    (k_LiveShelf_current_gaps : PySem.W.keepIn K (.ref f_LiveShelf_current_gaps) = true)
    (a_LiveShelf_current_out : PySem.W.findIn K (.ref C_LiveShelf) "current_out" = some (some (.ref f_LiveShelf_current_out)))
    (i_LiveShelf_current_out : PySem.W.isFn K (.ref f_LiveShelf_current_out) = true)
    (l_LiveShelf_current_out : K.lookup f_LiveShelf_current_out = some ⟨oc_LiveShelf_current_out, od_LiveShelf_current_out, .func (PySem.W.fnOf "current_out" "LiveShelf.current_out" (defArgs SLiveShelf_current_out) (defBody SLiveShelf_current_out) (defScope SLiveShelf_current_out) .none kV_LiveShelf_current_out dc_LiveShelf_current_out pm_LiveShelf_current_out an_LiveShelf_current_out cd_LiveShelf_current_out ct_LiveShelf_current_out), sl_LiveShelf_current_out⟩)
    (c_LiveShelf_current_out : PySem.W.codeIn K cd_LiveShelf_current_out "LiveShelf.current_out" = true)
    (k_LiveShelf_current_out : PySem.W.keepIn K (.ref f_LiveShelf_current_out) = true)
    (a_LiveShelf_current_schedule : PySem.W.findIn K (.ref C_LiveShelf) "current_schedule" = some (some (.ref f_LiveShelf_current_schedule)))
    (i_LiveShelf_current_schedule : PySem.W.isFn K (.ref f_LiveShelf_current_schedule) = true)
    (l_LiveShelf_current_schedule : K.lookup f_LiveShelf_current_schedule = some ⟨oc_LiveShelf_current_schedule, od_LiveShelf_current_schedule, .func (PySem.W.fnOf "current_schedule" "LiveShelf.current_schedule" (defArgs SLiveShelf_current_schedule) (defBody SLiveShelf_current_schedule) (defScope SLiveShelf_current_schedule) .none kV_LiveShelf_current_schedule dc_LiveShelf_current_schedule pm_LiveShelf_current_schedule an_LiveShelf_current_schedule cd_LiveShelf_current_schedule ct_LiveShelf_current_schedule), sl_LiveShelf_current_schedule⟩)
    (c_LiveShelf_current_schedule : PySem.W.codeIn K cd_LiveShelf_current_schedule "LiveShelf.current_schedule" = true)
    (k_LiveShelf_current_schedule : PySem.W.keepIn K (.ref f_LiveShelf_current_schedule) = true)
    (a_LiveShelf_duplicate : PySem.W.findIn K (.ref C_LiveShelf) "duplicate" = some (some (.ref f_LiveShelf_duplicate)))
    (i_LiveShelf_duplicate : PySem.W.isFn K (.ref f_LiveShelf_duplicate) = true)
    (l_LiveShelf_duplicate : K.lookup f_LiveShelf_duplicate = some ⟨oc_LiveShelf_duplicate, od_LiveShelf_duplicate, .func (PySem.W.fnOf "duplicate" "LiveShelf.duplicate" (defArgs SLiveShelf_duplicate) (defBody SLiveShelf_duplicate) (defScope SLiveShelf_duplicate) .none kV_LiveShelf_duplicate dc_LiveShelf_duplicate pm_LiveShelf_duplicate an_LiveShelf_duplicate cd_LiveShelf_duplicate ct_LiveShelf_duplicate), sl_LiveShelf_duplicate⟩)
    (c_LiveShelf_duplicate : PySem.W.codeIn K cd_LiveShelf_duplicate "LiveShelf.duplicate" = true)
    (k_LiveShelf_duplicate : PySem.W.keepIn K (.ref f_LiveShelf_duplicate) = true)
    (a_LiveShelf_is_complete : PySem.W.findIn K (.ref C_LiveShelf) "is_complete" = some (some (.ref p_LiveShelf_is_complete)))
    (pg_LiveShelf_is_complete : PySem.W.specialIn K (.ref p_LiveShelf_is_complete) "__get__" = some (some (.builtin "property.__get__")))
    (pt_LiveShelf_is_complete : PySem.W.takesIn K (.ref p_LiveShelf_is_complete) = some true)
    (pr_LiveShelf_is_complete : PySem.W.recIn K p_LiveShelf_is_complete "property" = some (.ref f_LiveShelf_is_complete :: rs_LiveShelf_is_complete))
    (l_LiveShelf_is_complete : K.lookup f_LiveShelf_is_complete = some ⟨oc_LiveShelf_is_complete, od_LiveShelf_is_complete, .func (PySem.W.fnOf "is_complete" "LiveShelf.is_complete" (defArgs SLiveShelf_is_complete) (defBody SLiveShelf_is_complete) (defScope SLiveShelf_is_complete) .none kV_LiveShelf_is_complete dc_LiveShelf_is_complete pm_LiveShelf_is_complete an_LiveShelf_is_complete cd_LiveShelf_is_complete ct_LiveShelf_is_complete), sl_LiveShelf_is_complete⟩)
    (c_LiveShelf_is_complete : PySem.W.codeIn K cd_LiveShelf_is_complete "LiveShelf.is_complete" = true)
    (k_LiveShelf_is_complete : PySem.W.keepIn K (.ref f_LiveShelf_is_complete) = true)
    (a_LiveShelf_d__len_d_ : PySem.W.findIn K (.ref C_LiveShelf) "__len__" = some (some (.ref f_LiveShelf_d__len_d_)))
    (i_LiveShelf_d__len_d_ : PySem.W.isFn K (.ref f_LiveShelf_d__len_d_) = true)
    (l_LiveShelf_d__len_d_ : K.lookup f_LiveShelf_d__len_d_ = some ⟨oc_LiveShelf_d__len_d_, od_LiveShelf_d__len_d_, .func (PySem.W.fnOf "__len__" "LiveShelf.__len__" (defArgs SLiveShelf_d__len_d_) (defBody SLiveShelf_d__len_d_) (defScope SLiveShelf_d__len_d_) .none kV_LiveShelf_d__len_d_ dc_LiveShelf_d__len_d_ pm_LiveShelf_d__len_d_ an_LiveShelf_d__len_d_ cd_LiveShelf_d__len_d_ ct_LiveShelf_d__len_d_), sl_LiveShelf_d__len_d_⟩)
    (c_LiveShelf_d__len_d_ : PySem.W.codeIn K cd_LiveShelf_d__len_d_ "LiveShelf.__len__" = true)
    (k_LiveShelf_d__len_d_ : PySem.W.keepIn K (.ref f_LiveShelf_d__len_d_) = true)
    (pg_LiveShelf : PySem.W.plainGet K C_LiveShelf Str.empty = true)
    (hd_LiveShelf : PySem.W.hasDictIn K C_LiveShelf = true)
    (po_LiveShelf : PySem.W.plainOver K C_LiveShelf = true)
    (sa_LiveShelf : PySem.W.findIn K (.ref C_LiveShelf) "__setattr__" = some (some (.builtin "object.__setattr__")))
    (mk_LiveShelf : PySem.W.makesIn K C_LiveShelf = true)
    (kc_LiveShelf : PySem.W.keepIn K (.ref C_LiveShelf) = true)
    (n_LiveShelf_size : PySem.W.findIn K (.ref C_LiveShelf) "size" = some none)
    (n_LiveShelf_shelf : PySem.W.findIn K (.ref C_LiveShelf) "shelf" = some none)
    (n_LiveShelf_done : PySem.W.findIn K (.ref C_LiveShelf) "done" = some none)
    (g_MAX_SIZE : PySem.W.nsIn K mainGlobals "MAX_SIZE" = some (some (.int (200) t_MAX_SIZE)))
    (g_TAKE : PySem.W.nsIn K mainGlobals "TAKE" = some (some (.str "take" t_TAKE)))
    (g_RETURN : PySem.W.nsIn K mainGlobals "RETURN" = some (some (.str "return" t_RETURN)))
    (z_len : PySem.W.nsIn K mainGlobals "len" = some none)
    (z_range : PySem.W.nsIn K mainGlobals "range" = some none)
    (z_isinstance : PySem.W.nsIn K mainGlobals "isinstance" = some none)
    (z_int : PySem.W.nsIn K mainGlobals "int" = some none)
    (z_bool : PySem.W.nsIn K mainGlobals "bool" = some none)
    (z_str : PySem.W.nsIn K mainGlobals "str" = some none)
    (z_list : PySem.W.nsIn K mainGlobals "list" = some none)
    (z_tuple : PySem.W.nsIn K mainGlobals "tuple" = some none)
    (z_set : PySem.W.nsIn K mainGlobals "set" = some none)
    (z_sorted : PySem.W.nsIn K mainGlobals "sorted" = some none)
    (z_min : PySem.W.nsIn K mainGlobals "min" = some none)
    (z_max : PySem.W.nsIn K mainGlobals "max" = some none)
    (z_sum : PySem.W.nsIn K mainGlobals "sum" = some none)
    (z_all : PySem.W.nsIn K mainGlobals "all" = some none)
    (z_any : PySem.W.nsIn K mainGlobals "any" = some none)
    (z_abs : PySem.W.nsIn K mainGlobals "abs" = some none)
    (z_repr : PySem.W.nsIn K mainGlobals "repr" = some none)
    (z_enumerate : PySem.W.nsIn K mainGlobals "enumerate" = some none)
    (z_zip : PySem.W.nsIn K mainGlobals "zip" = some none)
    (z_reversed : PySem.W.nsIn K mainGlobals "reversed" = some none) :
    ∃ fd : FuncData, (∀ (s : Shared) (v : Value), BindsTo s fd ⟨[v], []⟩ [("script", v)]) ∧ ∀ base : Heap, K.In base → base.Ns mainGlobals mg → FnG l.prog w K mg base 7 fa fd ["script"] (spLaw K) := by
  have e := hfa.symm.trans (PySem.W.mg_of X G a_law)
  cases e
  have B : Bn mg := ⟨PySem.W.mg_none_of X G z_len, PySem.W.mg_none_of X G z_range, PySem.W.mg_none_of X G z_isinstance, PySem.W.mg_none_of X G z_int, PySem.W.mg_none_of X G z_bool, PySem.W.mg_none_of X G z_str, PySem.W.mg_none_of X G z_list, PySem.W.mg_none_of X G z_tuple, PySem.W.mg_none_of X G z_set, PySem.W.mg_none_of X G z_sorted, PySem.W.mg_none_of X G z_min, PySem.W.mg_none_of X G z_max, PySem.W.mg_none_of X G z_sum, PySem.W.mg_none_of X G z_all, PySem.W.mg_none_of X G z_any, PySem.W.mg_none_of X G z_abs, PySem.W.mg_none_of X G z_repr, PySem.W.mg_none_of X G z_enumerate, PySem.W.mg_none_of X G z_zip, PySem.W.mg_none_of X G z_reversed⟩
  have c_MAX_SIZE : Gc mg "MAX_SIZE" (.int (200)) := ⟨_, PySem.W.mg_of X G g_MAX_SIZE, ⟨_, rfl⟩⟩
  have c_TAKE : Gc mg "TAKE" (.str "take") := ⟨_, PySem.W.mg_of X G g_TAKE, ⟨_, rfl⟩⟩
  have c_RETURN : Gc mg "RETURN" (.str "return") := ⟨_, PySem.W.mg_of X G g_RETURN, ⟨_, rfl⟩⟩
  have F_is_integer : FunD K "is_integer" "is_integer" (defArgs Sis_integer) (defBody Sis_integer) (defScope Sis_integer) [.non] [] f_is_integer _ := ⟨⟨_, _, _, _, _, _, _, _, _, _, rfl, l_is_integer, c_is_integer, .inr ⟨List.cons_ne_nil _ _, _, _, [.none], _, rfl, t_is_integer, rfl, .cons rfl (.nil)⟩, .inl rfl⟩, k_is_integer⟩
  have b_is_integer := F_is_integer.binds1 (ps := ["value", "low", "high"]) 3 1 (List.cons_ne_nil _ _) rfl fun T kV doc pm an cdv ct us its hl hi => match us, its, hl, hi with | [_, _, _], [_], _, _ => ⟨_, rfl, rfl⟩
  obtain ⟨ds_is_integer, v_is_integer, b_is_integer⟩ := b_is_integer
  have bd1_is_integer := F_is_integer.binds1 (ps := ["value", "low", "high"]) 2 0 (List.cons_ne_nil _ _) rfl fun T kV doc pm an cdv ct us its hl hi => match us, its, hl, hi with | [_, _], [_], _, _ => ⟨_, rfl, rfl⟩
  obtain ⟨ds1_is_integer, v1_is_integer, b1_is_integer⟩ := bd1_is_integer
  have F_check_size := fun_mk (st := Scheck_size) l_check_size c_check_size k_check_size
  have b_check_size := F_check_size.binds (ps := ["size"]) fun _ _ _ _ _ _ us hl => match us, hl with | [_], _ => rfl
  have F_law_reel := fun_mk (st := Slaw_reel) l_law_reel c_law_reel k_law_reel
  have b_law_reel := F_law_reel.binds (ps := ["script"]) fun _ _ _ _ _ _ us hl => match us, hl with | [_], _ => rfl
  have F_law_draw := fun_mk (st := Slaw_draw) l_law_draw c_law_draw k_law_draw
  have b_law_draw := F_law_draw.binds (ps := ["reel", "many"]) fun _ _ _ _ _ _ us hl => match us, hl with | [_, _], _ => rfl
  have F_law_moved := fun_mk (st := Slaw_moved) l_law_moved c_law_moved k_law_moved
  have b_law_moved := F_law_moved.binds (ps := ["model", "kind", "number"]) fun _ _ _ _ _ _ us hl => match us, hl with | [_, _, _], _ => rfl
  have F_law_next := fun_mk (st := Slaw_next) l_law_next c_law_next k_law_next
  have b_law_next := F_law_next.binds (ps := ["reel", "model"]) fun _ _ _ _ _ _ us hl => match us, hl with | [_, _], _ => rfl
  have F_law_shows := fun_mk (st := Slaw_shows) l_law_shows c_law_shows k_law_shows
  have b_law_shows := F_law_shows.binds (ps := ["some", "model"]) fun _ _ _ _ _ _ us hl => match us, hl with | [_, _], _ => rfl
  have F_law_moves := fun_mk (st := Slaw_moves) l_law_moves c_law_moves k_law_moves
  have b_law_moves := F_law_moves.binds (ps := ["reel", "some", "past"]) fun _ _ _ _ _ _ us hl => match us, hl with | [_, _, _], _ => rfl
  have F_law_undone := fun_mk (st := Slaw_undone) l_law_undone c_law_undone k_law_undone
  have b_law_undone := F_law_undone.binds (ps := ["some", "past", "many"]) fun _ _ _ _ _ _ us hl => match us, hl with | [_, _, _], _ => rfl
  have F_law := fun_mk (st := Slaw) l_law c_law k_law
  have S_Shelf : ShK K C_Shelf := ⟨⟨pg_Shelf, hd_Shelf, po_Shelf, sa_Shelf⟩, n_Shelf_books, n_Shelf_taken⟩
  have F_Shelf_d__init_d_ := fun_mk (st := SShelf_d__init_d_) l_Shelf_d__init_d_ c_Shelf_d__init_d_ k_Shelf_d__init_d_
  have b_Shelf_d__init_d_ := F_Shelf_d__init_d_.binds (ps := ["self", "size"]) fun _ _ _ _ _ _ us hl => match us, hl with | [_, _], _ => rfl
  have F_Shelf_can_take := fun_mk (st := SShelf_can_take) l_Shelf_can_take c_Shelf_can_take k_Shelf_can_take
  have b_Shelf_can_take := F_Shelf_can_take.binds (ps := ["self", "place"]) fun _ _ _ _ _ _ us hl => match us, hl with | [_, _], _ => rfl
  have F_Shelf_can_return := fun_mk (st := SShelf_can_return) l_Shelf_can_return c_Shelf_can_return k_Shelf_can_return
  have b_Shelf_can_return := F_Shelf_can_return.binds (ps := ["self", "book"]) fun _ _ _ _ _ _ us hl => match us, hl with | [_, _], _ => rfl
  have F_Shelf_take := fun_mk (st := SShelf_take) l_Shelf_take c_Shelf_take k_Shelf_take
  have b_Shelf_take := F_Shelf_take.binds (ps := ["self", "place"]) fun _ _ _ _ _ _ us hl => match us, hl with | [_, _], _ => rfl
  have F_Shelf_put_back := fun_mk (st := SShelf_put_back) l_Shelf_put_back c_Shelf_put_back k_Shelf_put_back
  have b_Shelf_put_back := F_Shelf_put_back.binds (ps := ["self", "book"]) fun _ _ _ _ _ _ us hl => match us, hl with | [_, _], _ => rfl
  have S_LiveShelf : LvK K C_LiveShelf := ⟨⟨pg_LiveShelf, hd_LiveShelf, po_LiveShelf, sa_LiveShelf⟩, n_LiveShelf_size, n_LiveShelf_shelf, n_LiveShelf_done⟩
  have F_LiveShelf_d__init_d_ := fun_mk (st := SLiveShelf_d__init_d_) l_LiveShelf_d__init_d_ c_LiveShelf_d__init_d_ k_LiveShelf_d__init_d_
  have b_LiveShelf_d__init_d_ := F_LiveShelf_d__init_d_.binds (ps := ["self", "size"]) fun _ _ _ _ _ _ us hl => match us, hl with | [_, _], _ => rfl
  have F_LiveShelf_take_book := fun_mk (st := SLiveShelf_take_book) l_LiveShelf_take_book c_LiveShelf_take_book k_LiveShelf_take_book
  have b_LiveShelf_take_book := F_LiveShelf_take_book.binds (ps := ["self", "place"]) fun _ _ _ _ _ _ us hl => match us, hl with | [_, _], _ => rfl
  have F_LiveShelf_return_book := fun_mk (st := SLiveShelf_return_book) l_LiveShelf_return_book c_LiveShelf_return_book k_LiveShelf_return_book
  have b_LiveShelf_return_book := F_LiveShelf_return_book.binds (ps := ["self", "book"]) fun _ _ _ _ _ _ us hl => match us, hl with | [_, _], _ => rfl
  have F_LiveShelf_undo := fun_mk (st := SLiveShelf_undo) l_LiveShelf_undo c_LiveShelf_undo k_LiveShelf_undo
  have b_LiveShelf_undo := F_LiveShelf_undo.binds (ps := ["self"]) fun _ _ _ _ _ _ us hl => match us, hl with | [_], _ => rfl
  have F_LiveShelf_current_books := fun_mk (st := SLiveShelf_current_books) l_LiveShelf_current_books c_LiveShelf_current_books k_LiveShelf_current_books
  have b_LiveShelf_current_books := F_LiveShelf_current_books.binds (ps := ["self"]) fun _ _ _ _ _ _ us hl => match us, hl with | [_], _ => rfl
  have F_LiveShelf_current_gaps := fun_mk (st := SLiveShelf_current_gaps) l_LiveShelf_current_gaps c_LiveShelf_current_gaps k_LiveShelf_current_gaps
  have b_LiveShelf_current_gaps := F_LiveShelf_current_gaps.binds (ps := ["self"]) fun _ _ _ _ _ _ us hl => match us, hl with | [_], _ => rfl
  have F_LiveShelf_current_out := fun_mk (st := SLiveShelf_current_out) l_LiveShelf_current_out c_LiveShelf_current_out k_LiveShelf_current_out
  have b_LiveShelf_current_out := F_LiveShelf_current_out.binds (ps := ["self"]) fun _ _ _ _ _ _ us hl => match us, hl with | [_], _ => rfl
  have F_LiveShelf_current_schedule := fun_mk (st := SLiveShelf_current_schedule) l_LiveShelf_current_schedule c_LiveShelf_current_schedule k_LiveShelf_current_schedule
  have b_LiveShelf_current_schedule := F_LiveShelf_current_schedule.binds (ps := ["self"]) fun _ _ _ _ _ _ us hl => match us, hl with | [_], _ => rfl
  have F_LiveShelf_duplicate := fun_mk (st := SLiveShelf_duplicate) l_LiveShelf_duplicate c_LiveShelf_duplicate k_LiveShelf_duplicate
  have b_LiveShelf_duplicate := F_LiveShelf_duplicate.binds (ps := ["self"]) fun _ _ _ _ _ _ us hl => match us, hl with | [_], _ => rfl
  have F_LiveShelf_is_complete := fun_mk (st := SLiveShelf_is_complete) l_LiveShelf_is_complete c_LiveShelf_is_complete k_LiveShelf_is_complete
  have b_LiveShelf_is_complete := F_LiveShelf_is_complete.binds (ps := ["self"]) fun _ _ _ _ _ _ us hl => match us, hl with | [_], _ => rfl
  have F_LiveShelf_d__len_d_ := fun_mk (st := SLiveShelf_d__len_d_) l_LiveShelf_d__len_d_ c_LiveShelf_d__len_d_ k_LiveShelf_d__len_d_
  have b_LiveShelf_d__len_d_ := F_LiveShelf_d__len_d_.binds (ps := ["self"]) fun _ _ _ _ _ _ us hl => match us, hl with | [_], _ => rfl
  refine ⟨PySem.W.fnOf "law" "law" (defArgs Slaw) (defBody Slaw) (defScope Slaw) .none kV_law dc_law pm_law an_law cd_law ct_law, fun s v => .of_eq rfl, fun base _ _ => ?_⟩
  have D_is_integer : Df l.prog w K mg base 1 "is_integer" [] spIsInteger := ⟨_, _, _, _, ok_is_integer (k := 0) B F_is_integer, PySem.W.mg_of X G a_is_integer, k_is_integer, b_is_integer, v_is_integer⟩
  have D_is_integer_2 : Df l.prog w K mg base 1 "is_integer" [.non] spIsInteger := ⟨_, _, _, _, ok_is_integer (k := 0) B F_is_integer, PySem.W.mg_of X G a_is_integer, k_is_integer, b1_is_integer, v1_is_integer⟩
  have D_check_size : Df l.prog w K mg base 2 "check_size" [] spCheckSize := ⟨_, _, _, _, ok_check_size c_MAX_SIZE D_is_integer F_check_size, PySem.W.mg_of X G a_check_size, k_check_size, b_check_size, .nil⟩
  have N_Shelf : Cn l.prog w K mg base 1 "Shelf" C_Shelf [] (spShInit C_Shelf) := ⟨_, _, _, _, ok_Shelf_init (k := 0) B S_Shelf F_Shelf_d__init_d_, PySem.W.mg_of X G aC_Shelf, ⟨mk_Shelf, a_Shelf_d__init_d_, i_Shelf_d__init_d_, kc_Shelf⟩, b_Shelf_d__init_d_, .nil⟩
  have M_Shelf_can_take : Mt l.prog w K mg base 2 C_Shelf "can_take" [] (spCanTake C_Shelf) := ⟨_, _, _, _, ok_Shelf_can_take B S_Shelf D_is_integer F_Shelf_can_take, S_Shelf.cl, ⟨a_Shelf_can_take, i_Shelf_can_take, k_Shelf_can_take⟩, b_Shelf_can_take, .nil⟩
  have M_Shelf_can_return : Mt l.prog w K mg base 2 C_Shelf "can_return" [] (spCanReturn C_Shelf) := ⟨_, _, _, _, ok_Shelf_can_return S_Shelf D_is_integer_2 F_Shelf_can_return, S_Shelf.cl, ⟨a_Shelf_can_return, i_Shelf_can_return, k_Shelf_can_return⟩, b_Shelf_can_return, .nil⟩
  have M_Shelf_take : Mt l.prog w K mg base 1 C_Shelf "take" [] (spTake C_Shelf) := ⟨_, _, _, _, ok_Shelf_take (k := 0) B S_Shelf F_Shelf_take, S_Shelf.cl, ⟨a_Shelf_take, i_Shelf_take, k_Shelf_take⟩, b_Shelf_take, .nil⟩
  have M_Shelf_put_back : Mt l.prog w K mg base 1 C_Shelf "put_back" [] (spPutBack C_Shelf) := ⟨_, _, _, _, ok_Shelf_put_back (k := 0) B S_Shelf F_Shelf_put_back, S_Shelf.cl, ⟨a_Shelf_put_back, i_Shelf_put_back, k_Shelf_put_back⟩, b_Shelf_put_back, .nil⟩
  have N_LiveShelf : Cn l.prog w K mg base 3 "LiveShelf" C_LiveShelf [] (spLvInit C_LiveShelf C_Shelf) := ⟨_, _, _, _, ok_Live_init B S_LiveShelf D_check_size N_Shelf F_LiveShelf_d__init_d_, PySem.W.mg_of X G aC_LiveShelf, ⟨mk_LiveShelf, a_LiveShelf_d__init_d_, i_LiveShelf_d__init_d_, kc_LiveShelf⟩, b_LiveShelf_d__init_d_, .nil⟩
  have P_LiveShelf_is_complete : Pr l.prog w K mg base 1 C_LiveShelf "is_complete" (spLvDone C_LiveShelf C_Shelf) := ⟨_, _, _, _, ok_Live_is_complete (k := 0) B S_LiveShelf S_Shelf F_LiveShelf_is_complete, S_LiveShelf.cl, ⟨a_LiveShelf_is_complete, pg_LiveShelf_is_complete, pt_LiveShelf_is_complete, ⟨_, pr_LiveShelf_is_complete⟩⟩, b_LiveShelf_is_complete⟩
  have L_LiveShelf : Ln l.prog w K mg base 1 C_LiveShelf (spLvLen C_LiveShelf C_Shelf) := ⟨_, _, _, ok_Live_len (k := 0) B S_LiveShelf F_LiveShelf_d__len_d_, a_LiveShelf_d__len_d_, i_LiveShelf_d__len_d_, b_LiveShelf_d__len_d_⟩
  have M_LiveShelf_take_book : Mt l.prog w K mg base 3 C_LiveShelf "take_book" [] (spLvTake C_LiveShelf C_Shelf) := ⟨_, _, _, _, ok_Live_take_book B c_TAKE S_LiveShelf S_Shelf M_Shelf_can_take M_Shelf_take F_LiveShelf_take_book, S_LiveShelf.cl, ⟨a_LiveShelf_take_book, i_LiveShelf_take_book, k_LiveShelf_take_book⟩, b_LiveShelf_take_book, .nil⟩
  have M_LiveShelf_return_book : Mt l.prog w K mg base 3 C_LiveShelf "return_book" [] (spLvReturn C_LiveShelf C_Shelf) := ⟨_, _, _, _, ok_Live_return_book B c_RETURN S_LiveShelf S_Shelf M_Shelf_can_return M_Shelf_put_back F_LiveShelf_return_book, S_LiveShelf.cl, ⟨a_LiveShelf_return_book, i_LiveShelf_return_book, k_LiveShelf_return_book⟩, b_LiveShelf_return_book, .nil⟩
  have M_LiveShelf_current_books : Mt l.prog w K mg base 1 C_LiveShelf "current_books" [] (spLvBooks C_LiveShelf C_Shelf) := ⟨_, _, _, _, ok_Live_current_books (k := 0) B S_LiveShelf S_Shelf F_LiveShelf_current_books, S_LiveShelf.cl, ⟨a_LiveShelf_current_books, i_LiveShelf_current_books, k_LiveShelf_current_books⟩, b_LiveShelf_current_books, .nil⟩
  have M_LiveShelf_current_gaps : Mt l.prog w K mg base 1 C_LiveShelf "current_gaps" [] (spLvGaps C_LiveShelf C_Shelf) := ⟨_, _, _, _, ok_Live_current_gaps (k := 0) B S_LiveShelf S_Shelf F_LiveShelf_current_gaps, S_LiveShelf.cl, ⟨a_LiveShelf_current_gaps, i_LiveShelf_current_gaps, k_LiveShelf_current_gaps⟩, b_LiveShelf_current_gaps, .nil⟩
  have M_LiveShelf_current_out : Mt l.prog w K mg base 1 C_LiveShelf "current_out" [] (spLvOut C_LiveShelf C_Shelf) := ⟨_, _, _, _, ok_Live_current_out (k := 0) B S_LiveShelf S_Shelf F_LiveShelf_current_out, S_LiveShelf.cl, ⟨a_LiveShelf_current_out, i_LiveShelf_current_out, k_LiveShelf_current_out⟩, b_LiveShelf_current_out, .nil⟩
  have M_LiveShelf_current_schedule : Mt l.prog w K mg base 1 C_LiveShelf "current_schedule" [] (spLvSched C_LiveShelf C_Shelf) := ⟨_, _, _, _, ok_Live_current_schedule (k := 0) B S_LiveShelf F_LiveShelf_current_schedule, S_LiveShelf.cl, ⟨a_LiveShelf_current_schedule, i_LiveShelf_current_schedule, k_LiveShelf_current_schedule⟩, b_LiveShelf_current_schedule, .nil⟩
  have D_law_reel : Df l.prog w K mg base 1 "_law_reel" [] (spReel K) := ⟨_, _, _, _, ok_law_reel (k := 0) B F_law_reel, PySem.W.mg_of X G a_law_reel, k_law_reel, b_law_reel, .nil⟩
  have D_law_draw : Df l.prog w K mg base 1 "_law_draw" [] spDraw := ⟨_, _, _, _, ok_law_draw (k := 0) B F_law_draw, PySem.W.mg_of X G a_law_draw, k_law_draw, b_law_draw, .nil⟩
  have D_law_moved : Df l.prog w K mg base 1 "_law_moved" [] spMoved := ⟨_, _, _, _, ok_law_moved (k := 0) B F_law_moved, PySem.W.mg_of X G a_law_moved, k_law_moved, b_law_moved, .nil⟩
  have D_law_next : Df l.prog w K mg base 2 "_law_next" [] spNext := ⟨_, _, _, _, ok_law_next B D_law_draw F_law_next, PySem.W.mg_of X G a_law_next, k_law_next, b_law_next, .nil⟩
  have D_law_shows : Df l.prog w K mg base 3 "_law_shows" [] (spShows C_LiveShelf C_Shelf) := ⟨_, _, _, _, ok_law_shows B M_LiveShelf_current_books M_LiveShelf_current_gaps M_LiveShelf_current_out M_LiveShelf_current_schedule L_LiveShelf P_LiveShelf_is_complete F_law_shows, PySem.W.mg_of X G a_law_shows, k_law_shows, b_law_shows, .nil⟩
  have M_LiveShelf_undo : Mt l.prog w K mg base 1 C_LiveShelf "undo" [] (spLvUndo C_LiveShelf C_Shelf) := ⟨_, _, _, _, ok_Live_undo (k := 0) B c_TAKE S_LiveShelf S_Shelf F_LiveShelf_undo, S_LiveShelf.cl, ⟨a_LiveShelf_undo, i_LiveShelf_undo, k_LiveShelf_undo⟩, b_LiveShelf_undo, .nil⟩
  have M_LiveShelf_duplicate : Mt l.prog w K mg base 5 C_LiveShelf "duplicate" [] (spLvDup C_LiveShelf C_Shelf) := ⟨_, _, _, _, ok_Live_duplicate B S_LiveShelf S_Shelf N_LiveShelf F_LiveShelf_duplicate, S_LiveShelf.cl, ⟨a_LiveShelf_duplicate, i_LiveShelf_duplicate, k_LiveShelf_duplicate⟩, b_LiveShelf_duplicate, .nil⟩
  have D_law_moves : Df l.prog w K mg base 4 "_law_moves" [] (spMoves C_LiveShelf C_Shelf) := ⟨_, _, _, _, ok_law_moves B D_law_next D_law_moved D_law_shows M_LiveShelf_take_book M_LiveShelf_return_book F_law_moves, PySem.W.mg_of X G a_law_moves, k_law_moves, b_law_moves, .nil⟩
  have D_law_undone : Df l.prog w K mg base 4 "_law_undone" [] (spUndone C_LiveShelf C_Shelf) := ⟨_, _, _, _, ok_law_undone B D_law_shows M_LiveShelf_undo F_law_undone, PySem.W.mg_of X G a_law_undone, k_law_undone, b_law_undone, .nil⟩
  exact ok_law B D_law_reel D_law_draw D_law_moves D_law_undone D_law_shows N_LiveShelf M_LiveShelf_duplicate L_LiveShelf F_law
theorem the_walk {l : PySem.W.OpenLaw} {q : Program} {loose : List Str} {XP : (Str → Option Value) → Heap → Prop} {YP : World → Heap → Prop} {d : DefRec} {K : Params → PySem.W.Frag} (hn : l.most = some 63) (hdf : d.params.defaults = [])
    (hY : ∀ (w : World) (h : Heap), YP w h → (K w.params).In h)
    (F : ∀ (w : World) (mg : Str → Option Value) (fa : Addr) (h : Heap), (K w.params).In h → h.Ns mainGlobals mg → mg d.name = some (.ref fa) →
      ∃ fd : FuncData, (∀ (s : Shared) (u : Value), BindsTo s fd ⟨[u], []⟩ [("script", u)]) ∧ ∀ base : Heap, (K w.params).In base → base.Ns mainGlobals mg → FnG l.prog w (K w.params) mg base 7 fa fd ["script"] (spLaw (K w.params))) :
    PySem.W.WalkO q loose XP YP l.row.toRowW d [] (fun f vs => PySem.call f vs) :=
  Lx.gwalk (n := 63) (k := 7) (x := "script") (sp := fun w => spLaw (K w.params)) hn (by decide) hdf ⟨rfl, by decide, by decide⟩ hY F (fun _ _ a ns hl hb hS => ⟨a, ns, rfl, hS, hl, fun _ => rfl⟩)
end My
open PySem PySem.W PyProof.Rows in
set_option maxRecDepth 100000 in
set_option maxHeartbeats 0 in
theorem PySem.Challenge.cw_leftreturn_k46_undo_and_duplicates_holds : PySem.Challenge.rw_leftreturn_k46_undo_and_duplicates.Holds := by
  w_on; o_law; k_head; (case hw => w_witness2)
  k_fill
  refine My.the_walk (l := PySem.Challenge.rw_leftreturn_k46_undo_and_duplicates) rfl rfl (fun w h Y => PySem.W.kIn_of Y) ?F
  case F =>
    intro w mg fa h KX G hmg
    refine' My.all_mk KX G hmg ?a_is_integer ?l_is_integer ?t_is_integer ?c_is_integer ?k_is_integer ?a_check_size ?l_check_size ?c_check_size ?k_check_size ?a_law_reel ?l_law_reel ?c_law_reel ?k_law_reel ?a_law_draw ?l_law_draw ?c_law_draw ?k_law_draw ?a_law_moved ?l_law_moved ?c_law_moved ?k_law_moved ?a_law_next ?l_law_next ?c_law_next ?k_law_next ?a_law_shows ?l_law_shows ?c_law_shows ?k_law_shows ?a_law_moves ?l_law_moves ?c_law_moves ?k_law_moves ?a_law_undone ?l_law_undone ?c_law_undone ?k_law_undone ?a_law ?l_law ?c_law ?k_law ?aC_Shelf ?a_Shelf_d__init_d_ ?i_Shelf_d__init_d_ ?l_Shelf_d__init_d_ ?c_Shelf_d__init_d_ ?k_Shelf_d__init_d_ ?a_Shelf_can_take ?i_Shelf_can_take ?l_Shelf_can_take ?c_Shelf_can_take ?k_Shelf_can_take ?a_Shelf_can_return ?i_Shelf_can_return ?l_Shelf_can_return ?c_Shelf_can_return ?k_Shelf_can_return ?a_Shelf_take ?i_Shelf_take ?l_Shelf_take ?c_Shelf_take ?k_Shelf_take ?a_Shelf_put_back ?i_Shelf_put_back ?l_Shelf_put_back ?c_Shelf_put_back ?k_Shelf_put_back ?pg_Shelf ?hd_Shelf ?po_Shelf ?sa_Shelf ?mk_Shelf ?kc_Shelf ?n_Shelf_books ?n_Shelf_taken ?aC_LiveShelf ?a_LiveShelf_d__init_d_ ?i_LiveShelf_d__init_d_ ?l_LiveShelf_d__init_d_ ?c_LiveShelf_d__init_d_ ?k_LiveShelf_d__init_d_ ?a_LiveShelf_take_book ?i_LiveShelf_take_book ?l_LiveShelf_take_book ?c_LiveShelf_take_book ?k_LiveShelf_take_book ?a_LiveShelf_return_book ?i_LiveShelf_return_book ?l_LiveShelf_return_book ?c_LiveShelf_return_book ?k_LiveShelf_return_book ?a_LiveShelf_undo ?i_LiveShelf_undo ?l_LiveShelf_undo ?c_LiveShelf_undo ?k_LiveShelf_undo ?a_LiveShelf_current_books ?i_LiveShelf_current_books ?l_LiveShelf_current_books ?c_LiveShelf_current_books ?k_LiveShelf_current_books ?a_LiveShelf_current_gaps ?i_LiveShelf_current_gaps ?l_LiveShelf_current_gaps ?c_LiveShelf_current_gaps ?k_LiveShelf_current_gaps ?a_LiveShelf_current_out ?i_LiveShelf_current_out ?l_LiveShelf_current_out ?c_LiveShelf_current_out ?k_LiveShelf_current_out ?a_LiveShelf_current_schedule ?i_LiveShelf_current_schedule ?l_LiveShelf_current_schedule ?c_LiveShelf_current_schedule ?k_LiveShelf_current_schedule ?a_LiveShelf_duplicate ?i_LiveShelf_duplicate ?l_LiveShelf_duplicate ?c_LiveShelf_duplicate ?k_LiveShelf_duplicate ?a_LiveShelf_is_complete ?pg_LiveShelf_is_complete ?pt_LiveShelf_is_complete ?pr_LiveShelf_is_complete ?l_LiveShelf_is_complete ?c_LiveShelf_is_complete ?k_LiveShelf_is_complete ?a_LiveShelf_d__len_d_ ?i_LiveShelf_d__len_d_ ?l_LiveShelf_d__len_d_ ?c_LiveShelf_d__len_d_ ?k_LiveShelf_d__len_d_ ?pg_LiveShelf ?hd_LiveShelf ?po_LiveShelf ?sa_LiveShelf ?mk_LiveShelf ?kc_LiveShelf ?n_LiveShelf_size ?n_LiveShelf_shelf ?n_LiveShelf_done ?g_MAX_SIZE ?g_TAKE ?g_RETURN ?z_len ?z_range ?z_isinstance ?z_int ?z_bool ?z_str ?z_list ?z_tuple ?z_set ?z_sorted ?z_min ?z_max ?z_sum ?z_all ?z_any ?z_abs ?z_repr ?z_enumerate ?z_zip ?z_reversed
    (case a_is_integer => k_is)
    (case l_is_integer => k_is)
    (case t_is_integer => k_is)
    (case c_is_integer => k_is)
    (case k_is_integer => k_is)
    (case a_check_size => k_is)
    (case l_check_size => k_is)
    (case c_check_size => k_is)
    (case k_check_size => k_is)
    (case a_law_reel => k_is)
    (case l_law_reel => k_is)
    (case c_law_reel => k_is)
    (case k_law_reel => k_is)
    (case a_law_draw => k_is)
    (case l_law_draw => k_is)
    (case c_law_draw => k_is)
    (case k_law_draw => k_is)
    (case a_law_moved => k_is)
    (case l_law_moved => k_is)
    (case c_law_moved => k_is)
    (case k_law_moved => k_is)
    (case a_law_next => k_is)
    (case l_law_next => k_is)
    (case c_law_next => k_is)
    (case k_law_next => k_is)
    (case a_law_shows => k_is)
    (case l_law_shows => k_is)
    (case c_law_shows => k_is)
    (case k_law_shows => k_is)
    (case a_law_moves => k_is)
    (case l_law_moves => k_is)
    (case c_law_moves => k_is)
    (case k_law_moves => k_is)
    (case a_law_undone => k_is)
    (case l_law_undone => k_is)
    (case c_law_undone => k_is)
    (case k_law_undone => k_is)
    (case a_law => k_is)
    (case l_law => k_is)
    (case c_law => k_is)
    (case k_law => k_is)
    (case aC_Shelf => k_is)
    (case a_Shelf_d__init_d_ => k_is)
    (case i_Shelf_d__init_d_ => k_is)
    (case l_Shelf_d__init_d_ => k_is)
    (case c_Shelf_d__init_d_ => k_is)
    (case k_Shelf_d__init_d_ => k_is)
    (case a_Shelf_can_take => k_is)
    (case i_Shelf_can_take => k_is)
    (case l_Shelf_can_take => k_is)
    (case c_Shelf_can_take => k_is)
    (case k_Shelf_can_take => k_is)
    (case a_Shelf_can_return => k_is)
    (case i_Shelf_can_return => k_is)
    (case l_Shelf_can_return => k_is)
    (case c_Shelf_can_return => k_is)
    (case k_Shelf_can_return => k_is)
    (case a_Shelf_take => k_is)
    (case i_Shelf_take => k_is)
    (case l_Shelf_take => k_is)
    (case c_Shelf_take => k_is)
    (case k_Shelf_take => k_is)
    (case a_Shelf_put_back => k_is)
    (case i_Shelf_put_back => k_is)
    (case l_Shelf_put_back => k_is)
    (case c_Shelf_put_back => k_is)
    (case k_Shelf_put_back => k_is)
    (case pg_Shelf => k_is)
    (case hd_Shelf => k_is)
    (case po_Shelf => k_is)
    (case sa_Shelf => k_is)
    (case mk_Shelf => k_is)
    (case kc_Shelf => k_is)
    (case n_Shelf_books => k_is)
    (case n_Shelf_taken => k_is)
    (case aC_LiveShelf => k_is)
    (case a_LiveShelf_d__init_d_ => k_is)
    (case i_LiveShelf_d__init_d_ => k_is)
    (case l_LiveShelf_d__init_d_ => k_is)
    (case c_LiveShelf_d__init_d_ => k_is)
    (case k_LiveShelf_d__init_d_ => k_is)
    (case a_LiveShelf_take_book => k_is)
    (case i_LiveShelf_take_book => k_is)
    (case l_LiveShelf_take_book => k_is)
    (case c_LiveShelf_take_book => k_is)
    (case k_LiveShelf_take_book => k_is)
    (case a_LiveShelf_return_book => k_is)
    (case i_LiveShelf_return_book => k_is)
    (case l_LiveShelf_return_book => k_is)
    (case c_LiveShelf_return_book => k_is)
    (case k_LiveShelf_return_book => k_is)
    (case a_LiveShelf_undo => k_is)
    (case i_LiveShelf_undo => k_is)
    (case l_LiveShelf_undo => k_is)
    (case c_LiveShelf_undo => k_is)
    (case k_LiveShelf_undo => k_is)
    (case a_LiveShelf_current_books => k_is)
    (case i_LiveShelf_current_books => k_is)
    (case l_LiveShelf_current_books => k_is)
    (case c_LiveShelf_current_books => k_is)
    (case k_LiveShelf_current_books => k_is)
    (case a_LiveShelf_current_gaps => k_is)
    (case i_LiveShelf_current_gaps => k_is)
    (case l_LiveShelf_current_gaps => k_is)
    (case c_LiveShelf_current_gaps => k_is)
    (case k_LiveShelf_current_gaps => k_is)
    (case a_LiveShelf_current_out => k_is)
    (case i_LiveShelf_current_out => k_is)
    (case l_LiveShelf_current_out => k_is)
    (case c_LiveShelf_current_out => k_is)
    (case k_LiveShelf_current_out => k_is)
    (case a_LiveShelf_current_schedule => k_is)
    (case i_LiveShelf_current_schedule => k_is)
    (case l_LiveShelf_current_schedule => k_is)
    (case c_LiveShelf_current_schedule => k_is)
    (case k_LiveShelf_current_schedule => k_is)
    (case a_LiveShelf_duplicate => k_is)
    (case i_LiveShelf_duplicate => k_is)
    (case l_LiveShelf_duplicate => k_is)
    (case c_LiveShelf_duplicate => k_is)
    (case k_LiveShelf_duplicate => k_is)
    (case a_LiveShelf_is_complete => k_is)
    (case pg_LiveShelf_is_complete => k_is)
    (case pt_LiveShelf_is_complete => k_is)
    (case pr_LiveShelf_is_complete => k_is)
    (case l_LiveShelf_is_complete => k_is)
    (case c_LiveShelf_is_complete => k_is)
    (case k_LiveShelf_is_complete => k_is)
    (case a_LiveShelf_d__len_d_ => k_is)
    (case i_LiveShelf_d__len_d_ => k_is)
    (case l_LiveShelf_d__len_d_ => k_is)
    (case c_LiveShelf_d__len_d_ => k_is)
    (case k_LiveShelf_d__len_d_ => k_is)
    (case pg_LiveShelf => k_is)
    (case hd_LiveShelf => k_is)
    (case po_LiveShelf => k_is)
    (case sa_LiveShelf => k_is)
    (case mk_LiveShelf => k_is)
    (case kc_LiveShelf => k_is)
    (case n_LiveShelf_size => k_is)
    (case n_LiveShelf_shelf => k_is)
    (case n_LiveShelf_done => k_is)
    (case g_MAX_SIZE => k_is)
    (case g_TAKE => k_is)
    (case g_RETURN => k_is)
    (case z_len => k_is)
    (case z_range => k_is)
    (case z_isinstance => k_is)
    (case z_int => k_is)
    (case z_bool => k_is)
    (case z_str => k_is)
    (case z_list => k_is)
    (case z_tuple => k_is)
    (case z_set => k_is)
    (case z_sorted => k_is)
    (case z_min => k_is)
    (case z_max => k_is)
    (case z_sum => k_is)
    (case z_all => k_is)
    (case z_any => k_is)
    (case z_abs => k_is)
    (case z_repr => k_is)
    (case z_enumerate => k_is)
    (case z_zip => k_is)
    (case z_reversed => k_is)
