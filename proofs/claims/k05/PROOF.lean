import PyProof.Rows.All
import Wide.All
import OpenK.AllK
import Wide.FinOn
import HandS.ForMost
import HandS.WordsExc
import HandS.Wide
import HandS.Defaults
import HandS.SortInts
import HandS.IsInst
import HandS.EndBits
import PyProof.ReprRoads
import HandS.Conv
import HandS.Style
import HandS.NoneIn
import HandS.TupAny
import HandS.SetFor
import HandS.Text
import PyProof.Rows.ChunkEnd
import HandS.Zip
import HandS.Property
import HandS.DictComp
import HandS.More
import KE.GoesMore
import KE.KDictZip
import KE.KRevIter
import HandS.ListItems
import KE.GoesEnum
import PyProof.StrOps2
import HandS.Comp
import PySem.Challenge.RW_leftreturn_k05_whole_schedules_and_pairs
set_option Elab.async false
set_option linter.all false
set_option maxRecDepth 100000
set_option maxHeartbeats 4000000
namespace Lx
open PySem PySem.Spec PyProof.Rows L2

/-! ### a def's promise where no repr runs around it -/
structure FnG (P : Program) (w : World) (K : PySem.W.Frag) (mg : Str → Option Value) (base : Heap) (k : Nat) (f : Addr) (fd : FuncData) (ps : List Str) (sp : Sp) : Prop where
  ln : ∀ us H Q E, sp us H Q E → us.length = ps.length
  go : ∀ (A : Around) (fs : List Env) (s : Shared) (H : Hp) (ar : Args) (us : List Value) (vs : List V) (Q : VK) (E : XK), A.guards = some [] → Room k A → Env0 P w K mg base A fs s H →
    BindsTo s fd ar (ps.zip us) → Vals vs us → sp vs H Q E → codeAny (model P w) A (.call (.ref f) ar) (CR (L2.CX P w) fs P w H s Q E) s
section
variable {P : Program} {w : World} {K : PySem.W.Frag} {mg : Str → Option Value} {base : Heap}
theorem FnG.up {j k : Nat} {f : Addr} {fd : FuncData} {ps : List Str} {sp : Sp} (F : FnG P w K mg base j f fd ps sp) (h : j ≤ k) : FnG P w K mg base k f fd ps sp :=
  ⟨F.ln, fun A fs s H ar us vs Q E hg hr => F.go A fs s H ar us vs Q E hg (hr.mono h)⟩
theorem FnG.imp {k : Nat} {f : Addr} {fd : FuncData} {ps : List Str} {sp sp' : Sp} (F : FnG P w K mg base k f fd ps sp) (h : ∀ vs H Q E, sp' vs H Q E → sp vs H Q E) : FnG P w K mg base k f fd ps sp' :=
  ⟨fun vs H Q E z => F.ln vs H Q E (h _ _ _ _ z), fun A fs s H ar us vs Q E hg hr e b v z => F.go A fs s H ar us vs Q E hg hr e b v (h _ _ _ _ z)⟩
theorem FnG.of {k : Nat} {f : Addr} {fd : FuncData} {ps : List Str} {sp : Sp} (F : FnOk P w K mg base (L2.CX P w) k f fd ps sp) : FnG P w K mg base k f fd ps sp :=
  ⟨F.len, fun A fs s H ar us vs Q E _ hr => F.run A fs s H ar us vs Q E hr⟩

/-- the rule for a def: its body's term, read where no repr runs -/
theorem graw {x qual : Str} {st : Stmt} {f : Addr} {dV kV doc pm cdv ct oc : Value} {an od : Option Addr} {osl : Array (Option Value)} {N ps : List Str} {k : Nat} {sp : Sp}
    (lk : K.lookup f = some ⟨oc, od, .func (PySem.W.fnOf x qual (defArgs st) (defBody st) (defScope st) dV kV doc pm an cdv ct), osl⟩) (hcd : PySem.W.codeIn K cdv qual = true) (S : FnScope N ps (defScope st)) (ln : ∀ vs H Q E, sp vs H Q E → vs.length = ps.length)
    (hb : ∀ (A : Around) (fs : List Env) (s : Shared) (H : Hp) (vs : List V) (Q : VK) (E : XK), (A.deeper (envOfC qual (defScope st) s.heap.objs.size f cdv)).guards = some [] → Room k (A.deeper (envOfC qual (defScope st) s.heap.objs.size f cdv)) → sp vs H Q E →
      ∃ t, PSs (cxOf (L2.CX P w) P w K mg base N qual (defScope st) f cdv A fs s H E) (defBody st) t ∧ t { nx := fun _ H' => Q .non H', rt := Q } (start N vs) H) : FnG P w K mg base (k + 1) f (PySem.W.fnOf x qual (defArgs st) (defBody st) (defScope st) dV kV doc pm an cdv ct) ps sp := by
  refine ⟨ln, fun A fs s H ar us vs Q E hg hr e0 hbd rv hs => ?_⟩
  have hl := ln _ _ _ _ hs
  have inK : K.In s.heap := e0.mod.kin.keeps (fun b o z => (e0.bs b o z).1)
  have nl : s.heap.NoLimit := e0.mod.nolimit.keeps (fun b o z => (e0.bs b o z).1)
  have kinds : ∀ y ∈ ps.zip us, (defScope st).names.lookup y.1 = some .local ∨ ((defScope st).names.lookup y.1 = some .cell ∧ ((cellsFrom (s.heap.objs.size + 1) (defScope st).names []).lookup y.1).isSome = true) := by
    rintro ⟨n, v⟩ hy
    have hm := S.par n (List.of_mem_zip hy).1
    cases hm with
    | inl q => exact Or.inl q
    | inr q => exact Or.inr ⟨q, PySem.W.cellsFrom_some _ _ _ (Or.inl q)⟩
  apply codeAny_call_function hr.depth (inK _ _ lk) rfl S.co S.gen rfl (PySem.W.codeRec_of inK hcd)
  apply hbd
  apply wpAny_newFunctionEnv_cells S.kind kinds
  intro env he s1 x
  subst he
  refine ⟨nl.keeps x.toInCall.keep, codeAny_func ?_⟩
  obtain ⟨t, ht, hq⟩ := hb A fs s H vs Q E hg (hr.deeper _) hs
  have I := inv_start (CX := L2.CX P w) (P := P) (w := w) (K := K) (mg := mg) (base := base) (f := f) (cd := cdv) (qual := qual) (E := E) S hr.hd e0 hl rv x
  apply wpAny_mono (ht.run [] s1 (start N vs) H _ I hq)
  · intro fl s' z
    have done : ∀ {σ' : L2.St} {H' : Hp} {v : V} {u : Value}, Inv (cxOf (L2.CX P w) P w K mg base N qual (defScope st) f cdv A fs s H E) [] σ' H' s' → RelV v u → Q v H' → CE fs P w H s Q u s' := by
      intro σ' H' v u J r q
      exact ⟨v, H', J.os, J.bare, J.base, J.hok, r, q⟩
    cases fl with
    | next => exact let ⟨_, _, J, q⟩ := z; done (v := V.non) (u := Value.none) J rfl q
    | brk => exact let ⟨_, _, _, q⟩ := z; q.elim
    | cont => exact let ⟨_, _, _, q⟩ := z; q.elim
    | ret u => exact let ⟨_, _, _, J, r, q⟩ := z; done J r q
  · exact fun _ _ z => z
theorem gok {x qual : Str} {st : Stmt} {f : Addr} {fd : FuncData} {N ps : List Str} {k : Nat} {sp : Sp} (F : Fun K x qual st f fd) (S : FnScope N ps (defScope st)) (ln : ∀ vs H Q E, sp vs H Q E → vs.length = ps.length)
    (hb : ∀ (cdv : Value) (A : Around) (fs : List Env) (s : Shared) (H : Hp) (vs : List V) (Q : VK) (E : XK), (A.deeper (envOfC qual (defScope st) s.heap.objs.size f cdv)).guards = some [] → Room k (A.deeper (envOfC qual (defScope st) s.heap.objs.size f cdv)) → sp vs H Q E →
      ∃ t, PSs (cxOf (L2.CX P w) P w K mg base N qual (defScope st) f cdv A fs s H E) (defBody st) t ∧ t { nx := fun _ H' => Q .non H', rt := Q } (start N vs) H) : FnG P w K mg base (k + 1) f fd ps sp := by
  obtain ⟨oc, od, kV, doc, pm, an, cdv, ct, osl, rfl, lk, hcd⟩ := F.ex
  exact graw lk hcd S ln (hb cdv)
theorem gokD {x qual : Str} {st : Stmt} {f : Addr} {fd : FuncData} {N ps : List Str} {k : Nat} {sp : Sp} {dvs : List V} {kws : List (Str × V)} (F : FunD K x qual (defArgs st) (defBody st) (defScope st) dvs kws f fd) (S : FnScope N ps (defScope st)) (ln : ∀ vs H Q E, sp vs H Q E → vs.length = ps.length)
    (hb : ∀ (cdv : Value) (A : Around) (fs : List Env) (s : Shared) (H : Hp) (vs : List V) (Q : VK) (E : XK), (A.deeper (envOfC qual (defScope st) s.heap.objs.size f cdv)).guards = some [] → Room k (A.deeper (envOfC qual (defScope st) s.heap.objs.size f cdv)) → sp vs H Q E →
      ∃ t, PSs (cxOf (L2.CX P w) P w K mg base N qual (defScope st) f cdv A fs s H E) (defBody st) t ∧ t { nx := fun _ H' => Q .non H', rt := Q } (start N vs) H) : FnG P w K mg base (k + 1) f fd ps sp := by
  obtain ⟨oc, od, dV, kV, doc, pm, an, cdv, ct, osl, rfl, lk, hcd, _, _⟩ := F.ex
  exact graw lk hcd S ln (hb cdv)

/-- a def as callers see it: n values written, the defaults dvs fill up -/
structure Df (P : Program) (w : World) (K : PySem.W.Frag) (mg : Str → Option Value) (base : Heap) (k : Nat) (x : Str) (dvs : List V) (sp : Sp) : Prop where
  ex : ∃ (f : Addr) (fd : FuncData) (ps : List Str) (ds : List Value), FnG P w K mg base k f fd ps sp ∧ mg x = some (.ref f) ∧ PySem.W.keepIn K (.ref f) = true ∧ Binds K fd ps ds ∧ Vals dvs ds
theorem Df.up {j k : Nat} {x : Str} {dvs : List V} {sp : Sp} (D : Df P w K mg base j x dvs sp) (h : j ≤ k) : Df P w K mg base k x dvs sp :=
  let ⟨f, fd, ps, ds, F, r⟩ := D.ex; ⟨f, fd, ps, ds, F.up h, r⟩
theorem Df.imp {k : Nat} {x : Str} {dvs : List V} {sp sp' : Sp} (D : Df P w K mg base k x dvs sp) (h : ∀ vs H Q E, sp' vs H Q E → sp vs H Q E) : Df P w K mg base k x dvs sp' :=
  let ⟨f, fd, ps, ds, F, r⟩ := D.ex; ⟨f, fd, ps, ds, F.imp h, r⟩
end

/-! ### calls -/
section
variable {X : Cx} {k : Nat} {f C : Addr} {fd : FuncData} {ps : List Str} {sp : Sp} {dvs : List V} {ds : List Value} {E : XK} {x m : Str} {p pos apos : Pos} {e o : Expr} {es : List Expr} {ta : TE} {t : TA}
theorem grun {pins : List (Addr × Obj)} {σ : L2.St} {H : Hp} {s : Shared} {Q : VK} {us : List Value} {vs : List V} (F : FnG X.prog X.w X.K X.mg X.base k f fd ps sp) (hG : X.A.guards = some []) (hr : Room k X.A) (hb : Binds X.K fd ps ds) (hd : Vals dvs ds)
    (hx : Passes (L2.CX X.prog X.w) X E) (I : Inv X pins σ H s) (r : Vals vs us) (h : sp (vs ++ dvs) H Q E) : wpAny (model X.prog X.w) X.A (call (.ref f) us) (EP X pins σ Q) X.xe s := by
  have rv := r.append hd
  have z := F.go X.A X.stack s H ⟨us, []⟩ (us ++ ds) (vs ++ dvs) Q E hG hr I.env0 (hb s us I.kIn (rv.length.symm.trans (F.ln _ _ _ _ h))) rv h
  refine wpAny_call (codeAny_mono z ?_)
  intro r s' hq
  cases r with
  | error e => exact hx pins σ H s e s' I hq
  | ok fl => cases fl with
    | ret u => exact I.after hq
    | next => exact hq.elim
    | brk => exact hq.elim
    | cont => exact hq.elim
theorem gcall (F : FnG X.prog X.w X.K X.mg X.base k f fd ps sp) (hG : X.A.guards = some []) (hr : Room k X.A) (hg : Gl X x) (hm : X.mg x = some (.ref f)) (hk : PySem.W.keepIn X.K (.ref f) = true) (hb : Binds X.K fd ps ds) (hd : Vals dvs ds) (hx : Passes (L2.CX X.prog X.w) X E)
    (ha : PA X (e :: es) t) (hdb : (x == ("__debug__" : Str)) = false := by decide) (he : starEach (e :: es) X.env = (false, eval e X.env) :: starEach es X.env := by rfl) (hpl : (backTo pos (starEach es X.env)).any (·.1) = false := by rfl) :
    PE X (.Call (.Name x p) (e :: es) [] pos) (tCall sp dvs E t) := by
  constructor
  intro pins s σ H Q I h
  apply wpAny_Call_Name_kw
  refine ld_glob I hg hm ?_ hdb
  have z := ha.run pos pins s σ H _ I h
  exact PySem.W.callWith_K (h₀ := X.base) I.ok.mod.kin hk (thn z (fun us s1 y => let ⟨_, _, I1, r, q⟩ := y; ⟨I1.kIn, grun F hG hr hb hd hx I1 r q⟩)) he hpl
theorem gcall0 (F : FnG X.prog X.w X.K X.mg X.base k f fd ps sp) (hG : X.A.guards = some []) (hr : Room k X.A) (hg : Gl X x) (hm : X.mg x = some (.ref f)) (hk : PySem.W.keepIn X.K (.ref f) = true) (hb : Binds X.K fd ps ds) (hd : Vals dvs ds) (hx : Passes (L2.CX X.prog X.w) X E)
    (hdb : (x == ("__debug__" : Str)) = false := by decide) : PE X (.Call (.Name x p) [] [] pos) (tCall sp dvs E tNil) := by
  constructor
  intro pins s σ H Q I h
  apply wpAny_Call_Name_kw
  refine ld_glob I hg hm ?_ hdb
  exact PySem.W.callWith_K0 I.kIn hk (grun (us := []) F hG hr hb hd hx I .nil h)
/-- f(..), f a def of the text -/
theorem pe_df (D : Df X.prog X.w X.K X.mg X.base k x dvs sp) (hG : X.A.guards = some []) (hr : Room k X.A) (hx : Passes (L2.CX X.prog X.w) X E) (hg : Gl X x) (ha : PA X (e :: es) t)
    (hdb : (x == ("__debug__" : Str)) = false := by decide) (he : starEach (e :: es) X.env = (false, eval e X.env) :: starEach es X.env := by rfl) (hpl : (backTo pos (starEach es X.env)).any (·.1) = false := by rfl) :
    PE X (.Call (.Name x p) (e :: es) [] pos) (tCall sp dvs E t) :=
  let ⟨_, _, _, _, F, hm, hk, hb, hd⟩ := D.ex; gcall F hG hr hg hm hk hb hd hx ha hdb he hpl
theorem pe_df0 (D : Df X.prog X.w X.K X.mg X.base k x dvs sp) (hG : X.A.guards = some []) (hr : Room k X.A) (hx : Passes (L2.CX X.prog X.w) X E) (hg : Gl X x) (hdb : (x == ("__debug__" : Str)) = false := by decide) : PE X (.Call (.Name x p) [] [] pos) (tCall sp dvs E tNil) :=
  let ⟨_, _, _, _, F, hm, hk, hb, hd⟩ := D.ex; gcall0 F hG hr hg hm hk hb hd hx hdb
/-- a constant of the module -/
def Gc (mg : Str → Option Value) (x : Str) (v : V) : Prop := ∃ u, mg x = some u ∧ RelV v u
theorem pe_gc {v : V} (h : Gc X.mg x v) (hg : Gl X x) (hd : (x == ("__debug__" : Str)) = false := by decide) : PE X (.Name x pos) (tC v) :=
  ⟨fun pins s σ H Q I q => let ⟨_, hm, r⟩ := h; (pe_glob hg hm r hd).run pins s σ H Q I q⟩
end
end Lx

namespace Lx
open PySem PySem.Spec PyProof.Rows L2

/-- what the end wants of the heap told: at most the script -/
structure Told (K : PySem.W.Frag) (a : Addr) (H : Hp) : Prop where
  only : Only H
  one : ∀ b u, H b = some u → b = a ∧ K.lookup a = none
section
variable {P : Program} {w : World} {K : PySem.W.Frag} {mg mb : Str → Option Value} {k : Nat} {fa a : Addr} {fd : FuncData} {x : Str} {sp : Sp} {s : Shared} {vs : List Value} {ns : List Int}
theorem Told.low (T : Told K a H) {b : Addr} {o : Obj} (hb : s.heap.get? b = some o) (n : b ≠ a) : (hidT s.heap H).get? b = some o := by
  apply hidT_get hb
  cases q : H b with
  | none => rfl
  | some u => exact (n (T.one b u q).1).elim
theorem Told.lowK (T : Told K a H) (KX : K.In s.heap) : K.In (hidT s.heap H) := by
  intro b o e
  apply hidT_get (KX b o e)
  cases q : H b with
  | none => rfl
  | some u =>
    have z := T.one b u q
    rw [z.1, z.2] at e
    cases e
theorem Told.nsp (T : Told K a H) (hl : s.heap.get? a = some { cls := .type "list", data := .seq vs.toArray }) {b : Addr} {m : Str → Option Value} (h : s.heap.Ns b m) : (hidT s.heap H).Ns b m := by
  obtain ⟨o, es, ep, h1, h2, h3⟩ := h
  refine ⟨o, es, ep, T.low h1 ?_, h2, h3⟩
  rintro rfl
  rw [hl] at h1
  cases h1
  cases h2
theorem glaw1 {H : Hp} (T : Told K a H) (KX : K.In s.heap) (hm : s.heap.Ns mainGlobals mg) (hb : s.heap.Ns builtinsNs mb) (hbb : ∀ x : Str, x ≠ "__name__" → mb x = bootBuiltins x) (lim : s.heap.NoLimit) (hg : s.gens = #[])
    (hl : s.heap.get? a = some { cls := .type "list", data := .seq vs.toArray }) (hr : Room k callerA)
    (F : ∀ base : Heap, K.In base → base.Ns mainGlobals mg → FnG P w K mg base k fa fd [x] sp) (bind : ∀ (s : Shared) (u : Value), BindsTo s fd ⟨[u], []⟩ [(x, u)])
    (ok : HOk P w H s.heap) (hsp : sp [.ref a] H (fun v _ => v = .bl true) fun _ _ _ => False) :
    codeAny (model P w) callerA (.call (.ref fa) ⟨[.ref a], []⟩) (fun r s' => r = .ok (.ret (.bool true)) ∧ OldK s.heap s'.heap ∧ s'.os = s.os ∧ AllBare s'.gens) s := by
  have KB := T.lowK KX
  have md : Mod K mg (hidT s.heap H) := ⟨KB, T.nsp hl hm, ⟨mb, T.nsp hl hb, hbb⟩, by
    obtain ⟨m, h1, h2⟩ := lim
    exact ⟨m, T.nsp hl h1, h2⟩⟩
  have noFr : ∀ b ∈ frs ([] : List Env), H b = none := by
    intro b z
    cases z
  have e0 : Env0 P w K mg (hidT s.heap H) callerA [] s H := { frames := rfl, mod := md, bs := fun b o e => of_hidT e, bsz := Nat.le_of_eq (hidT_size _ _), funs := trivial, frf := noFr, hok := ok, bare := .of_eq hg }
  have run := (F _ KB md.glob).go callerA [] s H ⟨[.ref a], []⟩ [.ref a] [.ref a] (fun v _ => v = .bl true) (fun _ _ _ => False) rfl hr e0 (bind s (.ref a)) (.cons rfl .nil) hsp
  refine codeAny_mono run ?_
  intro r s' q
  match r, q with
  | .error e, q => exact (by obtain ⟨_, _, _, _, _, _, _, _, _, _, _, _, z⟩ := q; exact z.elim)
  | .ok .next, q => exact q.elim
  | .ok .brk, q => exact q.elim
  | .ok .cont, q => exact q.elim
  | .ok (.ret u), q =>
    obtain ⟨v, H', os, bare, un, ok', rv, e⟩ := q
    have e' : v = V.bl true := e
    subst e'
    have eu : u = Value.bool true := rv
    refine ⟨by rw [eu], OldK.of_keep ?_, os, bare⟩
    intro b o hb
    cases z : H b with
    | none => exact un.keep b o hb z (fun y => by cases y) (fun y => by cases y)
    | some u =>
      cases T.only b with
      | inl y => rw [z] at y; cases y
      | inr y =>
        obtain ⟨ob, xs, y⟩ := y
        have w1 := (ok b _ y).1
        have w2 := (ok' b _ (un.frzs b ob _ y)).1
        rw [hb] at w1
        rw [Option.some.inj w1]
        exact w2
theorem glaw (KX : K.In s.heap) (hm : s.heap.Ns mainGlobals mg) (hb : s.heap.Ns builtinsNs mb) (hbb : ∀ x : Str, x ≠ "__name__" → mb x = bootBuiltins x) (lim : s.heap.NoLimit) (hg : s.gens = #[])
    (hl : s.heap.get? a = some { cls := .type "list", data := .seq vs.toArray }) (hi : IntsAre vs ns) (hz : ns.length ≤ sizeLine) (hr : Room k callerA)
    (F : ∀ base : Heap, K.In base → base.Ns mainGlobals mg → FnG P w K mg base k fa fd [x] sp) (bind : ∀ (s : Shared) (u : Value), BindsTo s fd ⟨[u], []⟩ [(x, u)])
    (hsp : ∀ H : Hp, SqL K H a (ns.map V.int) → sp [.ref a] H (fun v _ => v = .bl true) fun _ _ _ => False) :
    codeAny (model P w) callerA (.call (.ref fa) ⟨[.ref a], []⟩) (fun r s' => r = .ok (.ret (.bool true)) ∧ OldK s.heap s'.heap ∧ s'.os = s.os ∧ AllBare s'.gens) s := by
  have rv := vals_ints hi
  have lv : vs.length = ns.length := hi.length
  by_cases hk : K.lookup a = none
  · have tell : ∀ b, (fun b => if b = a then some (HO.frz { cls := .type "list", data := .seq vs.toArray } (.lst (ns.map V.int))) else none : Hp) b = none ∨ b = a := by
      intro b
      by_cases e : b = a
      · exact .inr e
      · exact .inl (if_neg e)
    refine glaw1 (H := fun b => if b = a then some (.frz { cls := .type "list", data := .seq vs.toArray } (.lst (ns.map V.int))) else none) ⟨?_, ?_⟩ KX hm hb hbb lim hg hl hr F bind ?_ (hsp _ (.inl (.inr ⟨_, if_pos rfl⟩)))
    · intro b
      cases tell b with
      | inl e => exact .inl e
      | inr e => exact .inr ⟨_, _, if_pos e⟩
    · intro b u e
      cases tell b with
      | inl z => exact absurd (z.symm.trans e) (by simp)
      | inr z => exact ⟨z, hk⟩
    · intro b u e
      cases tell b with
      | inl z => exact absurd (z.symm.trans e) (by simp)
      | inr z =>
        subst z
        have eu := Option.some.inj ((if_pos rfl).symm.trans e)
        subst eu
        exact ⟨hl, (by rw [List.length_map]; exact hz), vs, 0, rv, hl⟩
  · obtain ⟨o, ho⟩ := Option.ne_none_iff_exists'.mp hk
    have e := KX a o ho
    rw [hl] at e
    have eo := Option.some.inj e
    subst eo
    have noH : ∀ (b : Addr) (u : HO), ((fun _ => none : Hp) b = some u) → False := by
      intro b u z
      cases z
    refine glaw1 (H := fun _ => none) ⟨fun b => .inl rfl, fun b u z => (noH b u z).elim⟩ KX hm hb hbb lim hg hl hr F bind (fun b u z => (noH b u z).elim) (hsp _ (.inr ?_))
    exact ⟨_, vs.toArray, _, ho, rfl, rfl, rfl, by rw [List.size_toArray, lv]; exact hz, by simpa using rv⟩
end
theorem gwalk {l : PySem.W.OpenLaw} {n k : Nat} {q : Program} {loose : List Str} {XP : (Str → Option Value) → Heap → Prop} {YP : World → Heap → Prop} {d : DefRec} {K : Params → PySem.W.Frag} {sp : World → Sp} {x : Str}
    (hn : l.most = some n) (hn2 : n ≤ sizeLine) (hdf : d.params.defaults = []) (hr : Room k callerA) (hY : ∀ (w : World) (h : Heap), YP w h → (K w.params).In h)
    (F : ∀ (w : World) (mg : Str → Option Value) (fa : Addr) (h : Heap), (K w.params).In h → h.Ns mainGlobals mg → mg d.name = some (.ref fa) →
      ∃ fd : FuncData, (∀ (s : Shared) (u : Value), BindsTo s fd ⟨[u], []⟩ [(x, u)]) ∧ ∀ base : Heap, (K w.params).In base → base.Ns mainGlobals mg → FnG l.prog w (K w.params) mg base k fa fd [x] (sp w))
    (hsp : ∀ (w : World) (H : Hp) (a : Addr) (ns : List Int), ns.length ≤ n → (∀ z ∈ ns, Builtin.Int.intBits z ≤ 1048576) → SqL (K w.params) H a (ns.map V.int) → sp w [.ref a] H (fun v _ => v = .bl true) fun _ _ _ => False) :
    PySem.W.WalkO q loose XP YP l.row.toRowW d [] (fun f vs => PySem.call f vs) := by
  apply Att.attach_callB hn hdf
  intro w s₀ s₁ mg mb fa o pm cd doc a vs ns G Y ho hd hcd hmg hobj hints hlen hbits hg
  obtain ⟨fd, b, hF⟩ := F w mg fa _ (hY w _ Y) G.T.g hmg
  exact glaw (hY w _ Y) G.T.g G.T.b G.T.builtins G.T.nolimit hg hobj hints (Nat.le_trans hlen hn2) hr hF b (fun H hS => hsp w H a ns hlen hbits hS)
end Lx

namespace Lx
open PySem PySem.Spec PyProof.Rows L2

/-! ### built-in names -/
theorem Blen : bootBuiltins "len" = some (.builtin "len") := by decide +kernel
theorem Bisinstance : bootBuiltins "isinstance" = some (.builtin "isinstance") := by decide +kernel
theorem Babs : bootBuiltins "abs" = some (.builtin "abs") := by decide +kernel
theorem Bmin : bootBuiltins "min" = some (.builtin "min") := by decide +kernel
theorem Bmax : bootBuiltins "max" = some (.builtin "max") := by decide +kernel
theorem Bsorted : bootBuiltins "sorted" = some (.builtin "sorted") := by decide +kernel
theorem Bsum : bootBuiltins "sum" = some (.builtin "sum") := by decide +kernel
theorem Ball : bootBuiltins "all" = some (.builtin "all") := by decide +kernel
theorem Bany : bootBuiltins "any" = some (.builtin "any") := by decide +kernel
theorem Brepr : bootBuiltins "repr" = some (.builtin "repr") := by decide +kernel
theorem Tint : bootBuiltins "int" = some (.type "int") := by decide +kernel
theorem Tbool : bootBuiltins "bool" = some (.type "bool") := by decide +kernel
theorem Tstr : bootBuiltins "str" = some (.type "str") := by decide +kernel
theorem Tlist : bootBuiltins "list" = some (.type "list") := by decide +kernel
theorem Ttuple : bootBuiltins "tuple" = some (.type "tuple") := by decide +kernel
theorem Tset : bootBuiltins "set" = some (.type "set") := by decide +kernel
theorem Tdict : bootBuiltins "dict" = some (.type "dict") := by decide +kernel
/-- the module gives none of these names a meaning of its own -/
structure Bn (mg : Str → Option Value) : Prop where
  len : mg "len" = none
  range : mg "range" = none
  isinstance : mg "isinstance" = none
  int : mg "int" = none
  bool : mg "bool" = none
  str : mg "str" = none
  list : mg "list" = none
  tuple : mg "tuple" = none
  set : mg "set" = none
  sorted : mg "sorted" = none
  min : mg "min" = none
  max : mg "max" = none
  sum : mg "sum" = none
  all : mg "all" = none
  any : mg "any" = none
  abs : mg "abs" = none
  repr : mg "repr" = none
  enumerate : mg "enumerate" = none
  zip : mg "zip" = none
  reversed : mg "reversed" = none
  dict : mg "dict" = none

/-! ### repr of data -/
def rRepr (K : PySem.W.Frag) : List V → Hp → VK → Prop := fun xs H Q => ∃ x d, xs = [x] ∧ Dp K H x d ∧ d.showable = true ∧ d.hasDict = false ∧ d.depth ≤ 32 ∧ d.shown.length ≤ sizeLine ∧ Q (.str d.shown) H
theorem call_reprD {X : Cx} (hG : X.A.guards = some []) (hu : X.A.units + 64 < cLine) : CallR X (.builtin "repr") (rRepr X.K) := by
  intro pins s σ H xs us Q I r h
  obtain ⟨x, d, rfl, hd, hs, hn, hp, hz, q⟩ := h
  cases r with
  | cons r rr =>
    cases rr
    rename_i u
    obtain ⟨as, rd⟩ := Dp.reads I d x u hd r
    cases hd with
    | non => cases r; exact P.repr_of_none ⟨.str _, H, I.tok _, ⟨_, rfl⟩, q⟩
    | bl b => cases r; exact P.repr_of_bool ⟨.str _, H, I.tok _, ⟨_, rfl⟩, q⟩
    | int i =>
      obtain ⟨t, rfl⟩ := r
      exact P.repr_of_int (of_decide_eq_true hs) ⟨.str _, H, I.tok _, ⟨_, rfl⟩, q⟩
    | str y =>
      obtain ⟨t, rfl⟩ := r
      exact P.repr_of_str ⟨.str _, H, I.tok _, ⟨_, rfl⟩, q⟩ hz
    | lst h1 h2 =>
      cases r
      exact repr_of_reads' rd hs (fun e => by rw [hn] at e; cases e) hG (by omega) (fun _ _ e => e) (fun h' v tk k => ⟨.str _, H, I.kept (t' := tk) k, ⟨_, rfl⟩, q⟩) hz
    | tup h1 h2 =>
      cases r
      exact repr_of_reads' rd hs (fun e => by rw [hn] at e; cases e) hG (by omega) (fun _ _ e => e) (fun h' v tk k => ⟨.str _, H, I.kept (t' := tk) k, ⟨_, rfl⟩, q⟩) hz
/-! ### how long a shown datum is -/
theorem textFrom_le (m : Nat) : ∀ (ts : List Str) (k : Nat) (acc : Str), (∀ t ∈ ts, t.length ≤ m) → (textFrom k acc ts).length ≤ acc.length + ts.length * (m + 2)
  | [], k, acc, _ => Nat.le_add_right _ _
  | t :: r, k, acc, h => by
    have ih := textFrom_le m r (k + 1) (acc ++ (if k > 0 then ", " else "" : String) ++ t) fun u hu => h u (List.mem_cons_of_mem _ hu)
    have ht := h t List.mem_cons_self
    have e : (acc ++ (if k > 0 then ", " else "" : String) ++ t).length ≤ acc.length + 2 + t.length := by
      rw [strLen_append, strLen_append]
      split <;> exact Nat.add_le_add_right (Nat.add_le_add_left (by decide) _) _
    rw [List.length_cons, Nat.succ_mul]
    show (textFrom (k + 1) _ r).length ≤ _
    omega
theorem shownAll_mem : ∀ {ds : List PyData} {t : Str}, t ∈ PyData.shownAll ds → ∃ d ∈ ds, t = d.shown
  | [], t, h => by cases h
  | d :: ds, t, h => by
    rcases List.mem_cons.mp (show t ∈ d.shown :: PyData.shownAll ds from h) with e | h
    · exact ⟨d, List.mem_cons_self, e⟩
    · obtain ⟨x, hx, e⟩ := shownAll_mem h
      exact ⟨x, List.mem_cons_of_mem _ hx, e⟩
theorem shownAll_len : ∀ ds : List PyData, (PyData.shownAll ds).length = ds.length
  | [] => rfl
  | _ :: ds => congrArg Nat.succ (shownAll_len ds)
theorem piled_le (m : Nat) : ∀ ts : List Str, (∀ t ∈ ts, t.length ≤ m) → piled ts ≤ ts.length * (m + 2)
  | [], _ => by rw [piled_nil]; exact Nat.zero_le _
  | t :: r, h => by
    have ih := piled_le m r fun u hu => h u (List.mem_cons_of_mem _ hu)
    have ht := h t List.mem_cons_self
    rw [piled_cons, List.length_cons, Nat.succ_mul]
    omega
theorem list_shown {ds : List PyData} {m : Nat} (h : ∀ d ∈ ds, d.shown.length ≤ m) : (PyData.list ds).shown.length ≤ ds.length * (m + 2) + 2 := by
  have z := textFrom_le m (PyData.shownAll ds) 0 "[" fun t ht => by
    obtain ⟨d, hd, e⟩ := shownAll_mem ht
    rw [e]
    exact h d hd
  rw [shownAll_len] at z
  show (textFrom 0 "[" (PyData.shownAll ds) ++ "]" : Str).length ≤ _
  rw [strLen_append]
  have e1 : (("[" : String) : Str).length = 1 := rfl
  have e2 : (("]" : String) : Str).length = 1 := rfl
  omega
theorem tuple_shown {ds : List PyData} {m : Nat} (h : ∀ d ∈ ds, d.shown.length ≤ m) : (PyData.tuple ds).shown.length ≤ ds.length * (m + 2) + 3 := by
  have hm : ∀ t ∈ PyData.shownAll ds, t.length ≤ m := fun t ht => by
    obtain ⟨d, hd, e⟩ := shownAll_mem ht
    rw [e]
    exact h d hd
  have z := piled_le m (PyData.shownAll ds) hm
  rw [shownAll_len] at z
  show (("(" : Str) ++ Str.join ", " (PyData.shownAll ds) ++ (if (PyData.shownAll ds).length == 1 then ",)" else ")" : String)).length ≤ _
  rw [strLen_append, strLen_append]
  have e1 : (("(" : String) : Str).length = 1 := rfl
  have e3 : (((if (PyData.shownAll ds).length == 1 then ",)" else ")" : String) : Str)).length ≤ 2 := by split <;> decide
  by_cases e : PyData.shownAll ds = []
  · rw [e] at e3 ⊢
    have e4 : (Str.join ", " ([] : List Str)).length = 0 := rfl
    rw [e4]
    omega
  · have j := join_length_add _ e
    omega
theorem int_shown {i : Int} {k : Nat} (hk : 0 < k) (h0 : 0 ≤ i) (h : i < 10 ^ k) : (PyData.int i).shown.length ≤ k := toString_length_le h0 hk h

/-! ### heaps -/
theorem _root_.L2.Same.get {H H' : Hp} {a : Addr} {o : HO} (s : Same H H') (h : H a = some o) : H' a = some o := s a o h
theorem same_new {H : Hp} {p : Addr} {o : HO} (n : H p = none) : Same H (upd H p o) := by
  intro b u e
  rw [upd_ne (ne_of_none e n)]
  exact e
theorem same_set {H H' : Hp} {p : Addr} {o : HO} (s : Same H H') (n : H p = none) : Same H (upd H' p o) := by
  intro b u e
  rw [upd_ne (ne_of_none e n)]
  exact s b u e
theorem ne_new {H : Hp} {a b : Addr} {o : HO} (n : H b = none) (h : H a = some o) : a ≠ b := ne_of_none h n
/-- all but what stands at r is as it was -/
def Kp (r : Addr) (H H' : Hp) : Prop := ∀ b o, b ≠ r → H b = some o → H' b = some o
theorem Kp.refl (r : Addr) (H : Hp) : Kp r H H := fun _ _ _ h => h
theorem Kp.of {r : Addr} {H H' : Hp} (s : Same H H') : Kp r H H' := fun b o _ h => s b o h
theorem Kp.trans {r : Addr} {H H1 H2 : Hp} (a : Kp r H H1) (b : Kp r H1 H2) : Kp r H H2 := fun c o n h => b c o n (a c o n h)
theorem Kp.set {r : Addr} {H : Hp} {o : HO} : Kp r H (upd H r o) := fun b u n e => by rw [upd_ne n]; exact e
theorem Kp.put {r p : Addr} {H H' : Hp} {o : HO} (k : Kp r H H') (n : H p = none) : Kp r H (upd H' p o) := fun b u m e => by
  rw [upd_ne (ne_of_none e n)]
  exact k b u m e
theorem Kp.free {r p : Addr} {H H' : Hp} (k : Kp r H H') (n : H' p = none) (m : p ≠ r) : H p = none := by
  cases q : H p with
  | none => rfl
  | some o => rw [k p o m q] at n; cases n
theorem Kp.get {r a : Addr} {H H' : Hp} {o : HO} (k : Kp r H H') (n : a ≠ r) (h : H a = some o) : H' a = some o := k a o n h
theorem lst_of {K : PySem.W.Frag} {H : Hp} {a : Addr} {xs : List V} (h : H a = some (.lst xs)) : SqL K H a xs := .inl (.inl h)
theorem tup_of {K : PySem.W.Frag} {H : Hp} {a : Addr} {xs : List V} (h : H a = some (.tup xs)) : SqT K H a xs := .inl (.inl h)
theorem Kp.seq {K : PySem.W.Frag} {r : Addr} {H H' : Hp} {a : Addr} {xs : List V} (k : Kp r H H') (n : a ≠ r) (h : SqL K H a xs) : SqL K H' a xs := by
  rcases h with (h | ⟨o, h⟩) | h
  · exact .inl (.inl (k _ _ n h))
  · exact .inl (.inr ⟨o, k _ _ n h⟩)
  · exact .inr h
theorem Kp.seqT {K : PySem.W.Frag} {r : Addr} {H H' : Hp} {a : Addr} {xs : List V} (k : Kp r H H') (n : a ≠ r) (h : SqT K H a xs) : SqT K H' a xs := by
  rcases h with (h | ⟨o, h⟩) | h
  · exact .inl (.inl (k _ _ n h))
  · exact .inl (.inr ⟨o, k _ _ n h⟩)
  · exact .inr h
theorem _root_.L2.Same.seqT {K : PySem.W.Frag} {H H' : Hp} {a : Addr} {xs : List V} (k : Same H H') (h : SqT K H a xs) : SqT K H' a xs := by
  rcases h with (h | ⟨o, h⟩) | h
  · exact .inl (.inl (k _ _ h))
  · exact .inl (.inr ⟨o, k _ _ h⟩)
  · exact .inr h

/-! ### the layer's rules whose readings have no name, named -/
def rIsN' : R2 := fun x y H Q => y = .non ∧ Q (.bl (decide (x = .non))) H
def rNotN' : R2 := fun x y H Q => y = .non ∧ Q (.bl (!decide (x = .non))) H
def rLen (K : PySem.W.Frag) : List V → Hp → VK → Prop := fun xs H Q => ∃ p ys, xs = [.ref p] ∧ (SqL K H p ys ∨ SqT K H p ys) ∧ Q (.int ys.length) H
def rLenS : List V → Hp → VK → Prop := fun xs H Q => ∃ z, xs = [.str z] ∧ z.length ≤ sizeLine ∧ Q (.int z.length) H
def rAbs : List V → Hp → VK → Prop := fun xs H Q => ∃ i, xs = [.int i] ∧ Q (.int (if i < 0 then -i else i)) H
def rMax2 : List V → Hp → VK → Prop := fun xs H Q => ∃ i j, xs = [.int i, .int j] ∧ Q (.int (if j > i then j else i)) H
def rMin2 : List V → Hp → VK → Prop := fun xs H Q => ∃ i j, xs = [.int i, .int j] ∧ Q (.int (if j < i then j else i)) H
def rInt1 : List V → Hp → VK → Prop := fun xs H Q => (∃ i, xs = [.int i] ∧ Q (.int i) H) ∨ ∃ k, xs = [.bl k] ∧ Q (.int (if k then 1 else 0)) H
def rStrI : List V → Hp → VK → Prop := fun xs H Q => ∃ i, xs = [.int i] ∧ i.natAbs.log2 < 1920 ∧ Q (.str (toString i)) H
def rListOf (K : PySem.W.Frag) : List V → Hp → VK → Prop := fun xs H Q => ∃ p ys, xs = [.ref p] ∧ (SqL K H p ys ∨ SqT K H p ys) ∧ ∀ l, H l = none → Q (.ref l) (upd H l (.lst ys))
def rTupleOf (K : PySem.W.Frag) : List V → Hp → VK → Prop := fun xs H Q => ∃ p ys, xs = [.ref p] ∧ ((SqL K H p ys ∧ ∀ l, H l = none → Q (.ref l) (upd H l (.tup ys))) ∨ (SqT K H p ys ∧ Q (.ref p) H))
section
variable {X : Cx}
theorem op_isN' : OpR X (compareOp .Is) rIsN' := op_isN
theorem op_notN' : OpR X (compareOp .IsNot) rNotN' := op_notN
theorem call_len' : CallR X (.builtin "len") (rLen X.K) := call_len_seq
theorem call_lenS' : CallR X (.builtin "len") rLenS := call_len_str
theorem call_abs' : CallR X (.builtin "abs") rAbs := call_abs
theorem call_max2' (hc : X.calm = true) : CallR X (.builtin "max") rMax2 := call_max2 hc
theorem call_min2' (hc : X.calm = true) : CallR X (.builtin "min") rMin2 := call_min2 hc
theorem call_int1' : CallR X (.type "int") rInt1 := call_int1
theorem call_str' : CallR X (.type "str") rStrI := call_str_int
theorem call_list' : CallR X (.type "list") (rListOf X.K) := call_list_of
theorem call_tuple' : CallR X (.type "tuple") (rTupleOf X.K) := call_tuple_of
end
/-! ### readings, one rule a word -/
section
variable {σ : L2.St} {H : Hp} {Q : VK} {D : Ends} {ta tb tc te : TE} {t u : TT} {ts tu : TS} {tA tB' : TA} {i j : Nat} {x y v : V} {R : L2.St → Hp → Prop} {B : Bool → Hp → Prop} {L : List V → Hp → Prop}
theorem r_seq (h : ts { D with nx := tu D } σ H) : tSeq ts tu D σ H := h
theorem r_next (h : D.nx σ H) : tNext D σ H := h
theorem r_nx {n b c : L2.St → Hp → Prop} {r : VK} (h : n σ H) : Ends.nx ⟨n, r, b, c⟩ σ H := h
theorem r_rt {n b c : L2.St → Hp → Prop} {r : VK} (h : r v H) : Ends.rt ⟨n, r, b, c⟩ v H := h
theorem r_bk {n b c : L2.St → Hp → Prop} {r : VK} (h : b σ H) : Ends.bk ⟨n, r, b, c⟩ σ H := h
theorem r_ct {n b c : L2.St → Hp → Prop} {r : VK} (h : c σ H) : Ends.ct ⟨n, r, b, c⟩ σ H := h
theorem r_brk (h : D.bk σ H) : tBreak D σ H := h
theorem r_cont (h : D.ct σ H) : tCont D σ H := h
theorem r_ret (h : te σ H D.rt) : tRet te D σ H := h
theorem r_retN (h : D.rt .non H) : tRetN D σ H := h
theorem r_drop (h : te σ H fun _ H1 => D.nx σ H1) : tDrop te D σ H := h
theorem r_if (h : t σ H fun b H1 => if b = true then ts D σ H1 else tu D σ H1) : tIfS t ts tu D σ H := h
theorem r_asg {g : TG} (h : te σ H fun x H1 => g x σ H1 D.nx) : tAsg te g D σ H := h
theorem r_par (h : tA σ H fun vs H1 => ∃ v w, vs = [v, w] ∧ D.nx ((σ.set i (some v)).set j (some w)) H1) : tPar i j tA D σ H := h
theorem r_par3 {l : Nat} (h : tA σ H fun vs H1 => ∃ u v w, vs = [u, v, w] ∧ D.nx (((σ.set i (some u)).set j (some v)).set l (some w)) H1) : tPar3 i j l tA D σ H := h
theorem r_two {P : V → V → Prop} (h : P x y) : ∃ v w, [x, y] = [v, w] ∧ P v w := ⟨x, y, rfl, h⟩
theorem r_three {z : V} {P : V → V → V → Prop} (h : P x y z) : ∃ u v w, [x, y, z] = [u, v, w] ∧ P u v w := ⟨x, y, z, rfl, h⟩
theorem r_name (h : R (σ.set i (some v)) H) : gName i v σ H R := h
theorem r_sub {ti to : TE} {s : TSet} (h : to σ H fun o H1 => ti σ H1 fun i H2 => s o i v H2 fun H3 => R σ H3) : gSub to ti s v σ H R := h
theorem r_setL {p : Addr} {xs : List V} {k : Int} {n : Nat} {R : Hp → Prop} (h : H p = some (.lst xs)) (e : ixN xs.length k = some n) (q : R (upd H p (.lst (xs.set n v)))) : rSetL (.ref p) (.int k) v H R := ⟨p, xs, k, n, rfl, rfl, h, e, q⟩
theorem r_gtup {K : PySem.W.Frag} {n : Nat} {g : TGs} {a : Addr} {xs : List V} (h : SqT K H a xs) (e : xs.length = n) (q : g xs σ H R) : gTup K n g (.ref a) σ H R := ⟨a, xs, rfl, h, e, q⟩
theorem r_gunl {K : PySem.W.Frag} {n : Nat} {g : TGs} {a : Addr} {xs : List V} (h : SqL K H a xs) (e : xs.length = n) (q : g xs σ H R) : gUnl K n g (.ref a) σ H R := ⟨a, xs, rfl, h, e, q⟩
theorem r_gcons {g : TG} {gs : TGs} {xs : List V} (h : g x σ H fun σ' H' => gs xs σ' H' R) : gCons g gs (x :: xs) σ H R := ⟨x, xs, rfl, h⟩
theorem r_gnil (h : R σ H) : gNil [] σ H R := ⟨rfl, h⟩
theorem r_var (h : σ[i]? = some (some v)) (q : Q v H) : tVar i σ H Q := ⟨v, h, q⟩
theorem r_c (q : Q v H) : tC v σ H Q := q
theorem r_op {r : R2} (h : ta σ H fun x H1 => tb σ H1 fun y H2 => r x y H2 Q) : tOp r ta tb σ H Q := h
theorem r_un {r : V → Hp → VK → Prop} (h : ta σ H fun x H1 => r x H1 Q) : tUn r ta σ H Q := h
theorem r_test (h : te σ H fun x H' => ∃ k, x = .bl k ∧ B k H') : tTest te σ H B := h
theorem r_B (h : te σ H fun x H' => ∃ k, x = .bl k ∧ B k H') : tB te σ H B := h
theorem r_bl {k : Bool} {P : Bool → Prop} (h : P k) : ∃ k', V.bl k = .bl k' ∧ P k' := ⟨k, rfl, h⟩
theorem r_and (h : t σ H fun c H1 => if c = true then u σ H1 B else B false H1) : tAnd t u σ H B := h
theorem r_or (h : t σ H fun c H1 => if c = true then B true H1 else u σ H1 B) : tOr t u σ H B := h
theorem r_not (h : t σ H fun c H1 => B (!c) H1) : tNot t σ H B := h
theorem r_andV (h : ta σ H fun x H1 => ∃ c, x = .bl c ∧ if c = true then tb σ H1 Q else Q (.bl false) H1) : tAndV ta tb σ H Q := h
theorem r_orV (h : ta σ H fun x H1 => ∃ c, x = .bl c ∧ if c = true then Q (.bl true) H1 else tb σ H1 Q) : tOrV ta tb σ H Q := h
theorem r_notV (h : ta σ H fun x H1 => ∃ c, x = .bl c ∧ Q (.bl (!c)) H1) : tNotV ta σ H Q := h
theorem r_ifE (h : t σ H fun c H1 => if c = true then ta σ H1 Q else tb σ H1 Q) : tIf t ta tb σ H Q := h
theorem r_chain {r r' : R2} (h : ta σ H fun x H1 => tb σ H1 fun y H2 => r x y H2 fun z H3 => ∃ k, z = .bl k ∧ (if k = true then tc σ H3 fun w' H4 => r' y w' H4 Q else Q (.bl false) H3)) : tChain r r' ta tb tc σ H Q := h
theorem r_nil (h : L [] H) : tNil σ H L := h
theorem r_cons (h : ta σ H fun x H1 => tA σ H1 fun xs H2 => L (x :: xs) H2) : tCons ta tA σ H L := h
theorem r_CB {r : List V → Hp → VK → Prop} (h : tA σ H fun vs H1 => r vs H1 Q) : tCB r tA σ H Q := h
theorem r_call {sp : Sp} {dvs : List V} {E : XK} (h : tA σ H fun vs H1 => sp (vs ++ dvs) H1 Q E) : tCall sp dvs E tA σ H Q := h
theorem r_tup (h : tA σ H fun xs H1 => xs.length ≤ sizeLine ∧ ∀ p, H1 p = none → Q (.ref p) (upd H1 p (.tup xs))) : tTup tA σ H Q := h
theorem r_lst (h : tA σ H fun xs H1 => xs.length ≤ sizeLine ∧ ∀ p, H1 p = none → Q (.ref p) (upd H1 p (.lst xs))) : tLst tA σ H Q := h
theorem r_new {n : Nat} {P : Prop} (hn : n ≤ 1000) (h : P) : n ≤ sizeLine ∧ P := ⟨Nat.le_trans hn (by decide), h⟩
theorem r_BM {K : PySem.W.Frag} {T : String} {r : V → List V → Hp → VK → Prop} (h : te σ H fun x H1 => tyV K T x H1 ∧ tA σ H1 fun xs H2 => r x xs H2 Q) : tBM K T r te tA σ H Q := h
theorem r_BM0 {K : PySem.W.Frag} {T : String} {r : V → List V → Hp → VK → Prop} (h : te σ H fun x H1 => tyV K T x H1 ∧ r x [] H1 Q) : tBM0 K T r te σ H Q := h
theorem r_ty {K : PySem.W.Frag} {p : Addr} {xs : List V} {P : Prop} (h : H p = some (.lst xs)) (q : P) : tyV K "list" (.ref p) H ∧ P := ⟨.inl ⟨rfl, xs, .inl (.inl h)⟩, q⟩
theorem r_tyS {K : PySem.W.Frag} {z : Str} {P : Prop} (q : P) : tyV K "str" (.str z) H ∧ P := ⟨rfl, q⟩
theorem r_I0 {g : Int → Int → V} {a b : Int} (q : Q (g a b) H) : rI0 g (.int a) (.int b) H Q := ⟨a, b, rfl, rfl, q⟩
theorem r_I {C : Int → Int → Prop} {g : Int → Int → V} {a b : Int} (c : C a b) (q : Q (g a b) H) : rI C g (.int a) (.int b) H Q := ⟨a, b, rfl, rfl, c, q⟩
theorem r_U {g : Int → V} {a : Int} (q : Q (g a) H) : rU g (.int a) H Q := ⟨a, rfl, q⟩
theorem r_eqI {a b : Int} (q : Q (.bl (decide (a = b))) H) : rEq (.int a) (.int b) H Q := by
  refine ⟨rfl, ?_⟩
  rw [show decide (V.int a = V.int b) = decide (a = b) by simp]
  exact q
theorem r_neI {a b : Int} (q : Q (.bl (!decide (a = b))) H) : rNe (.int a) (.int b) H Q := by
  refine ⟨rfl, ?_⟩
  rw [show decide (V.int a = V.int b) = decide (a = b) by simp]
  exact q
theorem r_eqS {a b : Str} (q : Q (.bl (decide (a = b))) H) : rEq (.str a) (.str b) H Q := by
  refine ⟨rfl, ?_⟩
  rw [show decide (V.str a = V.str b) = decide (a = b) by simp]
  exact q
theorem r_neS {a b : Str} (q : Q (.bl (!decide (a = b))) H) : rNe (.str a) (.str b) H Q := by
  refine ⟨rfl, ?_⟩
  rw [show decide (V.str a = V.str b) = decide (a = b) by simp]
  exact q
theorem r_eqB {a b : Bool} (q : Q (.bl (decide (a = b))) H) : rEq (.bl a) (.bl b) H Q := by
  refine ⟨rfl, ?_⟩
  rw [show decide (V.bl a = V.bl b) = decide (a = b) by simp]
  exact q
theorem r_neB {a b : Bool} (q : Q (.bl (!decide (a = b))) H) : rNe (.bl a) (.bl b) H Q := by
  refine ⟨rfl, ?_⟩
  rw [show decide (V.bl a = V.bl b) = decide (a = b) by simp]
  exact q
theorem r_ixL {K : PySem.W.Frag} {p : Addr} {xs : List V} {a : Int} (h : SqL K H p xs) (e : atI xs a = some v) (q : Q v H) : rIxL K (.ref p) (.int a) H Q := ⟨p, xs, a, v, rfl, rfl, h, e, q⟩
theorem r_ixT {K : PySem.W.Frag} {p : Addr} {xs : List V} {a : Int} (h : SqT K H p xs) (e : atI xs a = some v) (q : Q v H) : rIxT K (.ref p) (.int a) H Q := ⟨p, xs, a, v, rfl, rfl, h, e, q⟩
theorem r_app {p : Addr} {xs : List V} (h : H p = some (.lst xs)) (z : xs.length < sizeLine) (q : Q .non (upd H p (.lst (xs ++ [v])))) : rAppend (.ref p) [v] H Q := ⟨p, xs, v, rfl, rfl, h, z, q⟩
theorem r_sl {r : V → Option Int → Option Int → Hp → VK → Prop} {tl th : TO} (h : te σ H fun x H1 => tl σ H1 fun l H2 => th σ H2 fun u H3 => r x l u H3 Q) : tSl r te tl th σ H Q := h
theorem r_nop {O : Option Int → Hp → Prop} (h : O none H) : tNoPart σ H O := h
theorem r_part {O : Option Int → Hp → Prop} (h : te σ H fun x H1 => ∃ i, x = .int i ∧ O (some i) H1) : tPart te σ H O := h
theorem r_int {a : Int} {P : Int → Prop} (h : P a) : ∃ i, V.int a = .int i ∧ P i := ⟨a, rfl, h⟩
theorem r_slL {K : PySem.W.Frag} {p : Addr} {xs : List V} {lo hi : Option Int} (h : SqL K H p xs) (q : ∀ n, H n = none → Q (.ref n) (upd H n (.lst (cutV xs lo hi)))) : rSlL K (.ref p) lo hi H Q := ⟨p, xs, rfl, h, q⟩
theorem r_cat {a b : Addr} {xs zs : List V} (h : H a = some (.lst xs)) (h' : H b = some (.lst zs)) (z : xs.length + zs.length ≤ sizeLine) (q : ∀ p, H p = none → Q (.ref p) (upd H p (.lst (xs ++ zs)))) : rCat (.ref a) (.ref b) H Q := ⟨a, b, xs, zs, rfl, rfl, h, h', z, q⟩
theorem r_revL {K : PySem.W.Frag} (h : te σ H fun x H1 => ∃ a xs, x = .ref a ∧ SqL K H1 a xs ∧ ∀ p, H1 p = none → Q (.ref p) (upd H1 p (.lst xs.reverse))) : tRevL K te σ H Q := h
theorem r_lstRg {tr : L2.St → Hp → (Int → Int → Hp → Prop) → Prop} (h : tr σ H fun a b H1 => RgOk a b ∧ ∀ q, H1 q = none → Q (.ref q) (upd H1 q (.lst (rgV a b)))) : tLstRg tr σ H Q := h
theorem r_rg1 {P : Int → Int → Hp → Prop} (h : te σ H fun x H1 => ∃ n, x = .int n ∧ P 0 n H1) : tRg1 te σ H P := h
theorem r_aug {ti : TIp} (h : σ[i]? = some (some x)) (q : te σ H fun y H1 => ti x y H1 fun z H2 => D.nx (σ.set i (some z)) H2) : tAug i te ti D σ H := ⟨x, h, q⟩
theorem r_ip {f : Int → Int → Int} {a b : Int} (q : Q (.int (f a b)) H) : ipI f (.int a) (.int b) H Q := ⟨a, b, rfl, rfl, q⟩
theorem r_isN0 (q : Q (.bl true) H) : rIsN' .non .non H Q := ⟨rfl, q⟩
theorem r_isNi {a : Int} (q : Q (.bl false) H) : rIsN' (.int a) .non H Q := ⟨rfl, q⟩
theorem r_isNr {a : Addr} (q : Q (.bl false) H) : rIsN' (.ref a) .non H Q := ⟨rfl, q⟩
theorem r_isNb {a : Bool} (q : Q (.bl false) H) : rIsN' (.bl a) .non H Q := ⟨rfl, q⟩
theorem r_isNs {a : Str} (q : Q (.bl false) H) : rIsN' (.str a) .non H Q := ⟨rfl, q⟩
theorem r_isN {a : V} (q : Q (.bl (decide (a = .non))) H) : rIsN' a .non H Q := ⟨rfl, q⟩
theorem r_notN0 (q : Q (.bl false) H) : rNotN' .non .non H Q := ⟨rfl, q⟩
theorem r_notNi {a : Int} (q : Q (.bl true) H) : rNotN' (.int a) .non H Q := ⟨rfl, q⟩
theorem r_notNr {a : Addr} (q : Q (.bl true) H) : rNotN' (.ref a) .non H Q := ⟨rfl, q⟩
theorem r_notN {a : V} (q : Q (.bl (!decide (a = .non))) H) : rNotN' a .non H Q := ⟨rfl, q⟩
theorem r_len {K : PySem.W.Frag} {p : Addr} {xs : List V} (h : SqL K H p xs ∨ SqT K H p xs) (q : Q (.int xs.length) H) : rLen K [.ref p] H Q := ⟨p, xs, rfl, h, q⟩
theorem r_lenS {z : Str} (h : z.length ≤ sizeLine) (q : Q (.int z.length) H) : rLenS [.str z] H Q := ⟨z, rfl, h, q⟩
theorem r_abs {a : Int} (q : Q (.int (if a < 0 then -a else a)) H) : rAbs [.int a] H Q := ⟨a, rfl, q⟩
theorem r_max2 {a b : Int} (q : Q (.int (if b > a then b else a)) H) : rMax2 [.int a, .int b] H Q := ⟨a, b, rfl, q⟩
theorem r_min2 {a b : Int} (q : Q (.int (if b < a then b else a)) H) : rMin2 [.int a, .int b] H Q := ⟨a, b, rfl, q⟩
theorem r_inti {a : Int} (q : Q (.int a) H) : rInt1 [.int a] H Q := .inl ⟨a, rfl, q⟩
theorem r_intb {b : Bool} (q : Q (.int (if b then 1 else 0)) H) : rInt1 [.bl b] H Q := .inr ⟨b, rfl, q⟩
theorem r_listOf {K : PySem.W.Frag} {p : Addr} {xs : List V} (h : SqL K H p xs ∨ SqT K H p xs) (q : ∀ l, H l = none → Q (.ref l) (upd H l (.lst xs))) : rListOf K [.ref p] H Q := ⟨p, xs, rfl, h, q⟩
theorem r_tupleL {K : PySem.W.Frag} {p : Addr} {xs : List V} (h : SqL K H p xs) (q : ∀ l, H l = none → Q (.ref l) (upd H l (.tup xs))) : rTupleOf K [.ref p] H Q := ⟨p, xs, rfl, .inl ⟨h, q⟩⟩
theorem r_tupleT {K : PySem.W.Frag} {p : Addr} {xs : List V} (h : SqT K H p xs) (q : Q (.ref p) H) : rTupleOf K [.ref p] H Q := ⟨p, xs, rfl, .inr ⟨h, q⟩⟩
/-- an if whose test is a decided proposition -/
theorem ifD {c A B : Prop} [Decidable c] (h1 : c → A) (h2 : ¬ c → B) : if decide c = true then A else B := by
  by_cases h : c
  · rw [decide_eq_true h]; exact iteT (h1 h)
  · rw [decide_eq_false h]; exact iteF (h2 h)
theorem ifN {c A B : Prop} [Decidable c] (h1 : ¬ c → A) (h2 : c → B) : if (!decide c) = true then A else B := by
  by_cases h : c
  · rw [decide_eq_true h]; exact iteF (h2 h)
  · rw [decide_eq_false h]; exact iteT (h1 h)
theorem ifB {b : Bool} {A B : Prop} (h1 : b = true → A) (h2 : b = false → B) : if b = true then A else B := by
  cases b with
  | true => exact iteT (h1 rfl)
  | false => exact iteF (h2 rfl)
theorem ifNB {b : Bool} {A B : Prop} (h1 : b = false → A) (h2 : b = true → B) : if (!b) = true then A else B := by
  cases b with
  | true => exact iteF (h2 rfl)
  | false => exact iteT (h1 rfl)
theorem ifDT {c A B : Prop} [Decidable c] (hc : c) (h : A) : if decide c = true then A else B := ifD (fun _ => h) fun n => (n hc).elim
theorem ifDF {c A B : Prop} [Decidable c] (hc : ¬ c) (h : B) : if decide c = true then A else B := ifD (fun n => (hc n).elim) fun _ => h
theorem ifNT {c A B : Prop} [Decidable c] (hc : ¬ c) (h : A) : if (!decide c) = true then A else B := ifN (fun _ => h) fun n => (hc n).elim
theorem ifNF {c A B : Prop} [Decidable c] (hc : c) (h : B) : if (!decide c) = true then A else B := ifN (fun n => (n hc).elim) fun _ => h
end
theorem sz {n : Nat} (h : n ≤ 100000) : n ≤ sizeLine := Nat.le_trans h (by decide)
theorem szl {n : Nat} (h : n ≤ 100000) : n < sizeLine := Nat.lt_of_le_of_lt h (by decide)
end Lx

namespace Lx
open PySem PySem.Spec PyProof.Rows L2
section
variable {prog : Program} {w : World} {A : Around} {E : Value → Shared → Prop} {s : Shared}
/-- the items of a tuple, gathered into a new list -/
theorem gather_tup {t : Addr} {o : Obj} {vs : List Value} {n : Nat} {Q : List Value → Shared → Prop} (ho : s.heap.get? t = some o) (hc : o.cls = .type "tuple") (hd : o.data = .seq vs.toArray n) (hz : vs.length ≤ sizeLine)
    (h : Q vs { s with heap := (s.heap.push (seqObj "list" #[] 0)).update s.heap.objs.size (Obj.mapSeq (· ++ vs.toArray)) }) : wpAny (model prog w) A (collect (.ref t)) Q E s := by
  have old : (s.heap.push (seqObj "list" #[] 0)).get? t = some o := Heap.get?_push_of_some _ ho
  have new : (s.heap.push (seqObj "list" #[] 0)).get? s.heap.objs.size = some (seqObj "list" #[] 0) := Heap.get?_push_size _ rfl
  have et : (Value.type "tuple" == Value.type "tuple") = true := by rfl
  unfold collect
  apply wpAny_bind
  apply wpAny_runValue
  apply codeAny_builtin entry_proto_collect'
  show wpAny _ _ (do again (.builtin "list.__iadd__" ⟨[← newList [], .ref t], []⟩)) _ _ s
  apply wpAny_bind
  refine wpAny_newList ?_
  refine wpAny_pure ⟨Code.quiet_builtin _ (by decide +kernel), codeAny_builtin entry_list_iadd' ?_⟩
  show wpAny _ _ (Builtin.List.listExtendWith (.ref s.heap.objs.size) (.ref t) (.ref s.heap.objs.size)) _ _ { s with heap := s.heap.push (seqObj "list" #[] 0) }
  unfold Builtin.List.listExtendWith
  refine wpAny_bind (wpAny_typeOf (T := "tuple") ⟨o, old, hc⟩ ?_)
  rw [if_pos (by rw [et]; simp)]
  apply wpAny_bind
  refine listItems_at old hd ?_
  apply wpAny_bind
  refine listItems_at (xs := #[]) (n := 0) new rfl ?_
  rw [if_neg (by simp)]
  apply wpAny_bind
  refine listUpdate_at (xs := #[]) (n := 0) new rfl ?_ (Nat.zero_le _) (by simp only [Array.size_append, List.size_toArray, List.length_nil]; show 0 + vs.length ≤ sizeLine + 1; omega)
  apply wpAny_pure
  show wpAny (model prog w) A (do
    let o' ← load s.heap.objs.size
    match o'.data with
    | .seq xs _ => pure xs.toList
    | _ => unsupported "internal:collect") Q E _
  refine wpAny_bind (wpAny_load (get?_update_seq new _) ?_)
  have e : ((#[] : Array Value) ++ vs.toArray).toList = vs := by simp
  show wpAny _ _ (pure ((#[] : Array Value) ++ vs.toArray).toList) Q E _
  rw [e]
  exact wpAny_pure h
/-- sorted of a tuple of ints -/
theorem sorted_tupI {t : Addr} {o : Obj} {vs : List Value} {ns : List Int} {n : Nat} {Q : Value → Shared → Prop} (ho : s.heap.get? t = some o) (hc : o.cls = .type "tuple") (hd : o.data = .seq vs.toArray n) (hz : vs.length ≤ sizeLine) (hi : IntsAre vs ns)
    (h : ∀ out : List Value, SrtO.Srtd SrtO.ltIv out → SrtO.Stb SrtO.ltIv out vs → Q (.ref (s.heap.objs.size + 1)) { s with heap := sortedAll s.heap vs out.toArray }) : wpAny (model prog w) A (call (.builtin "sorted") [.ref t]) Q E s := by
  have size1 : ((s.heap.push (seqObj "list" #[] 0)).update s.heap.objs.size (Obj.mapSeq (· ++ vs.toArray))).objs.size = s.heap.objs.size + 1 := by rw [Heap.size_update, size_push']
  have made : (((s.heap.push (seqObj "list" #[] 0)).update s.heap.objs.size (Obj.mapSeq (· ++ vs.toArray))).push (seqObj "list" vs.toArray 0)).get? (s.heap.objs.size + 1) = some (seqObj "list" vs.toArray 0) := by
    rw [← size1]
    exact Heap.get?_push_size _ rfl
  apply Calls.call_function_entry kind_sorted plain_sorted entry_sorted (args_sorted1 _)
  unfold Builtin.«sorted»
  refine wpAny_bind (m := checkCount "sorted" 1 1 _) (wpAny_pure ?_)
  apply wpAny_bind
  apply gather_tup ho hc hd hz
  apply wpAny_bind
  refine wpAny_newList ?_ hz
  show wpAny _ _ _ _ _ { s with heap := ((s.heap.push (seqObj "list" #[] 0)).update s.heap.objs.size (Obj.mapSeq (· ++ vs.toArray))).push (seqObj "list" vs.toArray 0) }
  rw [size1]
  apply wpAny_bind
  apply wpAny_holding
  refine wpAny_call_entry slot_list_sort ⟨_, made, rfl⟩ entry_list_sort (SrtO.list_sort_ord SrtO.swo_int made hz (fun h2 => SrtO.ints_sortable hi h2) ?_) (args_list_sort _)
  intro out h1 h2
  exact ⟨_, rfl, wpAny_pure ⟨_, rfl, h out h1 h2⟩⟩
end
/-- sorted(t), t a tuple of ints of any length -/
def rSortedU (K : PySem.W.Frag) : List V → Hp → VK → Prop := fun vs H Q => ∃ (a : Addr) (ns : List Int), vs = [V.ref a] ∧ SqT K H a (ns.map V.int) ∧ ∀ (ns' : List Int) (p : Addr), ns'.Perm ns → ns'.Pairwise (· ≤ ·) → H p = none → Q (.ref p) (upd H p (.lst (ns'.map V.int)))
theorem cr_sortedU {X : Cx} : CallR X (.builtin "sorted") (rSortedU X.K) := by
  intro pins s σ H vs us Q I r h
  obtain ⟨a, ns, rfl, hs, q⟩ := h
  obtain ⟨its, rv, ⟨o, ho, hc, n, hd⟩, hz⟩ := I.tuple hs
  have hi := rv.ints
  rw [Vals.ref1 r]
  refine sorted_tupI ho hc hd (by rw [← rv.length]; exact hz) hi ?_
  intro out h1 h2
  have k := SrtO.ints_out hi h1 h2
  obtain ⟨ep, he⟩ := sortedAll_at s.heap its out.toArray
  refine ⟨.ref _, upd H (s.heap.objs.size + 1) (.lst ((out.map SrtO.iv).map V.int)), ?_, rfl, q _ _ k.2.1 k.2.2 (I.hok.fresh (Nat.le_succ _))⟩
  refine I.laid (t' := s.toks) (fun _ _ => sortedAll_old) (Nat.le_succ _) ⟨?_, out, ep, vals_of_ints k.1, he⟩
  rw [List.length_map, k.2.1.length_eq]
  rw [List.length_map] at hz
  exact hz

/-! ### one of two -/
def iOr (w1 w2 : TI) : TI := fun σ H R => w1 σ H R ∨ w2 σ H R
theorem pi_or {X : Cx} {tg l : Expr} {w1 w2 : TI} (h1 : PI X tg l w1) (h2 : PI X tg l w2) : PI X tg l (iOr w1 w2) :=
  ⟨fun pins s σ H R I h => h.elim (h1.run pins s σ H R I) (h2.run pins s σ H R I)⟩
def cOr (r1 r2 : List V → Hp → VK → Prop) : List V → Hp → VK → Prop := fun xs H Q => r1 xs H Q ∨ r2 xs H Q
theorem call_or {X : Cx} {f : Value} {r1 r2 : List V → Hp → VK → Prop} (h1 : CallR X f r1) (h2 : CallR X f r2) : CallR X f (cOr r1 r2) :=
  fun pins s σ H vs us Q I r h => h.elim (h1 pins s σ H vs us Q I r) (h2 pins s σ H vs us Q I r)
def oOr (r1 r2 : R2) : R2 := fun x y H Q => r1 x y H Q ∨ r2 x y H Q
theorem op_or {X : Cx} {f : Value → Value → Sem Value} {r1 r2 : R2} (h1 : OpR X f r1) (h2 : OpR X f r2) : OpR X f (oOr r1 r2) :=
  fun pins s σ H x y v u Q I rx ry h => h.elim (h1 pins s σ H x y v u Q I rx ry) (h2 pins s σ H x y v u Q I rx ry)
theorem ix_or {X : Cx} {r1 r2 : R2} (h1 : IxR X r1) (h2 : IxR X r2) : IxR X (oOr r1 r2) := IxR.or h1 h2
end Lx

namespace Lx
open PySem PySem.Spec PyProof.Rows L2
/-- a list or a tuple that stands at a -/
def Sq (H : Hp) (a : Addr) (xs : List V) : Prop := H a = some (.lst xs) ∨ H a = some (.tup xs)
theorem _root_.L2.Same.sq {H H' : Hp} {a : Addr} {xs : List V} (s : Same H H') (h : Sq H a xs) : Sq H' a xs := h.elim (fun h => .inl (s _ _ h)) fun h => .inr (s _ _ h)
theorem Kp.sq {r : Addr} {H H' : Hp} {a : Addr} {xs : List V} (k : Kp r H H') (n : a ≠ r) (h : Sq H a xs) : Sq H' a xs := h.elim (fun h => .inl (k _ _ n h)) fun h => .inr (k _ _ n h)
theorem Sq.or {K : PySem.W.Frag} {H : Hp} {a : Addr} {xs : List V} (h : Sq H a xs) : SqL K H a xs ∨ SqT K H a xs := h.elim (fun h => .inl (lst_of h)) fun h => .inr (tup_of h)
/-! ### data of ints -/
def dI (ns : List Int) : List PyData := ns.map PyData.int
def vI (ns : List Int) : List V := ns.map V.int
theorem vI_len (ns : List Int) : (vI ns).length = ns.length := List.length_map ..
theorem dpAll_ints {K : PySem.W.Frag} {H : Hp} : ∀ ns : List Int, DpAll K H (vI ns) (dI ns)
  | [] => .nil
  | n :: ns => .cons (.int n) (dpAll_ints ns)
theorem dp_listI {K : PySem.W.Frag} {H : Hp} {a : Addr} {ns : List Int} (h : SqL K H a (vI ns)) : Dp K H (.ref a) (.list (dI ns)) := .lst h (dpAll_ints ns)
theorem dp_tupI {K : PySem.W.Frag} {H : Hp} {a : Addr} {ns : List Int} (h : SqT K H a (vI ns)) : Dp K H (.ref a) (.tuple (dI ns)) := .tup h (dpAll_ints ns)
theorem eqv_int (a b : Int) : PyData.eqv (.int a) (.int b) = decide (a = b) := by
  unfold PyData.eqv
  by_cases h : a = b
  · subst h; simp
  · simp [h]
theorem eqvAll_ints : ∀ xs ys : List Int, PyData.eqvAll (dI xs) (dI ys) = decide (xs = ys)
  | [], [] => by simp [dI, PyData.eqvAll]
  | [], _ :: _ => by simp [dI, PyData.eqvAll]
  | _ :: _, [] => by simp [dI, PyData.eqvAll]
  | x :: xs, y :: ys => by
    have ih := eqvAll_ints xs ys
    show (PyData.eqv (.int x) (.int y) && PyData.eqvAll (dI xs) (dI ys)) = _
    rw [ih, eqv_int]
    by_cases h : x = y <;> by_cases h2 : xs = ys <;> simp [h, h2]
theorem eqv_listI (xs ys : List Int) : PyData.eqv (.list (dI xs)) (.list (dI ys)) = decide (xs = ys) := by
  unfold PyData.eqv
  exact eqvAll_ints xs ys
theorem depthAll_ints : ∀ ns : List Int, PyData.depthAll (dI ns) = 0
  | [] => rfl
  | n :: ns => by show max 0 (PyData.depthAll (dI ns)) = 0; rw [depthAll_ints ns]; rfl
theorem canLay_ints : ∀ ns : List Int, PyData.canLayAll0 (dI ns) = true
  | [] => rfl
  | n :: ns => by
    have ih := canLay_ints ns
    simp only [dI, List.map_cons, PyData.canLayAll0, PyData.canLay0, Bool.true_and] at ih ⊢
    exact ih
theorem shaped_listI (ns : List Int) : SeqAt.shaped (.list (dI ns)) = true := by
  unfold SeqAt.shaped
  have h1 : PyData.canLay0 (.list (dI ns)) = true := by unfold PyData.canLay0; exact canLay_ints ns
  have h2 : PyData.depth (.list (dI ns)) ≤ 64 := by show PyData.depthAll (dI ns) + 1 ≤ 64; rw [depthAll_ints]; decide
  rw [h1, decide_eq_true h2]
  rfl
theorem dI_mem {ns : List Int} {d : PyData} (h : d ∈ dI ns) : ∃ n ∈ ns, d = .int n := by
  obtain ⟨n, hn, e⟩ := List.mem_map.mp h
  exact ⟨n, hn, e.symm⟩
theorem showableAll_of {ds : List PyData} (h : ∀ d ∈ ds, d.showable = true) : PyData.showableAll ds = true := by
  induction ds with
  | nil => rfl
  | cons d ds ih =>
    show (d.showable && PyData.showableAll ds) = true
    rw [h d List.mem_cons_self, ih fun x hx => h x (List.mem_cons_of_mem _ hx)]
    rfl
theorem hasDictAll_of {ds : List PyData} (h : ∀ d ∈ ds, d.hasDict = false) : PyData.hasDictAll ds = false := by
  induction ds with
  | nil => rfl
  | cons d ds ih =>
    show (d.hasDict || PyData.hasDictAll ds) = false
    rw [h d List.mem_cons_self, ih fun x hx => h x (List.mem_cons_of_mem _ hx)]
    rfl
theorem depthAll_le {ds : List PyData} {m : Nat} (h : ∀ d ∈ ds, d.depth ≤ m) : PyData.depthAll ds ≤ m := by
  induction ds with
  | nil => exact Nat.zero_le _
  | cons d ds ih =>
    show max d.depth (PyData.depthAll ds) ≤ m
    exact Nat.max_le.mpr ⟨h d List.mem_cons_self, ih fun x hx => h x (List.mem_cons_of_mem _ hx)⟩
/-- what repr asks of a datum: to show it takes at most m signs, depth at most k -/
structure Shows (d : PyData) (k m : Nat) : Prop where
  s : d.showable = true
  n : d.hasDict = false
  k : d.depth ≤ k
  z : d.shown.length ≤ m
theorem shows_int {i : Int} {k : Nat} (hk : 0 < k) (hk2 : k ≤ 250) (h0 : 0 ≤ i) (h : i < 10 ^ k) : Shows (.int i) 0 k := by
  refine ⟨?_, rfl, Nat.le_refl _, int_shown hk h0 h⟩
  show decide (i.natAbs.log2 < 1920) = true
  have h1 : i.natAbs < 10 ^ k := by
    have e : ((i.natAbs : Nat) : Int) < ((10 ^ k : Nat) : Int) := by
      rw [Int.natAbs_of_nonneg h0, Int.natCast_pow]
      exact h
    exact Int.ofNat_lt.mp e
  have h2 : (10 : Nat) ^ k ≤ 10 ^ 250 := Nat.pow_le_pow_right (by decide) hk2
  have h3 : i.natAbs < 2 ^ 1920 := Nat.lt_of_lt_of_le (Nat.lt_of_lt_of_le h1 h2) (by decide)
  exact decide_eq_true (PySem.Flt.log2_lt_of (by decide) h3)
theorem shows_none : Shows .none 0 4 := ⟨rfl, rfl, Nat.le_refl _, by decide⟩
theorem shows_list {ds : List PyData} {k m n : Nat} (h : ∀ d ∈ ds, Shows d k m) (hl : ds.length ≤ n) : Shows (.list ds) (k + 1) (n * (m + 2) + 2) := by
  refine ⟨showableAll_of fun d hd => (h d hd).s, hasDictAll_of fun d hd => (h d hd).n, Nat.succ_le_succ (depthAll_le fun d hd => (h d hd).k), ?_⟩
  exact Nat.le_trans (list_shown fun d hd => (h d hd).z) (Nat.add_le_add_right (Nat.mul_le_mul_right _ hl) _)
theorem shows_tup {ds : List PyData} {k m n : Nat} (h : ∀ d ∈ ds, Shows d k m) (hl : ds.length ≤ n) : Shows (.tuple ds) (k + 1) (n * (m + 2) + 3) := by
  refine ⟨showableAll_of fun d hd => (h d hd).s, hasDictAll_of fun d hd => (h d hd).n, Nat.succ_le_succ (depthAll_le fun d hd => (h d hd).k), ?_⟩
  exact Nat.le_trans (tuple_shown fun d hd => (h d hd).z) (Nat.add_le_add_right (Nat.mul_le_mul_right _ hl) _)
theorem r_repr {K : PySem.W.Frag} {H : Hp} {Q : VK} {x : V} {d : PyData} {k m : Nat} (h : Dp K H x d) (s : Shows d k m) (hk : k ≤ 32) (hm : m ≤ 1000000) (q : Q (.str d.shown) H) : rRepr K [x] H Q :=
  ⟨x, d, rfl, h, s.s, s.n, Nat.le_trans s.k hk, Nat.le_trans s.z (Nat.le_trans hm (by decide)), q⟩
theorem r_sortSq {K : PySem.W.Frag} {H : Hp} {Q : VK} {a : Addr} {ns : List Int} (h : Sq H a (vI ns)) (q : ∀ (ns' : List Int) (p : Addr), ns'.Perm ns → ns'.Pairwise (· ≤ ·) → H p = none → Q (.ref p) (upd H p (.lst (vI ns')))) :
    cOr (rSortedI K) (rSortedU K) [.ref a] H Q := h.elim (fun h => .inl ⟨a, ns, rfl, lst_of h, q⟩) fun h => .inr ⟨a, ns, rfl, tup_of h, q⟩
theorem r_neLI {K : PySem.W.Frag} {H : Hp} {Q : VK} {a b : Addr} {xs ys : List Int} (h : SqL K H a (vI xs)) (h' : SqL K H b (vI ys)) (q : Q (.bl (!decide (xs = ys))) H) : rNeD K (.ref a) (.ref b) H Q := by
  refine ⟨_, _, dp_listI h, dp_listI h', shaped_listI xs, shaped_listI ys, ?_⟩
  rw [eqv_listI]
  exact q
theorem r_eqLI {K : PySem.W.Frag} {H : Hp} {Q : VK} {a b : Addr} {xs ys : List Int} (h : SqL K H a (vI xs)) (h' : SqL K H b (vI ys)) (q : Q (.bl (decide (xs = ys))) H) : rEqD K (.ref a) (.ref b) H Q := by
  refine ⟨_, _, dp_listI h, dp_listI h', shaped_listI xs, shaped_listI ys, ?_⟩
  rw [eqv_listI]
  exact q
theorem r_rep {H : Hp} {Q : VK} {l : Addr} {xs : List V} {n : Nat} (h : H l = some (.lst xs)) (h1 : xs.length * n ≤ 100000) (h2 : n ≤ 100000) (q : ∀ p, H p = none → Q (.ref p) (upd H p (.lst (List.replicate n xs).flatten))) : rRep (.ref l) (.int ((n : Nat) : Int)) H Q := by
  refine ⟨l, _, xs, rfl, rfl, h, by omega, by omega, ?_, ?_⟩
  · rw [Int.toNat_natCast]; exact sz h1
  · rw [Int.toNat_natCast]; exact q
/-! ### in a list of ints -/
theorem inV_ints (p : Int) (ns : List Int) : inV (.int p) (vI ns) = decide (p ∈ ns) := by
  unfold inV vI
  rw [List.any_map]
  induction ns with
  | nil => simp
  | cons n ns ih =>
    rw [List.any_cons, ih]
    have e : ((fun y => eqV y (V.int p)) ∘ V.int) n = decide (n = p) := by
      show eqV (.int n) (.int p) = _
      by_cases h : n = p <;> simp [eqV, h]
    rw [e]
    by_cases h : n = p
    · subst h; simp
    · have h' : ¬ p = n := fun z => h z.symm
      simp [h, h']
theorem flat_ints (ns : List Int) : (vI ns).all flatV = true := by
  unfold vI
  rw [List.all_map]
  exact List.all_eq_true.mpr fun x _ => rfl
theorem ixN_ok {n : Nat} {i : Int} (h0 : 0 ≤ i) (h1 : i < n) : ixN n i = some i.toNat := by
  unfold ixN
  rw [if_pos h0, if_pos h1]
theorem atI_ok {α : Type} {xs : List α} {i : Int} {v : α} (h0 : 0 ≤ i) (h : xs[i.toNat]? = some v) : atI xs i = some v := by
  have e : i = ((i.toNat : Nat) : Int) := (Int.toNat_of_nonneg h0).symm
  rw [e]
  exact atI_nat h
theorem vI_at {ns : List Int} {j : Nat} (h : j < ns.length) : (vI ns)[j]? = some (.int ns[j]) := by
  unfold vI
  rw [List.getElem?_map, List.getElem?_eq_getElem h]
  rfl
theorem atI_ints {ns : List Int} {i : Int} (h0 : 0 ≤ i) (h1 : i < ns.length) : atI (vI ns) i = some (.int (ns.getD i.toNat 0)) := by
  have hj : i.toNat < ns.length := by omega
  refine atI_ok h0 ?_
  rw [vI_at hj, List.getD_eq_getElem?_getD, List.getElem?_eq_getElem hj]
  rfl
end Lx

namespace Lx
open PySem PySem.Spec PyProof.Rows L2
/-! ### isinstance -/
section
variable {K : PySem.W.Frag} {H : Hp} {Q : VK} {a tp : Addr} {xs : List V} {i : Int} {z : Str} {b : Bool}
theorem isi_of {x : V} {t T : String} {b : Bool} (ty : TyX K H x (.type t)) (e : kitB t T = some b) (q : Q (.bl b) H) : rIsi K [x, .ty T] H Q := ⟨x, .ty T, .type t, .type T, b, rfl, .ty T, ty, kit_ty e, q⟩
theorem k_ii : kitB "int" "int" = some true := by decide +kernel
theorem k_ib : kitB "int" "bool" = some false := by decide +kernel
theorem k_is : kitB "int" "str" = some false := by decide +kernel
theorem k_il : kitB "int" "list" = some false := by decide +kernel
theorem k_it : kitB "int" "tuple" = some false := by decide +kernel
theorem k_bi : kitB "bool" "int" = some true := by decide +kernel
theorem k_bb : kitB "bool" "bool" = some true := by decide +kernel
theorem k_bs : kitB "bool" "str" = some false := by decide +kernel
theorem k_bl : kitB "bool" "list" = some false := by decide +kernel
theorem k_bt : kitB "bool" "tuple" = some false := by decide +kernel
theorem k_si : kitB "str" "int" = some false := by decide +kernel
theorem k_sb : kitB "str" "bool" = some false := by decide +kernel
theorem k_ss : kitB "str" "str" = some true := by decide +kernel
theorem k_sl : kitB "str" "list" = some false := by decide +kernel
theorem k_st : kitB "str" "tuple" = some false := by decide +kernel
theorem k_ni : kitB "NoneType" "int" = some false := by decide +kernel
theorem k_nb : kitB "NoneType" "bool" = some false := by decide +kernel
theorem k_ns : kitB "NoneType" "str" = some false := by decide +kernel
theorem k_nl : kitB "NoneType" "list" = some false := by decide +kernel
theorem k_nt : kitB "NoneType" "tuple" = some false := by decide +kernel
theorem k_li : kitB "list" "int" = some false := by decide +kernel
theorem k_lb : kitB "list" "bool" = some false := by decide +kernel
theorem k_ls : kitB "list" "str" = some false := by decide +kernel
theorem k_ll : kitB "list" "list" = some true := by decide +kernel
theorem k_lt : kitB "list" "tuple" = some false := by decide +kernel
theorem k_ti : kitB "tuple" "int" = some false := by decide +kernel
theorem k_tb : kitB "tuple" "bool" = some false := by decide +kernel
theorem k_ts : kitB "tuple" "str" = some false := by decide +kernel
theorem k_tl : kitB "tuple" "list" = some false := by decide +kernel
theorem k_tt : kitB "tuple" "tuple" = some true := by decide +kernel
theorem ty_int : TyX K H (.int i) (.type "int") := .base (.int i)
theorem ty_bl : TyX K H (.bl b) (.type "bool") := .base (.bl b)
theorem ty_str : TyX K H (.str z) (.type "str") := .base (.str z)
theorem ty_non : TyX K H .non (.type "NoneType") := .base .non
theorem ty_lst (h : H a = some (.lst xs)) : TyX K H (.ref a) (.type "list") := .base (.lst h)
theorem ty_tup (h : H a = some (.tup xs)) : TyX K H (.ref a) (.type "tuple") := .base (.tup h)
/-- isinstance(x, (list, tuple)), the pair just laid -/
theorem isiLT {x : V} {t : String} {b1 b2 : Bool} (hT : H tp = some (.tup [.ty "list", .ty "tuple"])) (ty : TyX K H x (.type t)) (e1 : kitB t "list" = some b1) (e2 : kitB t "tuple" = some b2) (q : Q (.bl (b1 || b2)) H) : rIsiT K [x, .ref tp] H Q := by
  refine ⟨x, tp, _, .type t, [.type "list", .type "tuple"], b1 || b2, rfl, hT, .cons (.ty _) (.cons (.ty _) .nil), ty, kitAny_cons (kit_ty e1) (fun h1 => ?_) (fun h1 => by rw [h1]; rfl), q⟩
  refine kitAny_cons (kit_ty e2) (fun h2 => ?_) (fun h2 => by rw [h1, h2]; rfl)
  rw [h1, h2]
  exact kitAny_nil
theorem isiLT_l {x : V} {t : String} (hT : H tp = some (.tup [.ty "list", .ty "tuple"])) (ty : TyX K H x (.type t)) (e1 : kitB t "list" = some true) (e2 : kitB t "tuple" = some false) (q : Q (.bl true) H) : rIsiT K [x, .ref tp] H Q := isiLT hT ty e1 e2 q
theorem isiLT_t {x : V} {t : String} (hT : H tp = some (.tup [.ty "list", .ty "tuple"])) (ty : TyX K H x (.type t)) (e1 : kitB t "list" = some false) (e2 : kitB t "tuple" = some true) (q : Q (.bl true) H) : rIsiT K [x, .ref tp] H Q := isiLT hT ty e1 e2 q
theorem isiLT_o {x : V} {t : String} (hT : H tp = some (.tup [.ty "list", .ty "tuple"])) (ty : TyX K H x (.type t)) (e1 : kitB t "list" = some false) (e2 : kitB t "tuple" = some false) (q : Q (.bl false) H) : rIsiT K [x, .ref tp] H Q := isiLT hT ty e1 e2 q
end
theorem ifnT {A B : Prop} (h : B) : if (!true) = true then A else B := iteF h
theorem ifnF {A B : Prop} (h : A) : if (!false) = true then A else B := iteT h
end Lx

namespace Lx
open PySem PySem.Spec PyProof.Rows L2
/-- what an iterator gives: n turns while OK holds; item says what a turn yields -/
structure Src (J : It) (n : Nat) (OK : Hp → Prop) (item : Nat → V → Hp → Hp → Prop) : Prop where
  go : ∀ i H, OK H → i < n → J.go i H
  stop : ∀ H, OK H → J.stop n H
  yld : ∀ i H v H', OK H → i < n → J.yld i H v H' → item i v H H'
section
variable {K : PySem.W.Frag} {a b : Addr} {xs ys : List V}
theorem src_list : Src (Itl K a) xs.length (fun H => SqL K H a xs) (fun i v H H' => H' = H ∧ xs[i]? = some v) where
  go := fun i H h hi => ⟨xs, xs[i], h, by simp [hi]⟩
  stop := fun H h => ⟨xs, h, Nat.le_refl _⟩
  yld := fun i H v H' h _ y => ⟨y.1, y.2 xs h⟩
theorem src_tup : Src (Itt K a) xs.length (fun H => SqT K H a xs) (fun i v H H' => H' = H ∧ xs[i]? = some v) where
  go := fun i H h hi => ⟨xs, xs[i], h, by simp [hi]⟩
  stop := fun H h => ⟨xs, h, Nat.le_refl _⟩
  yld := fun i H v H' h _ y => ⟨y.1, y.2 xs h⟩
theorem src_range {lo : Int} {n : Nat} : Src (Itr lo n) n (fun _ => True) (fun i v H H' => H' = H ∧ v = .int (lo + i)) where
  go := fun i H _ hi => hi
  stop := fun H _ => Nat.le_refl n
  yld := fun i H v H' _ _ y => y
theorem src_step {lo c : Int} {n : Nat} : Src (Itc lo c n) n (fun _ => True) (fun i v H H' => H' = H ∧ v = .int (lo + (i : Nat) * c)) where
  go := fun i H _ hi => hi
  stop := fun H _ => Nat.le_refl n
  yld := fun i H v H' _ _ y => y
theorem src_enum : Src (Ite K a) xs.length (fun H => SqL K H a xs) (fun i v H H' => ∃ T x, v = .ref T ∧ H T = none ∧ H' = upd H T (.tup [.int (i : Nat), x]) ∧ xs[i]? = some x) where
  go := fun i H h hi => ⟨xs, xs[i], h, by simp [hi]⟩
  stop := fun H h => ⟨xs, h, Nat.le_refl _⟩
  yld := fun i H v H' h _ y => by
    obtain ⟨T, x, e, n, u, f⟩ := y
    exact ⟨T, x, e, n, u, f xs h⟩
theorem src_zip (hl : xs.length = ys.length) : Src (Itz K a b) xs.length (fun H => SqL K H a xs ∧ SqL K H b ys) (fun i v H H' => ∃ T x y, v = .ref T ∧ H T = none ∧ H' = upd H T (.tup [x, y]) ∧ xs[i]? = some x ∧ ys[i]? = some y) where
  go := fun i H h hi => ⟨xs, ys, xs[i], ys[i]'(by omega), h.1, h.2, by simp [hi], List.getElem?_eq_getElem (by omega)⟩
  stop := fun H h => ⟨xs, ys, h.1, h.2, .inl (Nat.le_refl _)⟩
  yld := fun i H v H' h _ y => by
    obtain ⟨T, x, z, e, n, u, f, g⟩ := y
    exact ⟨T, x, z, e, n, u, f xs h.1, g ys h.2⟩
theorem src_rev : Src (Itv K a xs.length) xs.length (fun H => SqL K H a xs) (fun i v H H' => H' = H ∧ xs[xs.length - 1 - i]? = some v) where
  go := fun i H h hi => ⟨hi, xs, xs[xs.length - 1 - i]'(by omega), h, List.getElem?_eq_getElem (by omega)⟩
  stop := fun H h => Nat.le_refl xs.length
  yld := fun i H v H' h _ y => ⟨y.1, y.2 xs h⟩
theorem src_str {x : Str} : Src (Its x) x.cps.size (fun _ => True) (fun i v H H' => H' = H ∧ ∃ c, x.cps[i]? = some c ∧ v = .str ⟨#[c]⟩) where
  go := fun i H _ hi => hi
  stop := fun H _ => Nat.le_refl x.cps.size
  yld := fun i H v H' _ _ y => y
end
section
variable {J : It} {n : Nat} {OK : Hp → Prop} {item : Nat → V → Hp → Hp → Prop} {g : TG} {tb : TS} {D : Ends} {σ : L2.St} {H : Hp}
/-- for, by a word over the turn, the slots, the heap -/
theorem for_src (S : Src J n OK item) (Pv : Nat → L2.St → Hp → Prop) (ok : ∀ i σ H, Pv i σ H → OK H) (h0 : Pv 0 σ H)
    (hs : ∀ i v σ H H', i < n → Pv i σ H → item i v H H' → g v σ H' fun σ2 H2 => tb { D with nx := Pv (i + 1), ct := Pv (i + 1), bk := D.nx } σ2 H2) (hd : ∀ σ H, Pv n σ H → D.nx σ H) :
    ∃ W : Nat → Nat → L2.St → Hp → Prop, (∃ m, W 0 m σ H) ∧ ∀ i m σ H, W i m σ H →
      (J.stop i H ∧ D.nx σ H) ∨ (J.go i H ∧ ∃ N : L2.St → Hp → Prop, (∀ σ' H', N σ' H' → ∃ m', m' < m ∧ W (i + 1) m' σ' H') ∧ ∀ x H', J.yld i H x H' → g x σ H' fun σ2 H2 => tb { D with nx := N, ct := N, bk := D.nx } σ2 H2) := by
  refine ⟨fun i m σ H => i + m = n ∧ Pv i σ H, ⟨n, Nat.zero_add n, h0⟩, ?_⟩
  rintro i m σ H ⟨e, p⟩
  have o := ok i σ H p
  by_cases hi : i < n
  · refine .inr ⟨S.go i H o hi, Pv (i + 1), ?_, ?_⟩
    · intro σ' H' p'
      exact ⟨m - 1, by omega, by omega, p'⟩
    · intro x H' y
      exact hs i x σ H H' hi p (S.yld i H x H' o hi y)
  · have ei : i = n := by omega
    subst ei
    exact .inl ⟨S.stop H o, hd σ H p⟩
variable {tt : TT} {te : TE} {vs : List Nat} {H1 : Hp} {Dl : Addr} {Qd : Hp → Prop}
/-- a comprehension, by a word over the turn and the heap -/
theorem lc_src (S : Src J n OK item) (Pv : Nat → Hp → Prop) (ok : ∀ i H, Pv i H → OK H) (h0 : Pv 0 (upd H1 Dl (.lst [])))
    (hs : ∀ i v H H', i < n → Pv i H → item i v H H' → g v (wipe σ vs) H' fun σ2 H2 => wipe σ2 vs = wipe σ vs ∧ tt σ2 H2 fun b H3 =>
      if b = true then te σ2 H3 fun y H4 => ∃ acc, H4 Dl = some (.lst acc) ∧ acc.length < sizeLine ∧ Pv (i + 1) (upd H4 Dl (.lst (acc ++ [y]))) else Pv (i + 1) H3) (hd : ∀ H, Pv n H → Qd H) :
    ∃ W : Nat → Nat → Hp → Prop, (∃ m, W 0 m (upd H1 Dl (.lst []))) ∧ ∀ i m H, W i m H →
      (J.stop i H ∧ Qd H) ∨ (J.go i H ∧ ∃ Nx : Hp → Prop, (∀ H', Nx H' → ∃ m', m' < m ∧ W (i + 1) m' H') ∧ ∀ x H', J.yld i H x H' → g x (wipe σ vs) H' fun σ2 H2 => wipe σ2 vs = wipe σ vs ∧ tt σ2 H2 fun b H3 =>
        if b = true then te σ2 H3 fun y H4 => ∃ acc, H4 Dl = some (.lst acc) ∧ acc.length < sizeLine ∧ Nx (upd H4 Dl (.lst (acc ++ [y]))) else Nx H3) := by
  refine ⟨fun i m H => i + m = n ∧ Pv i H, ⟨n, Nat.zero_add n, h0⟩, ?_⟩
  rintro i m H ⟨e, p⟩
  have o := ok i H p
  by_cases hi : i < n
  · refine .inr ⟨S.go i H o hi, Pv (i + 1), ?_, ?_⟩
    · intro H' p'
      exact ⟨m - 1, by omega, by omega, p'⟩
    · intro x H' y
      exact hs i x H H' hi p (S.yld i H x H' o hi y)
  · have ei : i = n := by omega
    subst ei
    exact .inl ⟨S.stop H o, hd H p⟩
/-- what the turns give: those of f, each v -/
def giv (n : Nat) (f : Nat → Bool) (v : Nat → V) : List V := ((List.range n).filter f).map v
theorem giv_yes {n : Nat} {f : Nat → Bool} {v : Nat → V} (h : f n = true) : giv (n + 1) f v = giv n f v ++ [v n] := by
  unfold giv
  rw [List.range_succ, List.filter_append, List.map_append]
  simp [h]
theorem giv_no {n : Nat} {f : Nat → Bool} {v : Nat → V} (h : f n = false) : giv (n + 1) f v = giv n f v := by
  unfold giv
  rw [List.range_succ, List.filter_append, List.map_append]
  simp [h]
theorem giv_len (n : Nat) (f : Nat → Bool) (v : Nat → V) : (giv n f v).length ≤ n := by
  unfold giv
  rw [List.length_map]
  exact Nat.le_trans (List.length_filter_le f (List.range n)) (by simp)
theorem giv_all (n : Nat) (v : Nat → V) : giv n (fun _ => true) v = (List.range n).map v := by
  unfold giv
  rw [List.filter_eq_self.mpr fun _ _ => rfl]
theorem giv_const (n : Nat) (x : V) : giv n (fun _ => true) (fun _ => x) = List.replicate n x := by
  rw [giv_all, List.map_const', List.length_range]
/-- a comprehension whose turns leave what stood as it was -/
theorem lc_pure (S : Src J n OK item) (p : Nat → Bool) (v : Nat → V) (hn : n ≤ 100000) (hok : ∀ H', Same H1 H' → OK H')
    (hs : ∀ i x H' H'' (Yes : V → Hp → Prop) (No : Hp → Prop), i < n → Same H1 H' → item i x H' H'' → (p i = true → ∀ H4, Same H' H4 → Yes (v i) H4) → (p i = false → ∀ H3, Same H' H3 → No H3) →
      g x (wipe σ vs) H'' fun σ2 H2 => wipe σ2 vs = wipe σ vs ∧ tt σ2 H2 fun b H3 => if b = true then te σ2 H3 Yes else No H3)
    (hD : H1 Dl = none) (q : ∀ H', Same H1 H' → H' Dl = some (.lst (giv n p v)) → Qd H') :
    ∃ W : Nat → Nat → Hp → Prop, (∃ m, W 0 m (upd H1 Dl (.lst []))) ∧ ∀ i m H, W i m H →
      (J.stop i H ∧ Qd H) ∨ (J.go i H ∧ ∃ Nx : Hp → Prop, (∀ H', Nx H' → ∃ m', m' < m ∧ W (i + 1) m' H') ∧ ∀ x H', J.yld i H x H' → g x (wipe σ vs) H' fun σ2 H2 => wipe σ2 vs = wipe σ vs ∧ tt σ2 H2 fun b H3 =>
        if b = true then te σ2 H3 fun y H4 => ∃ acc, H4 Dl = some (.lst acc) ∧ acc.length < sizeLine ∧ Nx (upd H4 Dl (.lst (acc ++ [y]))) else Nx H3) := by
  refine lc_src S (fun i H' => Same H1 H' ∧ H' Dl = some (.lst (giv i p v))) (fun i H' h => hok H' h.1) ⟨same_new hD, upd_same⟩ ?_ (fun H' h => q H' h.1 h.2)
  rintro i x H' H'' hi ⟨s, hl⟩ hit
  refine hs i x H' H'' _ _ hi s hit ?_ ?_
  · intro hp H4 s4
    refine ⟨giv i p v, s4 _ _ hl, ?_, same_set (s.trans s4) hD, ?_⟩
    · exact Nat.lt_of_le_of_lt (Nat.le_trans (giv_len i p v) (Nat.le_of_lt (Nat.lt_of_lt_of_le hi hn))) (by decide)
    · rw [giv_yes hp]; exact upd_same
  · intro hp H3 s3
    refine ⟨s.trans s3, ?_⟩
    rw [giv_no hp]
    exact s3 _ _ hl
end
/-! ### the shapes of loops' readings -/
section
variable {σ : L2.St} {H : Hp} {D : Ends} {K : PySem.W.Frag} {R : It → Hp → Prop} {tl : TE} {ta : TA}
theorem r_for {wi : TI} {g : TG} {tb : TS} (h : wi σ H fun J H1 => ∃ W : Nat → Nat → L2.St → Hp → Prop, (∃ m, W 0 m σ H1) ∧ ∀ i m σ H, W i m σ H →
  (J.stop i H ∧ D.nx σ H) ∨ (J.go i H ∧ ∃ N : L2.St → Hp → Prop, (∀ σ' H', N σ' H' → ∃ m', m' < m ∧ W (i + 1) m' σ' H') ∧ ∀ x H', J.yld i H x H' → g x σ H' fun σ2 H2 => tb { D with nx := N, ct := N, bk := D.nx } σ2 H2)) : tFor wi g tb D σ H := h
theorem r_lc {wi : TI} {g : TG} {tt : TT} {te : TE} {vs : List Nat} {Q : VK} (h : wi σ H fun J H1 => ∀ D, H1 D = none → ∃ W : Nat → Nat → Hp → Prop, (∃ m, W 0 m (upd H1 D (.lst []))) ∧ ∀ i m H, W i m H →
  (J.stop i H ∧ Q (.ref D) H) ∨ (J.go i H ∧ ∃ Nx : Hp → Prop, (∀ H', Nx H' → ∃ m', m' < m ∧ W (i + 1) m' H') ∧ ∀ x H', J.yld i H x H' → g x (wipe σ vs) H' fun σ2 H2 => wipe σ2 vs = wipe σ vs ∧ tt σ2 H2 fun b H3 =>
    if b = true then te σ2 H3 fun y H4 => ∃ acc, H4 D = some (.lst acc) ∧ acc.length < sizeLine ∧ Nx (upd H4 D (.lst (acc ++ [y]))) else Nx H3)) : tLc wi g tt te vs σ H Q := h
theorem r_yes {B : Bool → Hp → Prop} (h : B true H) : tYes σ H B := h
theorem r_iList (h : tl σ H fun x H1 => ∃ a, x = .ref a ∧ (∃ xs, SqL K H1 a xs) ∧ R (Itl K a) H1) : iList K tl σ H R := h
theorem r_iTup (h : tl σ H fun x H1 => ∃ a, x = .ref a ∧ (∃ xs, SqT K H1 a xs) ∧ R (Itt K a) H1) : iTup K tl σ H R := h
theorem r_iRng1 (h : ta σ H fun vs H1 => ∃ j : Int, vs = [.int j] ∧ -(2 ^ 62) ≤ j ∧ j < 2 ^ 62 ∧ R (Itr 0 j.toNat) H1) : iRng1 ta σ H R := h
theorem r_iRng2 (h : ta σ H fun vs H1 => ∃ i j : Int, vs = [.int i, .int j] ∧ (-(2 ^ 62) ≤ i ∧ i < 2 ^ 62 ∧ -(2 ^ 62) ≤ j ∧ j < 2 ^ 62) ∧ R (Itr i (j - i).toNat) H1) : iRng2 ta σ H R := h
theorem r_iRng3 (h : ta σ H fun vs H1 => ∃ (i j c : Int) (n : Nat), vs = [.int i, .int j, .int c] ∧ RgC i j c n ∧ R (Itc i c n) H1) : iRng3 ta σ H R := h
theorem r_iEnum (h : ta σ H fun vs H1 => ∃ a xs, vs = [.ref a] ∧ SqL K H1 a xs ∧ R (Ite K a) H1) : iEnum K ta σ H R := h
theorem r_iZip (h : ta σ H fun vs H1 => ∃ a b xs ys, vs = [.ref a, .ref b] ∧ SqL K H1 a xs ∧ SqL K H1 b ys ∧ R (Itz K a b) H1) : iZip K ta σ H R := h
theorem r_iStr (h : tl σ H fun v H1 => ∃ x, v = .str x ∧ R (Its x) H1) : iStr tl σ H R := h
theorem i_list {a : Addr} {xs : List V} {P : It → Prop} (h : SqL K H a xs) (q : P (Itl K a)) : ∃ a', V.ref a = .ref a' ∧ (∃ xs, SqL K H a' xs) ∧ P (Itl K a') := ⟨a, rfl, ⟨xs, h⟩, q⟩
theorem i_tup {a : Addr} {xs : List V} {P : It → Prop} (h : SqT K H a xs) (q : P (Itt K a)) : ∃ a', V.ref a = .ref a' ∧ (∃ xs, SqT K H a' xs) ∧ P (Itt K a') := ⟨a, rfl, ⟨xs, h⟩, q⟩
theorem i_rng1 {j : Int} {P : It → Prop} (h0 : -(2 ^ 62) ≤ j) (h1 : j < 2 ^ 62) (q : P (Itr 0 j.toNat)) : ∃ j' : Int, [V.int j] = [.int j'] ∧ -(2 ^ 62) ≤ j' ∧ j' < 2 ^ 62 ∧ P (Itr 0 j'.toNat) := ⟨j, rfl, h0, h1, q⟩
theorem r_wN {tb : TS} {I : Nat → L2.St → Hp → Prop} {m : Nat} (h : tb { D with nx := fun σ' H' => ∃ m', m' < m ∧ I m' σ' H', ct := fun σ' H' => ∃ m', m' < m ∧ I m' σ' H', bk := D.nx } σ H) :
    ∃ N : L2.St → Hp → Prop, (∀ σ' H', N σ' H' → ∃ m', m' < m ∧ I m' σ' H') ∧ tb { D with nx := N, ct := N, bk := D.nx } σ H := ⟨_, fun _ _ h => h, h⟩
end
end Lx

/-! the layer's rules with the written part named (within a comprehension's block a reading must not hang on the block) -/
namespace Lx
open PySem PySem.Spec PyProof.Rows L2
section
variable (K : PySem.W.Frag) {X : Cx}
theorem k_len (h : X.K = K := by rfl) : CallR X (.builtin "len") (rLen K) := h ▸ call_len'
theorem k_list (h : X.K = K := by rfl) : CallR X (.type "list") (rListOf K) := h ▸ call_list'
theorem k_tuple (h : X.K = K := by rfl) : CallR X (.type "tuple") (rTupleOf K) := h ▸ call_tuple'
theorem k_isi (h : X.K = K := by rfl) : CallR X (.builtin "isinstance") (rIsi K) := h ▸ call_isi
theorem k_isiT (h : X.K = K := by rfl) : CallR X (.builtin "isinstance") (rIsiT K) := h ▸ call_isiT
theorem k_all (h : X.K = K := by rfl) (hc : X.calm = true := by rfl) : CallR X (.builtin "all") (rAll K) := h ▸ cr_all hc
theorem k_any (h : X.K = K := by rfl) (hc : X.calm = true := by rfl) : CallR X (.builtin "any") (rAny K) := h ▸ cr_any hc
theorem k_sum (h : X.K = K := by rfl) (hc : X.calm = true := by rfl) : CallR X (.builtin "sum") (rSum K) := h ▸ cr_sum hc
theorem k_min (h : X.K = K := by rfl) (hc : X.calm = true := by rfl) : CallR X (.builtin "min") (rMin K) := h ▸ cr_min hc
theorem k_max (h : X.K = K := by rfl) (hc : X.calm = true := by rfl) : CallR X (.builtin "max") (rMax K) := h ▸ cr_max hc
theorem k_sorted (h : X.K = K := by rfl) : CallR X (.builtin "sorted") (rSortedI K) := h ▸ cr_sortedI
theorem k_sortedU (h : X.K = K := by rfl) : CallR X (.builtin "sorted") (rSortedU K) := h ▸ cr_sortedU
theorem k_repr (hG : X.A.guards = some []) (hu : X.A.units + 64 < cLine) (h : X.K = K := by rfl) : CallR X (.builtin "repr") (rRepr K) := h ▸ call_reprD hG hu
theorem k_ixL (h : X.K = K := by rfl) : IxR X (rIxL K) := h ▸ ix_list
theorem k_ixT (h : X.K = K := by rfl) : IxR X (rIxT K) := h ▸ ix_tup
theorem k_slL (h : X.K = K := by rfl) : SlR X (rSlL K) := h ▸ sl_list
theorem k_slT (h : X.K = K := by rfl) : SlR X (rSlA K) := h ▸ sl_tupA
theorem k_in (h : X.K = K := by rfl) : OpR X (compareOp .In) (rIn K false) := h ▸ op_in_seq
theorem k_notIn (h : X.K = K := by rfl) : OpR X (compareOp .NotIn) (rIn K true) := h ▸ op_notIn_seq
theorem k_eqD (hu : X.A.units + 64 < cLine) (h : X.K = K := by rfl) : OpR X (compareOp .Eq) (rEqD K) := h ▸ op_eqD hu
theorem k_neD (hu : X.A.units + 64 < cLine) (h : X.K = K := by rfl) : OpR X (compareOp .NotEq) (rNeD K) := h ▸ op_neD hu
theorem k_catT (h : X.K = K := by rfl) : OpR X (binaryOp .Add) (rCatT K) := h ▸ op_catT
theorem k_piL {tg l : Expr} {tl : TE} (hl : PE X l tl) (h : X.K = K := by rfl) : PI X tg l (iList K tl) := h ▸ pi_list hl
theorem k_piT {tg l : Expr} {tl : TE} (hl : PE X l tl) (h : X.K = K := by rfl) : PI X tg l (iTup K tl) := h ▸ pi_tup hl
theorem k_enum {e : Expr} {ta : TA} {p pos tpos : Pos} {elts : List Expr} {kk : Nat} (hg : Gl X "enumerate") (hm : X.mg "enumerate" = none) (ha : PA X [e] ta) (hs : starEach [e] X.env = [(false, eval e X.env)] := by rfl) (h : X.K = K := by rfl) :
    PI X (.Tuple elts kk tpos) (.Call (.Name "enumerate" p) [e] [] pos) (iEnum K ta) := h ▸ pi_enum hg hm ha hs
theorem k_zip {e e2 : Expr} {ta : TA} {p pos tpos : Pos} {elts : List Expr} {kk : Nat} (hg : Gl X "zip") (hm : X.mg "zip" = none) (ha : PA X [e, e2] ta)
    (hs : starEach [e, e2] X.env = (false, eval e X.env) :: starEach [e2] X.env := by rfl) (hpl : (backTo pos (starEach [e2] X.env)).any (·.1) = false := by rfl) (h : X.K = K := by rfl) :
    PI X (.Tuple elts kk tpos) (.Call (.Name "zip" p) [e, e2] [] pos) (iZip K ta) := h ▸ pi_zip hg hm ha hs hpl
theorem k_gtup {es : List Expr} {k : Nat} {t : TGs} {n : Nat} {pos : Pos} (hc : X.calm = true) (ht : PGs X es t) (hn : (assignEach es X.env).length = n := by rfl) (hst : (assignEach es X.env).findIdx? (·.1) = none := by rfl) (h : X.K = K := by rfl) :
    PG X (.Tuple es k pos) (gTup K n t) := h ▸ pg_tup hc ht hn hst
theorem k_gunl {es : List Expr} {k : Nat} {t : TGs} {n : Nat} {pos : Pos} (hc : X.calm = true) (ht : PGs X es t) (hn : (assignEach es X.env).length = n := by rfl) (hst : (assignEach es X.env).findIdx? (·.1) = none := by rfl) (h : X.K = K := by rfl) :
    PG X (.Tuple es k pos) (gUnl K n t) := h ▸ pg_unl hc ht hn hst
theorem k_rev {e : Expr} {te : TE} {k : Nat} {p1 p2 p3 pos : Pos} (he : PE X e te) (h : X.K = K := by rfl) : PE X (.Subscript e (.Slice none none (some (.UnaryOp .USub (.Constant (.int 1) k p1) p2)) p3) pos) (tRevL K te) := h ▸ pe_revL he
theorem k_fld {e : Expr} {ta : TE} {f : Str} {pos : Pos} (he : PE X e ta) (hb : attributeBase e f X.env (eval e X.env) = eval e X.env := by rfl) (h : X.K = K := by rfl) : PE X (.Attribute e f pos) (tFld K ta f) := h ▸ pe_fld he hb
theorem k_bm {T : String} {name : Str} {id : String} {r : V → List V → Hp → VK → Prop} {o e : Expr} {es : List Expr} {to : TE} {t : TA} {apos cpos : Pos} (pa : PlainAttrs T) (slot : Slot T name id) (hty : typeOf (.builtin id) = pure (.type "method_descriptor")) (hm : MtR X id r) (ho : PE X o to) (ha : PA X (e :: es) t)
    (p : PE X (.Call (.Attribute o name apos) (e :: es) [] cpos) (tBM X.K T r to t)) (h : X.K = K := by rfl) : PE X (.Call (.Attribute o name apos) (e :: es) [] cpos) (tBM K T r to t) := h ▸ p
theorem k_bmP {T : String} {r : V → List V → Hp → VK → Prop} {o : Expr} {to : TE} {t : TA} (p : PE X o (tBM X.K T r to t)) (h : X.K = K := by rfl) : PE X o (tBM K T r to t) := h ▸ p
theorem k_bm0P {T : String} {r : V → List V → Hp → VK → Prop} {o : Expr} {to : TE} (p : PE X o (tBM0 X.K T r to)) (h : X.K = K := by rfl) : PE X o (tBM0 K T r to) := h ▸ p
end
end Lx

namespace Lx
open PySem PySem.Spec PyProof.Rows L2
/-! ### data that stand told, each of their lists and tuples where G holds -/
mutual
inductive Tr (G : Addr → Prop) (H : Hp) : V → PyData → Prop
  | non : Tr G H .non .none
  | bl (b : Bool) : Tr G H (.bl b) (.bool b)
  | int (i : Int) : Tr G H (.int i) (.int i)
  | str (x : Str) : Tr G H (.str x) (.str x)
  | lst {a : Addr} {xs : List V} {ds : List PyData} : H a = some (.lst xs) → G a → xs.length ≤ 100000 → TrAll G H xs ds → Tr G H (.ref a) (.list ds)
  | tup {a : Addr} {xs : List V} {ds : List PyData} : H a = some (.tup xs) → G a → xs.length ≤ 100000 → TrAll G H xs ds → Tr G H (.ref a) (.tuple ds)
inductive TrAll (G : Addr → Prop) (H : Hp) : List V → List PyData → Prop
  | nil : TrAll G H [] []
  | cons {v : V} {vs : List V} {d : PyData} {ds : List PyData} : Tr G H v d → TrAll G H vs ds → TrAll G H (v :: vs) (d :: ds)
end
section
variable {K : PySem.W.Frag} {G G' : Addr → Prop} {H H' : Hp}
mutual
theorem Tr.dp : ∀ {v : V} {d : PyData}, Tr G H v d → Dp K H v d
  | _, _, .non => .non
  | _, _, .bl b => .bl b
  | _, _, .int i => .int i
  | _, _, .str x => .str x
  | _, _, .lst h _ _ t => .lst (lst_of h) t.dp
  | _, _, .tup h _ _ t => .tup (tup_of h) t.dp
theorem TrAll.dp : ∀ {v : List V} {d : List PyData}, TrAll G H v d → DpAll K H v d
  | _, _, .nil => .nil
  | _, _, .cons h t => .cons h.dp t.dp
end
mutual
theorem Tr.move (m : ∀ a o, G a → H a = some o → H' a = some o ∧ G' a) : ∀ {v : V} {d : PyData}, Tr G H v d → Tr G' H' v d
  | _, _, .non => .non
  | _, _, .bl b => .bl b
  | _, _, .int i => .int i
  | _, _, .str x => .str x
  | _, _, .lst h g l t => .lst (m _ _ g h).1 (m _ _ g h).2 l (t.move m)
  | _, _, .tup h g l t => .tup (m _ _ g h).1 (m _ _ g h).2 l (t.move m)
theorem TrAll.move (m : ∀ a o, G a → H a = some o → H' a = some o ∧ G' a) : ∀ {v : List V} {d : List PyData}, TrAll G H v d → TrAll G' H' v d
  | _, _, .nil => .nil
  | _, _, .cons h t => .cons (h.move m) (t.move m)
end
theorem Tr.same {v : V} {d : PyData} (h : Tr G H v d) (s : Same H H') : Tr G H' v d := h.move fun a o g e => ⟨s _ _ e, g⟩
theorem Tr.any {v : V} {d : PyData} (h : Tr G H v d) : Tr (fun _ => True) H v d := h.move fun a o g e => ⟨e, trivial⟩
theorem TrAll.same {v : List V} {d : List PyData} (h : TrAll G H v d) (s : Same H H') : TrAll G H' v d := h.move fun a o g e => ⟨s _ _ e, g⟩
theorem TrAll.len : ∀ {v : List V} {d : List PyData}, TrAll G H v d → v.length = d.length
  | _, _, .nil => rfl
  | _, _, .cons _ t => congrArg Nat.succ t.len
theorem TrAll.at : ∀ {vs : List V} {ds : List PyData}, TrAll G H vs ds → ∀ {i : Nat} {v : V}, vs[i]? = some v → ∃ d, ds[i]? = some d ∧ Tr G H v d
  | _, _, .nil, i, v, e => by simp at e
  | _, _, .cons h t, 0, v, e => by
    rw [List.getElem?_cons_zero] at e
    cases e
    exact ⟨_, rfl, h⟩
  | _, _, .cons h t, i + 1, v, e => by
    rw [List.getElem?_cons_succ] at e
    obtain ⟨d, e', z⟩ := t.at e
    exact ⟨d, by rw [List.getElem?_cons_succ]; exact e', z⟩
theorem TrAll.of : ∀ {vs : List V} {ds : List PyData}, vs.length = ds.length → (∀ (i : Nat) (v : V) (d : PyData), vs[i]? = some v → ds[i]? = some d → Tr G H v d) → TrAll G H vs ds
  | [], [], _, _ => .nil
  | v :: vs, d :: ds, e, h => .cons (h 0 v d rfl rfl) (TrAll.of (Nat.succ.inj e) fun i v d a b => h (i + 1) v d a b)
  | [], _ :: _, e, _ => by cases e
  | _ :: _, [], e, _ => by cases e
theorem TrAll.ints (ns : List Int) : TrAll G H (vI ns) (dI ns) := by
  induction ns with
  | nil => exact .nil
  | cons n ns ih => exact .cons (.int n) ih
end
theorem depth_mem {ds : List PyData} {d : PyData} (h : d ∈ ds) : d.depth ≤ PyData.depthAll ds := by
  induction ds with
  | nil => cases h
  | cons e ds ih =>
    show d.depth ≤ max e.depth (PyData.depthAll ds)
    rcases List.mem_cons.mp h with rfl | h
    · exact Nat.le_max_left _ _
    · exact Nat.le_trans (ih h) (Nat.le_max_right _ _)
/-! ### slices -/
theorem cut_lo {xs : List V} {k : Nat} : cutV xs (some ((k : Nat) : Int)) none = xs.drop k := by
  unfold cutV
  rw [HT.sIx_nat, HT.sIx_none]
  by_cases h : k ≤ xs.length
  · rw [Nat.min_eq_left h]
    exact List.take_of_length_le (by rw [List.length_drop]; exact Nat.le_refl _)
  · rw [Nat.min_eq_right (by omega), Nat.sub_self, List.take_zero, List.drop_eq_nil_of_le (by omega)]
theorem cut_hi {xs : List V} {k : Nat} : cutV xs none (some ((k : Nat) : Int)) = xs.take k := by
  unfold cutV
  rw [HT.sIx_nat, HT.sIx_none, List.drop_zero, Nat.sub_zero]
  by_cases h : k ≤ xs.length
  · rw [Nat.min_eq_left h]
  · rw [Nat.min_eq_right (by omega), List.take_length, List.take_of_length_le (by omega)]
theorem vI_drop (ns : List Int) (k : Nat) : (vI ns).drop k = vI (ns.drop k) := List.map_drop.symm
theorem vI_take (ns : List Int) (k : Nat) : (vI ns).take k = vI (ns.take k) := List.map_take.symm
theorem vI_app (a b : List Int) : vI a ++ vI b = vI (a ++ b) := List.map_append.symm
theorem vI_rev (a : List Int) : (vI a).reverse = vI a.reverse := List.map_reverse.symm
theorem vI_set (a : List Int) (n : Nat) (x : Int) : (vI a).set n (.int x) = vI (a.set n x) := List.map_set.symm
/-- a list of values that is a rearranged list of ints -/
theorem perm_vI {xs : List V} {ns : List Int} (h : xs.Perm (vI ns)) : ∃ ms : List Int, xs = vI ms ∧ ms.Perm ns := by
  have un : ∀ zs : List V, (∀ z ∈ zs, ∃ n : Int, z = .int n) → vI (zs.map fun z => match z with | .int n => n | _ => 0) = zs := by
    intro zs
    induction zs with
    | nil => intro _; rfl
    | cons z zs ih =>
      intro hz
      obtain ⟨n, rfl⟩ := hz z List.mem_cons_self
      have e := ih fun y hy => hz y (List.mem_cons_of_mem _ hy)
      show V.int n :: vI (zs.map _) = _
      rw [e]
  refine ⟨xs.map fun z => match z with | .int n => n | _ => 0, (un xs fun z hz => ?_).symm, ?_⟩
  · obtain ⟨n, _, e⟩ := List.mem_map.mp (h.mem_iff.mp hz)
    exact ⟨n, e.symm⟩
  · have p := h.map fun z : V => match z with | .int n => n | _ => 0
    have e : (vI ns).map (fun z : V => match z with | .int n => n | _ => 0) = ns := by
      unfold vI
      rw [List.map_map]
      exact List.map_id ns
    rw [e] at p
    exact p
theorem seq_ix {i : Int} {n : Nat} (h0 : 0 ≤ i) (h1 : i < n) : seqIndex? i n = some i.toNat := (ixN_seq (ixN_ok h0 h1)).1
theorem rgc_pos {j c : Int} (h0 : 0 ≤ j) (h1 : j < 2 ^ 40) (c0 : 1 ≤ c) (c1 : c < 1000000) : RgC 0 j c ((j + c - 1) / c).toNat := by
  have e := rangeSize_pos (len := j) (c := c) c0 h0
  have g0 : 0 ≤ (j + c - 1) / c := Int.ediv_nonneg (by omega) (by omega)
  have g2 : (j + c - 1) / c * c ≤ j + c - 1 := Int.ediv_mul_le _ (by omega)
  have g1 : (j + c - 1) / c ≤ j + c - 1 := by
    refine Int.le_trans ?_ g2
    have := Int.mul_le_mul_of_nonneg_left c0 g0
    rw [Int.mul_one] at this
    exact this
  refine ⟨by omega, by omega, ?_, by rw [e, Int.toNat_of_nonneg g0]⟩
  unfold Builtin.Range.small
  rw [e]
  simp only [Builtin.Range.rangeFitsLong, Bool.and_eq_true, Bool.or_eq_true, decide_eq_true_eq, beq_iff_eq, show c > 0 by omega, if_true]
  refine ⟨⟨⟨⟨by decide, by omega, by omega⟩, by omega, by omega⟩, by omega, by omega⟩, .inr ⟨by omega, by omega⟩⟩
/-! ### where ways join -/
section
variable {ts tu : TS} {R bk ct : L2.St → Hp → Prop} {rt : VK} {σ : L2.St} {H : Hp} {D : Ends}
theorem ifJ {c : Prop} [Decidable c] (J : L2.St → Hp → Prop) (h1 : ∀ R' : L2.St → Hp → Prop, (∀ σ H, J σ H → R' σ H) → c → ts ⟨R', rt, bk, ct⟩ σ H) (h2 : ∀ R' : L2.St → Hp → Prop, (∀ σ H, J σ H → R' σ H) → ¬ c → tu ⟨R', rt, bk, ct⟩ σ H) (hR : ∀ σ H, J σ H → R σ H) :
    if decide c = true then ts ⟨R, rt, bk, ct⟩ σ H else tu ⟨R, rt, bk, ct⟩ σ H := ifD (h1 R hR) (h2 R hR)
theorem seqJ (J : L2.St → Hp → Prop) (h1 : ∀ R' : L2.St → Hp → Prop, (∀ σ H, J σ H → R' σ H) → ts ⟨R', D.rt, D.bk, D.ct⟩ σ H) (hR : ∀ σ H, J σ H → tu D σ H) : tSeq ts tu D σ H := h1 _ hR
end
theorem r_ixLT {K : PySem.W.Frag} {H : Hp} {Q : VK} {v : V} {p : Addr} {xs : List V} {a : Int} (h : Sq H p xs) (e : atI xs a = some v) (q : Q v H) : oOr (rIxL K) (rIxT K) (.ref p) (.int a) H Q :=
  h.elim (fun h => .inl (r_ixL (lst_of h) e q)) fun h => .inr (r_ixT (tup_of h) e q)
/-! ### the same data, its lists and tuples dressed anew -/
mutual
inductive Drs : PyData → PyData → Prop
  | non : Drs .none .none
  | bl (b : Bool) : Drs (.bool b) (.bool b)
  | int (i : Int) : Drs (.int i) (.int i)
  | str (x : Str) : Drs (.str x) (.str x)
  | ll {ds es : List PyData} : DrsAll ds es → Drs (.list ds) (.list es)
  | lt {ds es : List PyData} : DrsAll ds es → Drs (.list ds) (.tuple es)
  | tl {ds es : List PyData} : DrsAll ds es → Drs (.tuple ds) (.list es)
  | tt {ds es : List PyData} : DrsAll ds es → Drs (.tuple ds) (.tuple es)
inductive DrsAll : List PyData → List PyData → Prop
  | nil : DrsAll [] []
  | cons {d e : PyData} {ds es : List PyData} : Drs d e → DrsAll ds es → DrsAll (d :: ds) (e :: es)
end
theorem DrsAll.snoc : ∀ {ds es : List PyData} {d e : PyData}, DrsAll ds es → Drs d e → DrsAll (ds ++ [d]) (es ++ [e])
  | _, _, _, _, .nil, h => .cons h .nil
  | _, _, _, _, .cons g t, h => .cons g (t.snoc h)
theorem DrsAll.len : ∀ {ds es : List PyData}, DrsAll ds es → ds.length = es.length
  | _, _, .nil => rfl
  | _, _, .cons _ t => congrArg Nat.succ t.len
theorem DrsAll.ints : ∀ {ns : List Int} {es : List PyData}, DrsAll (dI ns) es → es = dI ns
  | [], _, .nil => rfl
  | n :: ns, _, .cons h t => by
    cases h
    rw [t.ints]
    rfl
theorem Drs.ints {ns : List Int} {e : PyData} (h : Drs (.list (dI ns)) e) : e = .list (dI ns) ∨ e = .tuple (dI ns) := by
  cases h with
  | ll h => exact .inl (by rw [h.ints])
  | lt h => exact .inr (by rw [h.ints])
theorem TrAll.snoc {G : Addr → Prop} {H : Hp} : ∀ {vs : List V} {ds : List PyData} {v : V} {d : PyData}, TrAll G H vs ds → Tr G H v d → TrAll G H (vs ++ [v]) (ds ++ [d])
  | _, _, _, _, .nil, h => .cons h .nil
  | _, _, _, _, .cons g t, h => .cons g (t.snoc h)
theorem TrAll.val {G : Addr → Prop} {H : Hp} : ∀ {vs : List V} {ns : List Int}, TrAll G H vs (dI ns) → vs = vI ns
  | _, [], .nil => rfl
  | _, n :: ns, .cons h t => by
    cases h
    rw [t.val]
    rfl
theorem Tr.sq {G : Addr → Prop} {H : Hp} {v : V} {ns : List Int} {e : PyData} (h : Tr G H v e) (he : e = .list (dI ns) ∨ e = .tuple (dI ns)) : ∃ a, v = .ref a ∧ G a ∧ Sq H a (vI ns) := by
  rcases he with rfl | rfl
  · cases h with
    | lst h g _ t => rw [t.val] at h; exact ⟨_, rfl, g, .inl h⟩
  · cases h with
    | tup h g _ t => rw [t.val] at h; exact ⟨_, rfl, g, .inr h⟩
/-! ### texts -/
def rAddS : R2 := fun x y H Q => ∃ i j, x = .str i ∧ y = .str j ∧ i.length + j.length ≤ sizeLine ∧ Q (.str (i ++ j)) H
theorem op_addS {X : Cx} : OpR X (binaryOp .Add) rAddS := op_add_str
theorem r_addS {H : Hp} {Q : VK} {a b : Str} (h : a.length + b.length ≤ sizeLine) (q : Q (.str (a ++ b)) H) : rAddS (.str a) (.str b) H Q := ⟨a, b, rfl, rfl, h, q⟩
def rCountS : V → List V → Hp → VK → Prop := fun x xs H Q => ∃ a b, x = .str a ∧ xs = [.str b] ∧ Q (.int (Txt.count a b)) H
theorem mt_countS {X : Cx} : MtR X "str.count" rCountS := mt_count
theorem r_countS {H : Hp} {Q : VK} {a b : Str} (q : Q (.int (Txt.count a b)) H) : rCountS (.str a) [.str b] H Q := ⟨a, b, rfl, rfl, q⟩
theorem r_sortI {K : PySem.W.Frag} {H : Hp} {Q : VK} {a : Addr} {ns : List Int} (h : SqL K H a (vI ns)) (q : ∀ (ns' : List Int) (p : Addr), ns'.Perm ns → ns'.Pairwise (· ≤ ·) → H p = none → Q (.ref p) (upd H p (.lst (vI ns')))) : rSortedI K [.ref a] H Q := ⟨a, ns, rfl, h, q⟩
theorem r_popAt {H : Hp} {Q : VK} {l : Addr} {xs : List V} {i : Int} {y : V} (h : H l = some (.lst xs)) (i0 : 0 ≤ i) (i1 : i < xs.length) (hz : xs.length ≤ 100000) (hy : xs[i.toNat]? = some y) (q : Q y (upd H l (.lst (xs.eraseIdx i.toNat)))) : rPopAt (.ref l) [.int i] H Q :=
  ⟨l, xs, i, i.toNat, y, rfl, rfl, h, by omega, by omega, seq_ix i0 i1, hy, q⟩
theorem r_rev {H : Hp} {Q : VK} {l : Addr} {xs : List V} (h : H l = some (.lst xs)) (q : Q .non (upd H l (.lst xs.reverse))) : rReverse (.ref l) [] H Q := ⟨l, xs, rfl, rfl, h, q⟩
theorem r_in {K : PySem.W.Frag} {H : Hp} {Q : VK} {p : Addr} {x : V} {xs : List V} (h : SqL K H p xs ∨ SqT K H p xs) (f : flatV x = true) (g : xs.all flatV = true) (q : Q (.bl (inV x xs)) H) : rIn K false x (.ref p) H Q := ⟨p, xs, rfl, h, f, g, q⟩
theorem r_notIn {K : PySem.W.Frag} {H : Hp} {Q : VK} {p : Addr} {x : V} {xs : List V} (h : SqL K H p xs ∨ SqT K H p xs) (f : flatV x = true) (g : xs.all flatV = true) (q : Q (.bl (!inV x xs)) H) : rIn K true x (.ref p) H Q := ⟨p, xs, rfl, h, f, g, q⟩
/-! ### the least of ints -/
def minI : List Int → Int
  | [] => 0
  | a :: r => if r = [] then a else if a ≤ minI r then a else minI r
theorem minI_mem : ∀ {ns : List Int}, ns ≠ [] → minI ns ∈ ns
  | [], h => absurd rfl h
  | a :: r, _ => by
    unfold minI
    split
    · exact List.mem_cons_self
    · rename_i hr
      split
      · exact List.mem_cons_self
      · exact List.mem_cons_of_mem _ (minI_mem hr)
theorem minI_le : ∀ {ns : List Int} {y : Int}, y ∈ ns → minI ns ≤ y
  | a :: r, y, h => by
    unfold minI
    split
    · rename_i hr
      subst hr
      rw [List.mem_singleton] at h
      omega
    · rename_i hr
      rcases List.mem_cons.mp h with e | h
      · split <;> omega
      · have ih := minI_le h
        split <;> omega
theorem minI_eq {ns : List Int} {m : Int} (h : m ∈ ns) (l : ∀ y ∈ ns, m ≤ y) : m = minI ns := by
  have h1 := minI_le h
  have h2 := l _ (minI_mem fun e => by rw [e] at h; cases h)
  omega
theorem minI_perm {a b : List Int} (h : a.Perm b) : minI a = minI b := by
  by_cases e : a = []
  · rw [e] at h ⊢
    rw [h.symm.eq_nil]
  · exact minI_eq (h.mem_iff.mp (minI_mem e)) fun y hy => minI_le (h.mem_iff.mpr hy)
theorem r_min {K : PySem.W.Frag} {H : Hp} {Q : VK} {a : Addr} {ns : List Int} (h : SqL K H a (vI ns)) (hn : 0 < ns.length) (q : Q (.int (minI ns)) H) : rMin K [.ref a] H Q :=
  ⟨a, ns, rfl, h, hn, fun m hm hl => by rw [minI_eq hm hl]; exact q⟩
theorem erase_at : ∀ {ns : List Int} {k : Int}, k ∈ ns → ∃ j : Nat, ns[j]? = some k ∧ (∀ m : Nat, m < j → ns[m]? ≠ some k) ∧ ns.eraseIdx j = ns.erase k
  | a :: r, k, h => by
    by_cases e : a = k
    · subst e
      exact ⟨0, rfl, fun m hm => absurd hm (Nat.not_lt_zero _), by rw [List.erase_cons_head]; rfl⟩
    · have hr : k ∈ r := (List.mem_cons.mp h).resolve_left fun z => e z.symm
      obtain ⟨j, h1, h2, h3⟩ := erase_at hr
      refine ⟨j + 1, h1, fun m hm => ?_, ?_⟩
      · cases m with
        | zero => intro z; exact e (Option.some.inj z)
        | succ m => exact h2 m (by omega)
      · rw [List.erase_cons_tail (by simpa using e), List.eraseIdx_cons_succ, h3]
theorem r_remove {H : Hp} {Q : VK} {l : Addr} {ns : List Int} {k : Int} (h : H l = some (.lst (vI ns))) (hk : k ∈ ns) (q : Q .non (upd H l (.lst (vI (ns.erase k))))) : rRemI (.ref l) [.int k] H Q := by
  obtain ⟨j, h1, h2, h3⟩ := erase_at hk
  refine ⟨l, ns, k, j, rfl, rfl, h, h1, h2, ?_⟩
  rw [h3]
  exact q
end Lx

namespace Lx
open PySem PySem.Spec PyProof.Rows L2
/-! ### len(set(xs)) of a list or a tuple of ints, each once -/
theorem nodup_same_len : ∀ {a b : List Int}, a.Nodup → b.Nodup → (∀ x, x ∈ a ↔ x ∈ b) → a.length = b.length
  | [], [], _, _, _ => rfl
  | [], y :: b, _, _, h => absurd ((h y).mpr List.mem_cons_self) (by simp)
  | x :: a, b, ha, hb, h => by
    have hx : x ∈ b := (h x).mp List.mem_cons_self
    rw [List.nodup_cons] at ha
    have ih := nodup_same_len ha.2 (hb.erase x) fun y => by
      rw [hb.mem_erase_iff]
      constructor
      · intro hy
        exact ⟨fun e => ha.1 (e ▸ hy), (h y).mp (List.mem_cons_of_mem _ hy)⟩
      · rintro ⟨hne, hy⟩
        rcases List.mem_cons.mp ((h y).mpr hy) with e | hy
        · exact absurd e hne
        · exact hy
    rw [List.length_erase_of_mem hx] at ih
    have : 0 < b.length := List.length_pos_of_mem hx
    rw [List.length_cons]
    omega
def tLenSet (K : PySem.W.Frag) (ta : TE) : TE := fun σ H Q => ta σ H fun x H1 => ∃ (l : Addr) (ns : List Int), x = .ref l ∧ (SqL K H1 l (vI ns) ∨ SqT K H1 l (vI ns)) ∧ ns.Nodup ∧ ns.length ≤ 4000 ∧ Q (.int (ns.length : Nat)) H1
theorem pe_lenSet (K : PySem.W.Frag) {X : Cx} {a : Expr} {ta : TE} {p p2 q pos : Pos} (hg : Gl X "len") (hm : X.mg "len" = none) (hg2 : Gl X "set") (hm2 : X.mg "set" = none) (ha : PE X a ta) (hc : X.calm = true := by rfl) (hK : X.K = K := by rfl)
    (na : starEach [a] X.env = (false, eval a X.env) :: starEach [] X.env := by rfl) : PE X (.Call (.Name "len" p) [.Call (.Name "set" p2) [a] [] q] [] pos) (tLenSet K ta) := by
  subst hK
  refine ⟨fun pins s σ H Q I h => ?_⟩
  refine Call_ (ld_blt I hg hm boot_len ?_)
  refine PyProof.Rows.callWith_builtin1 (PyProof.Rows.args_cons ?_ rfl) rfl rfl
  refine Call_ (ld_blt I hg2 hm2 boot_set ?_)
  refine PyProof.Rows.callWith_type1 (PyProof.Rows.args_cons (thn (ha.run pins s σ H _ I h) fun v s1 ⟨x, H1, I1, r1, q1⟩ => PyProof.Rows.args_nil ?_) na) na rfl
  obtain ⟨l, ns, rfl, hq, hnd, hl, q1⟩ := q1
  cases r1
  rcases hq with hq | hq
  · obtain ⟨its, r, pl, hz⟩ := I1.list hq
    have hlen : its.toArray.size = ns.length := by rw [List.size_toArray, ← r.length, vI_len]
    refine call_set_list (I1.ok.hd hc) pl.isList (by simpa using RZ.intsAre_vals r) (by rw [hlen]; unfold scanBound; omega) fun h' tk hS hk => ?_
    refine PyProof.Rows.args_nil ?_
    rw [hlen, RZ.firstMet_nodup hnd ns.length (Nat.le_refl _), List.take_length] at hS
    obtain ⟨o, es, ep, t, ho, hex, hd, _, _, _, hf, hn⟩ := hS
    have I2 : Inv X pins σ H1 { s1 with heap := h', toks := tk } := I1.kept fun b o e => hk b o (Heap.lt_size e) e
    exact call_len_set ho hex hd hf (by rw [hn] <;> omega) ⟨.int ns.length, H1, I2.tok _, ⟨_, by rw [hn]⟩, q1⟩
  · obtain ⟨its, r, pl, hz⟩ := I1.tuple hq
    refine call_set_tupI ns (I1.ok.hd hc) pl (by simpa using RZ.intsAre_vals r) (by unfold scanBound; omega) fun h' tk c hS _ hk => ?_
    refine PyProof.Rows.args_nil ?_
    obtain ⟨o, es, ep, t, ho, hex, hd, _, hnd2, hmem, _, hf, hn, _⟩ := hS
    have hn2 : es.size = ns.length := by
      have z := nodup_same_len hnd hnd2 fun x => by rw [← hmem x]; simp
      rw [z, List.length_map, Array.length_toList]
    have I2 : Inv X pins σ H1 { s1 with heap := h', toks := tk } := I1.kept fun b o e => hk b o e
    exact call_len_set ho hex hd hf (by rw [hn2] <;> omega) ⟨.int ns.length, H1, I2.tok _, ⟨_, by rw [hn2]⟩, q1⟩
theorem r_lenSet {K : PySem.W.Frag} {σ : L2.St} {H : Hp} {Q : VK} {ta : TE} (h : ta σ H fun x H1 => ∃ (l : Addr) (ns : List Int), x = .ref l ∧ (SqL K H1 l (vI ns) ∨ SqT K H1 l (vI ns)) ∧ ns.Nodup ∧ ns.length ≤ 4000 ∧ Q (.int (ns.length : Nat)) H1) : tLenSet K ta σ H Q := h
end Lx

namespace Lx
open PySem PySem.Spec PyProof.Rows L2
/-! ### methods, makings, properties where no repr runs around -/
/-- a method as callers see it -/
structure Mt (P : Program) (w : World) (K : PySem.W.Frag) (mg : Str → Option Value) (base : Heap) (k : Nat) (C : Addr) (m : Str) (dvs : List V) (sp : Sp) : Prop where
  ex : ∃ (f : Addr) (fd : FuncData) (ps : List Str) (ds : List Value), FnG P w K mg base k f fd ps sp ∧ Cls K C ∧ Meth K C m f ∧ Binds K fd ps ds ∧ Vals dvs ds
/-- a class as its makers see it -/
structure Cn (P : Program) (w : World) (K : PySem.W.Frag) (mg : Str → Option Value) (base : Heap) (k : Nat) (x : Str) (C : Addr) (dvs : List V) (sp : Sp) : Prop where
  ex : ∃ (f : Addr) (fd : FuncData) (ps : List Str) (ds : List Value), FnG P w K mg base k f fd ps sp ∧ mg x = some (.ref C) ∧ Mk K C f ∧ Binds K fd ps ds ∧ Vals dvs ds
/-- a property as its readers see it -/
structure Pr (P : Program) (w : World) (K : PySem.W.Frag) (mg : Str → Option Value) (base : Heap) (k : Nat) (C : Addr) (m : Str) (sp : Sp) : Prop where
  ex : ∃ (p g : Addr) (fd : FuncData) (ps : List Str), FnG P w K mg base k g fd ps sp ∧ Cls K C ∧ PropOf K C m p g ∧ Binds K fd ps []
section
variable {X : Cx} {k : Nat} {f C : Addr} {fd : FuncData} {ps : List Str} {sp : Sp} {dvs : List V} {ds : List Value} {E : XK} {x m : Str} {p pos apos : Pos} {e o : Expr} {es : List Expr} {ta : TE} {t : TA}
theorem pe_mt {pl : Sem Bool} (M : Mt X.prog X.w X.K X.mg X.base k C m dvs sp) (hG : X.A.guards = some []) (hr : Room k X.A) (hx : Passes (L2.CX X.prog X.w) X E) (he : PE X o ta) (ha : PA X (e :: es) t)
    (hst : starEach (e :: es) X.env = (false, eval e X.env) :: starEach es X.env := by rfl) (hpl : (backTo pos (starEach es X.env)).any (·.1) = false := by rfl)
    (ht : eval (.Call (.Attribute o m apos) (e :: es) [] pos) X.env = (do
      let ov ← eval o X.env
      standAt apos.atName
      let (f, first) ← holding [ov] (getMethod ov m pl)
      callWith pos f first (backTo pos (starEach (e :: es) X.env)) (backToKw pos (keywordEach [] X.env))) := by rfl) :
    PE X (.Call (.Attribute o m apos) (e :: es) [] pos) (tMeth C m sp dvs E ta t) := by
  obtain ⟨f, fd, ps, ds, F, c, hm, hb, hd⟩ := M.ex
  refine ⟨fun pins s σ H Q I h => ?_⟩
  refine PySem.W.methodCall_KW (pl := pl) (thn (he.run pins s σ H _ I h) fun u s1 ⟨x, H1, I1, rx, a, dx, fs, ex, ea, l, q⟩ => ?_) ht
  subst ex
  obtain rfl : u = Value.ref a := rx
  refine getmeth_ok I1 ea c hm l ?_
  refine PySem.W.callWith_K (first := [.ref a]) (h₀ := X.base) I.ok.mod.kin hm.kp (thn (ha.run pos pins s1 σ H1 _ I1 q) fun us s2 ⟨vs, H2, I2, r, q2⟩ => ⟨I2.kIn, ?_⟩) hst hpl
  exact grun (us := .ref a :: us) (vs := .ref a :: vs) F hG hr hb hd hx I2 (.cons rfl r) q2
theorem pe_mt0 {pl : Sem Bool} (M : Mt X.prog X.w X.K X.mg X.base k C m dvs sp) (hG : X.A.guards = some []) (hr : Room k X.A) (hx : Passes (L2.CX X.prog X.w) X E) (he : PE X o ta)
    (ht : eval (.Call (.Attribute o m apos) [] [] pos) X.env = (do
      let ov ← eval o X.env
      standAt apos.atName
      let (f, first) ← holding [ov] (getMethod ov m pl)
      callWith pos f first (backTo pos (starEach [] X.env)) (backToKw pos (keywordEach [] X.env))) := by rfl) :
    PE X (.Call (.Attribute o m apos) [] [] pos) (tMeth C m sp dvs E ta tNil) := by
  obtain ⟨f, fd, ps, ds, F, c, hm, hb, hd⟩ := M.ex
  refine ⟨fun pins s σ H Q I h => ?_⟩
  refine PySem.W.methodCall_KW (pl := pl) (thn (he.run pins s σ H _ I h) fun u s1 ⟨x, H1, I1, rx, a, dx, fs, ex, ea, l, q⟩ => ?_) ht
  subst ex
  obtain rfl : u = Value.ref a := rx
  refine getmeth_ok I1 ea c hm l ?_
  exact PySem.W.callWith_K0 (first := [.ref a]) I1.kIn hm.kp (grun (us := [.ref a]) (vs := [.ref a]) F hG hr hb hd hx I1 (.cons rfl .nil) q)
theorem gmakes {pins : List (Addr × Obj)} {σ : L2.St} {H : Hp} {s : Shared} {Q : VK} {us : List Value} {vs : List V} (M : Mk X.K C f) (F : FnG X.prog X.w X.K X.mg X.base k f fd ps sp) (hG : X.A.guards = some []) (hr : Room (k + 1) X.A) (hb : Binds X.K fd ps ds) (hd : Vals dvs ds)
    (hx : Passes (L2.CX X.prog X.w) X E) (I : Inv X pins σ H s) (r : Vals vs us)
    (h : ∀ x dx, H x = none → H dx = none → dx ≠ x → sp (.ref x :: (vs ++ dvs)) (upd (upd H dx (.own x)) x (.ins C dx [])) (fun v H2 => v = .non ∧ Q (.ref x) H2) E) :
    wpAny (model X.prog X.w) X.A (call (.ref C) us) (EP X pins σ Q) X.xe s := by
  have hq := h (s.heap.objs.size + 1) s.heap.objs.size (I.hok.fresh (Nat.le_succ _)) (I.hok.fresh (Nat.le_refl _)) (Nat.ne_of_lt (Nat.lt_succ_self _))
  have I2 := Inv.made (C := C) I
  have r2 : Vals (V.ref (s.heap.objs.size + 1) :: (vs ++ dvs)) (Value.ref (s.heap.objs.size + 1) :: (us ++ ds)) := .cons rfl (r.append hd)
  have hl : (Value.ref (s.heap.objs.size + 1) :: us ++ ds).length = ps.length := r2.length.symm.trans (F.ln _ _ _ _ hq)
  refine wpAny_call (make_map (f := f) I.kIn M.makes M.init (beq_iff_eq.mp M.fn) (codeAny_mono (F.go _ X.stack _ _ ⟨Value.ref (s.heap.objs.size + 1) :: us, []⟩ (Value.ref (s.heap.objs.size + 1) :: (us ++ ds)) _ _ E hG (hr.make C us [])
    (I2.env0.make C us []) (hb _ (Value.ref (s.heap.objs.size + 1) :: us) I2.kIn hl) r2 hq) fun r s' hq' => ?_))
  cases r with
  | error e => exact hx pins σ _ _ e s' I2 hq'
  | ok fl => cases fl with
    | ret u =>
      obtain ⟨v, H', I3, rv, ev, q3⟩ := I2.after hq'
      subst ev
      exact ⟨rv, ⟨V.ref (s.heap.objs.size + 1), H', I3, rfl, q3⟩⟩
    | next => exact hq'.elim
    | brk => exact hq'.elim
    | cont => exact hq'.elim
theorem pe_cn (D : Cn X.prog X.w X.K X.mg X.base k x C dvs sp) (hG : X.A.guards = some []) (hr : Room (k + 1) X.A) (hx : Passes (L2.CX X.prog X.w) X E) (hg : Gl X x) (ha : PA X (e :: es) t)
    (hdb : (x == ("__debug__" : Str)) = false := by decide) (he : starEach (e :: es) X.env = (false, eval e X.env) :: starEach es X.env := by rfl) (hpl : (backTo pos (starEach es X.env)).any (·.1) = false := by rfl) :
    PE X (.Call (.Name x p) (e :: es) [] pos) (tMake C sp dvs E t) := by
  obtain ⟨f, fd, ps, ds, F, hm, M, hb, hd⟩ := D.ex
  refine ⟨fun pins s σ H Q I h => ?_⟩
  refine wpAny_Call_Name_kw (ld_glob I hg hm ?_ hdb)
  refine PySem.W.callWith_K (h₀ := X.base) I.ok.mod.kin M.kp (thn (ha.run pos pins s σ H _ I h) fun us s1 ⟨vs, H1, I1, r, q⟩ => ⟨I1.kIn, ?_⟩) he hpl
  exact gmakes M F hG hr hb hd hx I1 r q
theorem pe_pr (M : Pr X.prog X.w X.K X.mg X.base k C m sp) (hG : X.A.guards = some []) (hr : Room (k + 1) X.A) (hx : Passes (L2.CX X.prog X.w) X.nox E) (he : PE X e ta)
    (hab : attributeBase e m X.env (eval e X.env) = eval e X.env := by rfl) : PE X (.Attribute e m pos) (tProp C sp [] E ta) := by
  obtain ⟨pa, g, fd, ps, F, c, hp, hb⟩ := M.ex
  refine ⟨fun pins s σ H Q I h => ?_⟩
  refine attr_of hab (thn (he.run pins s σ H _ I h) fun u s1 ⟨x, H1, I1, rx, a, dx, fs, ex, ea, q⟩ => ?_)
  subst ex
  obtain rfl : u = Value.ref a := rx
  obtain ⟨mA, O, _, _, _, _⟩ := ins_get I1.hok ea
  obtain ⟨od, J, _⟩ := O.look
  obtain ⟨rest, hrec⟩ := hp.rec_
  have I2 := I1.tok (s1.toks + 1)
  have hl : ([Value.ref a] ++ []).length = ps.length := (F.ln _ _ _ _ q)
  have hc : (PySem.W.clsIn X.K C).isSome = true := by
    obtain ⟨cd, hc, _⟩ := PySem.W.any_some c.hd
    rw [hc]
    rfl
  refine PySem.W.get_bind I1.kIn J (PySem.W.plainGet_of (c.get m)).1 (PySem.W.findObj_data hc hp.at_ hp.get hp.tak) (PySem.W.plainGet_of (c.get m)).2 (wpAny_call (PySem.W.prop_get (s := { s1 with toks := s1.toks + 1 }) I1.kIn hrec ?_))
  refine codeAny_mono (F.go X.A.in1 X.stack { s1 with toks := s1.toks + 1 } H1 ⟨[.ref a], []⟩ [.ref a] [.ref a] Q E hG hr.in1 I2.env0.in1 (hb _ [.ref a] I2.kIn hl) (.cons rfl .nil) q) fun r s' hq => ?_
  cases r with
  | error er => exact False.elim (hx pins σ H1 { s1 with toks := s1.toks + 1 } er s' (I2.wish _) hq)
  | ok fl => cases fl with
    | ret u =>
      obtain ⟨v, H', I3, rv, q3⟩ := I2.after hq
      show wpAny _ _ (handedOut u) _ _ _
      rw [PySem.W.handedOut_of (handed_of rv)]
      exact wpAny_pure ⟨v, H', I3, rv, q3⟩
    | next => exact hq.elim
    | brk => exact hq.elim
    | cont => exact hq.elim
end
/-- len of an object whose class has its own __len__ -/
structure Ln (P : Program) (w : World) (K : PySem.W.Frag) (mg : Str → Option Value) (base : Heap) (k : Nat) (C : Addr) (sp : Sp) : Prop where
  ex : ∃ (f : Addr) (fd : FuncData) (ps : List Str), FnG P w K mg base k f fd ps sp ∧ PySem.W.findIn K (.ref C) "__len__" = some (some (.ref f)) ∧ PySem.W.isFn K (.ref f) = true ∧ Binds K fd ps []
def rLenOwn (C : Addr) (sp : Sp) (E : XK) : List V → Hp → VK → Prop := fun xs H Q => ∃ a dx fs, xs = [V.ref a] ∧ H a = some (.ins C dx fs) ∧ sp [.ref a] H (fun z H' => ∃ n : Nat, z = .int (n : Int) ∧ n < 2 ^ 62 ∧ Q (.int (n : Int)) H') E
theorem call_lenOwn {X : Cx} {k : Nat} {C : Addr} {sp : Sp} {E : XK} (L : Ln X.prog X.w X.K X.mg X.base k C sp) (hG : X.A.guards = some []) (hr : Room (k + 1) X.A) (hx : Passes (L2.CX X.prog X.w) X E) : CallR X (.builtin "len") (rLenOwn C sp E) := by
  obtain ⟨f, fd, ps, F, hs, hf, hb⟩ := L.ex
  intro pins s σ H xs us Q I r h
  obtain ⟨a, dx, fs, rfl, ea, q⟩ := h
  obtain ⟨u, rfl, ru⟩ := r.one
  cases (show u = Value.ref a from ru)
  obtain ⟨mA, O, _, _, _, _⟩ := ins_get I.hok ea
  obtain ⟨od, J, _⟩ := O.look
  obtain ⟨m, hF⟩ := I.fr
  have hl : ([Value.ref a] ++ []).length = ps.length := (F.ln _ _ _ _ q)
  refine PySem.W.len_K hF I.ok.mod.kin J hs hf (wpAny_call (codeAny_mono (F.go X.A.in1 X.stack s H ⟨[.ref a], []⟩ [.ref a] [.ref a] _ E hG hr.in1 I.env0.in1 (hb _ [.ref a] I.kIn hl) (.cons rfl .nil) q) fun r s' hq => ?_))
  cases r with
  | error er => exact hx pins σ H s er s' I hq
  | ok fl => cases fl with
    | ret u =>
      obtain ⟨v, H', I3, rv, n, rfl, hn, q3⟩ := I.after hq
      obtain ⟨t, rfl⟩ := (show ∃ t, u = Value.int (n : Int) t from rv)
      exact ⟨⟨Int.natCast_nonneg _, by omega⟩, ⟨.int (n : Int), H', I3.tok _, ⟨_, rfl⟩, q3⟩⟩
    | next => exact hq.elim
    | brk => exact hq.elim
    | cont => exact hq.elim
/-! ### readings -/
section
variable {K : PySem.W.Frag} {σ : L2.St} {H : Hp} {Q : VK} {D : Ends} {te ta tv : TE} {tA : TA} {C a dx : Addr} {fs : List (Str × V)} {m f : Str} {v y : V} {sp : Sp} {dvs : List V} {E : XK}
theorem r_fld (h : te σ H fun x H1 => ∃ a C dx fs v, x = .ref a ∧ H1 a = some (.ins C dx fs) ∧ Cls K C ∧ NoAttr K C f ∧ fs.lookup f = some v ∧ Q v H1) : tFld K te f σ H Q := h
theorem r_fldAt {R : V → Prop} (h : H a = some (.ins C dx fs)) (c : Cls K C) (n : NoAttr K C f) (l : fs.lookup f = some v) (q : R v) : ∃ a' C dx fs v, V.ref a = .ref a' ∧ H a' = some (.ins C dx fs) ∧ Cls K C ∧ NoAttr K C f ∧ fs.lookup f = some v ∧ R v := ⟨a, C, dx, fs, v, rfl, h, c, n, l, q⟩
theorem r_sfld (h : tv σ H fun y H1 => te σ H1 fun x H2 => ∃ a C dx fs, x = .ref a ∧ H2 a = some (.ins C dx fs) ∧ Cls K C ∧ NoAttr K C f ∧ fs.length < 1000 ∧ D.nx σ (upd H2 a (.ins C dx (putF f y fs)))) : sFld K te tv f D σ H := h
theorem r_sfldAt {R : Addr → Addr → Addr → List (Str × V) → Prop} (h : H a = some (.ins C dx fs)) (c : Cls K C) (n : NoAttr K C f) (l : fs.length < 1000) (q : R a C dx fs) : ∃ a' C dx fs, V.ref a = .ref a' ∧ H a' = some (.ins C dx fs) ∧ Cls K C ∧ NoAttr K C f ∧ fs.length < 1000 ∧ R a' C dx fs := ⟨a, C, dx, fs, rfl, h, c, n, l, q⟩
theorem r_meth (h : te σ H fun x H1 => ∃ a dx fs, x = .ref a ∧ H1 a = some (.ins C dx fs) ∧ fs.lookup m = none ∧ tA σ H1 fun vs H2 => sp (x :: (vs ++ dvs)) H2 Q E) : tMeth C m sp dvs E te tA σ H Q := h
theorem r_methAt {R : Prop} (h : H a = some (.ins C dx fs)) (l : fs.lookup m = none) (q : R) : ∃ a' dx fs, V.ref a = .ref a' ∧ H a' = some (.ins C dx fs) ∧ fs.lookup m = none ∧ R := ⟨a, dx, fs, rfl, h, l, q⟩
theorem r_make (h : tA σ H fun vs H1 => ∀ x dx, H1 x = none → H1 dx = none → dx ≠ x → sp (.ref x :: (vs ++ dvs)) (upd (upd H1 dx (.own x)) x (.ins C dx [])) (fun v H2 => v = .non ∧ Q (.ref x) H2) E) : tMake C sp dvs E tA σ H Q := h
theorem r_prop (h : te σ H fun x H1 => ∃ a dx fs, x = .ref a ∧ H1 a = some (.ins C dx fs) ∧ sp (.ref a :: dvs) H1 Q E) : tProp C sp dvs E te σ H Q := h
end
/-! ### all kept but what stands at some places -/
def KpL (L : List Addr) (H H' : Hp) : Prop := ∀ b o, b ∉ L → H b = some o → H' b = some o
theorem KpL.refl (L : List Addr) (H : Hp) : KpL L H H := fun _ _ _ h => h
theorem KpL.of {L : List Addr} {H H' : Hp} (s : Same H H') : KpL L H H' := fun b o _ h => s b o h
theorem KpL.same {H H' : Hp} (k : KpL [] H H') : Same H H' := fun b o h => k b o (by simp) h
theorem KpL.trans {L : List Addr} {H H1 H2 : Hp} (a : KpL L H H1) (b : KpL L H1 H2) : KpL L H H2 := fun c o n h => b c o n (a c o n h)
theorem KpL.more {L L' : List Addr} {H H' : Hp} (a : KpL L H H') (s : ∀ x ∈ L, x ∈ L') : KpL L' H H' := fun c o n h => a c o (fun z => n (s _ z)) h
theorem KpL.set {L : List Addr} {p : Addr} {H H' : Hp} {o : HO} (k : KpL L H H') (hp : p ∈ L) : KpL L H (upd H' p o) := fun b u n e => by
  rw [upd_ne (fun z : b = p => n (by rw [z]; exact hp))]
  exact k b u n e
theorem KpL.put {L : List Addr} {p : Addr} {H H' : Hp} {o : HO} (k : KpL L H H') (n : H' p = none) : KpL L H (upd H' p o) := fun b u m e => by
  have := k b u m e
  rw [upd_ne (ne_of_none this n)]
  exact this
theorem KpL.free {L : List Addr} {p : Addr} {H H' : Hp} (k : KpL L H H') (n : H' p = none) (m : p ∉ L) : H p = none := by
  cases q : H p with
  | none => rfl
  | some o =>
    have := k p o m q
    rw [n] at this
    cases this
theorem KpL.kp {r : Addr} {H H' : Hp} (k : KpL [r] H H') : Kp r H H' := fun b o n h => k b o (by simpa using n) h
theorem Kp.kpl {r : Addr} {L : List Addr} {H H' : Hp} (k : Kp r H H') (h : r ∈ L) : KpL L H H' := fun b o n e => k b o (fun z : b = r => n (by rw [z]; exact h)) e
theorem KpL.drop {p : Addr} {L : List Addr} {H H' : Hp} (k : KpL (p :: L) H H') (h : H p = none) : KpL L H H' := fun b o n e => k b o (fun z => by
  rcases List.mem_cons.mp z with z | z
  · rw [z, h] at e; cases e
  · exact n z) e
/-! ### two and three fields -/
theorem lk2_1 {a b : Str} {x y : V} : ([(a, x), (b, y)] : List (Str × V)).lookup a = some x := by simp [List.lookup]
theorem lk2_2 {a b : Str} {x y : V} (h : ¬ b = a) : ([(a, x), (b, y)] : List (Str × V)).lookup b = some y := by
  have : (b == a) = false := by simpa using h
  simp [List.lookup, this]
theorem lk2_0 {a b m : Str} {x y : V} (h1 : ¬ m = a) (h2 : ¬ m = b) : ([(a, x), (b, y)] : List (Str × V)).lookup m = none := by
  have e1 : (m == a) = false := by simpa using h1
  have e2 : (m == b) = false := by simpa using h2
  simp [List.lookup, e1, e2]
theorem lk3_1 {a b c : Str} {x y z : V} : ([(a, x), (b, y), (c, z)] : List (Str × V)).lookup a = some x := by simp [List.lookup]
theorem lk3_2 {a b c : Str} {x y z : V} (h : ¬ b = a) : ([(a, x), (b, y), (c, z)] : List (Str × V)).lookup b = some y := by
  have : (b == a) = false := by simpa using h
  simp [List.lookup, this]
theorem lk3_3 {a b c : Str} {x y z : V} (h : ¬ c = a) (h2 : ¬ c = b) : ([(a, x), (b, y), (c, z)] : List (Str × V)).lookup c = some z := by
  have e1 : (c == a) = false := by simpa using h
  have e2 : (c == b) = false := by simpa using h2
  simp [List.lookup, e1, e2]
theorem lk3_0 {a b c m : Str} {x y z : V} (h1 : ¬ m = a) (h2 : ¬ m = b) (h3 : ¬ m = c) : ([(a, x), (b, y), (c, z)] : List (Str × V)).lookup m = none := by
  have e1 : (m == a) = false := by simpa using h1
  have e2 : (m == b) = false := by simpa using h2
  have e3 : (m == c) = false := by simpa using h3
  simp [List.lookup, e1, e2, e3]
theorem put1 {a : Str} {x : V} : putF a x [] = [(a, x)] := rfl
theorem put2 {a b : Str} {x y : V} (h : ¬ a = b) : putF b y [(a, x)] = [(a, x), (b, y)] := by
  show (if a = b then [(a, y)] else (a, x) :: putF b y []) = _
  rw [if_neg h]
  rfl
theorem put3 {a b c : Str} {x y z : V} (h : ¬ a = c) (h2 : ¬ b = c) : putF c z [(a, x), (b, y)] = [(a, x), (b, y), (c, z)] := by
  show (if a = c then [(a, z), (b, y)] else (a, x) :: putF c z [(b, y)]) = _
  rw [if_neg h, put2 h2]
theorem k_index (K : PySem.W.Frag) {X : Cx} (h : X.K = K := by rfl) : MtR X "list.index" (rIndex K) := h ▸ mt_index
theorem r_index {K : PySem.W.Frag} {H : Hp} {Q : VK} {a : Addr} {ys : List V} {y z : V} {j : Nat} (h : SqL K H a ys) (f : flatV y = true) (g : ys.all flatV = true) (e : ys[j]? = some z) (e2 : eqV z y = true) (no : ∀ (m : Nat) (z' : V), m < j → ys[m]? = some z' → eqV z' y = false) (q : Q (.int (j : Nat)) H) : rIndex K (.ref a) [y] H Q :=
  ⟨a, ys, y, j, z, rfl, rfl, h, f, g, e, e2, no, q⟩
theorem put2_1 {a b : Str} {x y z : V} : putF a y [(a, x), (b, z)] = [(a, y), (b, z)] := by
  show (if a = a then _ else _) = _
  rw [if_pos rfl]
theorem put2_2 {a b : Str} {x y z : V} (h : ¬ a = b) : putF b y [(a, x), (b, z)] = [(a, x), (b, y)] := by
  show (if a = b then _ else (a, x) :: (if b = b then _ else _)) = _
  rw [if_neg h, if_pos rfl]
theorem put3_3 {a b c : Str} {x y z u : V} (h : ¬ a = c) (h2 : ¬ b = c) : putF c u [(a, x), (b, y), (c, z)] = [(a, x), (b, y), (c, u)] := by
  show (if a = c then _ else (a, x) :: (if b = c then _ else (b, y) :: (if c = c then _ else _))) = _
  rw [if_neg h, if_neg h2, if_pos rfl]
def rInsertV : V → List V → Hp → VK → Prop := fun x vs H Q => ∃ (l : Addr) (xs : List V) (i : Int) (y : V), x = .ref l ∧ vs = [.int i, y] ∧ H l = some (.lst xs) ∧ xs.length < sizeLine ∧ 0 ≤ i ∧ i < 2 ^ 63 ∧ Q .non (upd H l (.lst (xs.take i.toNat ++ [y] ++ xs.drop i.toNat)))
theorem mt_insertV {X : Cx} : MtR X "list.insert" rInsertV := mt_insert
theorem r_insert {H : Hp} {Q : VK} {l : Addr} {xs : List V} {i : Nat} {y : V} (h : H l = some (.lst xs)) (z : xs.length ≤ 100000) (iz : i ≤ 100000) (q : Q .non (upd H l (.lst (xs.take i ++ [y] ++ xs.drop i)))) : rInsertV (.ref l) [.int ((i : Nat) : Int), y] H Q :=
  ⟨l, xs, _, y, rfl, rfl, h, szl z, by omega, by omega, by rw [Int.toNat_natCast]; exact q⟩
theorem r_pop {H : Hp} {Q : VK} {l : Addr} {xs : List V} {y : V} (h : H l = some (.lst (xs ++ [y]))) (q : Q y (upd H l (.lst xs))) : rPop (.ref l) [] H Q := by
  refine ⟨l, xs ++ [y], y, rfl, rfl, h, ?_, ?_⟩
  · rw [List.length_append, List.length_singleton, Nat.add_sub_cancel, List.getElem?_append_right (Nat.le_refl _), Nat.sub_self]; rfl
  · rw [List.dropLast_concat]; exact q
end Lx

namespace Lz
open PySem PySem.Spec PyProof.Rows PySem.Calls
theorem gne {a lo b : Nat} (h : a < lo) (h2 : lo ≤ b) : b ≠ a := by omega
/-! ### the iterator of reversed(list), drawn by zip -/
section
variable {prog : Program} {w : World} {A : Around} {E : Value → Shared → Prop} {s : Shared}
theorem nextOf_rev_item {it l : Addr} {i : Nat} {items : Array Value} {x : Value} {Q : Value → Shared → Prop} (hit : s.heap.IsRevIter it l (i : Int)) (hl : s.heap.IsList l items) (hx : items[i]? = some x)
    (hQ : ∀ h', h'.IsRevIter it l ((i : Int) - 1) → Heap.SameBut it s.heap h' → Q x { s with heap := h' }) : wpAny (model prog w) A (Builtin.SmallTypes.nextOf (.ref it)) Q E s := by
  obtain ⟨o, ho, hc, hd⟩ := id hit
  obtain ⟨ol, hol, _, nl, hdl⟩ := hl
  unfold Builtin.SmallTypes.nextOf
  refine wpAny_bind (wpAny_callSpecial?_slot (name := Str.ofString "__next__") hit.typeIs F.slot_lri_next
    (wpAny_call_entry F.slot_lri_next hit.typeIs F.entry_lri_next ?_ (F.args_lri_next_1 _)))
  unfold Builtin.«list_reverseiterator.__next__»
  refine wpAny_bind (wpAny_of_eq (a := (Value.ref it, [])) rfl ?_)
  try dsimp only
  refine wpAny_bind (wpAny_field ho hd (x := rawInt (i : Int)) rfl ?_)
  show wpAny _ _ (if (i : Int) < 0 then _ else _) _ _ s
  rw [if_neg (by omega)]
  show wpAny _ _ (field (.ref it) 0 >>= _) _ _ s
  refine wpAny_bind (wpAny_field ho hd (x := .ref l) rfl ?_)
  show wpAny _ _ (seqItems? (.ref l) >>= _) _ _ s
  refine wpAny_bind (wpAny_seqItems hol hdl ?_)
  simp only [Int.toNat_natCast, hx]
  refine wpAny_bind (wpAny_setField ho hd (by simp) ?_)
  first
  | refine wpAny_pure ⟨x, rfl, wpAny_pure (hQ _ ?_ (Heap.SameBut.update ..))⟩
  | refine wpAny_bind (wpAny_pure (wpAny_pure ⟨x, rfl, wpAny_pure (hQ _ ?_ (Heap.SameBut.update ..))⟩))
  exact ⟨_, Heap.get?_update_self _ ho (Obj.isFreed_of_fields (Obj.data_mapFields hd _)), (Obj.cls_mapFields ..).trans hc, by
    rw [Obj.data_mapFields hd]; simp⟩
theorem nextOf_rev_end {it l : Addr} {Q : Value → Shared → Prop} (hh : A.handled = none) (hit : s.heap.IsRevIter it l (-1))
    (hE : ∀ h' e, Heap.ExtBut it s.heap h' → (∃ o, h'.get? e = some o ∧ o.cls = .type "StopIteration") → E (.ref e) { s with heap := h' }) : wpAny (model prog w) A (Builtin.SmallTypes.nextOf (.ref it)) Q E s := by
  obtain ⟨o, ho, hc, hd⟩ := id hit
  unfold Builtin.SmallTypes.nextOf
  refine wpAny_bind (wpAny_callSpecial?_slot (name := Str.ofString "__next__") hit.typeIs F.slot_lri_next
    (wpAny_call_entry F.slot_lri_next hit.typeIs F.entry_lri_next ?_ (F.args_lri_next_1 _)))
  unfold Builtin.«list_reverseiterator.__next__»
  refine wpAny_bind (wpAny_of_eq (a := (Value.ref it, [])) rfl ?_)
  try dsimp only
  refine wpAny_bind (wpAny_field ho hd (x := rawInt (-1)) rfl ?_)
  show wpAny _ _ (if (-1 : Int) < 0 then _ else _) _ _ s
  rw [if_pos (by decide)]
  refine wpAny_bind (wpAny_rule ?_)
  first
  | show wpAny _ _ (newExc (.type "StopIteration") [] >>= _) _ _ _
  | (refine wpAny_bind ?_; show wpAny _ _ (newExc (.type "StopIteration") [] >>= _) _ _ _)
  refine wpAny_bind ?_
  simp only [newExc, newTuple]
  refine wpAny_bind (wpAny_newObj_type ?_ (by size_fits))
  refine wpAny_bind (m := firstArgMember _ _) (wpAny_of_eq (a := Value.none) (by first | rfl | (simp only [firstArgMember]; rfl)) ?_)
  refine wpAny_newObj_type ?_ (by size_fits)
  simp only [raiseNew]
  refine wpAny_bind (wpAny_handled ?_)
  first | rw [show A.in1.handled = none from hh] | rw [hh]
  refine wpAny_bind (wpAny_pure (wpAny_throw ?_))
  exact hE _ _ (((Heap.ExtBut.refl _ _).push _).push _) ⟨_, Heap.get?_push_size _ rfl, rfl⟩
end
theorem drawsRev {prog : Program} {w : World} {A : Around} (hh : A.handled = none) (it l : Addr) (hne : l ≠ it) (items : Array Value) :
    Draws prog w A it [it, l] items.size (fun i v => items[items.size - 1 - i]? = some v) (fun i h => i ≤ items.size ∧ h.IsRevIter it l ((items.size : Int) - 1 - (i : Int)) ∧ h.IsList l items) where
  live := fun _ _ st => let ⟨o, ho, _⟩ := st.2.1; ⟨o, ho⟩
  frame := fun _ _ _ st hk => ⟨st.1, st.2.1.at fun o e => hk it (by simp) o e, st.2.2.at fun o e => hk l (by simp) o e⟩
  item := fun i s Q E hi x hQ => by
    have e : (items.size : Int) - 1 - (i : Int) = ((items.size - 1 - i : Nat) : Int) := by omega
    have hit := x.2.1
    rw [e] at hit
    have hx : items[items.size - 1 - i]? = some (items[items.size - 1 - i]'(by omega)) := Array.getElem?_eq_getElem (by omega)
    refine nextOf_rev_item hit x.2.2 hx fun h' hit' hs' => ?_
    have e2 : ((items.size - 1 - i : Nat) : Int) - 1 = (items.size : Int) - 1 - ((i + 1 : Nat) : Int) := by omega
    rw [e2] at hit'
    exact hQ _ h' s.toks hx ⟨hi, hit', x.2.2.at fun o eo => (hs'.2 l hne).trans eo⟩ hs'
  done := fun s Q E x hE => by
    have e : (items.size : Int) - 1 - (items.size : Int) = -1 := by omega
    have hit := x.2.1
    rw [e] at hit
    exact nextOf_rev_end hh hit hE
/-! ### zip's next while its last tuple is held -/
section
variable {prog : Program} {w : World} {A : Around} {E : Value → Shared → Prop} {s : Shared} {z TI TO T i1 i2 : Addr} {fp1 fp2 : List Addr} {n1 n2 i : Nat} {P1 P2 : Nat → Value → Prop} {St1 St2 : Nat → Heap → Prop} {f : Bool} {oT : Obj}
theorem heldD_item {Q : Value → Shared → Prop} (S : ZipSep2 z TI TO i1 i2 fp1 fp2) (D1 : Draws prog w A i1 fp1 n1 P1 St1) (D2 : Draws prog w A i2 fp2 n2 P2 St2)
    (hz : IsZipHeld s.heap z TI TO T f) (hT : s.heap.get? T = some oT) (hTI : IsTupOf2 s.heap TI (.ref i1) (.ref i2)) (st1 : St1 i s.heap) (st2 : St2 i s.heap) (hlt1 : i < n1) (hlt2 : i < n2)
    (hQ : ∀ x1 x2 h' tk, P1 i x1 → P2 i x2 → IsZipHeld h' z TI TO T true → St1 (i + 1) h' → St2 (i + 1) h' → IsTupOf2 h' s.heap.objs.size x1 x2 → h'.objs.size = s.heap.objs.size + 1 →
      (∀ c o, c ≠ z → c ≠ i1 → c ≠ i2 → s.heap.get? c = some o → h'.get? c = some o) → Q (.ref s.heap.objs.size) { s with heap := h', toks := tk }) :
    wpAny (model prog w) A (Builtin.«zip.__next__» ⟨[.ref z], []⟩) (fun fin s' => ∃ v, fin = .done (.ret v) ∧ Q v s') E s := by
  obtain ⟨hp, g, d, tk0, os⟩ := s
  show wpAny _ _ (field (.ref z) 2 >>= _) _ _ _
  refine wpAny_bind (wpAny_field hz rfl (x := .bool false) rfl ?_)
  show wpAny _ _ (field (.ref z) 3 >>= _) _ _ _
  refine wpAny_bind (wpAny_field hz rfl (x := .ref TI) rfl ?_)
  refine wpAny_bind (wpAny_seqItems hTI rfl ?_)
  show wpAny _ _ (Builtin.SmallTypes.ownedTupleIsFree (.ref z) >>= _) _ _ _
  refine wpAny_bind (wpAny_tupleHeld_zip hz hT fun g0 hz0 hs0 => ?_)
  replace hs0 : Heap.SameBut z hp g0 := hs0
  simp only [Bool.false_eq_true, if_false]
  refine wpAny_bind ?_
  rw [← Array.forIn_toList]
  simp only [List.forIn_cons, List.forIn_nil]
  refine wpAny_bind (wpAny_bind (wpAny_holding ?_))
  show wpAny _ _ (Builtin.SmallTypes.nextOf (.ref i1) >>= _) _ _ ⟨g0, g, d, tk0, os⟩
  refine wpAny_bind (D1.item i _ _ _ hlt1 (D1.over st1 hs0 S.zf1) fun x1 p1 tk1 hx1 sn1 hp1 => wpAny_pure ?_)
  replace hp1 : Heap.SameBut i1 g0 p1 := hp1
  refine wpAny_pure ?_
  refine wpAny_bind (wpAny_bind (wpAny_holding ?_))
  show wpAny _ _ (Builtin.SmallTypes.nextOf (.ref i2) >>= _) _ _ ⟨p1, g, d, tk1, os⟩
  refine wpAny_bind (D2.item i _ _ _ hlt2 (D2.over (D2.over st2 hs0 S.zf2) hp1 S.sep1_2) fun x2 p2 tk2 hx2 sn2 hp2 => wpAny_pure ?_)
  replace hp2 : Heap.SameBut i2 p1 p2 := hp2
  refine wpAny_pure (wpAny_pure ?_)
  show wpAny _ _ (newTuple [x1, x2] >>= _) _ _ _
  refine wpAny_bind (wpAny_newTuple ?_)
  have hsz : p2.objs.size = hp.objs.size := by rw [hp2.1, hp1.1, hs0.1]
  have hz3 : IsZipHeld p2 z TI TO T true := hp2.extBut _ _ S.zi2 (hp1.extBut _ _ S.zi1 hz0)
  have hk : ∀ c o, c ≠ z → c ≠ i1 → c ≠ i2 → hp.get? c = some o → p2.get? c = some o := fun c o c1 c2 c3 e => hp2.extBut _ _ c3 (hp1.extBut _ _ c2 (hs0.extBut _ _ c1 e))
  have j1 : St1 (i + 1) p2 := D1.over sn1 hp2 S.sep2_1
  have up : ∀ c o, p2.get? c = some o → (p2.push { cls := .type "tuple", data := .seq #[x1, x2] }).get? c = some o := fun c o e => Heap.get?_push_of_some _ e
  refine wpAny_pure ⟨_, rfl, ?_⟩
  show Q (.ref p2.objs.size) _
  have hp4 : IsTupOf2 (p2.push { cls := .type "tuple", data := .seq #[x1, x2] }) p2.objs.size x1 x2 := Heap.get?_push_size _ rfl
  have hz4 : (p2.push { cls := .type "tuple", data := .seq #[x1, x2] }).objs.size = p2.objs.size + 1 := Heap.size_push ..
  rw [hsz] at hp4 hz4 ⊢
  exact hQ x1 x2 _ tk2 hx1 hx2 (up _ _ hz3) (D1.frame _ _ _ j1 fun b _ o e => up b o e) (D2.frame _ _ _ sn2 fun b _ o e => up b o e) hp4 hz4 fun c o c1 c2 c3 e => up c o (hk c o c1 c2 c3 e)
theorem heldD_end {Q : Fin → Shared → Prop} (S : ZipSep2 z TI TO i1 i2 fp1 fp2) (D1 : Draws prog w A i1 fp1 n1 P1 St1)
    (hz : IsZipHeld s.heap z TI TO T f) (hT : s.heap.get? T = some oT) (hTI : IsTupOf2 s.heap TI (.ref i1) (.ref i2)) (st1 : St1 n1 s.heap)
    (hE : ∀ h' e, (∀ c o, c ≠ z → c ≠ i1 → s.heap.get? c = some o → h'.get? c = some o) → (∃ o, h'.get? e = some o ∧ o.cls = .type "StopIteration") → E (.ref e) { s with heap := h' }) :
    wpAny (model prog w) A (Builtin.«zip.__next__» ⟨[.ref z], []⟩) Q E s := by
  obtain ⟨hp, g, d, tk0, os⟩ := s
  show wpAny _ _ (field (.ref z) 2 >>= _) _ _ _
  refine wpAny_bind (wpAny_field hz rfl (x := .bool false) rfl ?_)
  show wpAny _ _ (field (.ref z) 3 >>= _) _ _ _
  refine wpAny_bind (wpAny_field hz rfl (x := .ref TI) rfl ?_)
  refine wpAny_bind (wpAny_seqItems hTI rfl ?_)
  show wpAny _ _ (Builtin.SmallTypes.ownedTupleIsFree (.ref z) >>= _) _ _ _
  refine wpAny_bind (wpAny_tupleHeld_zip hz hT fun g0 hz0 hs0 => ?_)
  replace hs0 : Heap.SameBut z hp g0 := hs0
  simp only [Bool.false_eq_true, if_false]
  refine wpAny_bind ?_
  rw [← Array.forIn_toList]
  simp only [List.forIn_cons, List.forIn_nil]
  refine wpAny_bind (wpAny_bind (wpAny_holding ?_))
  show wpAny _ _ (Builtin.SmallTypes.nextOf (.ref i1) >>= _) _ _ ⟨g0, g, d, tk0, os⟩
  refine wpAny_bind (D1.done _ _ _ (D1.over st1 hs0 S.zf1) fun h' e he hx => ?_)
  exact hE h' e (fun c o c1 c2 x => he c o c2 (hs0.extBut _ _ c1 x)) hx
end
/-! ### the walk of list(zip(..)) -/
/-- zip's state at turn i: free at first, later holding its last tuple; S lies apart -/
def ZSt (z TI TO i1 i2 S : Addr) (St1 St2 : Nat → Heap → Prop) (i : Nat) (h : Heap) : Prop :=
  IsTupOf2 h TI (.ref i1) (.ref i2) ∧ St1 i h ∧ St2 i h ∧ ((IsZip h z TI TO .none ∧ ∃ a b, IsTupOf2 h TO a b) ∨ ∃ T f oT, IsZipHeld h z TI TO T f ∧ h.get? T = some oT ∧ T ≠ z ∧ T ≠ i1 ∧ T ≠ i2 ∧ T ≠ S)
section
variable {prog : Program} {w : World} {A : Around} {E : Value → Shared → Prop} {s : Shared} {z TI TO i1 i2 S : Addr} {fp1 fp2 : List Addr} {n i : Nat} {P1 P2 : Nat → Value → Prop} {St1 St2 : Nat → Heap → Prop}
theorem ZSt.keep {h h' : Heap} (x : ZSt z TI TO i1 i2 S St1 St2 i h) (D1 : Draws prog w A i1 fp1 n P1 St1) (D2 : Draws prog w A i2 fp2 n P2 St2) (k : ∀ b o, b ≠ S → h.get? b = some o → h'.get? b = some o)
    (a0 : S ≠ z) (a1 : S ≠ TI) (a2 : S ≠ TO) (a3 : S ∉ fp1) (a4 : S ∉ fp2) : ZSt z TI TO i1 i2 S St1 St2 i h' := by
  obtain ⟨h1, h2, h3, h4⟩ := x
  refine ⟨k _ _ a1.symm h1, D1.frame _ _ _ h2 fun b hb o e => k b o (fun q => a3 (q ▸ hb)) e, D2.frame _ _ _ h3 fun b hb o e => k b o (fun q => a4 (q ▸ hb)) e, ?_⟩
  rcases h4 with ⟨hz, a, b, hTO⟩ | ⟨T, f, oT, hz, hT, r1, r2, r3, r4⟩
  · exact .inl ⟨k _ _ a0.symm hz, a, b, k _ _ a2.symm hTO⟩
  · exact .inr ⟨T, f, oT, k _ _ a0.symm hz, k _ _ r4 hT, r1, r2, r3, r4⟩
theorem zst_item {Q : Option Value → Shared → Prop} (Z : ZipSep2 z TI TO i1 i2 fp1 fp2) (D1 : Draws prog w A.in1 i1 fp1 n P1 St1) (D2 : Draws prog w A.in1 i2 fp2 n P2 St2) (hst : ZSt z TI TO i1 i2 S St1 St2 i s.heap) (hS : S < s.heap.objs.size) (hi : i < n)
    (lt1 : i1 < s.heap.objs.size) (lt2 : i2 < s.heap.objs.size)
    (hQ : ∀ x1 x2 h' tk, P1 i x1 → P2 i x2 → ZSt z TI TO i1 i2 S St1 St2 (i + 1) h' → IsTupOf2 h' s.heap.objs.size x1 x2 → h'.objs.size = s.heap.objs.size + 1 →
      (∀ c o, c ≠ z → c ≠ TO → c ≠ i1 → c ≠ i2 → s.heap.get? c = some o → h'.get? c = some o) → Q (some (.ref s.heap.objs.size)) { s with heap := h', toks := tk }) :
    wpAny (model prog w) A (pyNext (.ref z)) Q E s := by
  obtain ⟨hTI, h1, h2, hz⟩ := hst
  rcases hz with ⟨hz, a, b, hTO⟩ | ⟨T, f, oT, hz, hT, r1, r2, r3, r4⟩
  · have hTy : s.TypeIs (.ref z) "zip" := ⟨_, hz, rfl⟩
    have hzl : z < s.heap.objs.size := Heap.lt_size hz
    unfold pyNext
    refine wpAny_bind (wpAny_attempt (wpAny_callSpecial?_slot (name := Str.ofString "__next__") hTy F.slot_zip_next
      (wpAny_call_entry F.slot_zip_next hTy F.entry_zip_next (wpAny_mono (zipD2_next_item (Q := fun v s' => wpAny (model prog w) A (pure (some v)) Q E s') Z D1 D2 hz hTI hTO h1 h2 hi hi fun x1 x2 h' tk a1 a2 a3 a4 a5 a6 a7 a8 a9 => ?_) (fun fin s' h => h) fun e s' h => h) (F.args_zip_next_1 _))))
    refine wpAny_pure (hQ x1 x2 h' tk a1 a2 ⟨a9 _ _ Z.TIz Z.TITO Z.TIi1 Z.TIi2 hTI, a5, a6, .inr ⟨s.heap.objs.size, false, _, a3, a7, Nat.ne_of_gt hzl, Nat.ne_of_gt lt1, Nat.ne_of_gt lt2, Nat.ne_of_gt hS⟩⟩ a7 a8 a9)
  · have hTy : s.TypeIs (.ref z) "zip" := ⟨_, hz, rfl⟩
    unfold pyNext
    refine wpAny_bind (wpAny_attempt (wpAny_callSpecial?_slot (name := Str.ofString "__next__") hTy F.slot_zip_next
      (wpAny_call_entry F.slot_zip_next hTy F.entry_zip_next (wpAny_mono (heldD_item (Q := fun v s' => wpAny (model prog w) A (pure (some v)) Q E s') Z D1 D2 hz hT hTI h1 h2 hi hi fun x1 x2 h' tk a1 a2 a3 a5 a6 a7 a8 a9 => ?_) (fun fin s' h => h) fun e s' h => h) (F.args_zip_next_1 _))))
    refine wpAny_pure (hQ x1 x2 h' tk a1 a2 ⟨a9 _ _ Z.TIz Z.TIi1 Z.TIi2 hTI, a5, a6, .inr ⟨T, true, oT, a3, a9 _ _ r1 r2 r3 hT, r1, r2, r3, r4⟩⟩ a7 a8 fun c o c1 _ c2 c3 e => a9 c o c1 c2 c3 e)
theorem zst_done {Q : Option Value → Shared → Prop} (Z : ZipSep2 z TI TO i1 i2 fp1 fp2) (D1 : Draws prog w A.in1 i1 fp1 n P1 St1) (D2 : Draws prog w A.in1 i2 fp2 n P2 St2) (hst : ZSt z TI TO i1 i2 S St1 St2 n s.heap)
    (hQ : ∀ h' tk, (∀ c o, c ≠ z → c ≠ TO → c ≠ i1 → c ≠ i2 → s.heap.get? c = some o → h'.get? c = some o) → Q none { s with heap := h', toks := tk }) :
    wpAny (model prog w) A (pyNext (.ref z)) Q E s := by
  obtain ⟨hTI, h1, h2, hz⟩ := hst
  rcases hz with ⟨hz, a, b, hTO⟩ | ⟨T, f, oT, hz, hT, r1, r2, r3, r4⟩
  · have hTy : s.TypeIs (.ref z) "zip" := ⟨_, hz, rfl⟩
    unfold pyNext
    refine wpAny_bind (wpAny_attempt (wpAny_callSpecial?_slot (name := Str.ofString "__next__") hTy F.slot_zip_next
      (wpAny_call_entry F.slot_zip_next hTy F.entry_zip_next (zipD2_next_end Z D1 D2 hz hTI hTO h1 h2 (Nat.le_refl _) (Nat.le_refl _) (.inl rfl) fun h' tk e hk he => ?_) (F.args_zip_next_1 _))))
    obtain ⟨o, ho, hc⟩ := he
    refine wpAny_bind (wpAny_isInstance (T := "StopIteration") (b := true) ⟨o, ho, hc⟩ isSubtype_stop ?_)
    exact wpAny_pure (hQ _ _ hk)
  · have hTy : s.TypeIs (.ref z) "zip" := ⟨_, hz, rfl⟩
    unfold pyNext
    refine wpAny_bind (wpAny_attempt (wpAny_callSpecial?_slot (name := Str.ofString "__next__") hTy F.slot_zip_next
      (wpAny_call_entry F.slot_zip_next hTy F.entry_zip_next (heldD_end Z D1 hz hT hTI h1 fun h' e hk he => ?_) (F.args_zip_next_1 _))))
    obtain ⟨o, ho, hc⟩ := he
    refine wpAny_bind (wpAny_isInstance (T := "StopIteration") (b := true) ⟨o, ho, hc⟩ isSubtype_stop ?_)
    exact wpAny_pure (hQ _ _ fun c o c1 _ c2 _ e => hk c o c1 c2 e)
end
/-- the tuples made so far -/
structure ZG (P1 P2 : Nat → Value → Prop) (lo : Addr) (h : Heap) (as : List Addr) : Prop where
  rise : as.Pairwise (· < ·)
  above : ∀ a ∈ as, lo ≤ a
  pairs : ∀ (j : Nat) (a : Addr), as[j]? = some a → ∃ x y, P1 j x ∧ P2 j y ∧ IsTupOf2 h a x y
theorem ZG.there {P1 P2 : Nat → Value → Prop} {lo : Addr} {h : Heap} {as : List Addr} (g : ZG P1 P2 lo h as) {a : Addr} (ha : a ∈ as) : a < h.objs.size := by
  obtain ⟨j, hj⟩ := List.mem_iff_getElem?.mp ha
  obtain ⟨_, _, _, _, e⟩ := g.pairs j a hj
  exact Heap.lt_size e
section
variable {prog : Program} {w : World} {A : Around} {s : Shared} {R : Result → Shared → Prop} {z TI TO i1 i2 S lo : Addr} {fp1 fp2 : List Addr} {n : Nat} {P1 P2 : Nat → Value → Prop} {St1 St2 : Nat → Heap → Prop}
theorem zloop (Z : ZipSep2 z TI TO i1 i2 fp1 fp2) (D1 : Draws prog w A.in1.in1 i1 fp1 n P1 St1) (D2 : Draws prog w A.in1.in1 i2 fp2 n P2 St2) (hlo : z < lo ∧ TO < lo ∧ i1 < lo ∧ i2 < lo ∧ S < lo)
    (a0 : S ≠ z) (a1 : S ≠ TI) (a2 : S ≠ TO) (a3 : S ∉ fp1) (a4 : S ∉ fp2) (hn : n ≤ sizeLine) (res : Value) {h₁ : Heap}
    (hR : ∀ h' tk acc c as, (∀ b o, b ≠ S → b ≠ z → b ≠ TO → b ≠ i1 → b ≠ i2 → h₁.get? b = some o → h'.get? b = some o) → h'.get? S = some { cls := .type "list", dict := none, data := .seq acc c, slots := #[] } → as.length = n → ZG P1 P2 lo h' as →
      acc.toList = as.map Value.ref → R (.ok (.ret res)) { s with heap := h', toks := tk }) :
    ∀ (k i : Nat) (h : Heap) (tk c : Nat) (acc : Array Value) (as : List Addr), n - i = k → i ≤ n → ZSt z TI TO i1 i2 S St1 St2 i h → (∀ b o, b ≠ S → b ≠ z → b ≠ TO → b ≠ i1 → b ≠ i2 → h₁.get? b = some o → h.get? b = some o) →
      h.get? S = some { cls := .type "list", dict := none, data := .seq acc c, slots := #[] } → acc.toList = as.map Value.ref → as.length = i → ZG P1 P2 lo h as → lo ≤ h.objs.size →
      codeAny (model prog w) A (.builtin "list.extend.loop" ⟨[.ref S, .ref z, res], []⟩) R { s with heap := h, toks := tk } := by
  obtain ⟨l0, l1, l2, l3, l4⟩ := hlo
  have Si1 : S ≠ i1 := fun e => a3 (e ▸ Z.mem1)
  have Si2 : S ≠ i2 := fun e => a4 (e ▸ Z.mem2)
  intro k
  induction k with
  | zero =>
    intro i h tk c acc as hk hi hst hkeep hS hacc hal hG hIs
    have hin : i = n := by omega
    subst hin
    refine codeAny_builtin PySem.F.entry_extend_loop ?_
    rw [Around.under_plainId PySem.F.plain_extend_loop _]
    show wpAny _ A.in1 (pyNext (.ref z) >>= _) _ _ _
    refine wpAny_bind (zst_done (s := { s with heap := h, toks := tk }) (A := A.in1) Z D1 D2 hst fun h' tk' he => ?_)
    refine wpAny_pure (hR h' tk' acc c as (fun b o h0 h1 h2 h3 h4 e => he b o h1 h2 h3 h4 (hkeep b o h0 h1 h2 h3 h4 e)) (he S _ a0 a2 Si1 Si2 hS) (by omega) ⟨hG.rise, hG.above, fun j a hj => ?_⟩ hacc)
    obtain ⟨x, y, e1, e2, e3⟩ := hG.pairs j a hj
    have la := hG.above a (List.mem_of_getElem? hj)
    exact ⟨x, y, e1, e2, he a _ (gne l0 la) (gne l1 la) (gne l2 la) (gne l3 la) e3⟩
  | succ k ih =>
    intro i h tk c acc as hk hi hst hkeep hS hacc hal hG hIs
    have hlt : i < n := by omega
    have hsz : acc.size = i := by rw [← Array.length_toList, hacc, List.length_map, hal]
    refine codeAny_builtin PySem.F.entry_extend_loop ?_
    rw [Around.under_plainId PySem.F.plain_extend_loop _]
    show wpAny _ A.in1 (pyNext (.ref z) >>= _) _ _ _
    have hSl : S < h.objs.size := Heap.lt_size hS
    refine wpAny_bind (zst_item (s := { s with heap := h, toks := tk }) (S := S) (A := A.in1) Z D1 D2 hst hSl hlt (Nat.lt_of_lt_of_le l2 hIs) (Nat.lt_of_lt_of_le l3 hIs) fun x1 x2 h' tk' p1 p2 hst' ht hz hkp => ?_)
    dsimp only at ht hz hkp ⊢
    have hS' := hkp S _ a0 a2 Si1 Si2 hS
    have up : ∀ b o, b ≠ S → h'.get? b = some o → (h'.update S (Obj.mapSeq (·.push (Value.ref h.objs.size)))).get? b = some o := fun b o hb e => (Heap.get?_update_other _ _ (Ne.symm hb)).trans e
    show wpAny _ A.in1 (updateSeq S (·.push (Value.ref h.objs.size)) >>= _) _ _ _
    refine wpAny_bind ?_
    refine wpAny_updateSeq hS' rfl (wpAny_pure ⟨plainId_quiet PySem.F.plain_extend_loop _, ih (i + 1) _ tk' _ (acc.push (Value.ref h.objs.size)) (as ++ [h.objs.size]) (by omega) hlt (hst'.keep D1 D2 up a0 a1 a2 a3 a4)
      (fun b o h0 h1 h2 h3 h4 e => up b o h0 (hkp b o h1 h2 h3 h4 (hkeep b o h0 h1 h2 h3 h4 e))) (Heap.get?_update_self _ hS' rfl) (by rw [Array.toList_push, hacc, List.map_append]; rfl) (by rw [List.length_append, hal]; rfl) ⟨?_, ?_, ?_⟩ ?_⟩) (by rw [hsz]; omega) (by show (acc.push (Value.ref h.objs.size)).size ≤ sizeLine + 1; rw [Array.size_push, hsz]; omega)
    · refine List.pairwise_append.mpr ⟨hG.rise, List.pairwise_singleton _ _, fun a ha b hb => ?_⟩
      rw [List.mem_singleton.mp hb]
      exact hG.there ha
    · intro a ha
      rcases List.mem_append.mp ha with ha | ha
      · exact hG.above a ha
      · rw [List.mem_singleton.mp ha]; exact hIs
    · intro j b hj
      rcases Nat.lt_trichotomy j as.length with h1 | h1 | h1
      · rw [List.getElem?_append_left h1] at hj
        obtain ⟨x, y, e1, e2, e3⟩ := hG.pairs j b hj
        have hb := hG.above b (List.mem_of_getElem? hj)
        exact ⟨x, y, e1, e2, up b _ (gne l4 hb) (hkp b _ (gne l0 hb) (gne l1 hb) (gne l2 hb) (gne l3 hb) e3)⟩
      · subst h1
        have hb : h.objs.size = b := by simpa using hj
        subst hb
        exact ⟨x1, x2, by rw [hal]; exact p1, by rw [hal]; exact p2, up _ _ (Nat.ne_of_gt hSl) ht⟩
      · have hnone : (as ++ [h.objs.size])[j]? = none := List.getElem?_eq_none (by rw [List.length_append, List.length_singleton]; omega)
        rw [hnone] at hj; cases hj
    · have e : (h'.update S (Obj.mapSeq (·.push (Value.ref h.objs.size)))).get? h.objs.size = _ := up _ _ (Nat.ne_of_gt hSl) ht
      exact Nat.le_trans hIs (Nat.le_of_lt (Heap.lt_size e))
theorem zip_no_len : typeLookup (.type "zip") "__len__" = pure none := am_miss_of_fast (by decide +kernel)
theorem zip_no_hint : typeLookup (.type "zip") "__length_hint__" = pure none := am_miss_of_fast (by decide +kernel)
theorem zextend (Z : ZipSep2 z TI TO i1 i2 fp1 fp2) (D1 : Draws prog w A.in1.in1 i1 fp1 n P1 St1) (D2 : Draws prog w A.in1.in1 i2 fp2 n P2 St2) (hlo : z < lo ∧ TO < lo ∧ i1 < lo ∧ i2 < lo ∧ S < lo)
    (a0 : S ≠ z) (a1 : S ≠ TI) (a2 : S ≠ TO) (a3 : S ∉ fp1) (a4 : S ∉ fp2) (hn : n ≤ sizeLine) (res : Value) (hst : ZSt z TI TO i1 i2 S St1 St2 0 s.heap) (hz : IsZip s.heap z TI TO .none) (c₀ : Nat) (hS : s.heap.get? S = some { cls := .type "list", data := .seq #[] c₀ }) (hlo2 : lo ≤ s.heap.objs.size)
    (hR : ∀ h' tk acc c as, (∀ b o, b ≠ S → b ≠ z → b ≠ TO → b ≠ i1 → b ≠ i2 → s.heap.get? b = some o → h'.get? b = some o) → h'.get? S = some { cls := .type "list", dict := none, data := .seq acc c, slots := #[] } → as.length = n → ZG P1 P2 lo h' as →
      acc.toList = as.map Value.ref → R (.ok (.ret res)) { s with heap := h', toks := tk }) :
    wpAny (model prog w) A.in1 (Builtin.List.listExtendWith (.ref S) (.ref z) res)
      (fun fin s' => match fin with | .done f => R (.ok f) s' | .again c' => c'.quiet = true ∧ codeAny (model prog w) A c' R s') (fun e s' => R (.error e) s') s := by
  have hT : s.TypeIs (.ref z) "zip" := ⟨_, hz, rfl⟩
  unfold Builtin.List.listExtendWith
  refine wpAny_bind (wpAny_typeOf (T := "zip") hT ?_)
  have h1 : Builtin.List.listSameRef (.ref S) (.ref z) = false := by simp [Builtin.List.listSameRef, a0]
  have h2 : (Value.type "zip" == Value.type "list") = false := by decide
  have h3 : (Value.type "zip" == Value.type "tuple") = false := by decide
  simp only [h1, h2, h3, Bool.or_false, Bool.false_eq_true, if_false]
  refine wpAny_bind (wpAny_pyIter_zip hz ?_)
  refine wpAny_bind (wpAny_holding ?_)
  unfold Builtin.List.listLengthHint
  refine wpAny_bind (wpAny_specialOf hT zip_no_len ?_)
  show wpAny _ A.in1 (specialOf (Value.ref z) (Str.ofString "__length_hint__") >>= _) _ _ _
  refine wpAny_bind (wpAny_specialOf hT zip_no_hint ?_)
  refine wpAny_pure ?_
  show wpAny _ A.in1 (rule "list.extend.makes-room" >>= fun _ => Builtin.List.listTouch (.ref S) >>= fun _ =>
    again (.builtin "list.extend.loop" ⟨[.ref S, .ref z, res], []⟩)) _ _ _
  refine wpAny_bind (wpAny_rule ?_)
  refine wpAny_bind ?_
  show wpAny _ _ (updateSeq S (·.push .none) >>= fun _ => updateSeq S (·.pop)) _ _ _
  refine wpAny_bind (wpAny_updateSeq hS rfl ?_)
  have hS₂ := Heap.get?_update_self (Obj.mapSeq (·.push Value.none)) hS rfl
  refine wpAny_updateSeq (hz := by seq_fits) hS₂ rfl ?_
  have hS₃ := Heap.get?_update_self (Obj.mapSeq (·.pop)) hS₂ rfl
  have oth : ∀ b o, b ≠ S → s.heap.get? b = some o → ((s.heap.update S (Obj.mapSeq (·.push Value.none))).update S (Obj.mapSeq (·.pop))).get? b = some o := fun b o hb e => (Heap.get?_update_other _ _ (Ne.symm hb)).trans ((Heap.get?_update_other _ _ (Ne.symm hb)).trans e)
  refine wpAny_pure ⟨plainId_quiet PySem.F.plain_extend_loop _, ?_⟩
  refine zloop (s := s) (h₁ := s.heap) Z D1 D2 hlo a0 a1 a2 a3 a4 hn res hR n 0 _ s.toks _ #[] [] rfl (Nat.zero_le _) (hst.keep D1 D2 oth a0 a1 a2 a3 a4) (fun b o hb _ _ _ _ e => oth b o hb e) hS₃ rfl rfl ⟨List.Pairwise.nil, (fun _ ha => nomatch ha), (fun j a hj => by simp at hj)⟩ ?_
  rw [Heap.size_update, Heap.size_update]
  exact hlo2
theorem zinit (Z : ZipSep2 z TI TO i1 i2 fp1 fp2) (D1 : Draws prog w A.in1.in1 i1 fp1 n P1 St1) (D2 : Draws prog w A.in1.in1 i2 fp2 n P2 St2) (hlo : z < lo ∧ TO < lo ∧ i1 < lo ∧ i2 < lo ∧ S < lo)
    (a0 : S ≠ z) (a1 : S ≠ TI) (a2 : S ≠ TO) (a3 : S ∉ fp1) (a4 : S ∉ fp2) (hn : n ≤ sizeLine) (hst : ZSt z TI TO i1 i2 S St1 St2 0 s.heap) (hz : IsZip s.heap z TI TO .none) (hS : s.heap.get? S = some { cls := .type "list", data := .seq #[] }) (hlo2 : lo ≤ s.heap.objs.size)
    (hR : ∀ h' tk acc c as, (∀ b o, b ≠ S → b ≠ z → b ≠ TO → b ≠ i1 → b ≠ i2 → s.heap.get? b = some o → h'.get? b = some o) → h'.get? S = some { cls := .type "list", dict := none, data := .seq acc c, slots := #[] } → as.length = n → ZG P1 P2 lo h' as →
      acc.toList = as.map Value.ref → R (.ok (.ret .none)) { s with heap := h', toks := tk }) :
    wpAny (model prog w) A.in1 (Builtin.«list.__init__» ⟨[.ref S, .ref z], []⟩)
      (fun fin s' => match fin with | .done f => R (.ok f) s' | .again c' => c'.quiet = true ∧ codeAny (model prog w) A c' R s') (fun e s' => R (.error e) s') s := by
  show wpAny _ _ (do let old ← Builtin.List.listItems (.ref S); Builtin.List.listUpdate (.ref S) (fun _ => #[]); letGo old.toList.reverse; Builtin.List.listExtendWith (.ref S) (.ref z) .none) _ _ s
  refine wpAny_bind ?_
  unfold Builtin.List.listItems
  refine wpAny_bind (wpAny_seqItems hS rfl (wpAny_pure ?_))
  show wpAny _ _ (updateSeq S (fun _ => #[]) >>= fun _ => letGo (#[] : Array Value).toList.reverse >>= fun _ => Builtin.List.listExtendWith (.ref S) (.ref z) .none) _ _ s
  refine wpAny_bind (wpAny_updateSeq hS rfl ?_)
  have hS₂ := Heap.get?_update_self (Obj.mapSeq (fun _ => (#[] : Array Value))) hS rfl
  have oth : ∀ b o, b ≠ S → s.heap.get? b = some o → (s.heap.update S (Obj.mapSeq (fun _ => (#[] : Array Value)))).get? b = some o :=
    fun b o hb e => (Heap.get?_update_other _ _ (Ne.symm hb)).trans e
  refine wpAny_bind (wpAny_letGo ?_)
  refine zextend (s := { s with heap := s.heap.update S (Obj.mapSeq (fun _ => (#[] : Array Value))) }) Z D1 D2 hlo a0 a1 a2 a3 a4 hn .none (hst.keep D1 D2 oth a0 a1 a2 a3 a4) (oth _ _ a0.symm hz) _ hS₂ (by show lo ≤ (s.heap.update S _).objs.size; rw [Heap.size_update]; exact hlo2) fun h' tk acc c as hk hS' hl hG hacc => ?_
  exact hR h' tk acc c as (fun b o h0 h1 h2 h3 h4 e => hk b o h0 h1 h2 h3 h4 (oth b o h0 e)) hS' hl hG hacc
end
section
variable {prog : Program} {w : World} {A : Around} {E : Value → Shared → Prop} {s : Shared} {z TI TO i1 i2 : Addr} {fp1 fp2 : List Addr} {n : Nat} {P1 P2 : Nat → Value → Prop} {St1 St2 : Nat → Heap → Prop}
/-- list(z), z a new zip object over two iterators with n items each -/
theorem zcall {Q : Value → Shared → Prop} (Z : ZipSep2 z TI TO i1 i2 fp1 fp2) (D1 : Draws prog w A.in1.in1.in1 i1 fp1 n P1 St1) (D2 : Draws prog w A.in1.in1.in1 i2 fp2 n P2 St2) (lt : z < s.heap.objs.size ∧ TO < s.heap.objs.size ∧ i1 < s.heap.objs.size ∧ i2 < s.heap.objs.size ∧ TI < s.heap.objs.size)
    (hf1 : ∀ b ∈ fp1, b < s.heap.objs.size) (hf2 : ∀ b ∈ fp2, b < s.heap.objs.size) (hn : n ≤ sizeLine) (hTI : IsTupOf2 s.heap TI (.ref i1) (.ref i2)) (st1 : St1 0 s.heap) (st2 : St2 0 s.heap) (hz : IsZip s.heap z TI TO .none) (hTO : ∃ a b, IsTupOf2 s.heap TO a b)
    (hQ : ∀ h' tk acc c as, (∀ b o, b ≠ z → b ≠ TO → b ≠ i1 → b ≠ i2 → s.heap.get? b = some o → h'.get? b = some o) → h'.get? s.heap.objs.size = some { cls := .type "list", dict := none, data := .seq acc c, slots := #[] } → as.length = n → ZG P1 P2 (s.heap.objs.size + 1) h' as →
      acc.toList = as.map Value.ref → Q (.ref s.heap.objs.size) { s with heap := h', toks := tk }) :
    wpAny (model prog w) A (call (.type "list") [.ref z]) Q E s := by
  obtain ⟨l0, l1, l2, l3, l4⟩ := lt
  refine callType_codes (Q₁ := fun obj s₁ => obj = .ref s.heap.objs.size ∧ s₁ = { s with heap := s.heap.push { cls := .type "list", data := .seq #[] } }) PySem.F.called_list (PySem.F.typeCall_list_1 _) PySem.F.entry_list_init
    (code_list_new _ ⟨rfl, rfl⟩) fun obj s₁ h₁ => ?_
  obtain ⟨rfl, rfl⟩ := h₁
  have hS : (s.heap.push { cls := .type "list", data := .seq #[] }).get? s.heap.objs.size = some { cls := .type "list", data := .seq #[] } := Heap.get?_push_size _ rfl
  have up : ∀ b o, s.heap.get? b = some o → (s.heap.push { cls := .type "list", data := .seq #[] }).get? b = some o := fun b o e => Heap.get?_push_of_some _ e
  obtain ⟨a, b, hTO⟩ := hTO
  refine ⟨⟨_, hS, rfl⟩, PySem.F.args_list_init_2 _ _, zinit (A := A.in1) (lo := s.heap.objs.size + 1) Z D1 D2 ⟨Nat.lt_succ_of_lt l0, Nat.lt_succ_of_lt l1, Nat.lt_succ_of_lt l2, Nat.lt_succ_of_lt l3, Nat.lt_succ_self _⟩ (Nat.ne_of_gt l0) (Nat.ne_of_gt l4) (Nat.ne_of_gt l1) (fun h => Nat.lt_irrefl _ (hf1 _ h)) (fun h => Nat.lt_irrefl _ (hf2 _ h)) hn
    ⟨up _ _ hTI, D1.frame _ _ _ st1 fun b _ o e => up b o e, D2.frame _ _ _ st2 fun b _ o e => up b o e, .inl ⟨up _ _ hz, a, b, up _ _ hTO⟩⟩ (up _ _ hz) hS (by show s.heap.objs.size + 1 ≤ (s.heap.push _).objs.size; rw [Heap.size_push]; exact Nat.le_refl _) fun h' tk acc c as hk hS' hl hG hacc => ?_⟩
  exact ⟨rfl, hQ h' tk acc c as (fun b o h1 h2 h3 h4 e => hk b o (Nat.ne_of_lt (Heap.lt_size e)) h1 h2 h3 h4 (up b o e)) hS' hl hG hacc⟩
end
end Lz

namespace PySem
open PySem.Spec PyProof.Rows PySem.Calls
abbrev rzT (h : Heap) (o1 : Obj) (r : Addr) : Heap := (h.push o1).push { cls := .type "tuple", data := .seq #[.ref h.objs.size, .ref r] }
abbrev rzO (h : Heap) (o1 : Obj) (r : Addr) : Heap := (rzT h o1 r).push { cls := .type "tuple", data := .seq #[.none, .none] }
abbrev rzZ (h : Heap) (o1 : Obj) (r : Addr) : Heap := (rzO h o1 r).push { cls := .type "zip", data := .fields #[.none, .bool false, .bool false, .ref (h.push o1).objs.size, .ref (rzT h o1 r).objs.size] }
theorem meets_zip_newR {v1 : Value} {r l2 : Addr} {k : Int} {o1 : Obj} {H1 : Heap → Prop} (B1 : Begins v1 o1 H1) :
    Meets (Builtin.«zip.__new__» ⟨[.type "zip", v1, .ref r], []⟩) (fun _ R s => (H1 s.heap ∧ s.heap.IsRevIter r l2 k) ∧
      R (.ok (.ret (.ref (rzO s.heap o1 r).objs.size))) { s with heap := rzZ s.heap o1 r }) :=
  .of_wp fun prog w A R s h => by
    obtain ⟨hp, g, d, tk, os⟩ := s; obtain ⟨⟨h1, h2⟩, h⟩ := h
    have hsub := sub_zip
    have q1 : ∀ {A' : Around} {E : Value → Shared → Prop} {Q : Value → Shared → Prop}, Q (.ref hp.objs.size) ⟨(hp.push o1), g, d, tk, os⟩ → wpAny (model prog w) A' (pyIter v1) Q E ⟨hp, g, d, tk, os⟩ :=
      fun q => B1.iter prog w _ _ ⟨hp, g, d, tk, os⟩ _ (B1.keeps _ _ h1 fun b o' e => e) q
    have q2 : ∀ {A' : Around} {E : Value → Shared → Prop} {Q : Value → Shared → Prop}, Q (.ref r) ⟨(hp.push o1), g, d, tk, os⟩ → wpAny (model prog w) A' (pyIter (.ref r)) Q E ⟨(hp.push o1), g, d, tk, os⟩ :=
      fun q => wpAny_pyIter_revIter (s := ⟨(hp.push o1), g, d, tk, os⟩) (l := l2) (i := k) (h2.at fun o e => Heap.get?_push_of_some _ e) q
    wp_walk using q1, q2
    exact ⟨_, rfl, h⟩
section
variable {prog : Program} {w : World} {A : Around} {E : Value → Shared → Prop} {s : Shared}
theorem zip_beginsR {v1 : Value} {r l2 : Addr} {k : Int} {o1 : Obj} {H1 : Heap → Prop} {Q : Value → Shared → Prop} (B1 : Begins v1 o1 H1) (h1 : H1 s.heap) (h2 : s.heap.IsRevIter r l2 k)
    (h : ∀ h', IsZip h' (s.heap.objs.size + 3) (s.heap.objs.size + 1) (s.heap.objs.size + 2) .none → IsTupOf2 h' (s.heap.objs.size + 1) (.ref s.heap.objs.size) (.ref r) →
      IsTupOf2 h' (s.heap.objs.size + 2) .none .none → h'.get? s.heap.objs.size = some o1 → h'.objs.size = s.heap.objs.size + 4 →
      (∀ c o, s.heap.get? c = some o → h'.get? c = some o) → Q (.ref (s.heap.objs.size + 3)) { s with heap := h' }) :
    wpAny (model prog w) A (call (.type "zip") [v1, .ref r]) Q E s := by
  refine callType_new F.called_zip (by decide) (F.typeCall_zip_2 _ _) (F.newCall_zip_2 _ _) (fun obj => F.args_object_init_3 obj _ _) F.entry_zip_new
    (meets_zip_newR (k := k) B1) ⟨⟨h1, h2⟩, ?_⟩
  have z1 : (s.heap.push o1).objs.size = s.heap.objs.size + 1 := by rw [Heap.size_push]
  have zT : (rzT s.heap o1 r).objs.size = s.heap.objs.size + 2 := by rw [Heap.size_push, z1]
  have zO : (rzO s.heap o1 r).objs.size = s.heap.objs.size + 3 := by rw [Heap.size_push, zT]
  have zZ : (rzZ s.heap o1 r).objs.size = s.heap.objs.size + 4 := by rw [Heap.size_push, zO]
  have gZ : (rzZ s.heap o1 r).get? (rzO s.heap o1 r).objs.size = some { cls := .type "zip", data := .fields #[.none, .bool false, .bool false, .ref (s.heap.push o1).objs.size, .ref (rzT s.heap o1 r).objs.size] } := Heap.get?_push_size _ rfl
  have gO : (rzZ s.heap o1 r).get? (rzT s.heap o1 r).objs.size = some { cls := .type "tuple", data := .seq #[.none, .none] } := Heap.get?_push_of_some _ (Heap.get?_push_size _ rfl)
  have gT : (rzZ s.heap o1 r).get? (s.heap.push o1).objs.size = some { cls := .type "tuple", data := .seq #[.ref s.heap.objs.size, .ref r] } := Heap.get?_push_of_some _ (Heap.get?_push_of_some _ (Heap.get?_push_size _ rfl))
  have g1 : (rzZ s.heap o1 r).get? s.heap.objs.size = some o1 := Heap.get?_push_of_some _ (Heap.get?_push_of_some _ (Heap.get?_push_of_some _ (Heap.get?_push_size _ B1.free)))
  rw [zO, zT, z1] at gZ
  rw [zT] at gO
  rw [z1] at gT
  show _ ∧ _
  rw [zO]
  exact ⟨⟨_, gZ, rfl⟩, h _ gZ gT gO g1 zZ fun c o e => Heap.get?_push_of_some _ (Heap.get?_push_of_some _ (Heap.get?_push_of_some _ (Heap.get?_push_of_some _ e)))⟩
end
end PySem
namespace Lx
open PySem PySem.Spec PyProof.Rows L2
/-- the tuples tracked at their addresses -/
def putP : Hp → List Addr → List (V × V) → Hp
  | H, a :: as, p :: ps => putP (upd H a (.tup [p.1, p.2])) as ps
  | H, _, _ => H
theorem putP_off {b : Addr} : ∀ (as : List Addr) (ps : List (V × V)) (H : Hp), b ∉ as → putP H as ps b = H b
  | [], _, _, _ => rfl
  | _ :: _, [], _, _ => rfl
  | a :: as, p :: ps, H, h => by
    show putP (upd H a (.tup [p.1, p.2])) as ps b = H b
    rw [putP_off as ps _ (fun z => h (List.mem_cons_of_mem _ z)), upd_ne (fun z => h (by rw [z]; exact List.mem_cons_self))]
theorem putP_at : ∀ (as : List Addr) (ps : List (V × V)) (H : Hp), as.length = ps.length → as.Nodup → ∀ (i : Nat) (t : Addr) (p : V × V), as[i]? = some t → ps[i]? = some p → putP H as ps t = some (.tup [p.1, p.2])
  | [], _, _, _, _, i, t, p, h, _ => by simp at h
  | _ :: _, [], _, h, _, _, _, _, _, _ => by cases h
  | a :: as, q :: ps, H, h, hn, i, t, p, h1, h2 => by
    have hn' := List.nodup_cons.mp hn
    cases i with
    | zero =>
      cases h1; cases h2
      show putP (upd H a (.tup [q.1, q.2])) as ps a = _
      rw [putP_off as ps _ hn'.1, upd_same]
    | succ i => exact putP_at as ps (upd H a (.tup [q.1, q.2])) (Nat.succ.inj h) hn'.2 i t p h1 h2
def tListZip (K : PySem.W.Frag) (rv : Bool) (ta : TA) : TE := fun σ H Q => ta σ H fun vs H1 => ∃ (a b : Addr) (xs ys : List V), vs = [.ref a, .ref b] ∧ SqL K H1 a xs ∧ SqL K H1 b ys ∧ xs.length = ys.length ∧
  ∀ (H' : Hp) (p : Addr) (ts : List Addr), Same H1 H' → H1 p = none → (∀ t ∈ ts, H1 t = none) → p ∉ ts → ts.Nodup → H' p = some (.lst (ts.map V.ref)) → ts.length = xs.length →
    (∀ (i : Nat) (t : Addr) (x y : V), ts[i]? = some t → xs[i]? = some x → (if rv then ys.reverse else ys)[i]? = some y → H' t = some (.tup [x, y])) → Q (.ref p) H'
section
variable {X : Cx}
theorem zip_laid {pins : List (Addr × Obj)} {σ : L2.St} {H : Hp} {s : Shared} {h' : Heap} {tk : Nat} {xs ys : List V} {us ws : List Value} {acc : Array Value} {c : Nat} {as : List Addr} {N : Addr} (I : Inv X pins σ H s) (hz : xs.length ≤ sizeLine) (r1 : Vals xs us) (r2 : Vals ys ws) (hxy : xs.length = ys.length)
    (hk : ∀ b o, s.heap.get? b = some o → h'.get? b = some o) (hN : s.heap.objs.size ≤ N) (hS : h'.get? N = some { cls := .type "list", dict := none, data := .seq acc c, slots := #[] }) (hG : Lz.ZG (fun i v => us[i]? = some v) (fun i v => ws[i]? = some v) (N + 1) h' as) (hl : as.length = xs.length) (hacc : acc.toList = as.map Value.ref) :
    ∃ H' : Hp, Same H H' ∧ H N = none ∧ (∀ t ∈ as, H t = none) ∧ N ∉ as ∧ as.Nodup ∧ H' N = some (.lst (as.map V.ref)) ∧ (∀ (i : Nat) (t : Addr) (x y : V), as[i]? = some t → xs[i]? = some x → ys[i]? = some y → H' t = some (.tup [x, y])) ∧ Inv X pins σ H' { s with heap := h', toks := tk } := by
  have hSn : N ∉ as := fun z => Nat.lt_irrefl _ (hG.above _ z)
  have nd : as.Nodup := List.Pairwise.imp (fun {a b} (h : a < b) => Nat.ne_of_lt h) hG.rise
  have new : ∀ t ∈ as, H t = none := fun t ht => I.hok.fresh (Nat.le_trans hN (Nat.le_of_lt (hG.above t ht)))
  have newS : H N = none := I.hok.fresh hN
  have lz : (xs.zip ys).length = xs.length := by rw [List.length_zip, ← hxy, Nat.min_self]
  have atP := putP_at as (xs.zip ys) (upd H N (.lst (as.map V.ref))) (by rw [lz]; exact hl) nd
  have off : ∀ b, b ∉ as → b ≠ N → putP (upd H N (.lst (as.map V.ref))) as (xs.zip ys) b = H b := fun b h1 h2 => by rw [putP_off as _ _ h1, upd_ne h2]
  have low : ∀ b o, s.heap.get? b = some o → b ∉ as ∧ b ≠ N := fun b o e => ⟨fun z => absurd (Heap.lt_size e) (Nat.not_lt.mpr (Nat.le_trans hN (Nat.le_of_lt (hG.above b z)))), Nat.ne_of_lt (Nat.lt_of_lt_of_le (Heap.lt_size e) hN)⟩
  have kp : ∀ b u, H b = some u → (putP (upd H N (.lst (as.map V.ref))) as (xs.zip ys)) b = some u := fun b u e => by
    rw [off b (fun z => by rw [new b z] at e; cases e) (fun z => by rw [z, newS] at e; cases e)]
    exact e
  have eS : putP (upd H N (.lst (as.map V.ref))) as (xs.zip ys) N = some (.lst (as.map V.ref)) := by rw [putP_off as _ _ hSn, upd_same]
  have zget : ∀ (i : Nat) (x y : V), xs[i]? = some x → ys[i]? = some y → (xs.zip ys)[i]? = some (x, y) := fun i x y e1 e2 => by
    rw [List.getElem?_zip_eq_some]
    exact ⟨e1, e2⟩
  refine ⟨putP (upd H N (.lst (as.map V.ref))) as (xs.zip ys), kp, newS, new, hSn, nd, eS, fun i t x y e1 e2 e3 => atP i t (x, y) e1 (zget i x y e2 e3), ?_⟩
  refine I.call' (ch := []) rfl ⟨fun b o q _ _ _ => hk b o q, fun b o q _ _ _ => ⟨o.slots, hk b o q⟩, fun b o q n _ => ?_, fun b o q _ => ⟨o, hk b o q⟩, fun b xs q => kp b _ q, fun b o u q => kp b _ q, fun b ps q => ⟨#[], by rw [kp b _ q]; simp⟩⟩ (fun b u q => ?_) I.bare fun b z => by simp at z
  · obtain ⟨z1, z2⟩ := low b o q
    rw [off b z1 z2]
    exact n
  · by_cases hb : b ∈ as
    · obtain ⟨j, e1⟩ := List.mem_iff_getElem?.mp hb
      have hj : j < xs.length := by rw [← hl]; exact (List.getElem?_eq_some_iff.mp e1).1
      have ex := List.getElem?_eq_getElem hj
      have ey := List.getElem?_eq_getElem (show j < ys.length by omega)
      have e3 := atP j b _ e1 (zget j _ _ ex ey)
      rw [e3] at q
      cases q
      obtain ⟨u1, u2, f1, f2, f3⟩ := hG.pairs j b e1
      obtain ⟨v1, g1, rv1⟩ := r1.get ex
      obtain ⟨v2, g2, rv2⟩ := r2.get ey
      rw [f1] at g1; cases g1
      rw [f2] at g2; cases g2
      exact ⟨by show 2 ≤ sizeLine; decide, [u1, u2], .cons rv1 (.cons rv2 .nil), ⟨_, f3, rfl, _, rfl⟩⟩
    · by_cases hb2 : b = N
      · rw [hb2] at q ⊢
        rw [eS] at q
        cases q
        refine ⟨by rw [List.length_map]; omega, acc.toList, c, by rw [hacc]; exact LiI.vals_refs as, ?_⟩
        rw [Array.toArray_toList]
        exact hS
      · rw [off b hb hb2] at q
        exact (I.hok b u q).stay (fun d v _ y => hk d v y) (fun d y => kp d _ y) fun d xs y => kp d _ y
/-- list(zip(e, e2)) of two lists of one length -/
theorem pe_listZip (K : PySem.W.Frag) {e e2 : Expr} {ta : TA} {p p2 q pos : Pos} (hc : X.calm = true) (hg : Gl X "list") (hm : X.mg "list" = none) (hg2 : Gl X "zip") (hm2 : X.mg "zip" = none) (ha : PA X [e, e2] ta) (hK : X.K = K := by rfl)
    (hs : starEach [e, e2] X.env = (false, eval e X.env) :: starEach [e2] X.env := by rfl) (hpl : (backTo q (starEach [e2] X.env)).any (·.1) = false := by rfl)
    (na : starEach [.Call (.Name "zip" p2) [e, e2] [] q] X.env = (false, eval (.Call (.Name "zip" p2) [e, e2] [] q) X.env) :: starEach [] X.env := by rfl) : PE X (.Call (.Name "list" p) [.Call (.Name "zip" p2) [e, e2] [] q] [] pos) (tListZip K false ta) := by
  subst hK
  refine ⟨fun pins s σ H Q I h => ?_⟩
  refine Call_ (ld_blt I hg hm boot_list (PyProof.Rows.callWith_type1 (PyProof.Rows.args_cons (Call_ (ld_blt I hg2 hm2 PyProof.Rows.boot_zip (PyProof.Rows.callWith_type1 (thn (ha.run q pins s σ H _ I h) fun us s1 ⟨vs, H1, I1, r1, q1⟩ => ?_) hs hpl))) na) na rfl))
  obtain ⟨a, b, xs, ys, ex, hqx, hqy, hxy, q1⟩ := q1
  subst ex
  cases r1 with
  | cons r rr =>
    cases rr with
    | cons r' rr =>
      cases rr
      cases r
      cases r'
      obtain ⟨its, rv, p1, hz1⟩ := I1.list hqx
      obtain ⟨its2, rv2, p3, hz2⟩ := I1.list hqy
      refine call_zip_2 p1.isList p3.isList fun h' hz hTI hTO h1 h2 hsz hk => PyProof.Rows.args_nil ?_
      have la := p1.lt
      have lb := p3.lt
      have hn := rv.length
      have hn2 := rv2.length
      have hh := I1.ok.hd hc
      have e1 : its.toArray.size = xs.length := by rw [List.size_toArray]; exact hn.symm
      have e2 : its2.toArray.size = xs.length := by rw [List.size_toArray]; omega
      have D1 := Draws.list (prog := X.prog) (w := X.w) (A := X.A.in1.in1.in1) hh s1.heap.objs.size a (Nat.ne_of_lt la) its.toArray
      have D2 := Draws.list (prog := X.prog) (w := X.w) (A := X.A.in1.in1.in1) hh (s1.heap.objs.size + 1) b (Nat.ne_of_lt (Nat.lt_succ_of_lt lb)) its2.toArray
      rw [e1] at D1
      rw [e2] at D2
      have S := zip_sep2 (N := s1.heap.objs.size) (fp1 := [a]) (fp2 := [b]) (fun c hc => by rw [List.mem_singleton.mp hc]; exact la) (fun c hc => by rw [List.mem_singleton.mp hc]; exact lb)
      have up : ∀ m, m < 5 → s1.heap.objs.size + m < h'.objs.size := fun m hm => by rw [hsz]; exact Nat.add_lt_add_left hm _
      refine Lz.zcall (s := { s1 with heap := h' }) S D1 D2 ⟨up 4 (by decide), up 3 (by decide), up 0 (by decide), up 1 (by decide), up 2 (by decide)⟩ (fun c hc => ?_) (fun c hc => ?_) (by omega) hTI ⟨h1, p1.isList.at fun o e => hk _ o e⟩ ⟨h2, p3.isList.at fun o e => hk _ o e⟩ hz ⟨_, _, hTO⟩ fun h2' tk acc c as hk2 hS hl hG hacc => ?_
      · rcases List.mem_cons.mp hc with z | z
        · rw [z]; exact up 0 (by decide)
        · rw [List.mem_singleton.mp z]; exact Nat.lt_trans la (up 0 (by decide))
      · rcases List.mem_cons.mp hc with z | z
        · rw [z]; exact up 1 (by decide)
        · rw [List.mem_singleton.mp z]; exact Nat.lt_trans lb (up 0 (by decide))
      · have keep : ∀ b o, s1.heap.get? b = some o → h2'.get? b = some o := fun b o e => by
          have l := Heap.lt_size e
          exact hk2 b o (Nat.ne_of_lt (Nat.lt_add_right 4 l)) (Nat.ne_of_lt (Nat.lt_add_right 3 l)) (Nat.ne_of_lt l) (Nat.ne_of_lt (Nat.lt_add_right 1 l)) (hk b o e)
        have hG2 : Lz.ZG (fun i v => its[i]? = some v) (fun i v => its2[i]? = some v) (h'.objs.size + 1) h2' as := ⟨hG.rise, hG.above, fun j a hj => by
          obtain ⟨x, y, z1, z2, z3⟩ := hG.pairs j a hj
          exact ⟨x, y, by simpa using z1, by simpa using z2, z3⟩⟩
        obtain ⟨H', z1, z2, z3, z4, z5, z6, z7, J⟩ := zip_laid (tk := tk) I1 hz1 rv rv2 hxy keep (show s1.heap.objs.size ≤ h'.objs.size by rw [hsz]; exact Nat.le_add_right _ _) hS hG2 hl hacc
        exact ⟨.ref _, H', J, rfl, q1 H' _ as z1 z2 z3 z4 z5 z6 hl z7⟩
theorem apart {N a b : Nat} (h : a ≠ b) : N + a ≠ N + b := by omega
def tListZipR (K : PySem.W.Frag) (te tb : TE) : TE := fun σ H Q => te σ H fun x H1 => tb σ H1 fun y H2 => ∃ (a b : Addr) (xs ys : List V), x = .ref a ∧ y = .ref b ∧ SqL K H2 a xs ∧ SqL K H2 b ys ∧ xs.length = ys.length ∧
  ∀ (H' : Hp) (p : Addr) (ts : List Addr), Same H2 H' → H2 p = none → (∀ t ∈ ts, H2 t = none) → p ∉ ts → ts.Nodup → H' p = some (.lst (ts.map V.ref)) → ts.length = xs.length →
    (∀ (i : Nat) (t : Addr) (x y : V), ts[i]? = some t → xs[i]? = some x → ys.reverse[i]? = some y → H' t = some (.tup [x, y])) → Q (.ref p) H'
/-- list(zip(e, reversed(e2))) of two lists of one length -/
theorem pe_listZipR (K : PySem.W.Frag) {e e2 : Expr} {te tb : TE} {p p2 p3 q q2 pos : Pos} (hc : X.calm = true) (hg : Gl X "list") (hm : X.mg "list" = none) (hg2 : Gl X "zip") (hm2 : X.mg "zip" = none) (hg3 : Gl X "reversed") (hm3 : X.mg "reversed" = none) (he : PE X e te) (hb : PE X e2 tb) (hK : X.K = K := by rfl)
    (hs3 : starEach [e2] X.env = (false, eval e2 X.env) :: starEach [] X.env := by rfl)
    (hs2 : starEach [.Call (.Name "reversed" p3) [e2] [] q2] X.env = (false, eval (.Call (.Name "reversed" p3) [e2] [] q2) X.env) :: starEach [] X.env := by rfl)
    (hs : starEach [e, .Call (.Name "reversed" p3) [e2] [] q2] X.env = (false, eval e X.env) :: starEach [.Call (.Name "reversed" p3) [e2] [] q2] X.env := by rfl) (hpl : (backTo q (starEach [.Call (.Name "reversed" p3) [e2] [] q2] X.env)).any (·.1) = false := by rfl)
    (na : starEach [.Call (.Name "zip" p2) [e, .Call (.Name "reversed" p3) [e2] [] q2] [] q] X.env = (false, eval (.Call (.Name "zip" p2) [e, .Call (.Name "reversed" p3) [e2] [] q2] [] q) X.env) :: starEach [] X.env := by rfl) :
    PE X (.Call (.Name "list" p) [.Call (.Name "zip" p2) [e, .Call (.Name "reversed" p3) [e2] [] q2] [] q] [] pos) (tListZipR K te tb) := by
  subst hK
  refine ⟨fun pins s σ H Q I h => ?_⟩
  refine Call_ (ld_blt I hg hm boot_list (PyProof.Rows.callWith_type1 (PyProof.Rows.args_cons (Call_ (ld_blt I hg2 hm2 PyProof.Rows.boot_zip (PyProof.Rows.callWith_type1 (PyProof.Rows.args_cons (thn (he.run pins s σ H _ I h) fun u s0 ⟨x, H0, I0, r0, q0⟩ => ?_) hs) hs hpl))) na) na rfl))
  refine PyProof.Rows.args_cons (Call_ (ld_blt I0 hg3 hm3 PyProof.Rows.boot_reversed (PyProof.Rows.callWith_type1 (PyProof.Rows.args_cons (thn (hb.run pins s0 σ H0 _ I0 q0) fun u2 s1 ⟨y, H1, I1, r1, q1⟩ => PyProof.Rows.args_nil ?_) hs3) hs3 rfl))) hs2
  obtain ⟨a, b, xs, ys, ex, ey, hqx, hqy, hxy, q1⟩ := q1
  subst ex; subst ey
  obtain rfl : u = Value.ref a := r0
  obtain rfl : u2 = Value.ref b := r1
  obtain ⟨its, rv, p1, hz1⟩ := I1.list hqx
  obtain ⟨its2, rv2, p3, hz2⟩ := I1.list hqy
  refine call_reversed_list p3.isList (PyProof.Rows.args_nil ?_)
  have k0 : ∀ b' o, s1.heap.get? b' = some o → (s1.heap.push (revObj b ((its2.toArray.size : Int) - 1))).get? b' = some o := fun b' o e => Heap.get?_push_of_some _ e
  have la := p1.lt
  have lb := p3.lt
  have hrev : (s1.heap.push (revObj b ((its2.toArray.size : Int) - 1))).IsRevIter s1.heap.objs.size b ((its2.toArray.size : Int) - 1) := ⟨_, Heap.get?_push_size _ rfl, rfl, rfl⟩
  refine zip_beginsR (s := { s1 with heap := s1.heap.push (revObj b ((its2.toArray.size : Int) - 1)) }) (begins_list a its.toArray) (p1.isList.at fun o e => k0 _ o e) hrev fun h' hz hTI hTO h1 hsz hk => PyProof.Rows.args_nil ?_
  have zs : (s1.heap.push (revObj b ((its2.toArray.size : Int) - 1))).objs.size = s1.heap.objs.size + 1 := by rw [Heap.size_push]
  dsimp only at hz hTI hTO h1 hsz hk ⊢
  rw [zs] at hz hTI hTO h1 hsz ⊢
  have hn := rv.length
  have hn2 := rv2.length
  have hh := I1.ok.hd hc
  have e1 : its.toArray.size = xs.length := by rw [List.size_toArray]; exact hn.symm
  have e2 : its2.toArray.size = xs.length := by rw [List.size_toArray]; omega
  have hk0 : ∀ c o, s1.heap.get? c = some o → h'.get? c = some o := fun c o e => hk c o (k0 c o e)
  have D1 := Draws.list (prog := X.prog) (w := X.w) (A := X.A.in1.in1.in1) hh (s1.heap.objs.size + 1) a (Nat.ne_of_lt (Nat.lt_succ_of_lt la)) its.toArray
  have D2 := Lz.drawsRev (prog := X.prog) (w := X.w) (A := X.A.in1.in1.in1) hh s1.heap.objs.size b (Nat.ne_of_lt lb) its2.toArray
  have st2 : (0 : Nat) ≤ its2.toArray.size ∧ h'.IsRevIter s1.heap.objs.size b ((its2.toArray.size : Int) - 1 - ((0 : Nat) : Int)) ∧ h'.IsList b its2.toArray := ⟨Nat.zero_le _, by rw [show (its2.toArray.size : Int) - 1 - ((0 : Nat) : Int) = (its2.toArray.size : Int) - 1 by omega]; exact hrev.at fun o e => hk _ o e, p3.isList.at fun o e => hk0 _ o e⟩
  rw [e1] at D1
  rw [e2] at D2 st2
  have ltN : ∀ {c m : Nat}, c < s1.heap.objs.size → c ≠ s1.heap.objs.size + m := fun h => Nat.ne_of_lt (Nat.lt_add_right _ h)
  have S : ZipSep2 (s1.heap.objs.size + 1 + 3) (s1.heap.objs.size + 1 + 1) (s1.heap.objs.size + 1 + 2) (s1.heap.objs.size + 1) s1.heap.objs.size [s1.heap.objs.size + 1, a] [s1.heap.objs.size, b] := by
    have ka : ∀ m : Nat, s1.heap.objs.size + m ≠ a := fun m => Nat.ne_of_gt (Nat.lt_add_right m la)
    have kb : ∀ m : Nat, s1.heap.objs.size + m ≠ b := fun m => Nat.ne_of_gt (Nat.lt_add_right m lb)
    refine ⟨?_, ?_, ?_, ?_, by simp, ?_, ?_, ?_, by simp, ?_, ?_, ?_, ?_⟩
    · exact (apart (N := s1.heap.objs.size) (a := 2) (b := 4) (by decide))
    · exact (apart (N := s1.heap.objs.size) (a := 3) (b := 4) (by decide))
    · exact (apart (N := s1.heap.objs.size) (a := 2) (b := 3) (by decide))
    · exact (apart (N := s1.heap.objs.size) (a := 2) (b := 1) (by decide))
    · simp only [List.mem_cons, List.not_mem_nil, or_false, not_or]; exact ⟨(apart (N := s1.heap.objs.size) (a := 4) (b := 1) (by decide)), ka 4⟩
    · simp only [List.mem_cons, List.not_mem_nil, or_false, not_or]; exact ⟨(apart (N := s1.heap.objs.size) (a := 3) (b := 1) (by decide)), ka 3⟩
    · exact (apart (N := s1.heap.objs.size) (a := 2) (b := 0) (by decide))
    · simp only [List.mem_cons, List.not_mem_nil, or_false, not_or]; exact ⟨(apart (N := s1.heap.objs.size) (a := 4) (b := 0) (by decide)), kb 4⟩
    · simp only [List.mem_cons, List.not_mem_nil, or_false, not_or]; exact ⟨(apart (N := s1.heap.objs.size) (a := 3) (b := 0) (by decide)), kb 3⟩
    · simp only [List.mem_cons, List.not_mem_nil, or_false, not_or]; exact ⟨(apart (N := s1.heap.objs.size) (a := 1) (b := 0) (by decide)), kb 1⟩
    · simp only [List.mem_cons, List.not_mem_nil, or_false, not_or]; exact ⟨(apart (N := s1.heap.objs.size) (a := 0) (b := 1) (by decide)), ka 0⟩
  have up : ∀ m, m < 5 → s1.heap.objs.size + m < h'.objs.size := fun m hm => by rw [hsz]; show s1.heap.objs.size + m < s1.heap.objs.size + 1 + 4; omega
  refine Lz.zcall (s := { s1 with heap := h' }) S D1 D2 ⟨up 4 (by decide), up 3 (by decide), up 1 (by decide), up 0 (by decide), up 2 (by decide)⟩ (fun c hc => ?_) (fun c hc => ?_) (by omega) hTI ⟨⟨_, h1, rfl, rfl⟩, p1.isList.at fun o e => hk0 _ o e⟩ st2 hz ⟨_, _, hTO⟩ fun h2' tk acc c as hk2 hS hl hG hacc => ?_
  · rcases List.mem_cons.mp hc with z | z
    · rw [z]; exact up 1 (by decide)
    · rw [List.mem_singleton.mp z]; exact Nat.lt_trans la (up 0 (by decide))
  · rcases List.mem_cons.mp hc with z | z
    · rw [z]; exact up 0 (by decide)
    · rw [List.mem_singleton.mp z]; exact Nat.lt_trans lb (up 0 (by decide))
  · have keep : ∀ b o, s1.heap.get? b = some o → h2'.get? b = some o := fun b o e => by
      have l := Heap.lt_size e
      exact hk2 b o (ltN (m := 4) l) (ltN (m := 3) l) (ltN (m := 1) l) (Nat.ne_of_lt l) (hk0 b o e)
    have hG2 : Lz.ZG (fun i v => its[i]? = some v) (fun i v => its2.reverse[i]? = some v) (h'.objs.size + 1) h2' as := ⟨hG.rise, hG.above, fun j a hj => by
      obtain ⟨x, y, z1, z2, z3⟩ := hG.pairs j a hj
      have jl : j < its2.length := by
        have : j < as.length := (List.getElem?_eq_some_iff.mp hj).1
        omega
      refine ⟨x, y, by simpa using z1, ?_, z3⟩
      rw [List.getElem?_reverse jl]
      have z2' : its2.toArray[xs.length - 1 - j]? = some y := z2
      rw [show its2.length = xs.length by omega]
      simpa using z2'⟩
    obtain ⟨H', z1, z2, z3, z4, z5, z6, z7, J⟩ := zip_laid (tk := tk) I1 hz1 rv rv2.reverse (by rw [List.length_reverse]; exact hxy) keep (show s1.heap.objs.size ≤ h'.objs.size by rw [hsz]; omega) hS hG2 hl hacc
    exact ⟨.ref _, H', J, rfl, q1 H' _ as z1 z2 z3 z4 z5 z6 hl z7⟩
end
end Lx

namespace Lx
open PySem PySem.Spec PyProof.Rows L2
/-! ### dicts with ints for keys -/
theorem hu1 {n : Nat} (h : n + 64 < cLine) : n + 1 < cLine := by omega
section
variable {σ : L2.St} {H : Hp} {Q : VK} {td ty tk tv : TE} {a : Addr} {kvs : List (Key × V)} {i : Int} {v : V}
theorem r_dget (h : td σ H fun x H1 => ty σ H1 fun y H2 => ∃ a v, x = .ref a ∧ DGet H2 a y (some v) ∧ Q v H2) : tDGet td ty σ H Q := h
theorem r_dgetI {R : V → Prop} (h : H a = some (.dK kvs)) (e : valV kvs (.inl i) = some v) (q : R v) : ∃ a' v, V.ref a = .ref a' ∧ DGet H a' (.int i) (some v) ∧ R v := ⟨a, v, rfl, e ▸ DGet.k (k := .inl i) h, q⟩
theorem r_din {ta : TE} {Q : VK} (h : ty σ H fun y H1 => td σ H1 fun x H2 => ∃ a o, x = .ref a ∧ DGet H2 a y o ∧ Q (.bl o.isSome) H2) : tDIn ty td σ H Q := h
theorem r_dinI {R : Bool → Prop} (h : H a = some (.dK kvs)) (q : R (valV kvs (.inl i)).isSome) : ∃ a' o, V.ref a = .ref a' ∧ DGet H a' (.int i) o ∧ R o.isSome := ⟨a, _, rfl, DGet.k (k := .inl i) h, q⟩
theorem r_dc {wi : TI} {g : TG} {tt : TT} {vs : List Nat} (h : wi σ H fun J H1 => ∀ D, H1 D = none → ∃ W : Nat → Nat → Hp → Prop, (∃ m, W 0 m (upd H1 D (.dK []))) ∧ ∀ i m H, W i m H →
  (J.stop i H ∧ Q (.ref D) H) ∨ (J.go i H ∧ ∃ Nx : Hp → Prop, (∀ H', Nx H' → ∃ m', m' < m ∧ W (i + 1) m' H') ∧ ∀ x H', J.yld i H x H' → g x (wipe σ vs) H' fun σ2 H2 => wipe σ2 vs = wipe σ vs ∧ tt σ2 H2 fun b H3 =>
    if b = true then tk σ2 H3 fun y H4 => tv σ2 H4 fun z H5 => ∃ kvs k, y = kV k ∧ H5 D = some (.dK kvs) ∧ kvs.length < sizeLine ∧ Nx (upd H5 D (.dK (putK kvs k z))) else Nx H3)) : tDc wi g tt tk tv vs σ H Q := h
end
/-- a dict from places to ints -/
def IsD (H : Hp) (a : Addr) (f : Int → Option Int) : Prop := ∃ kvs, H a = some (.dK kvs) ∧ kvs.length ≤ 100000 ∧ ∀ i, valV kvs (.inl i) = (f i).map V.int
theorem IsD.same {H H' : Hp} {a : Addr} {f : Int → Option Int} (h : IsD H a f) (s : Same H H') : IsD H' a f := by
  obtain ⟨kvs, h1, h2⟩ := h
  exact ⟨kvs, s _ _ h1, h2⟩
theorem IsD.kp {r : Addr} {H H' : Hp} {a : Addr} {f : Int → Option Int} (h : IsD H a f) (s : Kp r H H') (n : a ≠ r) : IsD H' a f := by
  obtain ⟨kvs, h1, h2⟩ := h
  exact ⟨kvs, s _ _ n h1, h2⟩
theorem IsD.get {H : Hp} {a : Addr} {f : Int → Option Int} {i j : Int} (h : IsD H a f) (e : f i = some j) {R : V → Prop} (q : R (.int j)) : ∃ a' v, V.ref a = .ref a' ∧ DGet H a' (.int i) (some v) ∧ R v := by
  obtain ⟨kvs, h1, _, h2⟩ := h
  exact r_dgetI h1 (by rw [h2, e]; rfl) q
theorem IsD.has {H : Hp} {a : Addr} {f : Int → Option Int} {i : Int} (h : IsD H a f) {R : Bool → Prop} (q : R (f i).isSome) : ∃ a' o, V.ref a = .ref a' ∧ DGet H a' (.int i) o ∧ R o.isSome := by
  obtain ⟨kvs, h1, _, h2⟩ := h
  refine r_dinI h1 ?_
  rw [h2, Option.isSome_map]
  exact q
/-- the first n of them, and what they hold -/
def numTo (ns : List Int) (m : Nat) : List (Key × V) := (List.range m).map fun j => (.inl (ns.getD j 0), .int (j : Nat))
theorem valV_num (ns : List Int) (m : Nat) (x : Int) : valV (numTo ns m) (.inl x) = ((List.range m).find? fun j => decide (ns.getD j 0 = x)).map fun j => V.int (j : Nat) := by
  unfold valV numTo
  rw [List.find?_map, Option.map_map]
  have e : ((fun kv : Key × V => decide (kv.1 = .inl x)) ∘ fun j : Nat => ((.inl (ns.getD j 0) : Key), V.int (j : Nat))) = fun j => decide (ns.getD j 0 = x) := by
    funext j
    show decide ((Sum.inl (ns.getD j 0) : Key) = .inl x) = _
    by_cases h : ns.getD j 0 = x
    · rw [decide_eq_true h, h]; exact decide_eq_true rfl
    · rw [decide_eq_false h]; exact decide_eq_false fun z => h (Sum.inl.inj z)
  rw [e]
  rfl
theorem getD_inj {ns : List Int} (hn : ns.Nodup) {i j : Nat} (hi : i < ns.length) (hj : j < ns.length) (h : ns.getD i 0 = ns.getD j 0) : i = j := by
  rw [List.getD_eq_getElem?_getD, List.getD_eq_getElem?_getD, List.getElem?_eq_getElem hi, List.getElem?_eq_getElem hj] at h
  exact (List.getElem_inj hn).mp h
theorem valV_numNone {ns : List Int} (hn : ns.Nodup) {m : Nat} (hm : m < ns.length) : valV (numTo ns m) (.inl (ns.getD m 0)) = none := by
  rw [valV_num]
  have : ((List.range m).find? fun j => decide (ns.getD j 0 = ns.getD m 0)) = none := by
    rw [List.find?_eq_none]
    intro j hj hd
    have hj' := List.mem_range.mp hj
    have := getD_inj hn (by omega) hm (of_decide_eq_true hd)
    omega
  rw [this]
  rfl
theorem numTo_succ {ns : List Int} (hn : ns.Nodup) {m : Nat} (hm : m < ns.length) : putK (numTo ns m) (.inl (ns.getD m 0)) (.int (m : Nat)) = numTo ns (m + 1) := by
  rw [putK_new _ (valV_numNone hn hm)]
  unfold numTo
  rw [List.range_succ, List.map_append]
  rfl
theorem numTo_len (ns : List Int) (m : Nat) : (numTo ns m).length = m := by unfold numTo; rw [List.length_map, List.length_range]
/-- where a place stands in a list -/
def ixO (ns : List Int) (x : Int) : Option Int := if x ∈ ns then some ((ns.idxOf x : Nat) : Int) else none
theorem valV_all {ns : List Int} (hn : ns.Nodup) (x : Int) : valV (numTo ns ns.length) (.inl x) = (ixO ns x).map V.int := by
  rw [valV_num]
  unfold ixO
  by_cases h : x ∈ ns
  · rw [if_pos h]
    have hl := List.idxOf_lt_length_of_mem h
    have hg : ns.getD (ns.idxOf x) 0 = x := by
      rw [List.getD_eq_getElem?_getD, List.getElem?_eq_getElem hl]
      exact List.getElem_idxOf _
    cases e : (List.range ns.length).find? fun j => decide (ns.getD j 0 = x) with
    | none => exact absurd (decide_eq_true hg) (List.find?_eq_none.mp e _ (List.mem_range.mpr hl))
    | some j =>
      have h1 : ns.getD j 0 = x := by have z := List.find?_some e; simpa using z
      have h2 := List.mem_range.mp (List.mem_of_find?_eq_some e)
      rw [getD_inj hn h2 hl (h1.trans hg.symm)]
      rfl
  · rw [if_neg h]
    cases e : (List.range ns.length).find? fun j => decide (ns.getD j 0 = x) with
    | none => rfl
    | some j =>
      have h1 : ns.getD j 0 = x := by have z := List.find?_some e; simpa using z
      have h2 := List.mem_range.mp (List.mem_of_find?_eq_some e)
      rw [List.getD_eq_getElem?_getD, List.getElem?_eq_getElem h2] at h1
      exact absurd (h1 ▸ List.getElem_mem h2) h
/-! ### reversed lists walked; lists of pairs -/
theorem r_iRev {σ : L2.St} {H : Hp} {X : Cx} {ta : TA} {R : It → Hp → Prop} (h : ta σ H fun vs H1 => ∃ (a : Addr) (xs : List V), vs = [.ref a] ∧ SqL X.K H1 a xs ∧ R (Itv X.K a xs.length) H1) : iRev X.K ta σ H R := h
theorem r_listZipR {σ : L2.St} {H : Hp} {K : PySem.W.Frag} {te tb : TE} {Q : VK} (h : te σ H fun x H1 => tb σ H1 fun y H2 => ∃ (a b : Addr) (xs ys : List V), x = .ref a ∧ y = .ref b ∧ SqL K H2 a xs ∧ SqL K H2 b ys ∧ xs.length = ys.length ∧
  ∀ (H' : Hp) (p : Addr) (ts : List Addr), Same H2 H' → H2 p = none → (∀ t ∈ ts, H2 t = none) → p ∉ ts → ts.Nodup → H' p = some (.lst (ts.map V.ref)) → ts.length = xs.length →
    (∀ (i : Nat) (t : Addr) (x y : V), ts[i]? = some t → xs[i]? = some x → ys.reverse[i]? = some y → H' t = some (.tup [x, y])) → Q (.ref p) H') : tListZipR K te tb σ H Q := h
theorem r_listZip {σ : L2.St} {H : Hp} {K : PySem.W.Frag} {ta : TA} {Q : VK} (h : ta σ H fun vs H1 => ∃ (a b : Addr) (xs ys : List V), vs = [.ref a, .ref b] ∧ SqL K H1 a xs ∧ SqL K H1 b ys ∧ xs.length = ys.length ∧
  ∀ (H' : Hp) (p : Addr) (ts : List Addr), Same H1 H' → H1 p = none → (∀ t ∈ ts, H1 t = none) → p ∉ ts → ts.Nodup → H' p = some (.lst (ts.map V.ref)) → ts.length = xs.length →
    (∀ (i : Nat) (t : Addr) (x y : V), ts[i]? = some t → xs[i]? = some x → ys[i]? = some y → H' t = some (.tup [x, y])) → Q (.ref p) H') : tListZip K false ta σ H Q := h
def dP (q : Int × Int) : PyData := .tuple [.int q.1, .int q.2]
/-- a list of pairs of ints, the pairs where G holds -/
structure PairsAt (G : Addr → Prop) (H : Hp) (p : Addr) (as : List Addr) (qs : List (Int × Int)) : Prop where
  hp : H p = some (.lst (as.map V.ref))
  len : as.length = qs.length
  it : ∀ (i : Nat) (a : Addr) (q : Int × Int), as[i]? = some a → qs[i]? = some q → H a = some (.tup [.int q.1, .int q.2]) ∧ G a
theorem PairsAt.same {G : Addr → Prop} {H H' : Hp} {p : Addr} {as : List Addr} {qs : List (Int × Int)} (h : PairsAt G H p as qs) (s : Same H H') : PairsAt G H' p as qs :=
  ⟨s _ _ h.hp, h.len, fun i a q e1 e2 => ⟨s _ _ (h.it i a q e1 e2).1, (h.it i a q e1 e2).2⟩⟩
theorem PairsAt.weak {G G' : Addr → Prop} {H : Hp} {p : Addr} {as : List Addr} {qs : List (Int × Int)} (h : PairsAt G H p as qs) (g : ∀ a, G a → G' a) : PairsAt G' H p as qs :=
  ⟨h.hp, h.len, fun i a q e1 e2 => ⟨(h.it i a q e1 e2).1, g _ (h.it i a q e1 e2).2⟩⟩
theorem PairsAt.kpl {L : List Addr} {G : Addr → Prop} {H H' : Hp} {p : Addr} {as : List Addr} {qs : List (Int × Int)} (h : PairsAt G H p as qs) (k : KpL L H H') (np : p ∉ L) (hG : ∀ a, G a → a ∉ L) : PairsAt G H' p as qs :=
  ⟨k _ _ np h.hp, h.len, fun i a q e1 e2 => ⟨k _ _ (hG _ (h.it i a q e1 e2).2) (h.it i a q e1 e2).1, (h.it i a q e1 e2).2⟩⟩
theorem PairsAt.at {G : Addr → Prop} {H : Hp} {p : Addr} {as : List Addr} {qs : List (Int × Int)} (h : PairsAt G H p as qs) {i : Nat} (hi : i < qs.length) : ∃ t, (as.map V.ref)[i]? = some (.ref t) ∧ H t = some (.tup [.int (qs[i]).1, .int (qs[i]).2]) ∧ G t := by
  have hi' : i < as.length := by rw [h.len]; exact hi
  have e := List.getElem?_eq_getElem hi'
  have e2 := List.getElem?_eq_getElem hi
  refine ⟨as[i], by rw [List.getElem?_map, e]; rfl, (h.it i _ _ e e2).1, (h.it i _ _ e e2).2⟩
theorem PairsAt.tr {G : Addr → Prop} {H : Hp} {p : Addr} {as : List Addr} {qs : List (Int × Int)} (h : PairsAt G H p as qs) (gp : G p) (hl : qs.length ≤ 100000) : Tr G H (.ref p) (.list (qs.map dP)) := by
  refine .lst h.hp gp (by rw [List.length_map, h.len]; exact hl) (TrAll.of (by rw [List.length_map, List.length_map, h.len]) fun i v d e1 e2 => ?_)
  rw [List.getElem?_map] at e1 e2
  cases ea : as[i]? with
  | none => rw [ea] at e1; cases e1
  | some a =>
    cases eq : qs[i]? with
    | none => rw [eq] at e2; cases e2
    | some q =>
      rw [ea] at e1
      rw [eq] at e2
      cases e1; cases e2
      have z := h.it i a q ea eq
      exact .tup z.1 z.2 (by show 2 ≤ 100000; decide) (.cons (.int _) (.cons (.int _) .nil))
theorem shows_dP {q : Int × Int} {k : Nat} (hk : 0 < k) (hk2 : k ≤ 250) (h0 : 0 ≤ q.1) (h1 : q.1 < 10 ^ k) (h2 : 0 ≤ q.2) (h3 : q.2 < 10 ^ k) : Shows (dP q) 1 (2 * (k + 2) + 3) :=
  shows_tup (n := 2) (fun d hd => by
    simp only [List.mem_cons, List.not_mem_nil, or_false] at hd
    rcases hd with rfl | rfl
    · exact shows_int hk hk2 h0 h1
    · exact shows_int hk hk2 h2 h3) (Nat.le_refl _)
end Lx

namespace Lx
open PySem PySem.Spec PyProof.Rows L2
/-! ### a text repeated -/
def strRep (z : Str) (n : Nat) : Str := ⟨(List.replicate n z.cps.toList).flatten.toArray⟩
theorem foldl_reps (a : Array Nat) : ∀ (n : Nat) (acc : Array Nat), (List.replicate n a).foldl (· ++ ·) acc = acc ++ (List.replicate n a.toList).flatten.toArray
  | 0, acc => by simp
  | n + 1, acc => by
    rw [List.replicate_succ, List.foldl_cons, foldl_reps a n (acc ++ a), List.replicate_succ, List.flatten_cons]
    rw [Array.append_assoc]
    congr 1
    apply Array.ext'
    simp
def rMulS : R2 := fun x y H Q => ∃ z k, x = .str z ∧ y = .int k ∧ -100000 ≤ k ∧ k ≤ 100000 ∧ z.length * k.toNat ≤ 100000 ∧ Q (.str (strRep z k.toNat)) H
theorem op_mulS {X : Cx} : OpR X (binaryOp .Mult) rMulS := by
  intro pins s σ H x y v u Q I rx ry h
  obtain ⟨z, k, rfl, rfl, h1, h2, h3, q⟩ := h
  obtain ⟨t, rfl⟩ := rx
  obtain ⟨t', rfl⟩ := ry
  refine P.mul_str ?_ ?_ ?_ ?_
  · rw [decide_eq_false (by omega), decide_eq_false (by omega)]; rfl
  · intro k1 k2
    have hp : (0 : Int) < k := by omega
    have : (100000 : Int) ≤ (2 ^ 63 - 1) / k := by
      rw [Int.le_ediv_iff_mul_le hp]
      have : 100000 * k ≤ 100000 * 100000 := by omega
      exact Int.le_trans this (by decide)
    have hz : (z.length : Int) ≤ 100000 := by
      have e : 1 ≤ k.toNat := by omega
      have := Nat.mul_le_mul_left z.length e
      omega
    omega
  · intro k1 k2
    show Builtin.Str.tooLong _ = false
    unfold Builtin.Str.tooLong
    refine decide_eq_false ?_
    have : (100000 : Nat) ≤ sizeLine := by decide
    omega
  · by_cases k1 : k < 1
    · rw [if_pos k1]
      have e : k.toNat = 0 := by omega
      rw [e] at q
      exact ⟨by decide, ⟨.str Str.empty, H, I.tok _, ⟨_, rfl⟩, q⟩⟩
    · rw [if_neg k1]
      by_cases k2 : (k == 1 || z.length == 0) = true
      · rw [if_pos k2]
        have e : strRep z k.toNat = z := by
          rcases Bool.or_eq_true _ _ ▸ k2 with k3 | k3
          · have : k = 1 := by simpa using k3
            subst this
            unfold strRep
            cases z
            simp
          · have hz : z.cps.size = 0 := by
              have : z.length = 0 := by simpa using k3
              exact this
            have hz2 : z.cps = #[] := Array.size_eq_zero_iff.mp hz
            unfold strRep
            cases z
            simp at hz2
            subst hz2
            simp
        rw [e] at q
        exact ⟨.str z, H, I, ⟨_, rfl⟩, q⟩
      · rw [if_neg k2]
        have e : (⟨(List.replicate k.toNat z.cps).foldl (· ++ ·) #[]⟩ : Str) = strRep z k.toNat := by
          unfold strRep
          rw [foldl_reps]
          simp
        rw [e]
        refine ⟨?_, ⟨.str (strRep z k.toNat), H, I.tok _, ⟨_, rfl⟩, q⟩⟩
        have : (strRep z k.toNat).length = z.length * k.toNat := by
          unfold strRep
          show ((List.replicate k.toNat z.cps.toList).flatten.toArray).size = z.cps.size * k.toNat
          simp [Nat.mul_comm]
        rw [this]
        exact sz h3
theorem r_mulS {H : Hp} {Q : VK} {z : Str} {k : Int} (h1 : -100000 ≤ k) (h2 : k ≤ 100000) (h3 : z.length * k.toNat ≤ 100000) (q : Q (.str (strRep z k.toNat)) H) : rMulS (.str z) (.int k) H Q := ⟨z, k, rfl, rfl, h1, h2, h3, q⟩
end Lx

namespace Lx
open PySem PySem.Spec PyProof.Rows L2
/-! ### comprehensions over lists of ints, of pairs -/
theorem range_getD {α : Type} (xs : List α) (d : α) : (List.range xs.length).map (fun i => xs.getD i d) = xs := by
  apply List.ext_getElem?
  intro i
  rw [List.getElem?_map]
  by_cases h : i < xs.length
  · rw [List.getElem?_range h, List.getElem?_eq_getElem h]
    show some (xs.getD i d) = some xs[i]
    rw [List.getD_eq_getElem?_getD, List.getElem?_eq_getElem h]
    rfl
  · rw [List.getElem?_eq_none (by rw [List.length_range]; omega), List.getElem?_eq_none (by omega)]
    rfl
theorem giv_of {α : Type} (xs : List α) (d : α) (P : α → Bool) (F : α → V) : giv xs.length (fun i => P (xs.getD i d)) (fun i => F (xs.getD i d)) = (xs.filter P).map F := by
  unfold giv
  conv => rhs; rw [← range_getD xs d]
  rw [List.filter_map, List.map_map]
  rfl
theorem getD_el {α : Type} {xs : List α} {d : α} {i : Nat} (h : i < xs.length) : xs.getD i d = xs[i] := by
  rw [List.getD_eq_getElem?_getD, List.getElem?_eq_getElem h]; rfl
section
variable {K : PySem.W.Frag} {a : Addr} {g : TG} {tt : TT} {te : TE} {vs : List Nat} {σ : L2.St} {H1 : Hp} {Dl : Addr} {Qd : Hp → Prop}
/-- over a list of ints -/
theorem lc_ints {ns : List Int} (h : SqL K H1 a (vI ns)) (hl : ns.length ≤ 100000) (P : Int → Bool) (F : Int → V)
    (hs : ∀ (x : Int) (H' : Hp) (Yes : V → Hp → Prop) (No : Hp → Prop), Same H1 H' → x ∈ ns → (P x = true → ∀ H4, Same H' H4 → Yes (F x) H4) → (P x = false → ∀ H3, Same H' H3 → No H3) →
      g (.int x) (wipe σ vs) H' fun σ2 H2 => wipe σ2 vs = wipe σ vs ∧ tt σ2 H2 fun b H3 => if b = true then te σ2 H3 Yes else No H3)
    (hD : H1 Dl = none) (q : ∀ H', Same H1 H' → H' Dl = some (.lst ((ns.filter P).map F)) → Qd H') :
    ∃ W : Nat → Nat → Hp → Prop, (∃ m, W 0 m (upd H1 Dl (.lst []))) ∧ ∀ i m H, W i m H →
      ((Itl K a).stop i H ∧ Qd H) ∨ ((Itl K a).go i H ∧ ∃ Nx : Hp → Prop, (∀ H', Nx H' → ∃ m', m' < m ∧ W (i + 1) m' H') ∧ ∀ x H', (Itl K a).yld i H x H' → g x (wipe σ vs) H' fun σ2 H2 => wipe σ2 vs = wipe σ vs ∧ tt σ2 H2 fun b H3 =>
        if b = true then te σ2 H3 fun y H4 => ∃ acc, H4 Dl = some (.lst acc) ∧ acc.length < sizeLine ∧ Nx (upd H4 Dl (.lst (acc ++ [y]))) else Nx H3) := by
  refine lc_pure (src_list (xs := vI ns)) (fun i => P (ns.getD i 0)) (fun i => F (ns.getD i 0)) (by rw [vI_len]; exact hl) (fun H' s' => s'.seq h) ?_ hD fun H' s' hd => q H' s' ?_
  · rintro i x H' H'' Yes No hi s' ⟨rfl, hx⟩ hY hN
    rw [vI_len] at hi
    rw [vI_at hi] at hx
    cases hx
    rw [getD_el hi] at hY hN
    exact hs _ _ Yes No s' (List.getElem_mem hi) hY hN
  · rw [hd, vI_len, giv_of]
/-- over a tuple of ints -/
theorem lc_intsT {ns : List Int} (h : SqT K H1 a (vI ns)) (hl : ns.length ≤ 100000) (P : Int → Bool) (F : Int → V)
    (hs : ∀ (x : Int) (H' : Hp) (Yes : V → Hp → Prop) (No : Hp → Prop), Same H1 H' → x ∈ ns → (P x = true → ∀ H4, Same H' H4 → Yes (F x) H4) → (P x = false → ∀ H3, Same H' H3 → No H3) →
      g (.int x) (wipe σ vs) H' fun σ2 H2 => wipe σ2 vs = wipe σ vs ∧ tt σ2 H2 fun b H3 => if b = true then te σ2 H3 Yes else No H3)
    (hD : H1 Dl = none) (q : ∀ H', Same H1 H' → H' Dl = some (.lst ((ns.filter P).map F)) → Qd H') :
    ∃ W : Nat → Nat → Hp → Prop, (∃ m, W 0 m (upd H1 Dl (.lst []))) ∧ ∀ i m H, W i m H →
      ((Itt K a).stop i H ∧ Qd H) ∨ ((Itt K a).go i H ∧ ∃ Nx : Hp → Prop, (∀ H', Nx H' → ∃ m', m' < m ∧ W (i + 1) m' H') ∧ ∀ x H', (Itt K a).yld i H x H' → g x (wipe σ vs) H' fun σ2 H2 => wipe σ2 vs = wipe σ vs ∧ tt σ2 H2 fun b H3 =>
        if b = true then te σ2 H3 fun y H4 => ∃ acc, H4 Dl = some (.lst acc) ∧ acc.length < sizeLine ∧ Nx (upd H4 Dl (.lst (acc ++ [y]))) else Nx H3) := by
  refine lc_pure (src_tup (xs := vI ns)) (fun i => P (ns.getD i 0)) (fun i => F (ns.getD i 0)) (by rw [vI_len]; exact hl) (fun H' s' => s'.seqT h) ?_ hD fun H' s' hd => q H' s' ?_
  · rintro i x H' H'' Yes No hi s' ⟨rfl, hx⟩ hY hN
    rw [vI_len] at hi
    rw [vI_at hi] at hx
    cases hx
    rw [getD_el hi] at hY hN
    exact hs _ _ Yes No s' (List.getElem_mem hi) hY hN
  · rw [hd, vI_len, giv_of]
/-- over a list of pairs -/
theorem lc_pairs {G : Addr → Prop} {as : List Addr} {qs : List (Int × Int)} (h : PairsAt G H1 a as qs) (hl : qs.length ≤ 100000) (P : Int × Int → Bool) (F : Int × Int → V)
    (hs : ∀ (t : Addr) (x y : Int) (H' : Hp) (Yes : V → Hp → Prop) (No : Hp → Prop), Same H1 H' → (x, y) ∈ qs → H' t = some (.tup [.int x, .int y]) → (P (x, y) = true → ∀ H4, Same H' H4 → Yes (F (x, y)) H4) → (P (x, y) = false → ∀ H3, Same H' H3 → No H3) →
      g (.ref t) (wipe σ vs) H' fun σ2 H2 => wipe σ2 vs = wipe σ vs ∧ tt σ2 H2 fun b H3 => if b = true then te σ2 H3 Yes else No H3)
    (hD : H1 Dl = none) (q : ∀ H', Same H1 H' → H' Dl = some (.lst ((qs.filter P).map F)) → Qd H') :
    ∃ W : Nat → Nat → Hp → Prop, (∃ m, W 0 m (upd H1 Dl (.lst []))) ∧ ∀ i m H, W i m H →
      ((Itl K a).stop i H ∧ Qd H) ∨ ((Itl K a).go i H ∧ ∃ Nx : Hp → Prop, (∀ H', Nx H' → ∃ m', m' < m ∧ W (i + 1) m' H') ∧ ∀ x H', (Itl K a).yld i H x H' → g x (wipe σ vs) H' fun σ2 H2 => wipe σ2 vs = wipe σ vs ∧ tt σ2 H2 fun b H3 =>
        if b = true then te σ2 H3 fun y H4 => ∃ acc, H4 Dl = some (.lst acc) ∧ acc.length < sizeLine ∧ Nx (upd H4 Dl (.lst (acc ++ [y]))) else Nx H3) := by
  refine lc_pure (src_list (xs := as.map V.ref)) (fun i => P (qs.getD i (0, 0))) (fun i => F (qs.getD i (0, 0))) (by rw [List.length_map, h.len]; exact hl) (fun H' s' => lst_of (s' _ _ h.hp)) ?_ hD fun H' s' hd => q H' s' ?_
  · rintro i x H' H'' Yes No hi s' ⟨rfl, hx⟩ hY hN
    rw [List.length_map, h.len] at hi
    obtain ⟨t, e1, e2, _⟩ := h.at hi
    rw [e1] at hx
    cases hx
    rw [getD_el hi] at hY hN
    exact hs t _ _ _ Yes No s' (List.getElem_mem hi) (s' _ _ e2) hY hN
  · rw [hd, List.length_map, h.len, giv_of]
end
theorem PairsAt.app {G : Addr → Prop} {H : Hp} {p t : Addr} {as : List Addr} {qs : List (Int × Int)} {x y : Int} (h : PairsAt G H p as qs) (ht : H t = some (.tup [.int x, .int y])) (g : G t) : PairsAt G (upd H p (.lst (as.map V.ref ++ [.ref t]))) p (as ++ [t]) (qs ++ [(x, y)]) := by
  refine ⟨by rw [upd_same, List.map_append]; rfl, by rw [List.length_append, List.length_append, h.len]; rfl, fun i a q e1 e2 => ?_⟩
  have key : ∀ (b : Addr) (z : Int × Int), H b = some (.tup [.int z.1, .int z.2]) → upd H p (.lst (as.map V.ref ++ [.ref t])) b = some (.tup [.int z.1, .int z.2]) := by
    intro b z e
    have ne : b ≠ p := fun w => by rw [w, h.hp] at e; cases e
    exact (upd_ne ne).trans e
  by_cases hi : i < as.length
  · rw [List.getElem?_append_left hi] at e1
    rw [List.getElem?_append_left (by rw [← h.len]; exact hi)] at e2
    exact ⟨key a q (h.it i a q e1 e2).1, (h.it i a q e1 e2).2⟩
  · have hi' : i = as.length := by
      have := (List.getElem?_eq_some_iff.mp e1).1
      rw [List.length_append, List.length_singleton] at this
      omega
    subst hi'
    rw [List.getElem?_append_right (Nat.le_refl _), Nat.sub_self] at e1
    rw [List.getElem?_append_right (by rw [h.len]; exact Nat.le_refl _), h.len, Nat.sub_self] at e2
    cases e1; cases e2
    exact ⟨key t _ ht, g⟩
theorem PairsAt.upd {G : Addr → Prop} {H : Hp} {p x : Addr} {o : HO} {as : List Addr} {qs : List (Int × Int)} {ys : List V} (h : PairsAt G H p as qs) (n : p ≠ x) (hx : H x = some (.lst ys)) : PairsAt G (L2.upd H x o) p as qs :=
  ⟨(upd_ne n).trans h.hp, h.len, fun i a q e1 e2 => by
    obtain ⟨z, g⟩ := h.it i a q e1 e2
    have ne : a ≠ x := fun w => by rw [w, hx] at z; cases z
    exact ⟨(upd_ne ne).trans z, g⟩⟩
theorem PairsAt.take {G : Addr → Prop} {H H' : Hp} {p p' : Addr} {as : List Addr} {qs : List (Int × Int)} (h : PairsAt G H p as qs) (k : Nat) (s : Same H H') (hp' : H' p' = some (.lst ((as.map V.ref).take k))) : PairsAt G H' p' (as.take k) (qs.take k) :=
  ⟨by rw [hp', List.map_take], by rw [List.length_take, List.length_take, h.len], fun i a q e1 e2 => by
    rw [List.getElem?_take] at e1 e2
    split at e1
    · rename_i hk
      rw [if_pos hk] at e2
      exact ⟨s _ _ (h.it i a q e1 e2).1, (h.it i a q e1 e2).2⟩
    · cases e1⟩
theorem PairsAt.drop {G : Addr → Prop} {H H' : Hp} {p p' : Addr} {as : List Addr} {qs : List (Int × Int)} (h : PairsAt G H p as qs) (k : Nat) (s : Same H H') (hp' : H' p' = some (.lst ((as.map V.ref).drop k))) : PairsAt G H' p' (as.drop k) (qs.drop k) :=
  ⟨by rw [hp', List.map_drop], by rw [List.length_drop, List.length_drop, h.len], fun i a q e1 e2 => by
    rw [List.getElem?_drop] at e1 e2
    exact ⟨s _ _ (h.it (k + i) a q e1 e2).1, (h.it (k + i) a q e1 e2).2⟩⟩
theorem PairsAt.nil {G : Addr → Prop} {H : Hp} {p : Addr} (h : H p = some (.lst [])) : PairsAt G H p [] [] := ⟨h, rfl, fun i a q e _ => by simp at e⟩
/-! ### the greatest of ints -/
def maxI : List Int → Int
  | [] => 0
  | a :: r => if r = [] then a else if maxI r ≤ a then a else maxI r
theorem maxI_mem : ∀ {ns : List Int}, ns ≠ [] → maxI ns ∈ ns
  | [], h => absurd rfl h
  | a :: r, _ => by
    unfold maxI
    split
    · exact List.mem_cons_self
    · rename_i hr
      split
      · exact List.mem_cons_self
      · exact List.mem_cons_of_mem _ (maxI_mem hr)
theorem le_maxI : ∀ {ns : List Int} {y : Int}, y ∈ ns → y ≤ maxI ns
  | a :: r, y, h => by
    unfold maxI
    split
    · rename_i hr
      subst hr
      rw [List.mem_singleton] at h
      omega
    · rename_i hr
      rcases List.mem_cons.mp h with e | h
      · split <;> omega
      · have ih := le_maxI h
        split <;> omega
theorem maxI_eq {ns : List Int} {m : Int} (h : m ∈ ns) (l : ∀ y ∈ ns, y ≤ m) : m = maxI ns := by
  have h1 := le_maxI h
  have h2 := l _ (maxI_mem fun e => by rw [e] at h; cases h)
  omega
theorem r_max {K : PySem.W.Frag} {H : Hp} {Q : VK} {a : Addr} {ns : List Int} (h : SqL K H a (vI ns)) (hn : 0 < ns.length) (q : Q (.int (maxI ns)) H) : rMax K [.ref a] H Q :=
  ⟨a, ns, rfl, h, hn, fun m hm hl => by rw [maxI_eq hm hl]; exact q⟩
theorem src_zipM {K : PySem.W.Frag} {a b : Addr} {xs ys : List V} : Src (Itz K a b) (min xs.length ys.length) (fun H => SqL K H a xs ∧ SqL K H b ys) (fun i v H H' => ∃ T x y, v = .ref T ∧ H T = none ∧ H' = upd H T (.tup [x, y]) ∧ xs[i]? = some x ∧ ys[i]? = some y) where
  go := fun i H h hi => ⟨xs, ys, xs[i]'(by omega), ys[i]'(by omega), h.1, h.2, List.getElem?_eq_getElem (by omega), List.getElem?_eq_getElem (by omega)⟩
  stop := fun H h => ⟨xs, ys, h.1, h.2, by omega⟩
  yld := fun i H v H' h _ y => by
    obtain ⟨T, x, z, e, n, u, f, g⟩ := y
    exact ⟨T, x, z, e, n, u, f xs h.1, g ys h.2⟩
theorem cut_neg1 (xs : List V) : cutV xs (some (-1)) none = xs.drop (xs.length - 1) := by
  unfold cutV
  rw [HT.sIx_none]
  have e : HT.sIx xs.length 0 (some (-1)) = xs.length - 1 := by
    show (if (-1 : Int) < 0 then ((-1 : Int) + (xs.length : Int)).toNat else min (-1 : Int).toNat xs.length) = _
    rw [if_pos (by decide)]
    omega
  rw [e]
  exact List.take_of_length_le (by rw [List.length_drop]; exact Nat.le_refl _)
/-! ### dict(pairs) -/
def rDictP (K : PySem.W.Frag) : List V → Hp → VK → Prop := fun xs H Q => ∃ (a : Addr) (ps : List Addr) (kvs : List (Key × V)), xs = [.ref a] ∧ SqL K H a (ps.map V.ref) ∧ Paired (fun p kv => SqT K H p [kV kv.1, kv.2]) ps kvs ∧
    ∀ p, H p = none → Q (.ref p) (upd H p (.dK (mergeK [] kvs)))
theorem k_dictP (K : PySem.W.Frag) {X : Cx} (h : X.K = K := by rfl) (hc : X.calm = true := by rfl) : CallR X (.type "dict") (rDictP K) := h ▸ call_dictP hc
theorem merge_num {ns : List Int} (hn : ns.Nodup) : ∀ m, m ≤ ns.length → mergeK [] (numTo ns m) = numTo ns m
  | 0, _ => rfl
  | m + 1, h => by
    have e : numTo ns (m + 1) = numTo ns m ++ [(.inl (ns.getD m 0), .int (m : Nat))] := by unfold numTo; rw [List.range_succ, List.map_append]; rfl
    have ih := merge_num hn m (by omega)
    conv => lhs; rw [e]
    unfold mergeK at ih ⊢
    rw [List.foldl_append, ih]
    exact numTo_succ hn (by omega)
theorem paired_of {α β : Type} {F : α → β → Prop} : ∀ {xs : List α} {ys : List β}, xs.length = ys.length → (∀ (i : Nat) (x : α) (y : β), xs[i]? = some x → ys[i]? = some y → F x y) → Paired F xs ys
  | [], [], _, _ => .nil
  | x :: xs, y :: ys, e, h => .cons (h 0 x y rfl rfl) (paired_of (Nat.succ.inj e) fun i x y a b => h (i + 1) x y (by simpa using a) (by simpa using b))
  | [], _ :: _, e, _ => by cases e
  | _ :: _, [], e, _ => by cases e
/-- dict of pairs (place, number) -/
theorem r_dictN {K : PySem.W.Frag} {G : Addr → Prop} {H : Hp} {Q : VK} {a : Addr} {as : List Addr} {ns : List Int} (hn : ns.Nodup) (hl : ns.length ≤ 100000) (h : PairsAt G H a as ((List.range ns.length).map fun j => (ns.getD j 0, ((j : Nat) : Int)))) (q : ∀ p, H p = none → ∀ H', H' = upd H p (.dK (numTo ns ns.length)) → IsD H' p (ixO ns) → Q (.ref p) H') : rDictP K [.ref a] H Q := by
  refine ⟨a, as, numTo ns ns.length, rfl, lst_of h.hp, paired_of (by rw [h.len, numTo_len, List.length_map, List.length_range]) fun i x y e1 e2 => ?_, fun p np => ?_⟩
  · have hi := (List.getElem?_eq_some_iff.mp e1).1
    rw [h.len, List.length_map, List.length_range] at hi
    unfold numTo at e2
    rw [List.getElem?_map, List.getElem?_range hi] at e2
    cases e2
    have := (h.it i x (ns.getD i 0, ((i : Nat) : Int)) e1 (by rw [List.getElem?_map, List.getElem?_range hi]; rfl)).1
    exact tup_of this
  · rw [merge_num hn _ (Nat.le_refl _)]
    exact q p np _ rfl ⟨_, upd_same, by rw [numTo_len]; exact hl, valV_all hn⟩
end Lx

namespace Lx
open PySem PySem.Spec PyProof.Rows L2
/-! ### one of two targets -/
def gOr (g1 g2 : TG) : TG := fun v σ H Q => g1 v σ H Q ∨ g2 v σ H Q
theorem pg_or {X : Cx} {t : Expr} {g1 g2 : TG} (h1 : PG X t g1) (h2 : PG X t g2) : PG X t (gOr g1 g2) :=
  ⟨fun pins s σ H v u Q I r h => h.elim (h1.run pins s σ H v u Q I r) (h2.run pins s σ H v u Q I r)⟩
theorem r_gOr {K : PySem.W.Frag} {σ : L2.St} {H : Hp} {R : L2.St → Hp → Prop} {n : Nat} {g1 g2 : TGs} {a : Addr} {xs : List V} (h : Sq H a xs) (e : xs.length = n) (q1 : g1 xs σ H R) (q2 : g2 xs σ H R) : gOr (gTup K n g1) (gUnl K n g2) (.ref a) σ H R :=
  h.elim (fun h => .inr ⟨a, xs, rfl, lst_of h, e, q2⟩) fun h => .inl ⟨a, xs, rfl, tup_of h, e, q1⟩
theorem r_gOr1 {K : PySem.W.Frag} {σ : L2.St} {H : Hp} {R : L2.St → Hp → Prop} {n : Nat} {g : TGs} {a : Addr} {xs : List V} (h : Sq H a xs) (e : xs.length = n) (q : g xs σ H R) : gOr (gTup K n g) (gUnl K n g) (.ref a) σ H R := r_gOr h e q q
theorem r_iOr {wi1 wi2 : TI} {σ : L2.St} {H : Hp} {R : It → Hp → Prop} (h : wi1 σ H R ∨ wi2 σ H R) : iOr wi1 wi2 σ H R := h
/-- a walk over a list or a tuple -/
theorem r_iSqV {K : PySem.W.Frag} {σ : L2.St} {H : Hp} {R : It → Hp → Prop} {i : Nat} {a : Addr} {xs : List V} (e : σ[i]? = some (some (.ref a))) (h : Sq H a xs)
    (q : ∀ (J : It) (OK : Hp → Prop), (∀ H', Same H H' → OK H') → Src J xs.length OK (fun i v H H' => H' = H ∧ xs[i]? = some v) → R J H) : iOr (iList K (tVar i)) (iTup K (tVar i)) σ H R :=
  h.elim (fun h => .inl ⟨.ref a, e, a, rfl, ⟨xs, lst_of h⟩, q _ (fun H' => SqL K H' a xs) (fun H' s => lst_of (s _ _ h)) src_list⟩) fun h => .inr ⟨.ref a, e, a, rfl, ⟨xs, tup_of h⟩, q _ (fun H' => SqT K H' a xs) (fun H' s => tup_of (s _ _ h)) src_tup⟩
/-! ### a list of tuples -/
structure TupsAt {α : Type} (f : α → List V) (G : Addr → Prop) (H : Hp) (p : Addr) (as : List Addr) (qs : List α) : Prop where
  hp : H p = some (.lst (as.map V.ref))
  len : as.length = qs.length
  it : ∀ (i : Nat) (a : Addr) (q : α), as[i]? = some a → qs[i]? = some q → H a = some (.tup (f q)) ∧ G a
section
variable {α : Type} {f : α → List V} {G G' : Addr → Prop} {H H' : Hp} {p : Addr} {as : List Addr} {qs : List α}
theorem TupsAt.same (h : TupsAt f G H p as qs) (s : Same H H') : TupsAt f G H' p as qs :=
  ⟨s _ _ h.hp, h.len, fun i a q e1 e2 => ⟨s _ _ (h.it i a q e1 e2).1, (h.it i a q e1 e2).2⟩⟩
theorem TupsAt.weak (h : TupsAt f G H p as qs) (g : ∀ a, G a → G' a) : TupsAt f G' H p as qs :=
  ⟨h.hp, h.len, fun i a q e1 e2 => ⟨(h.it i a q e1 e2).1, g _ (h.it i a q e1 e2).2⟩⟩
theorem TupsAt.kpl {L : List Addr} (h : TupsAt f G H p as qs) (k : KpL L H H') (np : p ∉ L) (hG : ∀ a, G a → a ∉ L) : TupsAt f G H' p as qs :=
  ⟨k _ _ np h.hp, h.len, fun i a q e1 e2 => ⟨k _ _ (hG _ (h.it i a q e1 e2).2) (h.it i a q e1 e2).1, (h.it i a q e1 e2).2⟩⟩
theorem TupsAt.kp {r : Addr} {ys : List V} (h : TupsAt f G H p as qs) (k : Kp r H H') (hr : H r = some (.lst ys)) (np : p ≠ r) : TupsAt f G H' p as qs :=
  ⟨k _ _ np h.hp, h.len, fun i a q e1 e2 => by
    obtain ⟨z, g⟩ := h.it i a q e1 e2
    exact ⟨k _ _ (fun w => by rw [w, hr] at z; cases z) z, g⟩⟩
theorem TupsAt.any (h : TupsAt f G H p as qs) : TupsAt f (fun _ => True) H p as qs := h.weak fun _ _ => trivial
theorem TupsAt.at (h : TupsAt f G H p as qs) {i : Nat} (hi : i < qs.length) : ∃ t, (as.map V.ref)[i]? = some (.ref t) ∧ H t = some (.tup (f qs[i])) ∧ G t := by
  have hi' : i < as.length := by rw [h.len]; exact hi
  have e := List.getElem?_eq_getElem hi'
  have e2 := List.getElem?_eq_getElem hi
  exact ⟨as[i], by rw [List.getElem?_map, e]; rfl, (h.it i _ _ e e2).1, (h.it i _ _ e e2).2⟩
theorem TupsAt.nil (h : H p = some (.lst [])) : TupsAt f G H p [] ([] : List α) := ⟨h, rfl, fun i a q e _ => by simp at e⟩
theorem TupsAt.app {t : Addr} {q : α} (h : TupsAt f G H p as qs) (ht : H t = some (.tup (f q))) (g : G t) : TupsAt f G (upd H p (.lst (as.map V.ref ++ [.ref t]))) p (as ++ [t]) (qs ++ [q]) := by
  refine ⟨by rw [upd_same, List.map_append]; rfl, by rw [List.length_append, List.length_append, h.len]; rfl, fun i a r e1 e2 => ?_⟩
  have key : ∀ (b : Addr) (z : α), H b = some (.tup (f z)) → upd H p (.lst (as.map V.ref ++ [.ref t])) b = some (.tup (f z)) := by
    intro b z e
    have ne : b ≠ p := fun w => by rw [w, h.hp] at e; cases e
    exact (upd_ne ne).trans e
  by_cases hi : i < as.length
  · rw [List.getElem?_append_left hi] at e1
    rw [List.getElem?_append_left (by rw [← h.len]; exact hi)] at e2
    exact ⟨key a r (h.it i a r e1 e2).1, (h.it i a r e1 e2).2⟩
  · have hi' : i = as.length := by
      have := (List.getElem?_eq_some_iff.mp e1).1
      rw [List.length_append, List.length_singleton] at this
      omega
    subst hi'
    rw [List.getElem?_append_right (Nat.le_refl _), Nat.sub_self] at e1
    rw [List.getElem?_append_right (by rw [h.len]; exact Nat.le_refl _), h.len, Nat.sub_self] at e2
    cases e1; cases e2
    exact ⟨key t _ ht, g⟩
theorem TupsAt.upd {x : Addr} {o : HO} {ys : List V} (h : TupsAt f G H p as qs) (n : p ≠ x) (hx : H x = some (.lst ys)) : TupsAt f G (L2.upd H x o) p as qs :=
  ⟨(upd_ne n).trans h.hp, h.len, fun i a q e1 e2 => by
    obtain ⟨z, g⟩ := h.it i a q e1 e2
    have ne : a ≠ x := fun w => by rw [w, hx] at z; cases z
    exact ⟨(upd_ne ne).trans z, g⟩⟩
theorem TupsAt.single {t : Addr} {q : α} (hp : H p = some (.lst [.ref t])) (ht : H t = some (.tup (f q))) (g : G t) : TupsAt f G H p [t] [q] := by
  refine ⟨hp, rfl, fun i a r e1 e2 => ?_⟩
  match i, e1, e2 with
  | 0, e1, e2 => cases e1; cases e2; exact ⟨ht, g⟩
  | i + 1, e1, e2 => simp at e1
theorem TupsAt.cat {p2 : Addr} {as2 : List Addr} {qs2 : List α} {u : Addr} (h : TupsAt f G H p as qs) (h2 : TupsAt f G H p2 as2 qs2) (s : Same H H') (hu : H' u = some (.lst (as.map V.ref ++ as2.map V.ref))) : TupsAt f G H' u (as ++ as2) (qs ++ qs2) := by
  refine ⟨by rw [hu, List.map_append], by rw [List.length_append, List.length_append, h.len, h2.len], fun i a q e1 e2 => ?_⟩
  by_cases hi : i < as.length
  · rw [List.getElem?_append_left hi] at e1
    rw [List.getElem?_append_left (by rw [← h.len]; exact hi)] at e2
    exact ⟨s _ _ (h.it i a q e1 e2).1, (h.it i a q e1 e2).2⟩
  · rw [List.getElem?_append_right (by omega)] at e1
    rw [List.getElem?_append_right (by rw [← h.len]; omega), ← h.len] at e2
    exact ⟨s _ _ (h2.it _ a q e1 e2).1, (h2.it _ a q e1 e2).2⟩
end
section
variable {α : Type} {K : PySem.W.Frag} {a : Addr} {g : TG} {tt : TT} {te : TE} {vs : List Nat} {σ : L2.St} {H1 : Hp} {Dl : Addr} {Qd : Hp → Prop}
/-- a comprehension over a list of tuples -/
theorem lc_tups {f : α → List V} {G : Addr → Prop} {as : List Addr} {qs : List α} (h : TupsAt f G H1 a as qs) (hl : qs.length ≤ 100000) (P : α → Bool) (F : α → V)
    (hs : ∀ (t : Addr) (q : α) (H' : Hp) (Yes : V → Hp → Prop) (No : Hp → Prop), Same H1 H' → q ∈ qs → H' t = some (.tup (f q)) → (P q = true → ∀ H4, Same H' H4 → Yes (F q) H4) → (P q = false → ∀ H3, Same H' H3 → No H3) →
      g (.ref t) (wipe σ vs) H' fun σ2 H2 => wipe σ2 vs = wipe σ vs ∧ tt σ2 H2 fun b H3 => if b = true then te σ2 H3 Yes else No H3)
    (hD : H1 Dl = none) (q : ∀ H', Same H1 H' → H' Dl = some (.lst ((qs.filter P).map F)) → Qd H') :
    ∃ W : Nat → Nat → Hp → Prop, (∃ m, W 0 m (upd H1 Dl (.lst []))) ∧ ∀ i m H, W i m H →
      ((Itl K a).stop i H ∧ Qd H) ∨ ((Itl K a).go i H ∧ ∃ Nx : Hp → Prop, (∀ H', Nx H' → ∃ m', m' < m ∧ W (i + 1) m' H') ∧ ∀ x H', (Itl K a).yld i H x H' → g x (wipe σ vs) H' fun σ2 H2 => wipe σ2 vs = wipe σ vs ∧ tt σ2 H2 fun b H3 =>
        if b = true then te σ2 H3 fun y H4 => ∃ acc, H4 Dl = some (.lst acc) ∧ acc.length < sizeLine ∧ Nx (upd H4 Dl (.lst (acc ++ [y]))) else Nx H3) := by
  by_cases he : qs = []
  · subst he
    have ea : as = [] := List.length_eq_zero_iff.mp h.len
    subst ea
    refine lc_src (src_list (xs := ([] : List V))) (fun i H' => Same H1 H' ∧ H' Dl = some (.lst [])) (fun i H' h' => lst_of (h'.1 _ _ h.hp)) ⟨same_new hD, upd_same⟩ (fun i v H H' hi => absurd hi (Nat.not_lt_zero _)) (fun H' h' => q H' h'.1 h'.2)
  · have d : α := qs.head he
    refine lc_pure (src_list (xs := as.map V.ref)) (fun i => P (qs.getD i d)) (fun i => F (qs.getD i d)) (by rw [List.length_map, h.len]; exact hl) (fun H' s' => lst_of (s' _ _ h.hp)) ?_ hD fun H' s' hd => q H' s' ?_
    · rintro i x H' H'' Yes No hi s' ⟨rfl, hx⟩ hY hN
      rw [List.length_map, h.len] at hi
      obtain ⟨t, e1, e2, _⟩ := h.at hi
      rw [e1] at hx
      cases hx
      rw [getD_el hi] at hY hN
      exact hs t _ _ Yes No s' (List.getElem_mem hi) (s' _ _ e2) hY hN
    · rw [hd, List.length_map, h.len, giv_of]
end
/-! ### two clauses -/
section
variable {J : It} {n : Nat} {OK : Hp → Prop} {item : Nat → V → Hp → Hp → Prop} {g g1 : TG} {tt tt1 : TT} {wi1 : TI} {te : TE} {vs vs1 : List Nat} {σ : L2.St} {H1 : Hp} {Dl : Addr} {Qd : Hp → Prop}
theorem r_lc2 {wi : TI} {Q : VK} {H : Hp} (h : wi σ H fun J H1 => ∀ D, H1 D = none → ∃ W : Nat → Nat → Hp → Prop, (∃ m, W 0 m (upd H1 D (.lst []))) ∧ ∀ i m H, W i m H →
  (J.stop i H ∧ Q (.ref D) H) ∨ (J.go i H ∧ ∃ Nx : Hp → Prop, (∀ H', Nx H' → ∃ m', m' < m ∧ W (i + 1) m' H') ∧ ∀ x H', J.yld i H x H' → g x (wipe σ vs) H' fun σ2 H2 => wipe σ2 vs = wipe σ vs ∧ tt σ2 H2 fun b H3 =>
    if b = true then wi1 σ2 H3 fun J1 H4 => ∃ W1 : Nat → Nat → Hp → Prop, (∃ m, W1 0 m H4) ∧ ∀ j k H, W1 j k H →
      (J1.stop j H ∧ Nx H) ∨ (J1.go j H ∧ ∃ Nx1 : Hp → Prop, (∀ H', Nx1 H' → ∃ k', k' < k ∧ W1 (j + 1) k' H') ∧ ∀ x H', J1.yld j H x H' → g1 x (wipe σ2 vs1) H' fun σ3 H5 => wipe σ3 vs1 = wipe σ2 vs1 ∧ tt1 σ3 H5 fun b H6 =>
        if b = true then te σ3 H6 fun y H7 => ∃ acc, H7 D = some (.lst acc) ∧ acc.length < sizeLine ∧ Nx1 (upd H7 D (.lst (acc ++ [y]))) else Nx1 H6)
    else Nx H3)) : tLc2 wi g tt wi1 g1 tt1 te vs vs1 σ H Q := h
/-- the outer clause, by a word over the turn and the heap -/
theorem lc2_out (S : Src J n OK item) (Pv : Nat → Hp → Prop) (ok : ∀ i H, Pv i H → OK H) (h0 : Pv 0 (upd H1 Dl (.lst [])))
    (hs : ∀ i v H H', i < n → Pv i H → item i v H H' → g v (wipe σ vs) H' fun σ2 H2 => wipe σ2 vs = wipe σ vs ∧ tt σ2 H2 fun b H3 =>
      if b = true then wi1 σ2 H3 fun J1 H4 => ∃ W1 : Nat → Nat → Hp → Prop, (∃ m, W1 0 m H4) ∧ ∀ j k H, W1 j k H →
        (J1.stop j H ∧ Pv (i + 1) H) ∨ (J1.go j H ∧ ∃ Nx1 : Hp → Prop, (∀ H', Nx1 H' → ∃ k', k' < k ∧ W1 (j + 1) k' H') ∧ ∀ x H', J1.yld j H x H' → g1 x (wipe σ2 vs1) H' fun σ3 H5 => wipe σ3 vs1 = wipe σ2 vs1 ∧ tt1 σ3 H5 fun b H6 =>
          if b = true then te σ3 H6 fun y H7 => ∃ acc, H7 Dl = some (.lst acc) ∧ acc.length < sizeLine ∧ Nx1 (upd H7 Dl (.lst (acc ++ [y]))) else Nx1 H6)
      else Pv (i + 1) H3) (hd : ∀ H, Pv n H → Qd H) :
    ∃ W : Nat → Nat → Hp → Prop, (∃ m, W 0 m (upd H1 Dl (.lst []))) ∧ ∀ i m H, W i m H →
      (J.stop i H ∧ Qd H) ∨ (J.go i H ∧ ∃ Nx : Hp → Prop, (∀ H', Nx H' → ∃ m', m' < m ∧ W (i + 1) m' H') ∧ ∀ x H', J.yld i H x H' → g x (wipe σ vs) H' fun σ2 H2 => wipe σ2 vs = wipe σ vs ∧ tt σ2 H2 fun b H3 =>
        if b = true then wi1 σ2 H3 fun J1 H4 => ∃ W1 : Nat → Nat → Hp → Prop, (∃ m, W1 0 m H4) ∧ ∀ j k H, W1 j k H →
          (J1.stop j H ∧ Nx H) ∨ (J1.go j H ∧ ∃ Nx1 : Hp → Prop, (∀ H', Nx1 H' → ∃ k', k' < k ∧ W1 (j + 1) k' H') ∧ ∀ x H', J1.yld j H x H' → g1 x (wipe σ2 vs1) H' fun σ3 H5 => wipe σ3 vs1 = wipe σ2 vs1 ∧ tt1 σ3 H5 fun b H6 =>
            if b = true then te σ3 H6 fun y H7 => ∃ acc, H7 Dl = some (.lst acc) ∧ acc.length < sizeLine ∧ Nx1 (upd H7 Dl (.lst (acc ++ [y]))) else Nx1 H6)
        else Nx H3) := by
  refine ⟨fun i m H => i + m = n ∧ Pv i H, ⟨n, Nat.zero_add n, h0⟩, ?_⟩
  rintro i m H ⟨e, p⟩
  have o := ok i H p
  by_cases hi : i < n
  · refine .inr ⟨S.go i H o hi, Pv (i + 1), ?_, ?_⟩
    · intro H' p'
      exact ⟨m - 1, by omega, by omega, p'⟩
    · intro x H' y
      exact hs i x H H' hi p (S.yld i H x H' o hi y)
  · have ei : i = n := by omega
    subst ei
    exact .inl ⟨S.stop H o, hd H p⟩
/-- the inner clause -/
theorem lc2_in {Q1 : Hp → Prop} {σ2 : L2.St} {H4 : Hp} (S : Src J n OK item) (Pv : Nat → Hp → Prop) (ok : ∀ i H, Pv i H → OK H) (h0 : Pv 0 H4)
    (hs : ∀ i v H H', i < n → Pv i H → item i v H H' → g1 v (wipe σ2 vs1) H' fun σ3 H5 => wipe σ3 vs1 = wipe σ2 vs1 ∧ tt1 σ3 H5 fun b H6 =>
      if b = true then te σ3 H6 fun y H7 => ∃ acc, H7 Dl = some (.lst acc) ∧ acc.length < sizeLine ∧ Pv (i + 1) (upd H7 Dl (.lst (acc ++ [y]))) else Pv (i + 1) H6) (hd : ∀ H, Pv n H → Q1 H) :
    ∃ W1 : Nat → Nat → Hp → Prop, (∃ m, W1 0 m H4) ∧ ∀ j k H, W1 j k H →
      (J.stop j H ∧ Q1 H) ∨ (J.go j H ∧ ∃ Nx1 : Hp → Prop, (∀ H', Nx1 H' → ∃ k', k' < k ∧ W1 (j + 1) k' H') ∧ ∀ x H', J.yld j H x H' → g1 x (wipe σ2 vs1) H' fun σ3 H5 => wipe σ3 vs1 = wipe σ2 vs1 ∧ tt1 σ3 H5 fun b H6 =>
        if b = true then te σ3 H6 fun y H7 => ∃ acc, H7 Dl = some (.lst acc) ∧ acc.length < sizeLine ∧ Nx1 (upd H7 Dl (.lst (acc ++ [y]))) else Nx1 H6) := by
  refine ⟨fun i m H => i + m = n ∧ Pv i H, ⟨n, Nat.zero_add n, h0⟩, ?_⟩
  rintro i m H ⟨e, p⟩
  have o := ok i H p
  by_cases hi : i < n
  · refine .inr ⟨S.go i H o hi, Pv (i + 1), ?_, ?_⟩
    · intro H' p'
      exact ⟨m - 1, by omega, by omega, p'⟩
    · intro x H' y
      exact hs i x H H' hi p (S.yld i H x H' o hi y)
  · have ei : i = n := by omega
    subst ei
    exact .inl ⟨S.stop H o, hd H p⟩
end
end Lx

namespace Lx
open PySem PySem.Spec PyProof.Rows PySem.Calls L2
/-! ### enumerate(text) -/
def Ites (x : Str) : It :=
  ⟨fun i _ => i < x.cps.size, fun i H v H' => ∃ T c, v = .ref T ∧ H T = none ∧ H' = upd H T (.tup [.int (i : Nat), .str ⟨#[c]⟩]) ∧ x.cps[i]? = some c, fun i _ => i = x.cps.size⟩
theorem turn_enumS {P : Program} {w : World} {K : PySem.W.Frag} {elts : List Expr} {kk : Nat} {tpos : Pos} (x : Str) (t : Tok) (e it : Addr) :
    Turn P w K (.Tuple elts kk tpos) (Ites x) [e, it] e (fun i h => (∃ old, IsEnum h e it ((i : Nat) : Int) old) ∧ h.IsStrIter it (strIterType x) x t i ∧ e ≠ it) where
  mem := by simp
  obj := fun i h st b hb => by
    obtain ⟨⟨old, he⟩, ⟨o, ho, hc, hd⟩, _⟩ := st
    have e' : b = e ∨ b = it := by simpa using hb
    rcases e' with z | z
    · rw [z]; exact ⟨_, he, fun v q => nomatch q⟩
    · rw [z]; exact ⟨o, ho, fun v q => by rw [hd] at q; cases q⟩
  keep := fun i h h' st k => let ⟨⟨old, he⟩, ⟨o, ho, r⟩, hne⟩ := st; ⟨⟨old, k e (by simp) _ he⟩, ⟨o, k it (by simp) o ho, r⟩, hne⟩
  item := by
    intro X hP hw hK hc i pins s σ H E I hf st hg
    subst hP hw hK
    obtain ⟨⟨old, he⟩, hit, hne⟩ := st
    have hel : e < s.heap.objs.size := Heap.lt_size he
    have hil : it < s.heap.objs.size := by obtain ⟨_, q, _⟩ := hit; exact Heap.lt_size q
    have D := Draws.text (prog := X.prog) (w := X.w) (A := X.A.in1) (show X.A.in1.handled = none from I.ok.hd hc) it x t
    refine wpAny_pyNext_enum_itemD D he hit hg hne (fun z => hne (by simpa using z)) fun u h' tk hu ho hit' hT hsz hk => ?_
    obtain ⟨c, tt, hcx, rfl⟩ := hu
    refine ⟨_, rfl, wpAny_letOwnedTupleGo_enum (s := { s with heap := h', toks := tk + 1 }) ho fun h'' he' sb => ?_⟩
    have hT2 : h''.get? s.heap.objs.size = some { cls := .type "tuple", data := .seq #[.int i tk, .str ⟨#[c]⟩ tt] } := (sb.2 _ (Nat.ne_of_gt hel)).trans hT
    have new : ObjOk X.prog X.w (upd H s.heap.objs.size (.tup [.int (i : Nat), .str ⟨#[c]⟩])) h'' s.heap.objs.size (.tup [.int (i : Nat), .str ⟨#[c]⟩]) :=
      ⟨by show 2 ≤ sizeLine; decide, [.int i tk, .str ⟨#[c]⟩ tt], .cons ⟨_, rfl⟩ (.cons ⟨_, rfl⟩ .nil), ⟨_, hT2, rfl, _, rfl⟩⟩
    have I1 : Inv X pins σ (upd H s.heap.objs.size (.tup [.int (i : Nat), .str ⟨#[c]⟩])) { s with heap := h'', toks := tk + 1 } :=
      I.turnedNew (ch := [e, it]) (fun b ob hb q => (sb.2 b (fun z => hb (by simp [z]))).trans (hk b ob (fun z => hb (by simp [z])) (fun z => hb (by simp [z])) q)) hf (Nat.le_refl _) new
    refine ⟨.ref s.heap.objs.size, _, I1, rfl, ⟨_, c, rfl, I.hok.fresh (Nat.le_refl _), rfl, hcx⟩, ⟨⟨.str ⟨#[c]⟩ tt, ?_⟩, ?_, hne⟩, fun b hb => ?_⟩
    · have e1 : ((i + 1 : Nat) : Int) = (i : Int) + 1 := by omega
      rw [e1]; exact he'
    · obtain ⟨o, ho2, r⟩ := hit'
      exact ⟨o, (sb.2 it (Ne.symm hne)).trans ho2, r⟩
    · have hb' : b < s.heap.objs.size := by
        have e' : b = e ∨ b = it := by simpa using hb
        rcases e' with z | z
        · rw [z]; exact hel
        · rw [z]; exact hil
      rw [upd_ne (Nat.ne_of_lt hb')]
      exact (hf b hb).1
  done := by
    intro X hP hw hK hc i pins s σ H E I hf st hg
    subst hP hw hK
    obtain ⟨⟨old, he⟩, hit, hne⟩ := st
    obtain ⟨f0, f1, f2, f3, f4, f5⟩ := hf it (by simp)
    have hg : i = x.cps.size := hg
    subst hg
    have D := Draws.text (prog := X.prog) (w := X.w) (A := X.A.in1) (show X.A.in1.handled = none from I.ok.hd hc) it x t
    exact wpAny_pyNext_enum_endD D he hit fun h' eb => ⟨rfl, I.turned (t' := s.toks) (fun b o hb q => eb b o hb q) f0 f1 f3 f4 f5⟩
  self := fun A i s Q E st h => let ⟨⟨_, he⟩, _⟩ := st; wpAny_pyIter_enum he h
def iEnumS (ta : TA) : TI := fun σ H R => ta σ H fun vs H1 => ∃ x, vs = [.str x] ∧ R (Ites x) H1
theorem pi_enumS {X : Cx} {e : Expr} {ta : TA} {p pos tpos : Pos} {elts : List Expr} {kk : Nat} (hg : Gl X "enumerate") (hm : X.mg "enumerate" = none) (ha : PA X [e] ta) (hs : starEach [e] X.env = [(false, eval e X.env)] := by rfl) :
    PI X (.Tuple elts kk tpos) (.Call (.Name "enumerate" p) [e] [] pos) (iEnumS ta) := by
  refine ⟨fun pins s σ H R I h => ?_⟩
  refine Call_ (ld_blt I hg hm boot_enumerate (PyProof.Rows.callWith_type1 (thn (ha.run pos pins s σ H _ I h) fun us s1 ⟨vs, H1, I1, r1, q1⟩ => ?_) hs rfl))
  obtain ⟨x, ex, q⟩ := q1
  subst ex
  cases r1 with
  | cons r rr =>
    cases rr
    obtain ⟨t, rfl⟩ := r
    refine call_enumerate_str fun h' he hit hsz hk => wpAny_pyIter_enum he ?_
    have I2 : Inv X pins σ H1 { s1 with heap := h' } := I1.kept (t' := s1.toks) hk
    refine ⟨s1.heap.objs.size + 1, [s1.heap.objs.size + 1, s1.heap.objs.size], _, _, H1, rfl, I2, turn_enumS x t (s1.heap.objs.size + 1) s1.heap.objs.size, ⟨⟨.none, he⟩, hit, Nat.succ_ne_self _⟩, fun b hb => ?_, q⟩
    have e' : b = s1.heap.objs.size + 1 ∨ b = s1.heap.objs.size := by simpa using hb
    have hle : s1.heap.objs.size ≤ b := by
      rcases e' with z | z
      · rw [z]; exact Nat.le_add_right _ _
      · rw [z]; exact Nat.le_refl _
    exact I1.fpOk hle (I1.hok.fresh hle)
theorem r_iEnumS {ta : TA} {σ : L2.St} {H : Hp} {R : It → Hp → Prop} (h : ta σ H fun vs H1 => ∃ x, vs = [.str x] ∧ R (Ites x) H1) : iEnumS ta σ H R := h
theorem src_enumS {x : Str} : Src (Ites x) x.cps.size (fun _ => True) (fun i v H H' => ∃ T c, v = .ref T ∧ H T = none ∧ H' = upd H T (.tup [.int (i : Nat), .str ⟨#[c]⟩]) ∧ x.cps[i]? = some c) where
  go := fun i H h hi => hi
  stop := fun H h => rfl
  yld := fun i H v H' h _ y => y
/-! ### is True, is False -/
def rIsB : R2 := fun x y H Q => ∃ a b, x = .bl a ∧ y = .bl b ∧ Q (.bl (decide (a = b))) H
def rNotB : R2 := fun x y H Q => ∃ a b, x = .bl a ∧ y = .bl b ∧ Q (.bl (!decide (a = b))) H
theorem op_isB {X : Cx} : OpR X (compareOp .Is) rIsB := by
  intro pins s σ H x y v u Q I rx ry h
  obtain ⟨a, b, rfl, rfl, q⟩ := h
  cases rx
  cases ry
  refine wpAny_is_plain rfl (fin_bl I q ?_)
  cases a <;> cases b <;> rfl
theorem op_notB {X : Cx} : OpR X (compareOp .IsNot) rNotB := by
  intro pins s σ H x y v u Q I rx ry h
  obtain ⟨a, b, rfl, rfl, q⟩ := h
  cases rx
  cases ry
  refine wpAny_isNot_plain rfl (fin_bl I q ?_)
  cases a <;> cases b <;> rfl
theorem r_isB {H : Hp} {Q : VK} {a b : Bool} (q : Q (.bl (decide (a = b))) H) : rIsB (.bl a) (.bl b) H Q := ⟨a, b, rfl, rfl, q⟩
theorem r_notB {H : Hp} {Q : VK} {a b : Bool} (q : Q (.bl (!decide (a = b))) H) : rNotB (.bl a) (.bl b) H Q := ⟨a, b, rfl, rfl, q⟩
end Lx

namespace Lx
open PySem PySem.Spec PyProof.Rows L2
/-! ### equality of data without bools -/
mutual
def plainD : PyData → Bool
  | .none => true
  | .bool _ => false
  | .int _ => true
  | .str _ => true
  | .list xs => plainAll xs
  | .tuple xs => plainAll xs
  | .dict _ => false
def plainAll : List PyData → Bool
  | [] => true
  | x :: xs => plainD x && plainAll xs
end
mutual
theorem eqv_iff : ∀ {d e : PyData}, plainD d = true → plainD e = true → (PyData.eqv d e = true ↔ d = e)
  | .none, e, _, he => by cases e <;> simp [PyData.eqv] <;> simp [plainD] at he
  | .bool b, _, h, _ => by simp [plainD] at h
  | .dict b, _, h, _ => by simp [plainD] at h
  | .int i, e, _, he => by cases e <;> simp [PyData.eqv] <;> simp [plainD] at he
  | .str i, e, _, he => by cases e <;> simp [PyData.eqv] <;> simp [plainD] at he
  | .list xs, e, h, he => by
    cases e with
    | list ys =>
      have := eqvAll_iff (xs := xs) (ys := ys) (by simpa [plainD] using h) (by simpa [plainD] using he)
      simp only [PyData.eqv, PyData.list.injEq]
      exact this
    | _ => simp [PyData.eqv]
  | .tuple xs, e, h, he => by
    cases e with
    | tuple ys =>
      have := eqvAll_iff (xs := xs) (ys := ys) (by simpa [plainD] using h) (by simpa [plainD] using he)
      simp only [PyData.eqv, PyData.tuple.injEq]
      exact this
    | _ => simp [PyData.eqv]
theorem eqvAll_iff : ∀ {xs ys : List PyData}, plainAll xs = true → plainAll ys = true → (PyData.eqvAll xs ys = true ↔ xs = ys)
  | [], [], _, _ => by simp [PyData.eqvAll]
  | [], _ :: _, _, _ => by simp [PyData.eqvAll]
  | _ :: _, [], _, _ => by simp [PyData.eqvAll]
  | x :: xs, y :: ys, h, h' => by
    simp only [plainAll, Bool.and_eq_true] at h h'
    have h1 := eqv_iff (d := x) (e := y) h.1 h'.1
    have h2 := eqvAll_iff (xs := xs) (ys := ys) h.2 h'.2
    simp only [PyData.eqvAll, Bool.and_eq_true, List.cons.injEq]
    rw [h1, h2]
end
theorem plainAll_of {ds : List PyData} (h : ∀ d ∈ ds, plainD d = true) : plainAll ds = true := by
  induction ds with
  | nil => rfl
  | cons d ds ih =>
    show (plainD d && plainAll ds) = true
    rw [h d List.mem_cons_self, ih fun x hx => h x (List.mem_cons_of_mem _ hx)]
    rfl
theorem canLayAll_of {ds : List PyData} (h : ∀ d ∈ ds, d.canLay0 = true) : PyData.canLayAll0 ds = true := by
  induction ds with
  | nil => rfl
  | cons d ds ih =>
    show (d.canLay0 && PyData.canLayAll0 ds) = true
    rw [h d List.mem_cons_self, ih fun x hx => h x (List.mem_cons_of_mem _ hx)]
    rfl
/-- data that == may look at, without bools, of depth at most k -/
structure Eqs (d : PyData) (k : Nat) : Prop where
  p : plainD d = true
  c : d.canLay0 = true
  k : d.depth ≤ k
theorem Eqs.int (i : Int) : Eqs (.int i) 0 := ⟨rfl, rfl, Nat.le_refl _⟩
theorem Eqs.none : Eqs .none 0 := ⟨rfl, rfl, Nat.le_refl _⟩
theorem Eqs.list {ds : List PyData} {k : Nat} (h : ∀ d ∈ ds, Eqs d k) : Eqs (.list ds) (k + 1) :=
  ⟨by show plainAll ds = true; exact plainAll_of fun d hd => (h d hd).p, by unfold PyData.canLay0; exact canLayAll_of fun d hd => (h d hd).c, Nat.succ_le_succ (depthAll_le fun d hd => (h d hd).k)⟩
theorem Eqs.tup {ds : List PyData} {k : Nat} (h : ∀ d ∈ ds, Eqs d k) : Eqs (.tuple ds) (k + 1) :=
  ⟨by show plainAll ds = true; exact plainAll_of fun d hd => (h d hd).p, by unfold PyData.canLay0; exact canLayAll_of fun d hd => (h d hd).c, Nat.succ_le_succ (depthAll_le fun d hd => (h d hd).k)⟩
theorem Eqs.mono {d : PyData} {k m : Nat} (h : Eqs d k) (l : k ≤ m) : Eqs d m := ⟨h.p, h.c, Nat.le_trans h.k l⟩
theorem Eqs.shaped {d : PyData} {k : Nat} (h : Eqs d k) (l : k ≤ 64) : SeqAt.shaped d = true := by
  unfold SeqAt.shaped
  rw [h.c, decide_eq_true (Nat.le_trans h.k l)]
  rfl
theorem r_eqDD {K : PySem.W.Frag} {H : Hp} {Q : VK} {x y : V} {d e : PyData} {k m : Nat} (hx : Dp K H x d) (hy : Dp K H y e) (hd : Eqs d k) (he : Eqs e m) (lk : k ≤ 64) (lm : m ≤ 64) (q : ∀ b : Bool, (b = true ↔ d = e) → Q (.bl b) H) : rEqD K x y H Q :=
  ⟨d, e, hx, hy, hd.shaped lk, he.shaped lm, q _ (eqv_iff hd.p he.p)⟩
theorem r_neDD {K : PySem.W.Frag} {H : Hp} {Q : VK} {x y : V} {d e : PyData} {k m : Nat} (hx : Dp K H x d) (hy : Dp K H y e) (hd : Eqs d k) (he : Eqs e m) (lk : k ≤ 64) (lm : m ≤ 64) (q : ∀ b : Bool, (b = true ↔ d ≠ e) → Q (.bl b) H) : rNeD K x y H Q := by
  refine ⟨d, e, hx, hy, hd.shaped lk, he.shaped lm, q _ ?_⟩
  have := eqv_iff hd.p he.p
  cases h : PyData.eqv d e with
  | true => rw [h] at this; exact ⟨fun z => (by cases z), fun z => absurd (this.mp rfl) z⟩
  | false => rw [h] at this; exact ⟨fun _ z => (by cases this.mpr z), fun _ => rfl⟩
/-- a comprehension over a list of tuples that keeps the tuples -/
theorem lc_tupsR {K : PySem.W.Frag} {a : Addr} {g : TG} {tt : TT} {te : TE} {vs : List Nat} {σ : L2.St} {H1 : Hp} {Dl : Addr} {Qd : Hp → Prop} {α : Type} {f : α → List V} {G : Addr → Prop} {as : List Addr} {qs : List α} (h : TupsAt f G H1 a as qs) (hl : qs.length ≤ 100000) (P : α → Bool)
    (hs : ∀ (t : Addr) (q : α) (H' : Hp) (Yes : V → Hp → Prop) (No : Hp → Prop), Same H1 H' → q ∈ qs → H' t = some (.tup (f q)) → (P q = true → ∀ H4, Same H' H4 → Yes (.ref t) H4) → (P q = false → ∀ H3, Same H' H3 → No H3) →
      g (.ref t) (wipe σ vs) H' fun σ2 H2 => wipe σ2 vs = wipe σ vs ∧ tt σ2 H2 fun b H3 => if b = true then te σ2 H3 Yes else No H3)
    (hD : H1 Dl = none) (q : ∀ H' rs, Same H1 H' → TupsAt f (fun _ => True) H' Dl rs (qs.filter P) → Qd H') :
    ∃ W : Nat → Nat → Hp → Prop, (∃ m, W 0 m (upd H1 Dl (.lst []))) ∧ ∀ i m H, W i m H →
      ((Itl K a).stop i H ∧ Qd H) ∨ ((Itl K a).go i H ∧ ∃ Nx : Hp → Prop, (∀ H', Nx H' → ∃ m', m' < m ∧ W (i + 1) m' H') ∧ ∀ x H', (Itl K a).yld i H x H' → g x (wipe σ vs) H' fun σ2 H2 => wipe σ2 vs = wipe σ vs ∧ tt σ2 H2 fun b H3 =>
        if b = true then te σ2 H3 fun y H4 => ∃ acc, H4 Dl = some (.lst acc) ∧ acc.length < sizeLine ∧ Nx (upd H4 Dl (.lst (acc ++ [y]))) else Nx H3) := by
  refine lc_src (src_list (xs := as.map V.ref)) (fun i H' => Same H1 H' ∧ ∃ rs, TupsAt f (fun _ => True) H' Dl rs ((qs.take i).filter P)) (fun i H' h' => lst_of (h'.1 _ _ h.hp)) ⟨same_new hD, [], .nil upd_same⟩ ?_ ?_
  · rintro i v H2 H3 hi ⟨s2, rs, hr⟩ ⟨rfl, hx⟩
    rw [List.length_map, h.len] at hi
    obtain ⟨t, e1, e2, _⟩ := h.at hi
    rw [e1] at hx
    cases hx
    have e2' := s2 _ _ e2
    have et : qs.take (i + 1) = qs.take i ++ [qs[i]] := by rw [List.take_add_one, List.getElem?_eq_getElem hi]; rfl
    have fl := List.length_filter_le P (qs.take i)
    have tl : (qs.take i).length ≤ i := by rw [List.length_take]; omega
    refine hs t qs[i] _ _ _ s2 (List.getElem_mem hi) e2' (fun hP H4 s4 => ?_) (fun hP H4 s4 => ?_)
    · have hr4 := hr.same s4
      refine ⟨_, hr4.hp, szl (by rw [List.length_map, hr4.len]; omega), same_set (s2.trans s4) hD, rs ++ [t], ?_⟩
      rw [et, List.filter_append, List.filter_cons_of_pos hP, List.filter_nil]
      exact hr4.app (s4 _ _ e2') trivial
    · refine ⟨s2.trans s4, rs, ?_⟩
      rw [et, List.filter_append, List.filter_cons_of_neg (by rw [hP]; exact Bool.false_ne_true), List.filter_nil, List.append_nil]
      exact hr.same s4
  · rintro H2 ⟨s2, rs, hr⟩
    rw [List.length_map, h.len, List.take_length] at hr
    exact q H2 rs s2 hr
end Lx

namespace PySem
open Sem (wp)
open AutoSeq1 (wpAny_loadPart')
theorem meets_enumerate_newT (l : Addr) (items : Array Value) (n : Nat) (o : Obj) (hto : o.cls = .type "tuple") (hd : o.data = .seq items n) :
    Meets (Builtin.«enumerate.__new__» ⟨[.type "enumerate", .ref l], []⟩) (fun _ R s => s.heap.get? l = some o ∧ s.heap.IsTuple l items ∧
      R (.ok (.ret (.ref (s.heap.push { cls := .type "tuple_iterator", data := .fields #[.ref l, .int 0 0] }).objs.size)))
        { s with heap := (s.heap.push { cls := .type "tuple_iterator", data := .fields #[.ref l, .int 0 0] }).push { cls := .type "enumerate", data := .fields #[.none, .bool false, .ref s.heap.objs.size, rawInt 0, .none, .none] } }) :=
  .of_wp fun prog w A R s h => by
    obtain ⟨hp, g, d, tk, os⟩ := s; obtain ⟨hl, hL, h⟩ := h
    obtain ⟨oc, od, odt, osl⟩ := o
    replace hto : oc = .type "tuple" := hto
    subst hto
    have hsub := sub_enumerate
    wp_walk using wpAny_loadPart' hl
    refine wpAny_stack_any fun st => wpAny_pure ?_
    split
    · rename_i c _ _ _ _ _
      cases (c == Value.type "enumerate")
      · wp_walk using wpAny_loadPart' hl, wpAny_pyIter_tuple hL
        exact ⟨_, rfl, h⟩
      · wp_walk using wpAny_loadPart' hl, wpAny_pyIter_tuple hL
        exact ⟨_, rfl, h⟩
    · wp_walk using wpAny_loadPart' hl, wpAny_pyIter_tuple hL
      exact ⟨_, rfl, h⟩
end PySem
namespace PySem
section
variable {prog : Program} {w : World} {A : Around} {E : Value → Shared → Prop} {s : Shared}
theorem call_enumerate_tuple {l : Addr} {items : Array Value} {Q : Value → Shared → Prop} (hL : s.heap.IsTuple l items)
    (h : ∀ h', IsEnum h' (s.heap.objs.size + 1) s.heap.objs.size 0 .none → h'.IsTupleIter s.heap.objs.size l 0 → h'.objs.size = s.heap.objs.size + 2 →
      (∀ b o, s.heap.get? b = some o → h'.get? b = some o) → Q (.ref (s.heap.objs.size + 1)) { s with heap := h' }) :
    wpAny (model prog w) A (call (.type "enumerate") [.ref l]) Q E s := by
  have hL' := hL
  obtain ⟨o, hl, hc, n, hd⟩ := hL
  refine callType_new F.called_enumerate (by decide) (F.typeCall_enumerate_1 _) (F.newCall_enumerate_1 _) (fun obj => F.args_object_init_2 obj _) F.entry_enumerate_new
    (meets_enumerate_newT l items n o hc hd) ⟨hl, hL', ?_⟩
  have hz : (s.heap.push { cls := .type "tuple_iterator", data := .fields #[.ref l, .int 0 0] }).objs.size = s.heap.objs.size + 1 := Heap.size_push ..
  show _ ∧ _
  rw [hz]
  have he : IsEnum ((s.heap.push { cls := .type "tuple_iterator", data := .fields #[.ref l, .int 0 0] }).push
      { cls := .type "enumerate", data := .fields #[.none, .bool false, .ref s.heap.objs.size, rawInt 0, .none, .none] }) (s.heap.objs.size + 1) s.heap.objs.size 0 .none := by
    have := Heap.get?_push_size (s.heap.push { cls := .type "tuple_iterator", data := .fields #[.ref l, .int 0 0] })
      (o := { cls := .type "enumerate", data := .fields #[.none, .bool false, .ref s.heap.objs.size, rawInt 0, .none, .none] }) rfl
    rw [hz] at this; exact this
  refine ⟨⟨_, he, rfl⟩, h _ he ⟨_, Heap.get?_push_of_some _ (Heap.get?_push_size _ rfl), rfl, rfl⟩ (by rw [Heap.size_push, hz]) fun b o x => Heap.get?_push_of_some _ (Heap.get?_push_of_some _ x)⟩
end
end PySem
namespace Lx
open PySem PySem.Spec PyProof.Rows PySem.Calls L2
/-! ### enumerate(tuple) -/
def Itet (K : PySem.W.Frag) (a : Addr) : It :=
  ⟨fun i H => ∃ (xs : List V) (x : V), SqT K H a xs ∧ xs[i]? = some x, fun i H v H' => ∃ T x, v = .ref T ∧ H T = none ∧ H' = upd H T (.tup [.int (i : Nat), x]) ∧ ∀ xs, SqT K H a xs → xs[i]? = some x, fun i H => ∃ xs : List V, SqT K H a xs ∧ xs.length ≤ i⟩
theorem turn_enumT {P : Program} {w : World} {K : PySem.W.Frag} {elts : List Expr} {kk : Nat} {tpos : Pos} (a e it : Addr) :
    Turn P w K (.Tuple elts kk tpos) (Itet K a) [e, it] e (fun i h => (∃ old, IsEnum h e it ((i : Nat) : Int) old) ∧ h.IsTupleIter it a i ∧ e ≠ it) where
  mem := by simp
  obj := fun i h st b hb => by
    obtain ⟨⟨old, he⟩, ⟨o, ho, hc, hd⟩, _⟩ := st
    have e' : b = e ∨ b = it := by simpa using hb
    rcases e' with z | z
    · rw [z]; exact ⟨_, he, fun v q => nomatch q⟩
    · rw [z]; exact ⟨o, ho, fun v q => by rw [hd] at q; cases q⟩
  keep := fun i h h' st k => let ⟨⟨old, he⟩, hi, hne⟩ := st; ⟨⟨old, k e (by simp) _ he⟩, hi.at fun o q => k it (by simp) o q, hne⟩
  item := by
    intro X hP hw hK hc i pins s σ H E I hf st hg
    subst hP hw hK
    obtain ⟨⟨old, he⟩, hit, hne⟩ := st
    obtain ⟨xs, x, hq, hx⟩ := hg
    obtain ⟨its, rv, p, hz⟩ := I.tuple hq
    obtain ⟨u, hu, ru⟩ := rv.get hx
    have hel : e < s.heap.objs.size := Heap.lt_size he
    have hil : it < s.heap.objs.size := by obtain ⟨_, q, _⟩ := hit; exact Heap.lt_size q
    have pt : s.heap.IsTuple a its.toArray := p
    have nai : a ≠ it := fun z => by
      obtain ⟨o1, h1, c1, _⟩ := pt
      obtain ⟨o2, h2, c2, _⟩ := hit
      rw [z, h2] at h1
      cases h1
      rw [c2] at c1
      exact absurd c1 (by decide)
    have nae : e ≠ a := fun z => by
      obtain ⟨o1, h1, c1, _⟩ := pt
      have h2 := he
      unfold IsEnum at h2
      rw [z, h1] at h2
      cases h2
      have c2 : (Value.type "enumerate") = Value.type "tuple" := c1
      exact absurd c2 (by decide)
    have D := Draws.tuple (prog := X.prog) (w := X.w) (A := X.A.in1) (show X.A.in1.handled = none from I.ok.hd hc) it a nai its.toArray
    have hlt : i < its.toArray.size := by
      have := (List.getElem?_eq_some_iff.mp hu).1
      simpa using this
    refine wpAny_pyNext_enum_itemD D he ⟨hit, pt⟩ hlt hne (fun z => by
      rcases List.mem_cons.mp z with z | z
      · exact hne z
      · exact nae (List.mem_singleton.mp z)) fun u' h' tk hu' ho hit' hT hsz hk => ?_
    obtain rfl : u = u' := by
      have e1 : its.toArray[i]? = some u' := hu'
      rw [List.getElem?_toArray, hu] at e1
      exact Option.some.inj e1
    refine ⟨_, rfl, wpAny_letOwnedTupleGo_enum (s := { s with heap := h', toks := tk + 1 }) ho fun h'' he' sb => ?_⟩
    have hT2 : h''.get? s.heap.objs.size = some { cls := .type "tuple", data := .seq #[.int i tk, u] } := (sb.2 _ (Nat.ne_of_gt hel)).trans hT
    have new : ObjOk X.prog X.w (upd H s.heap.objs.size (.tup [.int (i : Nat), x])) h'' s.heap.objs.size (.tup [.int (i : Nat), x]) :=
      ⟨by show 2 ≤ sizeLine; decide, [.int i tk, u], .cons ⟨_, rfl⟩ (.cons ru .nil), ⟨_, hT2, rfl, _, rfl⟩⟩
    have I1 : Inv X pins σ (upd H s.heap.objs.size (.tup [.int (i : Nat), x])) { s with heap := h'', toks := tk + 1 } :=
      I.turnedNew (ch := [e, it]) (fun b ob hb q => (sb.2 b (fun z => hb (by simp [z]))).trans (hk b ob (fun z => hb (by simp [z])) (fun z => hb (by simp [z])) q)) hf (Nat.le_refl _) new
    refine ⟨.ref s.heap.objs.size, _, I1, rfl, ⟨_, x, rfl, I.hok.fresh (Nat.le_refl _), rfl, fun ys hy => by rw [I.tuple_inj hy hq]; exact hx⟩, ⟨⟨u, ?_⟩, hit'.1.at fun o q => (sb.2 it (Ne.symm hne)).trans q, hne⟩, fun b hb => ?_⟩
    · have e1 : ((i + 1 : Nat) : Int) = (i : Int) + 1 := by omega
      rw [e1]; exact he'
    · have hb' : b < s.heap.objs.size := by
        have e' : b = e ∨ b = it := by simpa using hb
        rcases e' with z | z
        · rw [z]; exact hel
        · rw [z]; exact hil
      rw [upd_ne (Nat.ne_of_lt hb')]
      exact (hf b hb).1
  done := by
    intro X hP hw hK hc i pins s σ H E I hf st hg
    subst hP hw hK
    obtain ⟨⟨old, he⟩, hit, hne⟩ := st
    obtain ⟨xs, hq, hx⟩ := hg
    obtain ⟨its, rv, p, hz⟩ := I.tuple hq
    obtain ⟨f0, f1, f2, f3, f4, f5⟩ := hf it (by simp)
    have hl := rv.length
    have pt : s.heap.IsTuple a its.toArray := p
    have nai : a ≠ it := fun z => by
      obtain ⟨o1, h1, c1, _⟩ := pt
      obtain ⟨o2, h2, c2, _⟩ := hit
      rw [z, h2] at h1
      cases h1
      rw [c2] at c1
      exact absurd c1 (by decide)
    have D : Draws X.prog X.w X.A.in1 it [it, a] 0 (fun i v => its.toArray[i]? = some v) (fun _ h => h.IsTupleIter it a i ∧ h.IsTuple a its.toArray) := {
      live := fun _ _ st => let ⟨o, ho, _⟩ := st.1; ⟨o, ho⟩
      frame := fun _ _ _ st hk => ⟨st.1.at fun o e => hk it (by simp) o e, st.2.at fun o e => hk a (by simp) o e⟩
      item := fun j s Q E hi st hQ => absurd hi (Nat.not_lt_zero _)
      done := fun s Q E st hE => wpAny_nextOf_tuple_end (show X.A.in1.handled = none from I.ok.hd hc) st.1 st.2 (by simp; omega) hE }
    exact wpAny_pyNext_enum_endD D he ⟨hit, pt⟩ fun h' eb => ⟨rfl, I.turned (t' := s.toks) (fun b o hb q => eb b o hb q) f0 f1 f3 f4 f5⟩
  self := fun A i s Q E st h => let ⟨⟨_, he⟩, _⟩ := st; wpAny_pyIter_enum he h
def iEnumT (K : PySem.W.Frag) (ta : TA) : TI := fun σ H R => ta σ H fun vs H1 => ∃ a xs, vs = [.ref a] ∧ SqT K H1 a xs ∧ R (Itet K a) H1
theorem pi_enumT {X : Cx} {e : Expr} {ta : TA} {p pos tpos : Pos} {elts : List Expr} {kk : Nat} (hg : Gl X "enumerate") (hm : X.mg "enumerate" = none) (ha : PA X [e] ta) (hs : starEach [e] X.env = [(false, eval e X.env)] := by rfl) :
    PI X (.Tuple elts kk tpos) (.Call (.Name "enumerate" p) [e] [] pos) (iEnumT X.K ta) := by
  refine ⟨fun pins s σ H R I h => ?_⟩
  refine Call_ (ld_blt I hg hm boot_enumerate (PyProof.Rows.callWith_type1 (thn (ha.run pos pins s σ H _ I h) fun us s1 ⟨vs, H1, I1, r1, q1⟩ => ?_) hs rfl))
  obtain ⟨a, xs, ex, hq, q⟩ := q1
  subst ex
  cases r1 with
  | cons r rr =>
    cases rr
    cases r
    obtain ⟨its, rv, p', hz⟩ := I1.tuple hq
    refine call_enumerate_tuple (show s1.heap.IsTuple a its.toArray from p') fun h' he hit hsz hk => wpAny_pyIter_enum he ?_
    have I2 : Inv X pins σ H1 { s1 with heap := h' } := I1.kept (t' := s1.toks) hk
    refine ⟨s1.heap.objs.size + 1, [s1.heap.objs.size + 1, s1.heap.objs.size], _, _, H1, rfl, I2, turn_enumT a (s1.heap.objs.size + 1) s1.heap.objs.size, ⟨⟨.none, he⟩, hit, Nat.succ_ne_self _⟩, fun b hb => ?_, q⟩
    have e' : b = s1.heap.objs.size + 1 ∨ b = s1.heap.objs.size := by simpa using hb
    have hle : s1.heap.objs.size ≤ b := by
      rcases e' with z | z
      · rw [z]; exact Nat.le_add_right _ _
      · rw [z]; exact Nat.le_refl _
    exact I1.fpOk hle (I1.hok.fresh hle)
theorem k_enumT (K : PySem.W.Frag) {X : Cx} {e : Expr} {ta : TA} {p pos tpos : Pos} {elts : List Expr} {kk : Nat} (hg : Gl X "enumerate") (hm : X.mg "enumerate" = none) (ha : PA X [e] ta) (hs : starEach [e] X.env = [(false, eval e X.env)] := by rfl) (h : X.K = K := by rfl) :
    PI X (.Tuple elts kk tpos) (.Call (.Name "enumerate" p) [e] [] pos) (iEnumT K ta) := h ▸ pi_enumT hg hm ha hs
theorem src_enumT {K : PySem.W.Frag} {a : Addr} {xs : List V} : Src (Itet K a) xs.length (fun H => SqT K H a xs) (fun i v H H' => ∃ T x, v = .ref T ∧ H T = none ∧ H' = upd H T (.tup [.int (i : Nat), x]) ∧ xs[i]? = some x) where
  go := fun i H h hi => ⟨xs, xs[i], h, by simp [hi]⟩
  stop := fun H h => ⟨xs, h, Nat.le_refl _⟩
  yld := fun i H v H' h _ y => by
    obtain ⟨T, x, e, n, u, f⟩ := y
    exact ⟨T, x, e, n, u, f xs h⟩
/-- a walk over the numbered items of a list or a tuple -/
theorem r_enumSq {K : PySem.W.Frag} {σ : L2.St} {H : Hp} {R : It → Hp → Prop} {i : Nat} {a : Addr} {xs : List V} (e : σ[i]? = some (some (.ref a))) (h : Sq H a xs)
    (q : ∀ (J : It) (OK : Hp → Prop), (∀ H', H' a = H a → OK H') → Src J xs.length OK (fun i v H H' => ∃ T x, v = .ref T ∧ H T = none ∧ H' = upd H T (.tup [.int (i : Nat), x]) ∧ xs[i]? = some x) → R J H) : iOr (iEnum K (tCons (tVar i) tNil)) (iEnumT K (tCons (tVar i) tNil)) σ H R :=
  h.elim (fun h => .inl ⟨.ref a, e, a, xs, rfl, lst_of h, q _ (fun H' => SqL K H' a xs) (fun H' s => lst_of (s.trans h)) src_enum⟩) fun h => .inr ⟨.ref a, e, a, xs, rfl, tup_of h, q _ (fun H' => SqT K H' a xs) (fun H' s => tup_of (s.trans h)) src_enumT⟩
theorem Sq.there {H : Hp} {a : Addr} {xs : List V} (h : Sq H a xs) : ∃ o, H a = some o := h.elim (fun h => ⟨_, h⟩) fun h => ⟨_, h⟩
end Lx

namespace My
open PySem PySem.Spec PyProof.Rows L2 Lx
local macro_rules | `(tactic| walk_at "hp") => `(tactic| first
  | assumption
  | exact upd_same
  | (refine Eq.trans (upd_ne ?_) ?_; (focus (walk_at "ne")); walk_at "hp")
  | (refine Same.get (by assumption) ?_; walk_at "hp"))
local macro_rules | `(tactic| walk_at "ne") => `(tactic| first
  | assumption
  | exact Ne.symm (by assumption)
  | exact ne_new (by assumption) (by walk_at "hp")
  | exact (ne_new (by assumption) (by walk_at "hp")).symm)
local macro_rules | `(tactic| walk_at "sq") => `(tactic| first
  | assumption
  | exact lst_of (by walk_at "hp")
  | exact tup_of (by walk_at "hp")
  | (refine Same.seq (by assumption) ?_; walk_at "sq")
  | (refine Same.seqT (by assumption) ?_; walk_at "sq"))
local macro_rules | `(tactic| walk_at "lt") => `(tactic| first
  | assumption
  | exact Or.inl (by walk_at "sq")
  | exact Or.inr (by walk_at "sq")
  | exact Sq.or (by walk_at "q"))
local macro_rules | `(tactic| walk_at "q") => `(tactic| first
  | assumption
  | (refine Same.sq (by assumption) ?_; walk_at "q")
  | exact Or.inl (by walk_at "hp")
  | exact Or.inr (by walk_at "hp"))
local macro_rules | `(tactic| walk_at "s1") => `(tactic| with_reducible (first
  | refine r_seq ?_ | refine r_asg ?_ | refine r_name ?_ | refine r_c ?_ | refine r_op ?_ | refine r_if ?_ | refine r_test ?_ | refine r_bl ?_
  | refine r_I0 ?_ | refine r_eqI ?_ | refine r_neI ?_ | refine r_eqS ?_ | refine r_neS ?_ | refine r_eqB ?_ | refine r_neB ?_ | refine r_U ?_
  | refine r_cons ?_ | refine r_nil ?_ | refine r_CB ?_ | refine r_call ?_ | refine r_ret ?_ | refine r_nx ?_ | refine r_rt ?_ | refine r_next ?_ | refine r_retN ?_ | refine r_drop ?_
  | refine r_brk ?_ | refine r_cont ?_ | refine r_bk ?_ | refine r_ct ?_
  | refine r_lst ?_ | refine r_tup ?_ | refine r_new (Nat.le_of_ble_eq_true rfl) ?_ | refine r_sub ?_ | refine r_gcons ?_ | refine r_gnil ?_
  | refine r_B ?_ | refine r_and ?_ | refine r_or ?_ | refine r_not ?_ | refine r_andV ?_ | refine r_orV ?_ | refine r_notV ?_ | refine r_ifE ?_ | refine r_chain ?_
  | refine r_par ?_ | refine r_par3 ?_ | refine r_two ?_ | refine r_three ?_ | refine r_un ?_
  | refine r_BM ?_ | refine r_BM0 ?_ | refine r_tyS ?_ | refine r_sl ?_ | refine r_nop ?_ | refine r_part ?_ | refine r_int ?_ | refine r_revL ?_ | refine r_lstRg ?_ | refine r_rg1 ?_ | refine r_ip ?_ | refine r_isN0 ?_ | refine r_isNi ?_ | refine r_isNr ?_ | refine r_isNb ?_ | refine r_isNs ?_ | refine r_notN0 ?_ | refine r_notNi ?_ | refine r_notNr ?_ | refine r_abs ?_ | refine r_max2 ?_ | refine r_min2 ?_ | refine r_inti ?_ | refine r_intb ?_ | refine r_yes ?_ | refine r_for ?_ | refine r_lc ?_ | refine r_iList ?_ | refine r_iTup ?_ | refine r_iRng1 ?_ | refine r_iRng2 ?_ | refine r_iRng3 ?_ | refine r_iEnum ?_ | refine r_iZip ?_ | refine r_iStr ?_ | refine r_lenSet ?_ | refine r_fld ?_ | refine r_sfld ?_ | refine r_meth ?_ | refine r_make ?_ | refine r_prop ?_ | refine iteT ?_ | refine iteF ?_ | refine ifnT ?_ | refine ifnF ?_))
local macro_rules | `(tactic| walk_at "len") => `(tactic| first
  | assumption
  | exact szl (by (try simp only [vI_len, List.length_append, List.length_cons, List.length_nil, List.length_map, List.length_set, List.length_reverse]); omega)
  | exact sz (by (try simp only [vI_len, List.length_append, List.length_cons, List.length_nil, List.length_map, List.length_set, List.length_reverse]); omega))
local macro_rules | `(tactic| walk_at "side") => `(tactic| first
  | assumption
  | exact Or.inr ⟨by omega, by omega⟩
  | exact Or.inl ⟨by omega, by omega⟩
  | exact Or.inr ⟨by decide, by decide⟩
  | ((show (0 : Int) < _); first | assumption | decide | omega)
  | exact ⟨by decide, by decide⟩
  | exact ⟨by decide, by decide, by decide⟩
  | exact wide_div (b := 200) (by omega) (by omega) (by decide) (by decide)
  | exact wide_div (b := 200) (by decide) (by decide) (by decide) (by decide))
local macro_rules | `(tactic| walk_at "ty") => `(tactic| first
  | exact ty_int | exact ty_bl | exact ty_str | exact ty_non | exact ty_lst (by walk_at "hp") | exact ty_tup (by walk_at "hp"))
local macro_rules | `(tactic| walk_at "kit") => `(tactic| first
  | exact k_ii | exact k_ib | exact k_is | exact k_il | exact k_it | exact k_bi | exact k_bb | exact k_bs | exact k_bl | exact k_bt | exact k_si | exact k_sb | exact k_ss | exact k_sl | exact k_st
  | exact k_ni | exact k_nb | exact k_ns | exact k_nl | exact k_nt | exact k_li | exact k_lb | exact k_ls | exact k_ll | exact k_lt | exact k_ti | exact k_tb | exact k_ts | exact k_tl | exact k_tt)
local macro_rules | `(tactic| walk_at "lk") => `(tactic| first
  | assumption
  | exact lk2_1 | exact lk2_2 (by decide +kernel) | exact lk2_0 (by decide +kernel) (by decide +kernel)
  | exact lk3_1 | exact lk3_2 (by decide +kernel) | exact lk3_3 (by decide +kernel) (by decide +kernel) | exact lk3_0 (by decide +kernel) (by decide +kernel) (by decide +kernel))
local macro_rules | `(tactic| walk_at "fld") => `(tactic| first
  | refine r_fldAt (by walk_at "hp") (by assumption) (by assumption) (by walk_at "lk") ?_
  | refine r_sfldAt (by walk_at "hp") (by assumption) (by assumption) (Nat.le_of_ble_eq_true rfl) ?_
  | refine r_methAt (by walk_at "hp") (by walk_at "lk") ?_)
local macro_rules | `(tactic| walk_at "s2") => `(tactic| first
  | (with_reducible (first | refine ifNF rfl ?_ | refine ifDT rfl ?_))
  | refine ifDF (by decide) ?_
  | refine ifNT (by decide) ?_
  | ((with_reducible show tVar _ _ _ _); refine r_var rfl ?_)
  | ((with_reducible show tAug _ _ _ _ _ _); refine r_aug rfl ?_)
  | ((with_reducible show rI _ _ _ _ _ _); refine r_I (by walk_at "side") ?_)
  | ((with_reducible show rIxL _ _ _ _ _); refine r_ixL (by walk_at "sq") (by first | assumption | rfl) ?_)
  | ((with_reducible show rIxT _ _ _ _ _); refine r_ixT (by walk_at "sq") (by first | assumption | rfl) ?_)
  | ((with_reducible show rSetL _ _ _ _ _); refine r_setL (by walk_at "hp") (by first | assumption | rfl) ?_)
  | ((with_reducible show rSlL _ _ _ _ _ _); refine r_slL (by walk_at "sq") ?_)
  | ((with_reducible show rIsi _ _ _ _); refine isi_of (by walk_at "ty") (by walk_at "kit") ?_)
  | ((with_reducible show rIsiT _ _ _ _); first | refine isiLT_l (by walk_at "hp") (by walk_at "ty") (by walk_at "kit") (by walk_at "kit") ?_ | refine isiLT_t (by walk_at "hp") (by walk_at "ty") (by walk_at "kit") (by walk_at "kit") ?_ | refine isiLT_o (by walk_at "hp") (by walk_at "ty") (by walk_at "kit") (by walk_at "kit") ?_)
  | ((with_reducible show gTup _ _ _ _ _ _ _); refine r_gtup (by walk_at "sq") (by rfl) ?_)
  | ((with_reducible show gUnl _ _ _ _ _ _ _); refine r_gunl (by walk_at "sq") (by rfl) ?_)
  | ((with_reducible show tyV _ _ _ _ ∧ _); refine r_ty (by walk_at "hp") ?_)
  | ((with_reducible show rAppend _ _ _ _); refine r_app (by walk_at "hp") (by walk_at "len") ?_)
  | ((with_reducible show rAddS _ _ _ _); refine r_addS (by first | assumption | exact sz (by omega)) ?_)
  | ((with_reducible show rCountS _ _ _ _); refine r_countS ?_)
  | ((with_reducible show rReverse _ _ _ _); refine r_rev (by walk_at "hp") ?_)
  | ((with_reducible show Lx.rLen _ _ _ _); refine r_len (by walk_at "lt") ?_)
  | ((with_reducible show Lx.rLenS _ _ _); refine r_lenS (by first | assumption | exact sz (by omega)) ?_)
  | ((with_reducible show Lx.rListOf _ _ _ _); refine r_listOf (by walk_at "lt") ?_))
local macro_rules | `(tactic| walk_at "s") => `(tactic| repeat (first | walk_at "s1" | walk_at "s2"))

def topS (i : Nat) : Stmt := PySem.Challenge.pw_leftreturn_k05_whole_schedules_and_pairs.main.body.getD i (.Pass ⟨0, 0, 0, 0⟩)
abbrev Sis_integer : Stmt := topS 12
abbrev Nis_integer : List Str := ["value", "low", "high"]
theorem scis_integer : FnScope Nis_integer ["value", "low", "high"] (defScope Sis_integer) := ⟨rfl, rfl, rfl, by decide +kernel, rfl, by decide +kernel, by decide +kernel⟩

section
variable {P : Program} {w : World} {K : PySem.W.Frag} {mg : Str → Option Value} {base : Heap}
def spIsInteger : Sp := fun vs H Q _ => ∃ (v l : Int) (h : V), vs = [.int v, .int l, h] ∧ ((∃ u : Int, h = .int u ∧ Q (.bl (decide (l ≤ v) && decide (v ≤ u))) H) ∨ (h = .non ∧ Q (.bl (decide (l ≤ v))) H))
theorem ok_is_integer {f : Addr} {fd : FuncData} {k : Nat} (B : Bn mg) (F : FunD K "is_integer" "is_integer" (defArgs Sis_integer) (defBody Sis_integer) (defScope Sis_integer) [.non] [] f fd) : FnG P w K mg base (k + 1) f fd ["value", "low", "high"] spIsInteger := by
  refine gokD F scis_integer (fun vs H Q E h => ?_) (fun cdv A fs s H vs Q E hG hr h => ?_)
  · obtain ⟨_, _, _, rfl, _⟩ := h; rfl
  · obtain ⟨v, l, h, rfl, h⟩ := h
    have hu := hr.units
    refine ⟨_, (pss_cons (ps_if (pw_or (pt_not (pt_val (pe_callB (k_isi K) (by rfl) B.isinstance Bisinstance (pa_cons (pv 0) (pa_cons (pe_bltn (v := .ty "int") (by rfl) B.int Tint rfl) pa_nil))))) (pw_or1 (pt_val (pe_callB (k_isi K) (by rfl) B.isinstance Bisinstance (pa_cons (pv 0) (pa_cons (pe_bltn (v := .ty "bool") (by rfl) B.bool Tbool rfl) pa_nil)))))).pt (pss_one (ps_ret pe_bl)) pss_nil) (pss_one (ps_ret (pe_and (pe_cmpR op_le (pv 1) (pv 0) (nomark _)) (pe_one (pe_or (pe_cmpR op_isN' (pv 2) pe_non (nomark _)) (pe_one (pe_cmpR op_le (pv 0) (pv 2) (nomark _))))))))), ?_⟩
    walk_at "s"
    refine ifD (fun h1 => ?_) (fun h1 => ?_)
    · walk_at "s"
      rcases h with ⟨u, rfl, q⟩ | ⟨rfl, q⟩
      · walk_at "s"
        rw [decide_eq_true h1] at q
        exact q
      · walk_at "s"
        rw [decide_eq_true h1] at q
        exact q
    · walk_at "s"
      rcases h with ⟨u, rfl, q⟩ | ⟨rfl, q⟩
      · rw [decide_eq_false h1] at q
        exact q
      · rw [decide_eq_false h1] at q
        exact q
end

abbrev Sis_listed : Stmt := topS 13
abbrev Nis_listed : List Str := ["value"]
theorem scis_listed : FnScope Nis_listed ["value"] (defScope Sis_listed) := ⟨rfl, rfl, rfl, by decide +kernel, rfl, by decide +kernel, by decide +kernel⟩

section
variable {P : Program} {w : World} {K : PySem.W.Frag} {mg : Str → Option Value} {base : Heap}
def spIsListed : Sp := fun vs H Q _ => ∃ (a : Addr) (xs : List V), vs = [.ref a] ∧ Sq H a xs ∧ ∀ H', Same H H' → Q (.bl true) H'
theorem ok_is_listed {f : Addr} {fd : FuncData} {k : Nat} (B : Bn mg) (F : Fun K "is_listed" "is_listed" Sis_listed f fd) : FnG P w K mg base (k + 1) f fd ["value"] spIsListed := by
  refine gok F scis_listed (fun vs H Q E h => ?_) (fun cdv A fs s H vs Q E hG hr h => ?_)
  · obtain ⟨_, _, rfl, _⟩ := h; rfl
  · obtain ⟨a, xs, rfl, h, q⟩ := h
    have hu := hr.units
    refine ⟨_, (pss_one (ps_ret (pe_callB (k_isiT K) (by rfl) B.isinstance Bisinstance (pa_cons (pv 0) (pa_cons (pe_tup (pa_cons (pe_bltn (v := .ty "list") (by rfl) B.list Tlist rfl) (pa_cons (pe_bltn (v := .ty "tuple") (by rfl) B.tuple Ttuple rfl) pa_nil))) pa_nil))))), ?_⟩
    walk_at "s"
    intro p np
    have s1 := same_new (o := .tup [.ty "list", .ty "tuple"]) np
    rcases h with h | h
    · have h' := s1 _ _ h
      walk_at "s"
      exact q _ s1
    · have h' := s1 _ _ h
      walk_at "s"
      exact q _ s1
end

abbrev Sis_place_list : Stmt := topS 28
abbrev Nis_place_list : List Str := ["value", "place"]
theorem scis_place_list : FnScope Nis_place_list ["value"] (defScope Sis_place_list) := ⟨rfl, rfl, rfl, by decide +kernel, rfl, by decide +kernel, by decide +kernel⟩
abbrev Schecked_places : Stmt := topS 29
abbrev Nchecked_places : List Str := ["value"]
theorem scchecked_places : FnScope Nchecked_places ["value"] (defScope Schecked_places) := ⟨rfl, rfl, rfl, by decide +kernel, rfl, by decide +kernel, by decide +kernel⟩

/-- a list of places -/
structure IsPl (ns : List Int) : Prop where
  top : ns.length ≤ 200
  rng : ∀ x ∈ ns, 0 ≤ x ∧ x ≤ 1000000000000000000000000000000
  nd : ns.Nodup
section
variable {P : Program} {w : World} {K : PySem.W.Frag} {mg : Str → Option Value} {base : Heap}
def spIsPlaceList : Sp := fun vs H Q _ => ∃ (a : Addr) (ns : List Int), vs = [.ref a] ∧ Sq H a (vI ns) ∧ IsPl ns ∧ ∀ H', Same H H' → Q (.bl true) H'
theorem ok_is_place_list {f : Addr} {fd : FuncData} (B : Bn mg) (c_MAX_SIZE : Gc mg "MAX_SIZE" (.int 200)) (c_MAX_PLACE : Gc mg "MAX_PLACE" (.int 1000000000000000000000000000000)) (D_is_listed : Df P w K mg base 1 "is_listed" [] spIsListed) (D_is_integer : Df P w K mg base 1 "is_integer" [] spIsInteger)
   (F : Fun K "is_place_list" "is_place_list" Sis_place_list f fd) : FnG P w K mg base 2 f fd ["value"] spIsPlaceList := by
  refine gok F scis_place_list (fun vs H Q E h => ?_) (fun cdv A fs s H vs Q E hG hr h => ?_)
  · obtain ⟨_, _, rfl, _⟩ := h; rfl
  · obtain ⟨a, ns, rfl, h, hP, q⟩ := h
    have hu := hr.units
    have h2 := hP.top
    refine ⟨_, (pss_cons (ps_if (pw_or (pt_not (pt_val (pe_df D_is_listed hG (hr.mono (by first | decide | omega)) passL (by rfl) (pa_cons (pv 0) pa_nil)))) (pw_or1 (pt_cmpR op_gt (pe_callB (k_len K) (by rfl) B.len Blen (pa_cons (pv 0) pa_nil)) (pe_gc c_MAX_SIZE (by rfl)) (nomark _)))).pt (pss_one (ps_ret pe_bl)) pss_nil) (pss_one (ps_ret (pe_and (pe_callB (k_all K) (by rfl) B.all Ball (pa_cons (pe_lc (own := [("place", 1)]) rfl scis_place_list.nd (pi_or (k_piL K (pv 0)) (k_piT K (pv 0))) (blkOk_by (own := [("place", 1)]) (N := Nis_place_list) (sc := defScope Sis_place_list) (by decide +kernel)) (fun _ _ _ _ _ => (pg_name (i := 1) scis_place_list.nd rfl (Or.inl rfl))) (fun _ _ _ _ _ => pts_nil) (fun _ _ _ _ _ => (pe_df D_is_integer hG (hr.mono (by first | decide | omega)) passL (by rfl) (pa_cons (pv 1) (pa_cons pe_int (pa_cons (pe_gc c_MAX_PLACE (by rfl)) pa_nil)))))) pa_nil)) (pe_one (pe_cmpR op_eq (pe_lenSet K (by rfl) B.len (by rfl) B.set (pv 0)) (pe_callB (k_len K) (by rfl) B.len Blen (pa_cons (pv 0) pa_nil)) (nomark _))))))), ?_⟩
    walk_at "s"
    refine ⟨a, _, rfl, h, fun H1 s1 => ?_⟩
    have hA := s1.sq h
    walk_at "s"
    refine ifDF (by rw [vI_len]; omega) ?_
    walk_at "s"
    have turn : ∀ (i : Nat) (x : V) (H' H'' : Hp) (Yes : V → Hp → Prop) (No : Hp → Prop), i < (vI ns).length → Same H1 H' → (H'' = H' ∧ (vI ns)[i]? = some x) → ((fun _ => true) i = true → ∀ H4, Same H' H4 → Yes ((fun _ => V.bl true) i) H4) → ((fun _ => true) i = false → ∀ H3, Same H' H3 → No H3) →
        gName 1 x (wipe (L2.start Nis_place_list [V.ref a]) [1]) H'' fun σ2 H2 => wipe σ2 [1] = wipe (L2.start Nis_place_list [V.ref a]) [1] ∧ tYes σ2 H2 fun b H3 => if b = true then (tCall spIsInteger [] E0 (tCons (tVar 1) (tCons (tC (.int 0)) (tCons (tC (.int 1000000000000000000000000000000)) tNil)))) σ2 H3 Yes else No H3 := by
      rintro i x H' H'' Yes No hi s ⟨rfl, hx⟩ hY hN
      rw [vI_len] at hi
      rw [vI_at hi] at hx
      cases hx
      have hm := hP.rng _ (List.getElem_mem hi)
      walk_at "s"
      refine ⟨rfl, ?_⟩
      walk_at "s"
      refine ⟨_, _, _, rfl, .inl ⟨_, rfl, ?_⟩⟩
      rw [decide_eq_true hm.1, decide_eq_true hm.2]
      exact hY rfl _ (Same.refl _)
    have fin : ∀ (Dl : Addr) (H' : Hp), H1 Dl = none → Same H1 H' → H' Dl = some (.lst (giv (vI ns).length (fun _ => true) fun _ => .bl true)) → ∀ Q' : VK, Q' (.bl true) H' → L2.rAll K [V.ref Dl] H' Q' := by
      intro Dl H' nD s hD Q' q'
      refine ⟨Dl, List.replicate (vI ns).length true, rfl, lst_of (hD.trans ?_), ?_⟩
      · rw [giv_const, List.map_replicate]
      · rw [show (List.replicate (vI ns).length true).all id = true by simp]
        exact q'
    rcases id hA with hL | hL
    · refine .inl ?_
      walk_at "s"
      refine ⟨a, rfl, ⟨_, lst_of hL⟩, fun Dl nD => lc_pure (src_list (xs := vI ns)) _ _ (by rw [vI_len]; omega) (fun H' s => lst_of (s _ _ hL)) turn nD fun H' s hD => ?_⟩
      walk_at "s"
      refine fin Dl H' nD s hD _ ?_
      walk_at "s"
      refine ⟨a, ns, rfl, .inl (lst_of (s _ _ hL)), hP.nd, Nat.le_trans h2 (by decide), ?_⟩
      have hA3 := s.sq hA
      walk_at "s"
      rw [vI_len]
      rw [decide_eq_true rfl]
      exact q _ (s1.trans s)
    · refine .inr ?_
      walk_at "s"
      refine ⟨a, rfl, ⟨_, tup_of hL⟩, fun Dl nD => lc_pure (src_tup (xs := vI ns)) _ _ (by rw [vI_len]; omega) (fun H' s => tup_of (s _ _ hL)) turn nD fun H' s hD => ?_⟩
      walk_at "s"
      refine fin Dl H' nD s hD _ ?_
      walk_at "s"
      refine ⟨a, ns, rfl, .inr (tup_of (s _ _ hL)), hP.nd, Nat.le_trans h2 (by decide), ?_⟩
      have hA3 := s.sq hA
      walk_at "s"
      rw [vI_len]
      rw [decide_eq_true rfl]
      exact q _ (s1.trans s)
def spCheckedPlaces : Sp := fun vs H Q _ => ∃ (a : Addr) (ns : List Int), vs = [.ref a] ∧ Sq H a (vI ns) ∧ IsPl ns ∧ ∀ H' p, Same H H' → H p = none → H' p = some (.lst (vI ns)) → Q (.ref p) H'
theorem ok_checked_places {f : Addr} {fd : FuncData} (B : Bn mg) (D_is_place_list : Df P w K mg base 2 "is_place_list" [] spIsPlaceList)
   (F : Fun K "checked_places" "checked_places" Schecked_places f fd) : FnG P w K mg base 3 f fd ["value"] spCheckedPlaces := by
  refine gok F scchecked_places (fun vs H Q E h => ?_) (fun cdv A fs s H vs Q E hG hr h => ?_)
  · obtain ⟨_, _, rfl, _⟩ := h; rfl
  · obtain ⟨a, ns, rfl, h, hP, q⟩ := h
    have hu := hr.units
    refine ⟨_, (pss_cons (ps_if (pt_not (pt_val (pe_df D_is_place_list hG (hr.mono (by first | decide | omega)) passL (by rfl) (pa_cons (pv 0) pa_nil)))) (pss_one ps_never) pss_nil) (pss_one (ps_ret (pe_callTy (k_list K) (by rfl) B.list Tlist (pa_cons (pv 0) pa_nil))))), ?_⟩
    walk_at "s"
    refine ⟨a, ns, rfl, h, hP, fun H1 s1 => ?_⟩
    have hA := s1.sq h
    walk_at "s"
    intro u nu
    exact q _ u (s1.trans (same_new nu)) (s1.free nu) upd_same
end

/-! patterns as texts -/
def sB (b : Bool) : Str := if b then "T" else "R"
def pS (p : List Bool) : Str := ⟨(p.map fun b => if b then 84 else 82).toArray⟩
theorem pS_len (p : List Bool) : (pS p).length = p.length := by
  show (p.map fun b => if b then 84 else 82).toArray.size = p.length
  rw [List.size_toArray, List.length_map]
theorem pS_at {p : List Bool} {i : Nat} {c : Nat} (h : (pS p).cps[i]? = some c) : ∃ b, p[i]? = some b ∧ (⟨#[c]⟩ : Str) = sB b := by
  have e : (pS p).cps[i]? = (p.map fun b => if b then 84 else 82)[i]? := by
    show (p.map fun b => if b then 84 else 82).toArray[i]? = _
    rw [List.getElem?_toArray]
  rw [e, List.getElem?_map] at h
  cases hb : p[i]? with
  | none => rw [hb] at h; cases h
  | some b =>
    rw [hb] at h
    refine ⟨b, rfl, ?_⟩
    have h' : (if b then 84 else 82) = c := Option.some.inj h
    subst h'
    cases b <;> decide
theorem pS_app (p : List Bool) (b : Bool) : pS p ++ sB b = pS (p ++ [b]) := by
  have e : sB b = ⟨#[if b then 84 else 82]⟩ := by cases b <;> decide
  rw [e]
  show (⟨(p.map fun b => if b then 84 else 82).toArray ++ #[if b then 84 else 82]⟩ : Str) = ⟨((p ++ [b]).map fun b => if b then 84 else 82).toArray⟩
  rw [List.map_append]
  simp
theorem sB_T (b : Bool) : decide (sB b = ("T" : Str)) = b := by cases b <;> decide
theorem pS_size (p : List Bool) : (pS p).cps.size = p.length := pS_len p
def dif : List Bool → Int
  | [] => 0
  | b :: l => (if b then 1 else -1) + dif l
theorem dif_app (p : List Bool) (b : Bool) : dif (p ++ [b]) = dif p + (if b then 1 else -1) := by
  induction p with
  | nil => show _ + (0 : Int) = 0 + _; omega
  | cons c p ih => show _ + dif (p ++ [b]) = _ + dif p + _; rw [ih]; omega
def tks : List Bool → Nat
  | [] => 0
  | b :: l => (if b then 1 else 0) + tks l
theorem tks_app (p : List Bool) (b : Bool) : tks (p ++ [b]) = tks p + (if b then 1 else 0) := by
  induction p with
  | nil => show _ + 0 = 0 + _; omega
  | cons c p ih => show _ + tks (p ++ [b]) = _ + tks p + _; rw [ih]; omega
theorem dif_tks (p : List Bool) : dif p = 2 * (tks p : Int) - (p.length : Int) := by
  induction p with
  | nil => rfl
  | cons b p ih =>
    show (if b then 1 else -1) + dif p = 2 * (((if b then 1 else 0) + tks p : Nat) : Int) - ((p.length + 1 : Nat) : Int)
    rw [ih]
    cases b <;> simp <;> omega
theorem tks_take_le (p : List Bool) : ∀ i, tks (p.take i) ≤ tks p := by
  induction p with
  | nil => intro i; rw [List.take_nil]; exact Nat.le_refl _
  | cons b p ih =>
    intro i
    cases i with
    | zero => exact Nat.zero_le _
    | succ i =>
      have := ih i
      show (if b then 1 else 0) + tks (p.take i) ≤ (if b then 1 else 0) + tks p
      omega
theorem take_succ {α : Type} {p : List α} {i : Nat} {b : α} (h : p[i]? = some b) : p.take (i + 1) = p.take i ++ [b] := by rw [List.take_add_one, h]; rfl
/-- a pattern of n places -/
structure IsPat (p : List Bool) (n : Nat) : Prop where
  len : p.length = 2 * n
  top : n ≤ 200
  nul : dif p = 0
  pos : ∀ k, 0 ≤ dif (p.take k)
theorem IsPat.tks {p : List Bool} {n : Nat} (h : IsPat p n) : tks p = n := by
  have := dif_tks p
  have := h.nul
  have := h.len
  omega
/-! what a pattern fills -/
def stepF (tk : List Int) (st : List Int × List Int × Nat) (b : Bool) : List Int × List Int × Nat :=
  if b then (st.1 ++ [tk.getD st.2.2 0], st.2.1, st.2.2 + 1) else (st.1.erase (minI st.1), st.2.1 ++ [minI st.1], st.2.2)
def runF (tk : List Int) (p : List Bool) : List Int × List Int × Nat := p.foldl (stepF tk) ([], [], 0)
theorem runF_app (tk : List Int) (p : List Bool) (b : Bool) : runF tk (p ++ [b]) = stepF tk (runF tk p) b := by
  unfold runF
  rw [List.foldl_append]
  rfl
def fillF (tk : List Int) (p : List Bool) : List Int := (runF tk p).2.1
theorem runF_tk (tk : List Int) {p : List Bool} (h : ∀ k, 0 ≤ dif (p.take k)) : ∀ i, i ≤ p.length → (runF tk (p.take i)).2.2 = tks (p.take i) ∧ ((runF tk (p.take i)).1.length : Int) = dif (p.take i) ∧ (runF tk (p.take i)).2.1.length + tks (p.take i) = i
  | 0, _ => by rw [List.take_zero]; exact ⟨rfl, rfl, rfl⟩
  | i + 1, hi => by
    obtain ⟨h1, h2, h3⟩ := runF_tk tk h i (by omega)
    have e := take_succ (List.getElem?_eq_getElem (show i < p.length by omega))
    have hp := h (i + 1)
    rw [e, runF_app, tks_app, dif_app] at *
    generalize p[i]'(by omega) = b at *
    cases b with
    | true =>
      refine ⟨by show (runF tk (p.take i)).2.2 + 1 = _; rw [h1]; rfl, ?_, by show (runF tk (p.take i)).2.1.length + (tks (p.take i) + 1) = i + 1; omega⟩
      show (((runF tk (p.take i)).1 ++ [_]).length : Int) = _
      rw [List.length_append, List.length_singleton, Int.natCast_add, h2]
      rfl
    | false =>
      have hp' : 0 ≤ dif (p.take i) + -1 := hp
      have ne : (runF tk (p.take i)).1 ≠ [] := fun z => by rw [z] at h2; simp at h2; omega
      refine ⟨by show (runF tk (p.take i)).2.2 = _ + 0; rw [h1]; rfl, ?_, by show ((runF tk (p.take i)).2.1 ++ [_]).length + (tks (p.take i) + 0) = i + 1; rw [List.length_append, List.length_singleton]; omega⟩
      show (((runF tk (p.take i)).1.erase _).length : Int) = dif (p.take i) + -1
      rw [List.length_erase_of_mem (minI_mem ne)]
      have := List.length_pos_iff.mpr ne
      omega
/-- a pattern on the way: m letters, n places -/
structure Way (p : List Bool) (n m : Nat) : Prop where
  len : p.length = m
  few : tks p ≤ n
  pos : ∀ k, 0 ≤ dif (p.take k)
theorem Way.nil (n : Nat) : Way [] n 0 := ⟨rfl, Nat.zero_le _, fun k => by rw [List.take_nil]; exact Int.le_refl _⟩
theorem Way.add {p : List Bool} {n m : Nat} {b : Bool} (h : Way p n m) (h1 : tks (p ++ [b]) ≤ n) (h2 : 0 ≤ dif (p ++ [b])) : Way (p ++ [b]) n (m + 1) := by
  refine ⟨by rw [List.length_append, h.len]; rfl, h1, fun k => ?_⟩
  by_cases hk : k ≤ p.length
  · rw [List.take_append_of_le_length hk]
    exact h.pos k
  · rw [List.take_of_length_le (by rw [List.length_append]; show p.length + 1 ≤ k; omega)]
    exact h2
theorem Way.all {p : List Bool} {n : Nat} (h : Way p n (2 * n)) (hn : n ≤ 200) : IsPat p n := by
  have e := dif_tks p
  have z := h.pos p.length
  rw [List.take_length] at z
  have := h.len
  have := h.few
  exact ⟨h.len, hn, by omega, h.pos⟩

abbrev Sis_pattern : Stmt := topS 31
abbrev Nis_pattern : List Str := ["value", "out", "letter"]
theorem scis_pattern : FnScope Nis_pattern ["value"] (defScope Sis_pattern) := ⟨rfl, rfl, rfl, by decide +kernel, rfl, by decide +kernel, by decide +kernel⟩
abbrev Scheck_pattern : Stmt := topS 32
abbrev Ncheck_pattern : List Str := ["value", "count"]
theorem sccheck_pattern : FnScope Ncheck_pattern ["value", "count"] (defScope Scheck_pattern) := ⟨rfl, rfl, rfl, by decide +kernel, rfl, by decide +kernel, by decide +kernel⟩
abbrev Sfilled_by : Stmt := topS 34
abbrev Nfilled_by : List Str := ["takes", "pattern", "gaps", "found", "taken", "letter"]
theorem scfilled_by : FnScope Nfilled_by ["takes", "pattern"] (defScope Sfilled_by) := ⟨rfl, rfl, rfl, by decide +kernel, rfl, by decide +kernel, by decide +kernel⟩
abbrev Sfills_by : Stmt := topS 35
abbrev Nfills_by : List Str := ["takes", "pattern", "places"]
theorem scfills_by : FnScope Nfills_by ["takes", "pattern"] (defScope Sfills_by) := ⟨rfl, rfl, rfl, by decide +kernel, rfl, by decide +kernel, by decide +kernel⟩

section
variable {P : Program} {w : World} {K : PySem.W.Frag} {mg : Str → Option Value} {base : Heap}
def spIsPattern : Sp := fun vs H Q _ => ∃ (p : List Bool) (n : Nat), vs = [.str (pS p)] ∧ IsPat p n ∧ ∀ H', Same H H' → Q (.bl true) H'
theorem ok_is_pattern {f : Addr} {fd : FuncData} {k : Nat} (B : Bn mg) (c_MAX_SIZE : Gc mg "MAX_SIZE" (.int 200)) (c_TAKING : Gc mg "TAKING" (.str "T")) (c_RETURNING : Gc mg "RETURNING" (.str "R"))
   (F : Fun K "is_pattern" "is_pattern" Sis_pattern f fd) : FnG P w K mg base (k + 1) f fd ["value"] spIsPattern := by
  refine gok F scis_pattern (fun vs H Q E h => ?_) (fun cdv A fs s H vs Q E hG hr h => ?_)
  · obtain ⟨_, _, rfl, _⟩ := h; rfl
  · obtain ⟨p, n, rfl, hP, q⟩ := h
    have hu := hr.units
    have h2 := hP.top
    have hl := hP.len
    have z2 : (pS p).length ≤ sizeLine := sz (by rw [pS_len]; omega)
    refine ⟨_, (pss_cons (ps_if (pw_or (pt_not (pt_val (pe_callB (k_isi K) (by rfl) B.isinstance Bisinstance (pa_cons (pv 0) (pa_cons (pe_bltn (v := .ty "str") (by rfl) B.str Tstr rfl) pa_nil))))) (pw_or1 (pt_not (pt_val (pe_callB (k_all K) (by rfl) B.all Ball (pa_cons (pe_lc (own := [("letter", 2)]) rfl scis_pattern.nd (pi_str (pv 0)) (blkOk_by (own := [("letter", 2)]) (N := Nis_pattern) (sc := defScope Sis_pattern) (by decide +kernel)) (fun _ _ _ _ _ => (pg_name (i := 2) scis_pattern.nd rfl (Or.inl rfl))) (fun _ _ _ _ _ => pts_nil) (fun _ _ _ _ _ => (pe_cmpR (k_in K) (pv 2) (pe_tup (pa_cons (pe_gc c_TAKING (by rfl)) (pa_cons (pe_gc c_RETURNING (by rfl)) pa_nil))) rfl))) pa_nil)))))).pt (pss_one (ps_ret pe_bl)) pss_nil) (pss_cons (ps_set (i := 1) scis_pattern.nd rfl (Or.inl rfl) pe_int) (pss_cons (ps_for (passes_of rfl) rfl (pi_str (pv 0)) (pg_name (i := 2) scis_pattern.nd rfl (Or.inl rfl)) (pss_cons (ps_aug (i := 1) scis_pattern.nd rfl (Or.inl rfl) (pe_ifExp (pt_cmpR op_eq (pv 2) (pe_gc c_TAKING (by rfl)) (nomark _)) pe_int (pe_un un_neg pe_int)) ip_add) (pss_one (ps_if (pt_cmpR op_lt (pv 1) pe_int (nomark _)) (pss_one (ps_ret pe_bl)) pss_nil)))) (pss_one (ps_ret (pe_and (pe_cmpR op_eq (pv 1) pe_int (nomark _)) (pe_one (pe_cmpR op_le (pe_callB call_lenS' (by rfl) B.len Blen (pa_cons (pv 0) pa_nil)) (pe_op op_mul pe_int (pe_gc c_MAX_SIZE (by rfl))) (nomark _))))))))), ?_⟩
    walk_at "s"
    refine ⟨_, rfl, fun Dl nD => ?_⟩
    refine lc_pure (src_str (x := pS p)) (fun _ => true) (fun _ => .bl true) (by rw [pS_size]; omega) (fun _ _ => trivial) ?_ nD fun H1 s1 hD => ?_
    · rintro i x H' H'' Yes No hi s ⟨rfl, c, hc, rfl⟩ hY hN
      obtain ⟨b, hb, eb⟩ := pS_at hc
      rw [eb]
      walk_at "s"
      refine ⟨rfl, ?_⟩
      walk_at "s"
      intro t nt
      walk_at "s"
      refine r_in (.inr (tup_of upd_same)) rfl rfl ?_
      rw [show inV (.str (sB b)) [.str "T", .str "R"] = true by cases b <;> decide]
      exact hY rfl _ (same_new nt)
    · walk_at "s"
      refine ⟨Dl, List.replicate (pS p).cps.size true, rfl, lst_of (hD.trans ?_), ?_⟩
      · rw [giv_const, List.map_replicate]
      rw [show (List.replicate (pS p).cps.size true).all id = true by simp]
      walk_at "s"
      refine ⟨_, rfl, ?_⟩
      refine for_src (src_str (x := pS p)) (fun i σ H' => ∃ v2, σ = [some (.str (pS p)), some (.int (dif (p.take i))), v2] ∧ Same H H') (fun _ _ _ _ => trivial) ⟨none, rfl, s1⟩ ?_ ?_
      · rintro i v σ H3 H2 hi ⟨v2, rfl, s2⟩ ⟨rfl, c, hc, rfl⟩
        obtain ⟨b, hb, eb⟩ := pS_at hc
        rw [eb]
        have hp := hP.pos (i + 1)
        have ed : dif (p.take (i + 1)) = dif (p.take i) + (if b then 1 else -1) := by rw [take_succ hb, dif_app]
        walk_at "s"
        rw [sB_T]
        cases b with
        | true =>
          have ed' : dif (p.take i) + 1 = dif (p.take (i + 1)) := ed.symm
          walk_at "s"
          rw [ed']
          refine ifDF (by omega) ?_
          walk_at "s"
          exact ⟨_, rfl, s2⟩
        | false =>
          have ed' : dif (p.take i) + -1 = dif (p.take (i + 1)) := ed.symm
          walk_at "s"
          rw [ed']
          refine ifDF (by omega) ?_
          walk_at "s"
          exact ⟨_, rfl, s2⟩
      · rintro σ H2 ⟨v2, rfl, s2⟩
        rw [pS_size, List.take_length, hP.nul]
        walk_at "s"
        rw [decide_eq_true (by rw [pS_len]; omega)]
        exact q _ s2
def spCheckPattern : Sp := fun vs H Q _ => ∃ (p : List Bool) (n : Nat), vs = [.str (pS p), .int n] ∧ IsPat p n ∧ ∀ H', Same H H' → Q .non H'
theorem ok_check_pattern {f : Addr} {fd : FuncData} (B : Bn mg) (D_is_pattern : Df P w K mg base 1 "is_pattern" [] spIsPattern)
   (F : Fun K "check_pattern" "check_pattern" Scheck_pattern f fd) : FnG P w K mg base 2 f fd ["value", "count"] spCheckPattern := by
  refine gok F sccheck_pattern (fun vs H Q E h => ?_) (fun cdv A fs s H vs Q E hG hr h => ?_)
  · obtain ⟨_, _, rfl, _⟩ := h; rfl
  · obtain ⟨p, n, rfl, hP, q⟩ := h
    have hu := hr.units
    have h2 := hP.top
    have hl := hP.len
    have z2 : (pS p).length ≤ sizeLine := sz (by rw [pS_len]; omega)
    refine ⟨_, (pss_one (ps_if (pw_or (pt_not (pt_val (pe_df D_is_pattern hG (hr.mono (by first | decide | omega)) passL (by rfl) (pa_cons (pv 0) pa_nil)))) (pw_or1 (pt_cmpR op_ne (pe_callB call_lenS' (by rfl) B.len Blen (pa_cons (pv 0) pa_nil)) (pe_op op_mul pe_int (pv 1)) (nomark _)))).pt (pss_one ps_never) pss_nil)), ?_⟩
    walk_at "s"
    refine ⟨p, n, rfl, hP, fun H1 s1 => ?_⟩
    walk_at "s"
    refine ifNF (by rw [pS_len]; omega) ?_
    walk_at "s"
    exact q _ s1
def spFilledBy : Sp := fun vs H Q _ => ∃ (a : Addr) (tk : List Int) (p : List Bool), vs = [.ref a, .str (pS p)] ∧ H a = some (.lst (vI tk)) ∧ IsPat p tk.length ∧ ∀ H' q, Same H H' → H q = none → H' q = some (.lst (vI (fillF tk p))) → Q (.ref q) H'
theorem ok_filled_by {f : Addr} {fd : FuncData} {k : Nat} (B : Bn mg) (c_TAKING : Gc mg "TAKING" (.str "T"))
   (F : Fun K "filled_by" "filled_by" Sfilled_by f fd) : FnG P w K mg base (k + 1) f fd ["takes", "pattern"] spFilledBy := by
  refine gok F scfilled_by (fun vs H Q E h => ?_) (fun cdv A fs s H vs Q E hG hr h => ?_)
  · obtain ⟨_, _, _, rfl, _⟩ := h; rfl
  · obtain ⟨a, tk, p, rfl, hA, hP, q⟩ := h
    have hu := hr.units
    have h2 := hP.top
    have hl := hP.len
    refine ⟨_, (pss_cons (ps_par (i := 2) (j := 3) rfl scfilled_by.nd rfl rfl (by decide) rfl rfl (pa_cons (pe_lst pa_nil) (pa_cons (pe_lst pa_nil) pa_nil)) (by with_unfolding_all rfl)) (pss_cons (ps_set (i := 4) scfilled_by.nd rfl (Or.inl rfl) pe_int) (pss_cons (ps_for (passes_of rfl) rfl (pi_str (pv 1)) (pg_name (i := 5) scfilled_by.nd rfl (Or.inl rfl)) (pss_one (ps_if (pt_cmpR op_eq (pv 5) (pe_gc c_TAKING (by rfl)) (nomark _)) (pss_cons (ps_set (i := 2) scfilled_by.nd rfl (Or.inl rfl) (pe_callB (k_sorted K) (by rfl) B.sorted Bsorted (pa_cons (pe_op op_cat (pv 2) (pe_lst (pa_cons (pe_ix (k_ixL K) (pv 0) (pv 4) (fun _ _ => rfl)) pa_nil))) pa_nil))) (pss_one (ps_aug (i := 4) scfilled_by.nd rfl (Or.inl rfl) pe_int ip_add))) (pss_one (ps_expr (k_bmP K (pe_bm PySem.F.plainAttrs_list PySem.F.slot_list_append PySem.F.type_list_append mt_append (pv 3) (pa_cons (k_bmP K (pe_bm PySem.F.plainAttrs_list PySem.F.slot_list_pop PySem.F.type_list_pop mt_popAt (pv 2) (pa_cons pe_int pa_nil))) pa_nil)))))))) (pss_one (ps_ret (pv 3)))))), ?_⟩
    walk_at "s"
    intro g0 n0
    have s1 := same_new (o := .lst []) n0
    walk_at "s"
    intro fo nf
    have s2 := same_new (o := .lst []) nf
    have nfo : H fo = none := s1.free nf
    walk_at "s"
    refine ⟨_, rfl, ?_⟩
    refine for_src (src_str (x := pS p)) (fun i σ H' => ∃ g gs v5, σ = [some (.ref a), some (.str (pS p)), some (.ref g), some (.ref fo), some (.int ((runF tk (p.take i)).2.2 : Nat)), v5] ∧ Same H H' ∧ H g = none ∧ g ≠ fo ∧ H' g = some (.lst (vI gs)) ∧ gs.Perm (runF tk (p.take i)).1 ∧ gs.Pairwise (· ≤ ·) ∧ H' fo = some (.lst (vI (runF tk (p.take i)).2.1)))
      (fun _ _ _ _ => trivial) ⟨g0, [], none, rfl, s1.trans s2, n0, ne_new nf upd_same, (upd_ne (ne_new nf upd_same)).trans upd_same, .refl _, .nil, upd_same⟩ ?_ ?_
    · rintro i v σ H1 H1' hi ⟨g, gs, v5, rfl, sA, ng, ngf, hg, hp, hs, hf⟩ ⟨rfl, c, hc, rfl⟩
      obtain ⟨b, hb, eb⟩ := pS_at hc
      rw [pS_size] at hi
      obtain ⟨r1, r2, r3⟩ := runF_tk tk hP.pos i (by omega)
      have et := take_succ hb
      have er := runF_app tk (p.take i) b
      rw [← et] at er
      have hA1 := sA _ _ hA
      have gl : gs.length = (runF tk (p.take i)).1.length := hp.length_eq
      have gl2 : gs.length ≤ 1000 := by have := dif_tks (p.take i); have := List.length_take_le i p; omega
      rw [eb]
      walk_at "s"
      rw [sB_T]
      cases b with
      | true =>
        have tl : tks (p.take (i + 1)) ≤ tks p := tks_take_le p _
        rw [et, tks_app, hP.tks] at tl
        have tl' : tks (p.take i) + 1 ≤ tk.length := tl
        have ea : atI (vI tk) ((runF tk (p.take i)).2.2 : Nat) = some (.int (tk.getD (runF tk (p.take i)).2.2 0)) := by
          have := atI_ints (ns := tk) (i := ((runF tk (p.take i)).2.2 : Nat)) (by omega) (by omega)
          rw [Int.toNat_natCast] at this
          exact this
        walk_at "s"
        intro t nt
        refine r_cat (xs := vI gs) (zs := vI [tk.getD (runF tk (p.take i)).2.2 0]) (by walk_at "hp") upd_same (sz (by rw [vI_len]; show gs.length + 1 ≤ _; omega)) fun u nu => ?_
        rw [vI_app]
        walk_at "s"
        refine r_sortI (lst_of upd_same) fun ns' z hz1 hz2 nz => ?_
        have s3 := (same_new nt).trans (same_new (o := .lst (vI (gs ++ [tk.getD (runF tk (p.take i)).2.2 0]))) nu)
        have s4 := s3.trans (same_new (o := .lst (vI ns')) nz)
        walk_at "s"
        rw [er]
        exact ⟨z, ns', _, rfl, sA.trans s4, (sA.trans s3).free nz, (ne_new nz (s3 _ _ hf)).symm, upd_same, hz1.trans (hp.append_right _), hz2, s4 _ _ hf⟩
      | false =>
        have hp1 := hP.pos (i + 1)
        rw [et, dif_app] at hp1
        have hp1' : 0 ≤ dif (p.take i) + -1 := hp1
        obtain ⟨m, gt, rfl⟩ : ∃ m gt, gs = m :: gt := by
          cases gs with
          | nil => simp at gl; omega
          | cons m gt => exact ⟨m, gt, rfl⟩
        rw [List.pairwise_cons] at hs
        have em : m = minI (runF tk (p.take i)).1 := minI_eq (hp.mem_iff.mp List.mem_cons_self) fun y hy => by
          rcases List.mem_cons.mp (hp.mem_iff.mpr hy) with e | hy
          · omega
          · exact hs.1 y hy
        have ep : gt.Perm ((runF tk (p.take i)).1.erase m) := by
          have := hp.erase m
          rw [List.erase_cons_head] at this
          exact this
        have lf : (vI (runF tk (p.take i)).2.1).length ≤ 1000 := by rw [vI_len]; omega
        walk_at "s"
        refine r_popAt (xs := vI (m :: gt)) hg (by decide) (by rw [vI_len, List.length_cons]; omega) (by rw [vI_len]; omega) (y := .int m) rfl ?_
        have hf' : upd H1' g (.lst ((vI (m :: gt)).eraseIdx (0 : Int).toNat)) fo = some (.lst (vI (runF tk (p.take i)).2.1)) := (upd_ne ngf.symm).trans hf
        walk_at "s"
        rw [er]
        refine ⟨g, gt, _, rfl, same_set (same_set sA ng) nfo, ng, ngf, (upd_ne ngf).trans upd_same, ?_, hs.2, ?_⟩
        · show gt.Perm ((runF tk (p.take i)).1.erase (minI (runF tk (p.take i)).1))
          rw [← em]
          exact ep
        · rw [upd_same, em]
          show some (HO.lst (vI _ ++ vI [_])) = _
          rw [vI_app]
          rfl
    · rintro σ H1 ⟨g, gs, v5, rfl, sA, ng, ngf, hg, hp, hs, hf⟩
      rw [pS_size, List.take_length] at hf
      walk_at "s"
      exact q _ _ sA nfo hf
def spFillsBy : Sp := fun vs H Q _ => ∃ (a : Addr) (tk : List Int) (p : List Bool), vs = [.ref a, .str (pS p)] ∧ Sq H a (vI tk) ∧ IsPl tk ∧ IsPat p tk.length ∧ ∀ H' q, Same H H' → H q = none → H' q = some (.lst (vI (fillF tk p))) → Q (.ref q) H'
theorem ok_fills_by {f : Addr} {fd : FuncData} (B : Bn mg) (D_checked_places : Df P w K mg base 3 "checked_places" [] spCheckedPlaces) (D_check_pattern : Df P w K mg base 2 "check_pattern" [] spCheckPattern) (D_filled_by : Df P w K mg base 1 "filled_by" [] spFilledBy)
   (F : Fun K "fills_by" "fills_by" Sfills_by f fd) : FnG P w K mg base 4 f fd ["takes", "pattern"] spFillsBy := by
  refine gok F scfills_by (fun vs H Q E h => ?_) (fun cdv A fs s H vs Q E hG hr h => ?_)
  · obtain ⟨_, _, _, rfl, _⟩ := h; rfl
  · obtain ⟨a, tk, p, rfl, hA, hL, hP, q⟩ := h
    have hu := hr.units
    refine ⟨_, (pss_cons (ps_set (i := 2) scfills_by.nd rfl (Or.inl rfl) (pe_df D_checked_places hG (hr.mono (by first | decide | omega)) passL (by rfl) (pa_cons (pv 0) pa_nil))) (pss_cons (ps_expr (pe_df D_check_pattern hG (hr.mono (by first | decide | omega)) passL (by rfl) (pa_cons (pv 1) (pa_cons (pe_callB (k_len K) (by rfl) B.len Blen (pa_cons (pv 2) pa_nil)) pa_nil)))) (pss_one (ps_ret (pe_df D_filled_by hG (hr.mono (by first | decide | omega)) passL (by rfl) (pa_cons (pv 2) (pa_cons (pv 1) pa_nil))))))), ?_⟩
    walk_at "s"
    refine ⟨a, tk, rfl, hA, hL, fun H1 b s1 nb hb => ?_⟩
    walk_at "s"
    refine ⟨p, tk.length, by rw [vI_len]; rfl, hP, fun H2 s2 => ?_⟩
    walk_at "s"
    refine ⟨b, tk, p, rfl, s2 _ _ hb, hP, fun H3 q3 s3 n3 h3 => ?_⟩
    walk_at "s"
    exact q _ q3 ((s1.trans s2).trans s3) ((s1.trans s2).free n3) h3
end

/-! ### pairs: what the bounds of the times say (no program here) -/
/-- the number of a take -/
def nb (ts : List Int) (x : Int) : Int := ((ts.idxOf x : Nat) : Int)
theorem nb_nn (ts : List Int) (x : Int) : 0 ≤ nb ts x := Int.natCast_nonneg _
theorem nb_lt {ts : List Int} {x : Int} (h : x ∈ ts) : nb ts x < ts.length := by
  have := List.idxOf_lt_length_of_mem h
  unfold nb
  omega
theorem nb_get {ts : List Int} (hn : ts.Nodup) {k : Nat} (hk : k < ts.length) : nb ts (ts.getD k 0) = k := by
  unfold nb
  rw [List.getD_eq_getElem?_getD, List.getElem?_eq_getElem hk]
  show ((ts.idxOf ts[k] : Nat) : Int) = k
  rw [hn.idxOf_getElem]
theorem get_nb {ts : List Int} {x : Int} (h : x ∈ ts) : ts.getD (nb ts x).toNat 0 = x := by
  unfold nb
  rw [Int.toNat_natCast, List.getD_eq_getElem?_getD, List.getElem?_eq_getElem (List.idxOf_lt_length_of_mem h)]
  show ts[ts.idxOf x]'(List.idxOf_lt_length_of_mem h) = x
  exact List.getElem_idxOf _
theorem nb_inj {ts : List Int} {x y : Int} (hx : x ∈ ts) (hy : y ∈ ts) (h : nb ts x = nb ts y) : x = y := by
  rw [← get_nb hx, ← get_nb hy, h]
/-- fewer numbers than places below m -/
theorem nodup_le : ∀ {l : List Int} {m : Nat}, l.Nodup → (∀ x ∈ l, 0 ≤ x ∧ x < m) → l.length ≤ m
  | l, 0, _, h => by
    cases l with
    | nil => exact Nat.le_refl _
    | cons x l => have := h x List.mem_cons_self; omega
  | l, m + 1, hn, h => by
    by_cases hm : (m : Int) ∈ l
    · have ih := nodup_le (hn.erase (m : Int)) (m := m) fun x hx => by
        have h1 := (hn.mem_erase_iff).mp hx
        have h2 := h x h1.2
        have h3 := h1.1
        constructor <;> omega
      rw [List.length_erase_of_mem hm] at ih
      omega
    · have ih := nodup_le hn (m := m) fun x hx => by
        have h2 := h x hx
        have h3 : x ≠ (m : Int) := fun e => hm (e ▸ hx)
        constructor <;> omega
      omega
/-- fills with their times: each one is taken before, no less gap stays -/
structure Lead (nm : Int → Int) (n : Int) (P : List (Int × Int)) : Prop where
  tk : ∀ q ∈ P, nm q.1 < q.2
  top : ∀ q ∈ P, q.2 ≤ n
  up : P.Pairwise fun a b => a.2 ≤ b.2
  min : P.Pairwise fun a b => b.1 < a.1 → a.2 ≤ nm b.1
def LeAll : List Int → List Int → Prop
  | [], [] => True
  | a :: as, b :: bs => a ≤ b ∧ LeAll as bs
  | _, _ => False
theorem LeAll.refl : ∀ l : List Int, LeAll l l
  | [] => trivial
  | _ :: l => ⟨Int.le_refl _, LeAll.refl l⟩
theorem LeAll.trans : ∀ {a b c : List Int}, LeAll a b → LeAll b c → LeAll a c
  | [], [], [], _, _ => trivial
  | _ :: _, _ :: _, _ :: _, h, g => ⟨Int.le_trans h.1 g.1, h.2.trans g.2⟩
  | [], _ :: _, _, h, _ => h.elim
  | _ :: _, [], _, h, _ => h.elim
  | [], [], _ :: _, _, g => g.elim
  | _ :: _, _ :: _, [], _, g => g.elim
theorem LeAll.len : ∀ {a b : List Int}, LeAll a b → a.length = b.length
  | [], [], _ => rfl
  | _ :: _, _ :: _, h => congrArg Nat.succ h.2.len
  | [], _ :: _, h => h.elim
  | _ :: _, [], h => h.elim
theorem LeAll.at : ∀ {a b : List Int}, LeAll a b → ∀ {i : Nat} {x y : Int}, a[i]? = some x → b[i]? = some y → x ≤ y
  | [], [], _, i, x, y, h, _ => by simp at h
  | _ :: _, _ :: _, h, 0, x, y, e, f => by cases e; cases f; exact h.1
  | _ :: _, _ :: _, h, i + 1, x, y, e, f => h.2.at (by simpa using e) (by simpa using f)
  | [], _ :: _, h, _, _, _, _, _ => h.elim
  | _ :: _, [], h, _, _, _, _, _ => h.elim
theorem LeAll.of : ∀ {a b : List Int}, a.length = b.length → (∀ (i : Nat) (x y : Int), a[i]? = some x → b[i]? = some y → x ≤ y) → LeAll a b
  | [], [], _, _ => trivial
  | _ :: _, _ :: _, l, h => ⟨h 0 _ _ rfl rfl, LeAll.of (Nat.succ.inj l) fun i x y e f => h (i + 1) x y (by simpa using e) (by simpa using f)⟩
  | [], _ :: _, l, _ => by cases l
  | _ :: _, [], l, _ => by cases l
/-- the greater one, as max says -/
def mx (a b : Int) : Int := if b > a then b else a
theorem mx_l (a b : Int) : a ≤ mx a b := by unfold mx; split <;> omega
theorem mx_r (a b : Int) : b ≤ mx a b := by unfold mx; split <;> omega
theorem mx_le {a b c : Int} (h : a ≤ c) (g : b ≤ c) : mx a b ≤ c := by unfold mx; split <;> omega
/-- the least times -/
def lows (nm : Int → Int) : Int → List Int → List Int
  | _, [] => []
  | lo, f :: fs => mx lo (nm f + 1) :: lows nm (mx lo (nm f + 1)) fs
theorem lows_len (nm : Int → Int) : ∀ (lo : Int) (fs : List Int), (lows nm lo fs).length = fs.length
  | _, [] => rfl
  | lo, f :: fs => congrArg Nat.succ (lows_len nm _ fs)
theorem lows_ge {nm : Int → Int} : ∀ {lo : Int} {fs : List Int}, ∀ x ∈ lows nm lo fs, lo ≤ x
  | lo, f :: fs, x, h => by
    rcases List.mem_cons.mp (show x ∈ mx lo (nm f + 1) :: lows nm (mx lo (nm f + 1)) fs from h) with e | h
    · rw [e]; exact mx_l _ _
    · exact Int.le_trans (mx_l _ _) (lows_ge x h)
theorem lows_up {nm : Int → Int} : ∀ {lo : Int} {fs : List Int}, (lows nm lo fs).Pairwise (· ≤ ·)
  | _, [] => .nil
  | lo, f :: fs => .cons (fun x hx => lows_ge x hx) lows_up
theorem lows_least {nm : Int → Int} : ∀ {P : List (Int × Int)} {lo : Int}, (∀ q ∈ P, nm q.1 < q.2) → (P.Pairwise fun a b => a.2 ≤ b.2) → (∀ q ∈ P, lo ≤ q.2) → LeAll (lows nm lo (P.map (·.1))) (P.map (·.2))
  | [], _, _, _, _ => trivial
  | (f, t) :: P, lo, h1, h2, h3 => by
    have g2 := List.pairwise_cons.mp h2
    have e : mx lo (nm f + 1) ≤ t := mx_le (h3 _ List.mem_cons_self) (h1 _ List.mem_cons_self)
    exact ⟨e, lows_least (fun q hq => h1 q (List.mem_cons_of_mem _ hq)) g2.2 fun q hq => Int.le_trans e (g2.1 q hq)⟩
theorem lows_tk {nm : Int → Int} : ∀ {P : List (Int × Int)} {lo : Int}, LeAll (lows nm lo (P.map (·.1))) (P.map (·.2)) → ∀ q ∈ P, nm q.1 < q.2
  | (f, t) :: P, lo, h, q, hq => by
    rcases List.mem_cons.mp hq with e | hq
    · subst e
      have := mx_r lo (nm f + 1)
      have h1 : mx lo (nm f + 1) ≤ t := h.1
      show nm f < t
      omega
    · exact lows_tk h.2 q hq
/-- the greatest times -/
def highs (nm : Int → Int) (n : Int) : List Int → List Int
  | [] => []
  | f :: fs => minI ((highs nm n fs).headD n :: ((fs.filter fun g => decide (g < f)).map nm)) :: highs nm n fs
theorem highs_len (nm : Int → Int) (n : Int) : ∀ fs : List Int, (highs nm n fs).length = fs.length
  | [] => rfl
  | f :: fs => congrArg Nat.succ (highs_len nm n fs)
theorem highs_up {nm : Int → Int} {n : Int} : ∀ {fs : List Int}, (highs nm n fs).Pairwise (· ≤ ·)
  | [] => .nil
  | f :: fs => by
    have ih := highs_up (nm := nm) (n := n) (fs := fs)
    refine .cons (fun x hx => ?_) ih
    have h1 : minI ((highs nm n fs).headD n :: ((fs.filter fun g => decide (g < f)).map nm)) ≤ (highs nm n fs).headD n := minI_le List.mem_cons_self
    cases e : highs nm n fs with
    | nil => rw [e] at hx; cases hx
    | cons y l =>
      rw [e] at hx h1 ih
      have h1' : minI _ ≤ y := h1
      rcases List.mem_cons.mp hx with z | z
      · rw [z]; exact h1'
      · exact Int.le_trans h1' ((List.pairwise_cons.mp ih).1 x z)
theorem highs_top {nm : Int → Int} {n : Int} : ∀ {fs : List Int}, ∀ x ∈ highs nm n fs, x ≤ n
  | f :: fs, x, h => by
    have ih := highs_top (nm := nm) (n := n) (fs := fs)
    rcases List.mem_cons.mp (show x ∈ minI ((highs nm n fs).headD n :: ((fs.filter fun g => decide (g < f)).map nm)) :: highs nm n fs from h) with e | h
    · rw [e]
      refine Int.le_trans (minI_le List.mem_cons_self) ?_
      cases e : highs nm n fs with
      | nil => exact Int.le_refl _
      | cons y l => exact ih y (by rw [e]; exact List.mem_cons_self)
    · exact ih x h
theorem highs_greatest {nm : Int → Int} {n : Int} : ∀ {P : List (Int × Int)}, (∀ q ∈ P, q.2 ≤ n) → (P.Pairwise fun a b => a.2 ≤ b.2) → (P.Pairwise fun a b => b.1 < a.1 → a.2 ≤ nm b.1) → LeAll (P.map (·.2)) (highs nm n (P.map (·.1)))
  | [], _, _, _ => trivial
  | (f, t) :: P, h1, h2, h3 => by
    have g2 := List.pairwise_cons.mp h2
    have g3 := List.pairwise_cons.mp h3
    have ih := highs_greatest (nm := nm) (fun q hq => h1 q (List.mem_cons_of_mem _ hq)) g2.2 g3.2
    refine ⟨?_, ih⟩
    have hm := minI_mem (ns := (highs nm n (P.map (·.1))).headD n :: (((P.map (·.1)).filter fun g => decide (g < f)).map nm)) (by simp)
    show t ≤ minI _
    rcases List.mem_cons.mp hm with e | hm
    · rw [e]
      cases P with
      | nil => exact h1 _ List.mem_cons_self
      | cons q P =>
        obtain ⟨f2, t2⟩ := q
        have a1 : t ≤ t2 := g2.1 _ List.mem_cons_self
        exact Int.le_trans a1 ih.1
    · obtain ⟨g, hg, e⟩ := List.mem_map.mp hm
      obtain ⟨hg1, hg2⟩ := List.mem_filter.mp hg
      obtain ⟨q, hq, eq⟩ := List.mem_map.mp hg1
      rw [← e, ← eq]
      exact g3.1 q hq (by rw [eq]; exact of_decide_eq_true hg2)
theorem highs_min {nm : Int → Int} {n : Int} : ∀ {P : List (Int × Int)}, LeAll (P.map (·.2)) (highs nm n (P.map (·.1))) → P.Pairwise fun a b => b.1 < a.1 → a.2 ≤ nm b.1
  | [], _ => .nil
  | (f, t) :: P, h => by
    refine .cons (fun q hq hlt => ?_) (highs_min h.2)
    have h1 : t ≤ minI ((highs nm n (P.map (·.1))).headD n :: (((P.map (·.1)).filter fun g => decide (g < f)).map nm)) := h.1
    refine Int.le_trans h1 (minI_le (List.mem_cons_of_mem _ ?_))
    exact List.mem_map.mpr ⟨q.1, List.mem_filter.mpr ⟨List.mem_map.mpr ⟨q, hq, rfl⟩, decide_eq_true hlt⟩, rfl⟩
theorem highs_le {nm : Int → Int} {n : Int} {P : List (Int × Int)} (h : LeAll (P.map (·.2)) (highs nm n (P.map (·.1)))) : ∀ q ∈ P, q.2 ≤ n := by
  intro q hq
  obtain ⟨i, hi⟩ := List.mem_iff_getElem?.mp hq
  have l := h.len
  rw [List.length_map] at l
  have il := (List.getElem?_eq_some_iff.mp hi).1
  have e2 := List.getElem?_eq_getElem (show i < (highs nm n (P.map (·.1))).length by omega)
  have := h.at (by rw [List.getElem?_map, hi]; rfl) e2
  exact Int.le_trans this (highs_top _ (List.mem_of_getElem? e2))
/-- within the bounds and never falling: a pattern that leads there -/
theorem Lead.iff {nm : Int → Int} {n lo : Int} {P : List (Int × Int)} (hlo : ∀ q ∈ P, nm q.1 < q.2 → lo ≤ q.2) : Lead nm n P ↔ (P.Pairwise fun a b => a.2 ≤ b.2) ∧ LeAll (lows nm lo (P.map (·.1))) (P.map (·.2)) ∧ LeAll (P.map (·.2)) (highs nm n (P.map (·.1))) := by
  constructor
  · intro h
    exact ⟨h.up, lows_least h.tk h.up fun q hq => hlo q hq (h.tk q hq), highs_greatest h.top h.up h.min⟩
  · rintro ⟨h1, h2, h3⟩
    exact ⟨lows_tk h2, highs_le h3, h1, highs_min h3⟩
theorem map_zip_1 : ∀ {a b : List Int}, a.length = b.length → (a.zip b).map (·.1) = a
  | [], [], _ => rfl
  | x :: a, y :: b, h => by rw [List.zip_cons_cons, List.map_cons, map_zip_1 (Nat.succ.inj h)]
  | [], _ :: _, h => by cases h
  | _ :: _, [], h => by cases h
theorem map_zip_2 : ∀ {a b : List Int}, a.length = b.length → (a.zip b).map (·.2) = b
  | [], [], _ => rfl
  | x :: a, y :: b, h => by rw [List.zip_cons_cons, List.map_cons, map_zip_2 (Nat.succ.inj h)]
  | [], _ :: _, h => by cases h
  | _ :: _, [], h => by cases h
theorem zip_up {a b : List Int} (h : b.Pairwise (· ≤ ·)) (l : a.length = b.length) : (a.zip b).Pairwise fun a b => a.2 ≤ b.2 := by
  have e := map_zip_2 l
  rw [← e] at h
  exact List.pairwise_map.mp h
/-! ### patterns and their times -/
/-- the times of the returns -/
def tmsF : Nat → List Bool → List Int
  | _, [] => []
  | k, true :: p => tmsF (k + 1) p
  | k, false :: p => (k : Int) :: tmsF k p
theorem tmsF_app (b : Bool) : ∀ (p : List Bool) (k : Nat), tmsF k (p ++ [b]) = tmsF k p ++ (if b then [] else [((k + tks p : Nat) : Int)])
  | [], k => by cases b <;> rfl
  | true :: p, k => by
    show tmsF (k + 1) (p ++ [b]) = _
    rw [tmsF_app b p (k + 1)]
    show _ = tmsF (k + 1) p ++ (if b then [] else [((k + (1 + tks p) : Nat) : Int)])
    rw [show k + 1 + tks p = k + (1 + tks p) by omega]
  | false :: p, k => by
    show (k : Int) :: tmsF k (p ++ [b]) = _
    rw [tmsF_app b p k]
    show _ = (k : Int) :: tmsF k p ++ (if b then [] else [((k + (0 + tks p) : Nat) : Int)])
    rw [Nat.zero_add]
    rfl
/-- what is true along a pattern -/
structure Run (ts : List Int) (gs : List Int) (P : List (Int × Int)) (k : Nat) : Prop where
  gap : ∀ x, x ∈ gs ↔ x ∈ ts ∧ nb ts x < k ∧ x ∉ P.map (·.1)
  gnd : gs.Nodup
  kl : k ≤ ts.length
  fnd : (P.map (·.1)).Nodup
  sub : ∀ x ∈ P.map (·.1), x ∈ ts
  ld : Lead (nb ts) k P
  ltr : ∀ q ∈ P, ∀ x ∈ ts, x ∉ P.map (·.1) → x < q.1 → q.2 ≤ nb ts x
theorem Run.nil (ts : List Int) : Run ts [] [] 0 := by
  refine ⟨fun x => ?_, .nil, Nat.zero_le _, .nil, fun x h => (by cases h), ⟨fun q h => (by cases h), fun q h => (by cases h), .nil, .nil⟩, fun q h => (by cases h)⟩
  constructor
  · intro h; cases h
  · rintro ⟨_, h, _⟩
    have := nb_nn ts x
    omega
theorem Run.take {ts gs : List Int} {P : List (Int × Int)} {k : Nat} (h : Run ts gs P k) (hn : ts.Nodup) (hk : k < ts.length) : Run ts (gs ++ [ts.getD k 0]) P (k + 1) := by
  have hm : ts.getD k 0 ∈ ts := by
    rw [List.getD_eq_getElem?_getD, List.getElem?_eq_getElem hk]
    exact List.getElem_mem hk
  have e := nb_get hn hk
  have new : ts.getD k 0 ∉ P.map (·.1) := fun hx => by
    obtain ⟨q, hq, eq⟩ := List.mem_map.mp hx
    have h1 := h.ld.tk q hq
    have h2 := h.ld.top q hq
    rw [eq, e] at h1
    omega
  refine ⟨fun x => ?_, ?_, hk, h.fnd, h.sub, ⟨h.ld.tk, fun q hq => by have := h.ld.top q hq; omega, h.ld.up, h.ld.min⟩, h.ltr⟩
  · rw [List.mem_append, List.mem_singleton, h.gap x]
    constructor
    · rintro (⟨a, b, c⟩ | rfl)
      · exact ⟨a, by omega, c⟩
      · exact ⟨hm, by rw [e]; omega, new⟩
    · rintro ⟨a, b, c⟩
      by_cases z : nb ts x < k
      · exact .inl ⟨a, z, c⟩
      · exact .inr (nb_inj a hm (by rw [e]; omega))
  · rw [List.nodup_append]
    refine ⟨h.gnd, by simp, fun x hx y hy z => ?_⟩
    rw [List.mem_singleton] at hy
    have := ((h.gap x).mp hx).2.1
    rw [z, hy, e] at this
    omega
theorem Run.back {ts gs : List Int} {P : List (Int × Int)} {k : Nat} (h : Run ts gs P k) (hg : gs ≠ []) : Run ts (gs.erase (minI gs)) (P ++ [(minI gs, (k : Int))]) k := by
  have hm := minI_mem hg
  obtain ⟨m1, m2, m3⟩ := (h.gap _).mp hm
  have em : (P ++ [(minI gs, (k : Int))]).map (·.1) = P.map (·.1) ++ [minI gs] := by rw [List.map_append]; rfl
  refine ⟨fun x => ?_, h.gnd.erase _, h.kl, ?_, ?_, ⟨?_, ?_, ?_, ?_⟩, ?_⟩
  · rw [em, h.gnd.mem_erase_iff, h.gap x, List.mem_append, List.mem_singleton]
    constructor
    · rintro ⟨a, b, c, d⟩
      exact ⟨b, c, fun z => z.elim d a⟩
    · rintro ⟨a, b, c⟩
      exact ⟨fun z => c (.inr z), a, b, fun z => c (.inl z)⟩
  · rw [em, List.nodup_append]
    exact ⟨h.fnd, by simp, fun x hx y hy z => by rw [List.mem_singleton] at hy; rw [z, hy] at hx; exact m3 hx⟩
  · intro x hx
    rw [em] at hx
    rcases List.mem_append.mp hx with hx | hx
    · exact h.sub x hx
    · rw [List.mem_singleton] at hx; rw [hx]; exact m1
  · intro q hq
    rcases List.mem_append.mp hq with hq | hq
    · exact h.ld.tk q hq
    · rw [List.mem_singleton] at hq; subst hq; exact m2
  · intro q hq
    rcases List.mem_append.mp hq with hq | hq
    · exact h.ld.top q hq
    · rw [List.mem_singleton] at hq; subst hq; exact Int.le_refl _
  · rw [List.pairwise_append]
    exact ⟨h.ld.up, List.pairwise_singleton _ _, fun a ha b hb => by rw [List.mem_singleton] at hb; subst hb; exact h.ld.top a ha⟩
  · rw [List.pairwise_append]
    refine ⟨h.ld.min, List.pairwise_singleton _ _, fun a ha b hb hlt => ?_⟩
    rw [List.mem_singleton] at hb
    subst hb
    exact h.ltr a ha _ m1 m3 hlt
  · intro q hq x hx hn hlt
    rw [em, List.mem_append, not_or] at hn
    rcases List.mem_append.mp hq with hq | hq
    · exact h.ltr q hq x hx hn.1 hlt
    · rw [List.mem_singleton] at hq
      subst hq
      show (k : Int) ≤ nb ts x
      by_cases z : nb ts x < k
      · have := minI_le ((h.gap x).mpr ⟨hx, z, hn.1⟩)
        have hlt' : x < minI gs := hlt
        omega
      · omega
/-- the pairs (fill, time) of a pattern -/
def prsF (ts : List Int) (p : List Bool) : List (Int × Int) := (fillF ts p).zip (tmsF 0 p)
theorem run_pat {ts : List Int} (hn : ts.Nodup) {p : List Bool} (hp : ∀ k, 0 ≤ dif (p.take k)) (ht : tks p ≤ ts.length) : ∀ i, i ≤ p.length → ∃ P, Run ts (runF ts (p.take i)).1 P (tks (p.take i)) ∧ P.map (·.1) = (runF ts (p.take i)).2.1 ∧ P.map (·.2) = tmsF 0 (p.take i)
  | 0, _ => ⟨[], Run.nil ts, rfl, rfl⟩
  | i + 1, hi => by
    obtain ⟨P, h1, h2, h3⟩ := run_pat hn hp ht i (by omega)
    obtain ⟨r1, r2, r3⟩ := runF_tk ts hp i (by omega)
    have e := take_succ (List.getElem?_eq_getElem (show i < p.length by omega))
    have hp1 := hp (i + 1)
    have ht1 := Nat.le_trans (tks_take_le p (i + 1)) ht
    rw [e] at hp1 ht1 ⊢
    rw [runF_app, tks_app, tmsF_app]
    rw [dif_app] at hp1
    rw [tks_app] at ht1
    generalize p[i]'(by omega) = b at *
    cases b with
    | true =>
      have ht1' : tks (p.take i) + 1 ≤ ts.length := ht1
      refine ⟨P, ?_, h2, by rw [h3]; exact (List.append_nil _).symm⟩
      show Run ts ((runF ts (p.take i)).1 ++ [ts.getD (runF ts (p.take i)).2.2 0]) P (tks (p.take i) + 1)
      rw [r1]
      exact h1.take hn (by omega)
    | false =>
      have hp1' : 0 ≤ dif (p.take i) + -1 := hp1
      have ne : (runF ts (p.take i)).1 ≠ [] := fun z => by rw [z] at r2; simp at r2; omega
      refine ⟨P ++ [(minI (runF ts (p.take i)).1, ((tks (p.take i) : Nat) : Int))], h1.back ne, ?_, ?_⟩
      · rw [List.map_append, h2]; rfl
      · rw [List.map_append, h3, Nat.zero_add]; rfl
theorem unzip_eq : ∀ {P : List (Int × Int)} {a b : List Int}, P.map (·.1) = a → P.map (·.2) = b → P = a.zip b
  | [], _, _, rfl, rfl => rfl
  | (x, y) :: P, _, _, rfl, rfl => by
    rw [List.map_cons, List.map_cons, List.zip_cons_cons, ← unzip_eq (P := P) rfl rfl]
/-- a pattern's fills are the places, and lead -/
theorem pat_lead {ts : List Int} (hn : ts.Nodup) {p : List Bool} (hp : IsPat p ts.length) : Lead (nb ts) ts.length (prsF ts p) ∧ (fillF ts p).Perm ts ∧ (prsF ts p).map (·.1) = fillF ts p ∧ (prsF ts p).map (·.2) = tmsF 0 p := by
  obtain ⟨P, h1, h2, h3⟩ := run_pat hn hp.pos (by rw [hp.tks]; exact Nat.le_refl _) p.length (Nat.le_refl _)
  rw [List.take_length] at h1 h2 h3
  rw [hp.tks] at h1
  have e : P = prsF ts p := unzip_eq h2 h3
  subst e
  refine ⟨h1.ld, ?_, h2, h3⟩
  have hr := runF_tk ts hp.pos p.length (Nat.le_refl _)
  rw [List.take_length, hp.tks] at hr
  have hl : (fillF ts p).length = ts.length := by
    have := hr.2.2
    have := hp.len
    show (runF ts p).2.1.length = _
    omega
  have nd := h1.fnd
  have sub := h1.sub
  rw [h2] at nd sub
  exact nodup_perm nd hn sub hl
where
  nodup_perm : ∀ {a b : List Int}, a.Nodup → b.Nodup → (∀ x ∈ a, x ∈ b) → a.length = b.length → a.Perm b
    | [], [], _, _, _, _ => .nil
    | x :: a, b, ha, hb, h, hl => by
      rw [List.nodup_cons] at ha
      have hx := h x List.mem_cons_self
      have ih := nodup_perm ha.2 (hb.erase x) (fun y hy => hb.mem_erase_iff.mpr ⟨fun e => ha.1 (e ▸ hy), h y (List.mem_cons_of_mem _ hy)⟩) (by rw [List.length_erase_of_mem hx, ← hl]; rfl)
      exact (ih.cons x).trans (List.perm_cons_erase hx).symm
    | [], _ :: _, _, _, _, h => by cases h
/-- the pattern with some times -/
def patOf : Nat → List Int → List Bool
  | _, [] => []
  | k, t :: ts => List.replicate (t.toNat - k) true ++ [false] ++ patOf t.toNat ts
theorem dif_cat : ∀ (p q : List Bool), dif (p ++ q) = dif p + dif q
  | [], q => by show dif q = 0 + dif q; omega
  | b :: p, q => by show _ + dif (p ++ q) = _ + dif p + dif q; rw [dif_cat p q]; omega
theorem tks_cat : ∀ (p q : List Bool), tks (p ++ q) = tks p + tks q
  | [], q => by show tks q = 0 + tks q; omega
  | b :: p, q => by show _ + tks (p ++ q) = _ + tks p + tks q; rw [tks_cat p q]; omega
theorem tks_rep : ∀ m : Nat, tks (List.replicate m true) = m
  | 0 => rfl
  | m + 1 => by rw [List.replicate_succ]; show 1 + tks (List.replicate m true) = m + 1; rw [tks_rep m]; omega
theorem dif_rep (m : Nat) : dif (List.replicate m true) = m := by
  have := dif_tks (List.replicate m true)
  rw [tks_rep, List.length_replicate] at this
  omega
theorem tmsF_rep (q : List Bool) : ∀ (m k : Nat), tmsF k (List.replicate m true ++ q) = tmsF (k + m) q
  | 0, k => rfl
  | m + 1, k => by
    rw [List.replicate_succ]
    show tmsF (k + 1) (List.replicate m true ++ q) = _
    rw [tmsF_rep q m (k + 1), show k + 1 + m = k + (m + 1) by omega]
theorem patOf_tms : ∀ {l : List Int} {k : Nat}, l.Pairwise (· ≤ ·) → (∀ t ∈ l, (k : Int) ≤ t) → tmsF k (patOf k l) = l
  | [], _, _, _ => rfl
  | t :: l, k, h, g => by
    have h' := List.pairwise_cons.mp h
    have hk := g t List.mem_cons_self
    show tmsF k (List.replicate (t.toNat - k) true ++ [false] ++ patOf t.toNat l) = _
    rw [List.append_assoc, tmsF_rep, show k + (t.toNat - k) = t.toNat by omega]
    show ((t.toNat : Nat) : Int) :: tmsF t.toNat (patOf t.toNat l) = _
    rw [patOf_tms h'.2 fun x hx => by have := h'.1 x hx; omega]
    rw [show ((t.toNat : Nat) : Int) = t by omega]
theorem patOf_len : ∀ {l : List Int} {k : Nat}, l.Pairwise (· ≤ ·) → (∀ t ∈ l, (k : Int) ≤ t) → (patOf k l).length = tks (patOf k l) + l.length ∧ ((tks (patOf k l) : Nat) : Int) + k = (l.getLast?.getD k)
  | [], k, _, _ => ⟨rfl, by show ((0 : Nat) : Int) + k = k; omega⟩
  | t :: l, k, h, g => by
    have h' := List.pairwise_cons.mp h
    have hk := g t List.mem_cons_self
    obtain ⟨i1, i2⟩ := patOf_len (l := l) (k := t.toNat) h'.2 fun x hx => by have := h'.1 x hx; omega
    have e : patOf k (t :: l) = List.replicate (t.toNat - k) true ++ [false] ++ patOf t.toNat l := rfl
    rw [e, tks_cat, tks_cat, tks_rep, List.length_append, List.length_append, List.length_replicate, i1]
    refine ⟨by show _ = (t.toNat - k + 0 + tks (patOf t.toNat l)) + (l.length + 1); simp; omega, ?_⟩
    have e2 : ((t :: l).getLast?.getD (k : Int)) = l.getLast?.getD t := by
      rw [List.getLast?_cons]
      rfl
    rw [e2]
    have e3 : l.getLast?.getD ((t.toNat : Nat) : Int) = l.getLast?.getD t := by rw [show ((t.toNat : Nat) : Int) = t by omega]
    rw [← e3, ← i2]
    show ((t.toNat - k + 0 + tks (patOf t.toNat l) : Nat) : Int) + k = _
    omega
theorem patOf_pos : ∀ {l : List Int} {k j : Nat}, j ≤ k → l.Pairwise (· ≤ ·) → (∀ t ∈ l, (k : Int) ≤ t) → (∀ (i : Nat) (t : Int), l[i]? = some t → ((j + i + 1 : Nat) : Int) ≤ t) → ∀ m, 0 ≤ (k : Int) - j + dif ((patOf k l).take m)
  | [], k, j, hj, _, _, _, m => by
    show 0 ≤ (k : Int) - j + dif (([] : List Bool).take m)
    rw [List.take_nil]
    show 0 ≤ (k : Int) - j + 0
    omega
  | t :: l, k, j, hj, h, g, c, m => by
    have h' := List.pairwise_cons.mp h
    have hk := g t List.mem_cons_self
    have hc := c 0 t rfl
    have ih := patOf_pos (l := l) (k := t.toNat) (j := j + 1) (by omega) h'.2 (fun x hx => by have := h'.1 x hx; omega) fun i x hx => by
      have := c (i + 1) x (by simpa using hx)
      omega
    have e : patOf k (t :: l) = List.replicate (t.toNat - k) true ++ ([false] ++ patOf t.toNat l) := List.append_assoc _ _ _
    rw [e]
    by_cases hm : m ≤ t.toNat - k
    · rw [List.take_append_of_le_length (by rw [List.length_replicate]; exact hm), List.take_replicate, dif_rep]
      omega
    · rw [List.take_append, List.take_of_length_le (by rw [List.length_replicate]; omega), dif_cat, dif_rep, List.length_replicate]
      obtain ⟨m', em⟩ : ∃ m', m - (t.toNat - k) = m' + 1 := ⟨m - (t.toNat - k) - 1, by omega⟩
      rw [em]
      have := ih m'
      show 0 ≤ (k : Int) - j + (((t.toNat - k : Nat) : Int) + (-1 + dif ((patOf t.toNat l).take m')))
      omega
theorem run_reps {ts : List Int} (hn : ts.Nodup) {P : List (Int × Int)} (f : List Int) : ∀ {m k : Nat} {gs : List Int}, Run ts gs P k → k + m ≤ ts.length → ∃ gs', (List.replicate m true).foldl (stepF ts) (gs, f, k) = (gs', f, k + m) ∧ Run ts gs' P (k + m)
  | 0, k, gs, h, _ => ⟨gs, rfl, h⟩
  | m + 1, k, gs, h, hk => by
    obtain ⟨gs', e, r⟩ := run_reps hn f (m := m) (h.take hn (by omega)) (by omega)
    refine ⟨gs', ?_, by rw [show k + (m + 1) = k + 1 + m by omega]; exact r⟩
    rw [List.replicate_succ, List.foldl_cons]
    show (List.replicate m true).foldl (stepF ts) (gs ++ [ts.getD k 0], f, k + 1) = _
    rw [e, show k + 1 + m = k + (m + 1) by omega]
theorem lead_run {ts : List Int} (hn : ts.Nodup) : ∀ {Q P0 : List (Int × Int)} {gs : List Int} {k : Nat}, Run ts gs P0 k → Lead (nb ts) ts.length (P0 ++ Q) → ((P0 ++ Q).map (·.1)).Perm ts → (∀ q ∈ Q, (k : Int) ≤ q.2) →
    ((patOf k (Q.map (·.2))).foldl (stepF ts) (gs, P0.map (·.1), k)).2.1 = (P0 ++ Q).map (·.1)
  | [], P0, gs, k, _, _, _, _ => by rw [List.append_nil]; rfl
  | (f, t) :: Q, P0, gs, k, h, hL, hp, hk => by
    have k1 := hk _ List.mem_cons_self
    have hmem : (f, t) ∈ P0 ++ (f, t) :: Q := List.mem_append_right _ List.mem_cons_self
    have ttop := hL.top _ hmem
    have ttk := hL.tk _ hmem
    have hup := List.pairwise_append.mp hL.up
    have hmin := List.pairwise_append.mp hL.min
    have hmin2 := List.pairwise_cons.mp hmin.2.1
    have hup2 := List.pairwise_cons.mp hup.2.1
    have k1' : (k : Int) ≤ t := k1
    have ttop' : t ≤ ts.length := ttop
    have ttk' : nb ts f < t := ttk
    obtain ⟨gs', e, r⟩ := run_reps hn (P0.map (·.1)) (m := t.toNat - k) h (by omega)
    have ek : k + (t.toNat - k) = t.toNat := by omega
    rw [ek] at e r
    have hnd : ((P0 ++ (f, t) :: Q).map (·.1)).Nodup := hp.nodup_iff.mpr hn
    rw [List.map_append, List.map_cons, List.nodup_append] at hnd
    have hfn : f ∉ P0.map (·.1) := fun z => hnd.2.2 f z f List.mem_cons_self rfl
    have hft : f ∈ ts := hp.mem_iff.mp (List.mem_map.mpr ⟨(f, t), hmem, rfl⟩)
    have hfg : f ∈ gs' := (r.gap f).mpr ⟨hft, by omega, hfn⟩
    have ef : f = minI gs' := minI_eq hfg fun y hy => by
      obtain ⟨y1, y2, y3⟩ := (r.gap y).mp hy
      have := hp.mem_iff.mpr y1
      rw [List.map_append, List.map_cons] at this
      rcases List.mem_append.mp this with z | z
      · exact absurd z y3
      · rcases List.mem_cons.mp z with z | z
        · rw [z]; exact Int.le_refl _
        · obtain ⟨q, hq, eq⟩ := List.mem_map.mp z
          have := hmin2.1 q hq
          rw [eq] at this
          have this' : y < f → t ≤ nb ts y := this
          by_cases hyf : y < f
          · have := this' hyf; omega
          · omega
    have r2 := r.back (fun z => by rw [z] at hfg; cases hfg)
    rw [← ef] at r2
    have et : (((t.toNat : Nat) : Int)) = t := by omega
    rw [et] at r2
    have ih := lead_run hn (Q := Q) (P0 := P0 ++ [(f, t)]) r2 (by rw [List.append_assoc]; exact hL) (by rw [List.append_assoc]; exact hp) fun q hq => by
      have := hup2.1 q hq
      have this' : t ≤ q.2 := this
      omega
    have ep : patOf k (((f, t) :: Q).map (·.2)) = List.replicate (t.toNat - k) true ++ [false] ++ patOf t.toNat (Q.map (·.2)) := rfl
    rw [ep, List.foldl_append, List.foldl_append, e]
    show ((patOf t.toNat (Q.map (·.2))).foldl (stepF ts) (gs'.erase (minI gs'), P0.map (·.1) ++ [minI gs'], t.toNat)).2.1 = _
    rw [← ef]
    rw [List.map_append] at ih
    have ih' : ((patOf t.toNat (Q.map (·.2))).foldl (stepF ts) (gs'.erase f, P0.map (·.1) ++ [f], t.toNat)).2.1 = (P0 ++ [(f, t)] ++ Q).map (·.1) := ih
    rw [ih', List.append_assoc]
    rfl
/-- each time has at least as many takes before it as returns up to it -/
theorem lead_count {ts : List Int} {P : List (Int × Int)} (hL : Lead (nb ts) ts.length P) (hs : ∀ x ∈ P.map (·.1), x ∈ ts) (hn : (P.map (·.1)).Nodup) {i : Nat} {t : Int} (h : (P.map (·.2))[i]? = some t) : ((i + 1 : Nat) : Int) ≤ t := by
  rw [List.getElem?_map] at h
  cases e : P[i]? with
  | none => rw [e] at h; cases h
  | some q =>
    rw [e] at h
    have et : q.2 = t := Option.some.inj h
    have il := (List.getElem?_eq_some_iff.mp e).1
    have h0 := nb_nn ts q.1
    have h1 := hL.tk q (List.mem_of_getElem? e)
    have key : ((P.take (i + 1)).map fun a => nb ts a.1).length ≤ t.toNat := by
      refine nodup_le ?_ fun x hx => ?_
      · have n1 : ((P.take (i + 1)).map (·.1)).Nodup := by
          rw [List.map_take]
          exact hn.sublist (List.take_sublist _ _)
        have : ((P.take (i + 1)).map fun a => nb ts a.1) = ((P.take (i + 1)).map (·.1)).map (nb ts) := by rw [List.map_map]; rfl
        rw [this]
        refine List.pairwise_map.mpr (List.Pairwise.imp_of_mem ?_ n1)
        intro a b ha hb hab hc
        have sub : ∀ x ∈ (P.take (i + 1)).map (·.1), x ∈ ts := fun x hx => by
          rw [List.map_take] at hx
          exact hs x (List.mem_of_mem_take hx)
        exact hab (nb_inj (sub a ha) (sub b hb) hc)
      · obtain ⟨a, ha, ea⟩ := List.mem_map.mp hx
        refine ⟨by rw [← ea]; exact nb_nn _ _, ?_⟩
        have a1 := hL.tk a (List.mem_of_mem_take ha)
        obtain ⟨j, hj⟩ := List.mem_iff_getElem?.mp ha
        have jl := (List.getElem?_eq_some_iff.mp hj).1
        rw [List.length_take] at jl
        rw [List.getElem?_take] at hj
        split at hj
        · have a2 : a.2 ≤ q.2 := by
            by_cases z : j = i
            · rw [z, e] at hj; cases hj; exact Int.le_refl _
            · have := List.pairwise_iff_getElem.mp hL.up j i (by omega) il (by omega)
              rw [(List.getElem?_eq_some_iff.mp hj).2, (List.getElem?_eq_some_iff.mp e).2] at this
              exact this
          rw [← ea]
          omega
        · cases hj
    rw [List.length_map, List.length_take] at key
    omega
/-- times that lead make a pattern that leads -/
theorem lead_pat {ts : List Int} (hn : ts.Nodup) (h200 : ts.length ≤ 200) {P : List (Int × Int)} (hL : Lead (nb ts) ts.length P) (hp : (P.map (·.1)).Perm ts) : IsPat (patOf 0 (P.map (·.2))) ts.length ∧ fillF ts (patOf 0 (P.map (·.2))) = P.map (·.1) ∧ tmsF 0 (patOf 0 (P.map (·.2))) = P.map (·.2) := by
  have up : (P.map (·.2)).Pairwise (· ≤ ·) := List.pairwise_map.mpr hL.up
  have sub : ∀ x ∈ P.map (·.1), x ∈ ts := fun x hx => hp.mem_iff.mp hx
  have nd : (P.map (·.1)).Nodup := hp.nodup_iff.mpr hn
  have cnt : ∀ (i : Nat) (t : Int), (P.map (·.2))[i]? = some t → ((0 + i + 1 : Nat) : Int) ≤ t := fun i t h => by
    rw [Nat.zero_add]
    exact lead_count hL sub nd h
  have nn : ∀ t ∈ P.map (·.2), ((0 : Nat) : Int) ≤ t := fun t ht => by
    obtain ⟨i, hi⟩ := List.mem_iff_getElem?.mp ht
    have := cnt i t hi
    omega
  obtain ⟨l1, l2⟩ := patOf_len up nn
  have pl : P.length = ts.length := by have := hp.length_eq; rwa [List.length_map] at this
  have last : ((P.map (·.2)).getLast?.getD ((0 : Nat) : Int)) = ts.length := by
    by_cases hP : P = []
    · rw [hP] at pl ⊢
      show ((0 : Nat) : Int) = _
      rw [← pl]; rfl
    · have hne : P.map (·.2) ≠ [] := by simpa using hP
      rw [List.getLast?_eq_some_getLast hne]
      show (P.map (·.2)).getLast hne = _
      have lp := List.length_pos_iff.mpr hP
      have hx := cnt (P.length - 1) ((P.map (·.2)).getLast hne) (by
        have a := List.getLast?_eq_getElem? (l := P.map (·.2))
        rw [List.getLast?_eq_some_getLast hne, List.length_map] at a
        exact a.symm)
      have top : (P.map (·.2)).getLast hne ≤ ts.length := by
        obtain ⟨q, hq, eq⟩ := List.mem_map.mp (List.getLast_mem hne)
        rw [← eq]
        exact hL.top q hq
      omega
  rw [last, Int.natCast_zero, Int.add_zero] at l2
  refine ⟨⟨by rw [l1, List.length_map]; omega, h200, ?_, fun m => ?_⟩, ?_, patOf_tms up nn⟩
  · have := dif_tks (patOf 0 (P.map (·.2)))
    rw [l1, List.length_map] at this
    omega
  · have := patOf_pos (k := 0) (j := 0) (Nat.le_refl _) up nn cnt m
    omega
  · exact lead_run hn (Q := P) (P0 := []) (Run.nil ts) hL hp fun q hq => nn q.2 (List.mem_map.mpr ⟨q, hq, rfl⟩)

abbrev Snumbered : Stmt := topS 33
abbrev Nnumbered : List Str := ["places", "index", "place"]
theorem scnumbered : FnScope Nnumbered ["places"] (defScope Snumbered) := ⟨rfl, rfl, rfl, by decide +kernel, rfl, by decide +kernel, by decide +kernel⟩
abbrev Sbounds_by : Stmt := topS 36
abbrev Nbounds_by : List Str := ["takes", "fills", "number", "least", "most", "low", "place", "high", "later", "other"]
theorem scbounds_by : FnScope Nbounds_by ["takes", "fills"] (defScope Sbounds_by) := ⟨rfl, rfl, rfl, by decide +kernel, rfl, by decide +kernel, by decide +kernel⟩
abbrev Schecked_pair : Stmt := topS 30
abbrev Nchecked_pair : List Str := ["takes", "fills", "one", "other"]
theorem scchecked_pair : FnScope Nchecked_pair ["takes", "fills"] (defScope Schecked_pair) := ⟨rfl, rfl, rfl, by decide +kernel, rfl, by decide +kernel, by decide +kernel⟩
abbrev Sobstruction_of : Stmt := topS 39
abbrev Nobstruction_of : List Str := ["takes", "fills", "places", "number", "filled", "least", "most"]
theorem scobstruction_of : FnScope Nobstruction_of ["takes", "fills"] (defScope Sobstruction_of) := ⟨rfl, rfl, rfl, by decide +kernel, rfl, by decide +kernel, by decide +kernel⟩

/-- a list's items, chosen and changed -/
theorem giv_list (xs : List Int) (P : Int → Bool) (F : Int → Int) : giv xs.length (fun i => P (xs.getD i 0)) (fun i => .int (F (xs.getD i 0))) = vI ((xs.filter P).map F) := by
  have e : (List.range xs.length).map (fun i => xs.getD i 0) = xs := by
    apply List.ext_getElem?
    intro i
    rw [List.getElem?_map]
    by_cases h : i < xs.length
    · rw [List.getElem?_range h, List.getElem?_eq_getElem h]
      show some (xs.getD i 0) = some xs[i]
      rw [List.getD_eq_getElem?_getD, List.getElem?_eq_getElem h]
      rfl
    · rw [List.getElem?_eq_none (by rw [List.length_range]; omega), List.getElem?_eq_none (by omega)]
      rfl
  unfold giv vI
  conv => rhs; rw [← e]
  rw [List.filter_map, List.map_map, List.map_map]
  rfl
theorem getD_at {xs : List Int} {i : Nat} (h : i < xs.length) : xs[i]? = some (xs.getD i 0) := by
  rw [List.getD_eq_getElem?_getD, List.getElem?_eq_getElem h]
  rfl
theorem vI_getD {xs : List Int} {i : Nat} (h : i < xs.length) : (vI xs)[i]? = some (.int (xs.getD i 0)) := by
  unfold vI
  rw [List.getElem?_map, getD_at h]
  rfl
theorem sorted_one : ∀ {a b : List Int}, a.Pairwise (· ≤ ·) → b.Pairwise (· ≤ ·) → a.Perm b → a = b
  | [], b, _, _, h => (h.symm.eq_nil).symm
  | x :: a, [], _, _, h => by have := h.length_eq; cases this
  | x :: a, y :: b, ha, hb, h => by
    have h1 := List.pairwise_cons.mp ha
    have h2 := List.pairwise_cons.mp hb
    have e : x = y := by
      have a1 : x ∈ y :: b := h.mem_iff.mp List.mem_cons_self
      have a2 : y ∈ x :: a := h.mem_iff.mpr List.mem_cons_self
      rcases List.mem_cons.mp a1 with z | z
      · exact z
      · rcases List.mem_cons.mp a2 with z2 | z2
        · exact z2.symm
        · have := h1.1 y z2
          have := h2.1 x z
          omega
    subst e
    rw [sorted_one h1.2 h2.2 (List.Perm.cons_inv h)]
theorem ixO_mem {ns : List Int} {x : Int} (h : x ∈ ns) : ixO ns x = some (nb ns x) := if_pos h
/-- the bounds of the times -/
def bnds (ts fs : List Int) : List (Int × Int) := (lows (nb ts) 0 fs).zip (highs (nb ts) ts.length fs)
theorem bnds_len (ts fs : List Int) : (bnds ts fs).length = fs.length := by unfold bnds; rw [List.length_zip, lows_len, highs_len, Nat.min_self]
theorem drop_cons {α : Type} {xs : List α} {i : Nat} (h : i < xs.length) : xs.drop i = xs[i] :: xs.drop (i + 1) := List.drop_eq_getElem_cons h
section
variable {P : Program} {w : World} {K : PySem.W.Frag} {mg : Str → Option Value} {base : Heap}
def spNumbered : Sp := fun vs H Q _ => ∃ (a : Addr) (ns : List Int), vs = [.ref a] ∧ H a = some (.lst (vI ns)) ∧ ns.Nodup ∧ ns.length ≤ 1000 ∧ ∀ H' p, Same H H' → H p = none → IsD H' p (ixO ns) → Q (.ref p) H'
theorem ok_numbered {f : Addr} {fd : FuncData} {k : Nat} (B : Bn mg) (F : Fun K "numbered" "numbered" Snumbered f fd) : FnG P w K mg base (k + 1) f fd ["places"] spNumbered := by
  refine gok F scnumbered (fun vs H Q E h => ?_) (fun cdv A fs s H vs Q E hG hr h => ?_)
  · obtain ⟨_, _, rfl, _⟩ := h; rfl
  · obtain ⟨a, ns, rfl, hA, hn, hl, q⟩ := h
    have hu := hr.units
    refine ⟨_, (pss_one (ps_ret (pe_dc (own := [("index", 1), ("place", 2)]) rfl scnumbered.nd (k_enum K (by rfl) B.enumerate (pa_cons (pv 0) pa_nil)) (blkOk_by (own := [("index", 1), ("place", 2)]) (N := Nnumbered) (sc := defScope Snumbered) (by decide +kernel)) (fun _ _ _ _ _ => (k_gtup (n := 2) K rfl (pgs_cons (pg_name (i := 1) scnumbered.nd rfl (Or.inl rfl)) (pgs_cons (pg_name (i := 2) scnumbered.nd rfl (Or.inl rfl)) pgs_nil)))) (fun _ _ _ _ _ => pts_nil) (fun _ _ _ _ _ => (pv 2)) (fun _ _ _ _ _ => (pv 1))))), ?_⟩
    walk_at "s"
    refine r_dc ?_
    walk_at "s"
    refine ⟨a, vI ns, rfl, lst_of hA, fun D nD => ?_⟩
    have S := src_enum (K := K) (a := a) (xs := vI ns)
    have sD := same_new (o := .dK []) nD
    refine ⟨fun i m H' => i + m = ns.length ∧ Same H H' ∧ H' D = some (.dK (numTo ns i)), ⟨ns.length, Nat.zero_add _, sD, upd_same⟩, ?_⟩
    rintro i m H1 ⟨e, s1, hD⟩
    have o := lst_of (K := K) (s1 _ _ hA)
    by_cases hi : i < ns.length
    · refine .inr ⟨S.go i H1 o (by rw [vI_len]; exact hi), fun H' => Same H H' ∧ H' D = some (.dK (numTo ns (i + 1))), fun H' h => ⟨m - 1, by omega, by omega, h⟩, ?_⟩
      intro x H2 y
      obtain ⟨T, x', rfl, nT, rfl, hx⟩ := S.yld i H1 x H2 o (by rw [vI_len]; exact hi) y
      rw [vI_getD hi] at hx
      cases hx
      have sT := same_new (o := .tup [.int (i : Nat), .int (ns.getD i 0)]) nT
      walk_at "s"
      refine ⟨rfl, ?_⟩
      walk_at "s"
      refine ⟨numTo ns i, .inl (ns.getD i 0), rfl, sT _ _ hD, by rw [numTo_len]; exact szl (by omega), ?_, ?_⟩
      · exact same_set (s1.trans sT) nD
      · rw [upd_same, numTo_succ hn hi]
    · have ei : i = ns.length := by omega
      subst ei
      refine .inl ⟨by have := S.stop H1 o; rwa [vI_len] at this, ?_⟩
      walk_at "s"
      exact q _ D s1 nD ⟨_, hD, by rw [numTo_len]; omega, valV_all hn⟩
def spBoundsBy : Sp := fun vs H Q _ => ∃ (a b : Addr) (ts fs : List Int), vs = [.ref a, .ref b] ∧ H a = some (.lst (vI ts)) ∧ H b = some (.lst (vI fs)) ∧ ts.Nodup ∧ ts.length ≤ 1000 ∧ fs.Perm ts ∧
  ∀ H' p as, Same H H' → H p = none → PairsAt (fun x => H x = none) H' p as (bnds ts fs) → Q (.ref p) H'
theorem ok_bounds_by {f : Addr} {fd : FuncData} (B : Bn mg) (D_numbered : Df P w K mg base 1 "numbered" [] spNumbered) (F : Fun K "bounds_by" "bounds_by" Sbounds_by f fd) : FnG P w K mg base 2 f fd ["takes", "fills"] spBoundsBy := by
  refine gok F scbounds_by (fun vs H Q E h => ?_) (fun cdv A fs s H vs Q E hG hr h => ?_)
  · obtain ⟨_, _, _, _, rfl, _⟩ := h; rfl
  · obtain ⟨a, b, ts, fl, rfl, hA, hB, hn, hl, hp, q⟩ := h
    have hu := hr.units
    have fll := hp.length_eq
    refine ⟨_, (pss_cons (ps_set (i := 2) scbounds_by.nd rfl (Or.inr rfl) (pe_df D_numbered hG (hr.mono (by first | decide | omega)) passL (by rfl) (pa_cons (pv 0) pa_nil))) (pss_cons (ps_par (i := 3) (j := 4) rfl scbounds_by.nd rfl rfl (by decide) rfl rfl (pa_cons (pe_lst pa_nil) (pa_cons (pe_lst pa_nil) pa_nil)) (by with_unfolding_all rfl)) (pss_cons (ps_set (i := 5) scbounds_by.nd rfl (Or.inl rfl) pe_int) (pss_cons (ps_for (passes_of rfl) rfl (k_piL K (pv 1)) (pg_name (i := 6) scbounds_by.nd rfl (Or.inr rfl)) (pss_cons (ps_set (i := 5) scbounds_by.nd rfl (Or.inl rfl) (pe_callB (call_max2' rfl) (by rfl) B.max Bmax (pa_cons (pv 5) (pa_cons (pe_op op_add (pe_dget (hu1 hu) (pv 2) (pv 6) (fun _ _ => rfl)) pe_int) pa_nil)))) (pss_one (ps_expr (k_bmP K (pe_bm PySem.F.plainAttrs_list PySem.F.slot_list_append PySem.F.type_list_append mt_append (pv 3) (pa_cons (pv 5) pa_nil))))))) (pss_cons (ps_set (i := 7) scbounds_by.nd rfl (Or.inl rfl) (pe_callB (k_len K) (by rfl) B.len Blen (pa_cons (pv 0) pa_nil))) (pss_cons (ps_set (i := 8) scbounds_by.nd rfl (Or.inl rfl) (pe_lst pa_nil)) (pss_cons (ps_for (passes_of rfl) rfl (pi_reversed (by rfl) B.reversed (pa_cons (pv 1) pa_nil)) (pg_name (i := 6) scbounds_by.nd rfl (Or.inr rfl)) (pss_cons (ps_set (i := 7) scbounds_by.nd rfl (Or.inl rfl) (pe_callB (k_min K) (by rfl) B.min Bmin (pa_cons (pe_op op_cat (pe_lst (pa_cons (pv 7) pa_nil)) (pe_lc (own := [("other", 9)]) rfl scbounds_by.nd (k_piL K (pv 8)) (blkOk_by (own := [("other", 9)]) (N := Nbounds_by) (sc := defScope Sbounds_by) (by decide +kernel)) (fun _ _ _ _ _ => (pg_name (i := 9) scbounds_by.nd rfl (Or.inl rfl))) (fun _ _ _ _ _ => (pts_one (pt_cmpR op_lt (pv 9) (pv 6) (nomark _)))) (fun _ _ _ _ _ => (pe_dget (hu1 hu) (pv 2) (pv 9) (fun _ _ => rfl))))) pa_nil))) (pss_cons (ps_expr (k_bmP K (pe_bm PySem.F.plainAttrs_list PySem.F.slot_list_append PySem.F.type_list_append mt_append (pv 4) (pa_cons (pv 7) pa_nil)))) (pss_one (ps_expr (k_bmP K (pe_bm PySem.F.plainAttrs_list PySem.F.slot_list_append PySem.F.type_list_append mt_append (pv 8) (pa_cons (pv 6) pa_nil)))))))) (pss_one (ps_ret (pe_listZipR K rfl (by rfl) B.list (by rfl) B.zip (by rfl) B.reversed (pv 3) (pv 4))))))))))), ?_⟩
    walk_at "s"
    refine ⟨a, ts, rfl, hA, hn, hl, fun H1 d s1 nd hd => ?_⟩
    walk_at "s"
    intro l nl
    walk_at "s"
    intro mo nm
    have s2 := (s1.trans (same_new (o := .lst []) nl)).trans (same_new (o := .lst []) nm)
    have hd2 := hd.same ((same_new (o := .lst []) nl).trans (same_new (o := .lst []) nm))
    have nl0 : H l = none := s1.free nl
    have nm0 : H mo = none := (s1.trans (same_new (o := .lst []) nl)).free nm
    have nlm : l ≠ mo := ne_new nm upd_same
    have hl2 : upd (upd H1 l (.lst [])) mo (.lst []) l = some (.lst (vI [])) := (upd_ne nlm).trans upd_same
    have hm2 : upd (upd H1 l (.lst [])) mo (.lst []) mo = some (.lst (vI [])) := upd_same
    have hdk : ∃ kvs, H1 d = some (.dK kvs) := let ⟨kvs, h, _⟩ := hd; ⟨kvs, h⟩
    have ndl : d ≠ l := fun z => by obtain ⟨kvs, h⟩ := hdk; rw [z, nl] at h; cases h
    have ndm : d ≠ mo := fun z => by
      obtain ⟨kvs, h⟩ := hdk
      have := (same_new (o := .lst []) nl) _ _ h
      rw [z, nm] at this; cases this
    generalize upd (upd H1 l (.lst [])) mo (.lst []) = H2 at *
    have hB2 := s2 _ _ hB
    walk_at "s"
    refine ⟨b, rfl, ⟨_, lst_of hB2⟩, ?_⟩
    refine for_src (src_list (xs := vI fl)) (fun i σ H' => ∃ low ls v6 v7 v8 v9, σ = [some (.ref a), some (.ref b), some (.ref d), some (.ref l), some (.ref mo), some (.int low), v6, v7, v8, v9] ∧ Same H H' ∧ IsD H' d (ixO ts) ∧ H' l = some (.lst (vI ls)) ∧ H' mo = some (.lst (vI [])) ∧ lows (nb ts) 0 fl = ls ++ lows (nb ts) low (fl.drop i) ∧ ls.length = i) (fun i σ H' h => by
      obtain ⟨_, _, _, _, _, _, _, s, _⟩ := h
      exact lst_of (s _ _ hB)) ⟨0, [], none, none, none, none, rfl, s2, hd2, hl2, hm2, by rw [List.drop_zero]; rfl, rfl⟩ ?_ ?_
    · rintro i v σ H3 H4 hi ⟨low, ls, v6, v7, v8, v9, rfl, s3, hd3, hl3, hm3, e, el⟩ ⟨rfl, hx⟩
      rw [vI_len] at hi
      rw [vI_getD hi] at hx
      cases hx
      have hm := List.getElem_mem hi
      have hft : fl.getD i 0 ∈ ts := by
        rw [List.getD_eq_getElem?_getD, List.getElem?_eq_getElem hi]
        exact hp.mem_iff.mp hm
      have lsl : ls.length ≤ 1000 := by omega
      walk_at "s"
      refine r_dget ?_
      walk_at "s"
      refine hd3.get (ixO_mem hft) ?_
      walk_at "s"
      refine ⟨mx low (nb ts (fl.getD i 0) + 1), ls ++ [mx low (nb ts (fl.getD i 0) + 1)], _, _, _, _, rfl, same_set s3 nl0, ?_, ?_, (upd_ne nlm.symm).trans hm3, ?_, ?_⟩
      · obtain ⟨kvs, z1, z2⟩ := hd3
        exact ⟨kvs, (upd_ne ndl).trans z1, z2⟩
      · rw [upd_same]
        exact congrArg (fun l => some (HO.lst l)) (vI_app ls [_])
      · rw [e, drop_cons hi, List.append_assoc]
        have ef : fl[i] = fl.getD i 0 := by rw [List.getD_eq_getElem?_getD, List.getElem?_eq_getElem hi]; rfl
        rw [ef]
        rfl
      · rw [List.length_append, el]; rfl
    · rintro σ H3 ⟨low, ls, v6, v7, v8, v9, rfl, s3, hd3, hl3, hm3, e, el⟩
      rw [vI_len, List.drop_length] at e
      have e' : lows (nb ts) 0 fl = ls := e.trans (List.append_nil _)
      subst e'
      have hA3 := s3 _ _ hA
      walk_at "s"
      rw [vI_len]
      intro la nla
      have nla0 : H la = none := s3.free nla
      have hB3 := s3 _ _ hB
      have s4 := same_new (o := .lst []) nla
      have hd4 := hd3.same s4
      have hl4 := s4 _ _ hl3
      have hm4 := s4 _ _ hm3
      have hla4 : upd H3 la (.lst []) la = some (.lst (vI [])) := upd_same
      have nlla : l ≠ la := ne_new nla hl3
      have nmla : mo ≠ la := ne_new nla hm3
      have ndla : d ≠ la := fun z => by obtain ⟨kvs, h, _⟩ := hd3; rw [z, nla] at h; cases h
      have s34 := s3.trans s4
      generalize upd H3 la (.lst []) = H4 at *
      walk_at "s"
      refine r_iRev ?_
      walk_at "s"
      refine ⟨b, vI fl, rfl, lst_of (s34 _ _ hB), ?_⟩
      refine for_src (src_rev (xs := vI fl)) (fun i σ H' => ∃ v6 v9, σ = [some (.ref a), some (.ref b), some (.ref d), some (.ref l), some (.ref mo), some (.int low), v6, some (.int ((highs (nb ts) ts.length (fl.drop (fl.length - i))).headD ts.length)), some (.ref la), v9] ∧ Same H H' ∧ IsD H' d (ixO ts) ∧ H' l = some (.lst (vI (lows (nb ts) 0 fl))) ∧ H' mo = some (.lst (vI (highs (nb ts) ts.length (fl.drop (fl.length - i))).reverse)) ∧ H' la = some (.lst (vI (fl.drop (fl.length - i)).reverse))) (fun i σ H' h => by
        obtain ⟨_, _, _, s, _⟩ := h
        exact lst_of (s _ _ hB)) ⟨v6, v9, ?_, s34, hd4, hl4, ?_, ?_⟩ ?_ ?_
      · rw [Nat.sub_zero, List.drop_length]; rfl
      · rw [Nat.sub_zero, List.drop_length]; exact hm4
      · rw [Nat.sub_zero, List.drop_length]; exact hla4
      · rintro i v σ H5 H6 hi ⟨v6', v9', rfl, s5, hd5, hl5, hm5, hla5⟩ ⟨rfl, hx⟩
        rw [vI_len] at hi hx
        have hj : fl.length - 1 - i < fl.length := by omega
        rw [vI_getD hj] at hx
        cases hx
        have ef : fl[fl.length - 1 - i] = fl.getD (fl.length - 1 - i) 0 := by rw [List.getD_eq_getElem?_getD, List.getElem?_eq_getElem hj]; rfl
        have ed : fl.drop (fl.length - (i + 1)) = fl.getD (fl.length - 1 - i) 0 :: fl.drop (fl.length - i) := by
          rw [show fl.length - (i + 1) = fl.length - 1 - i by omega, drop_cons hj, ef, show fl.length - 1 - i + 1 = fl.length - i by omega]
        have hsub : ∀ x ∈ fl.drop (fl.length - i), x ∈ ts := fun x hx => hp.mem_iff.mp (List.mem_of_mem_drop hx)
        have hsl : (fl.drop (fl.length - i)).length ≤ 1000 := by rw [List.length_drop]; omega
        rw [ed]
        generalize fl.getD (fl.length - 1 - i) 0 = f0 at *
        generalize fl.drop (fl.length - i) = S at *
        walk_at "s"
        intro t1 nt1
        have hla6 := (same_new (o := .lst [.int ((highs (nb ts) ts.length S).headD ts.length)]) nt1) _ _ hla5
        have s6 := same_new (o := .lst [.int ((highs (nb ts) ts.length S).headD ts.length)]) nt1
        have hd6 := hd5.same s6
        walk_at "s"
        refine ⟨la, rfl, ⟨_, lst_of hla6⟩, fun Dl nD => ?_⟩
        refine lc_pure (src_list (xs := vI S.reverse)) (fun j => decide (S.reverse.getD j 0 < f0)) (fun j => .int (nb ts (S.reverse.getD j 0))) (by rw [vI_len, List.length_reverse]; omega) (fun H' s' => lst_of (s' _ _ hla6)) ?_ nD fun H7 s7 hD => ?_
        · rintro j x H8 H9 Yes No hj' s8 ⟨rfl, hx⟩ hY hN
          rw [vI_len] at hj'
          rw [vI_getD hj'] at hx
          cases hx
          have hmem : S.reverse.getD j 0 ∈ ts := hsub _ (List.mem_reverse.mp (by
            rw [List.getD_eq_getElem?_getD, List.getElem?_eq_getElem hj']
            exact List.getElem_mem hj'))
          walk_at "s"
          refine ⟨rfl, ?_⟩
          walk_at "s"
          by_cases hlt : S.reverse.getD j 0 < f0
          · refine ifDT hlt ?_
            walk_at "s"
            refine r_dget ?_
            walk_at "s"
            refine (hd6.same s8).get (ixO_mem hmem) ?_
            exact hY (decide_eq_true hlt) _ (Same.refl _)
          · refine ifDF hlt ?_
            exact hN (decide_eq_false hlt) _ (Same.refl _)
        · rw [vI_len] at hD
          rw [giv_list S.reverse (fun y => decide (y < f0)) (nb ts)] at hD
          have ht7 := s7 _ _ (upd_same (H := H6) (a := t1) (o := .lst [.int ((highs (nb ts) ts.length S).headD ts.length)]))
          refine r_cat ht7 hD (by rw [vI_len, List.length_map]; have := List.length_filter_le (fun y => decide (y < f0)) S; exact sz (by simp; omega)) fun u nu => ?_
          have s67 := s6.trans s7
          have s78 := s67.trans (same_new (o := .lst ([V.int ((highs (nb ts) ts.length S).headD ts.length)] ++ vI ((S.reverse.filter fun y => decide (y < f0)).map (nb ts)))) nu)
          walk_at "s"
          refine r_min (ns := ((highs (nb ts) ts.length S).headD ts.length) :: ((S.reverse.filter fun y => decide (y < f0)).map (nb ts))) (lst_of upd_same) (by simp) ?_
          have em : minI (((highs (nb ts) ts.length S).headD ts.length) :: ((S.reverse.filter fun y => decide (y < f0)).map (nb ts))) = minI (((highs (nb ts) ts.length S).headD ts.length) :: ((S.filter fun y => decide (y < f0)).map (nb ts))) := by
            refine minI_perm (List.Perm.cons _ ?_)
            rw [List.filter_reverse]
            exact (List.reverse_perm _).map _
          rw [em]
          have hm8 := s78 _ _ hm5
          have hla8 := s78 _ _ hla5
          have hl8 := s78 _ _ hl5
          have hd8 := hd5.same s78
          have s58 := s5.trans s78
          generalize upd H7 u (.lst ([V.int ((highs (nb ts) ts.length S).headD ts.length)] ++ vI ((S.reverse.filter fun y => decide (y < f0)).map (nb ts)))) = H8 at *
          have hml : (highs (nb ts) ts.length S).length ≤ 1000 := by rw [highs_len]; exact hsl
          walk_at "s"
          refine ⟨_, _, rfl, same_set (same_set s58 nm0) nla0, ?_, ?_, ?_, ?_⟩
          · obtain ⟨kvs, z1, z2⟩ := hd8
            exact ⟨kvs, (upd_ne ndla).trans ((upd_ne ndm).trans z1), z2⟩
          · exact (upd_ne nlla).trans ((upd_ne nlm).trans hl8)
          · rw [upd_ne nmla, upd_same]
            refine congrArg (fun l => some (HO.lst l)) ?_
            show vI (highs (nb ts) ts.length S).reverse ++ vI [_] = _
            rw [vI_app]
            show _ = vI (_ :: highs (nb ts) ts.length S).reverse
            rw [List.reverse_cons]
          · rw [upd_same]
            refine congrArg (fun l => some (HO.lst l)) ?_
            show vI S.reverse ++ vI [f0] = _
            rw [vI_app, List.reverse_cons]
      · rintro σ H5 ⟨v6', v9', rfl, s5, hd5, hl5, hm5, hla5⟩
        rw [vI_len, Nat.sub_self, List.drop_zero] at hm5
        walk_at "s"
        refine r_listZipR ?_
        walk_at "s"
        refine ⟨l, mo, vI (lows (nb ts) 0 fl), vI (highs (nb ts) ts.length fl).reverse, rfl, rfl, lst_of hl5, lst_of hm5, by rw [vI_len, vI_len, List.length_reverse, lows_len, highs_len], fun H6 p as s6 np nts npt ndp hp6 hlen hit => ?_⟩
        rw [vI_len, lows_len] at hlen
        refine q H6 p as (s5.trans s6) (s5.free np) ⟨hp6, by rw [bnds_len]; exact hlen, fun j x z e1 e2 => ⟨?_, s5.free (nts x (List.mem_of_getElem? e1))⟩⟩
        unfold bnds at e2
        obtain ⟨f1, f2⟩ := List.getElem?_zip_eq_some.mp e2
        refine hit j x _ _ e1 (by unfold vI; rw [List.getElem?_map, f1]; rfl) ?_
        rw [vI_rev, List.reverse_reverse]
        unfold vI
        rw [List.getElem?_map, f2]
        rfl
def spCheckedPair : Sp := fun vs H Q _ => ∃ (a b : Addr) (ts fs : List Int), vs = [.ref a, .ref b] ∧ Sq H a (vI ts) ∧ Sq H b (vI fs) ∧ IsPl ts ∧ fs.Perm ts ∧
  ∀ H' t p1 p2, Same H H' → H t = none → H p1 = none → H p2 = none → p1 ≠ p2 → H' t = some (.tup [.ref p1, .ref p2]) → H' p1 = some (.lst (vI ts)) → H' p2 = some (.lst (vI fs)) → Q (.ref t) H'
theorem IsPl.perm' {a b : List Int} (h : IsPl a) (p : b.Perm a) : IsPl b := ⟨by rw [p.length_eq]; exact h.top, fun x hx => h.rng x (p.mem_iff.mp hx), p.nodup_iff.mpr h.nd⟩
theorem ok_checked_pair {f : Addr} {fd : FuncData} (B : Bn mg) (D_checked_places : Df P w K mg base 3 "checked_places" [] spCheckedPlaces) (F : Fun K "checked_pair" "checked_pair" Schecked_pair f fd) : FnG P w K mg base 4 f fd ["takes", "fills"] spCheckedPair := by
  refine gok F scchecked_pair (fun vs H Q E h => ?_) (fun cdv A fs s H vs Q E hG hr h => ?_)
  · obtain ⟨_, _, _, _, rfl, _⟩ := h; rfl
  · obtain ⟨a, b, ts, fl, rfl, hA, hB, hP, hp, q⟩ := h
    have hu := hr.units
    refine ⟨_, (pss_cons (ps_par (i := 2) (j := 3) rfl scchecked_pair.nd rfl rfl (by decide) rfl rfl (pa_cons (pe_df D_checked_places hG (hr.mono (by first | decide | omega)) passL (by rfl) (pa_cons (pv 0) pa_nil)) (pa_cons (pe_df D_checked_places hG (hr.mono (by first | decide | omega)) passL (by rfl) (pa_cons (pv 1) pa_nil)) pa_nil)) (by with_unfolding_all rfl)) (pss_cons (ps_if (pt_cmpR (k_neD K hu) (pe_callB (k_sorted K) (by rfl) B.sorted Bsorted (pa_cons (pv 2) pa_nil)) (pe_callB (k_sorted K) (by rfl) B.sorted Bsorted (pa_cons (pv 3) pa_nil)) (nomark _)) (pss_one ps_never) pss_nil) (pss_one (ps_ret (pe_tup (pa_cons (pv 2) (pa_cons (pv 3) pa_nil))))))), ?_⟩
    walk_at "s"
    refine ⟨a, ts, rfl, hA, hP, fun H1 p1 s1 n1 h1 => ?_⟩
    walk_at "s"
    refine ⟨b, fl, rfl, s1.sq hB, hP.perm' hp, fun H2 p2 s2 n2 h2 => ?_⟩
    have h1' := s2 _ _ h1
    walk_at "s"
    refine r_sortI (lst_of h1') fun o1 u1 k1 k2 m1 => ?_
    have s3 := same_new (o := .lst (vI o1)) m1
    walk_at "s"
    refine r_sortI (lst_of (s3 _ _ h2)) fun o2 u2 k3 k4 m2 => ?_
    have e : o1 = o2 := sorted_one k2 k4 (k1.trans (hp.symm.trans k3.symm))
    subst e
    have s4 := same_new (o := .lst (vI o1)) m2
    refine r_neLI (lst_of (s4 _ _ upd_same)) (lst_of upd_same) ?_
    walk_at "s"
    intro t nt
    have s5 := same_new (o := .tup [.ref p1, .ref p2]) nt
    have sA := (s3.trans s4).trans s5
    have sB := s1.trans s2
    exact q _ t p1 p2 (sB.trans sA) ((sB.trans (s3.trans s4)).free nt) n1 (s1.free n2) (ne_new n2 h1) upd_same (sA _ _ h1') (sA _ _ h2)
theorem LeAll.get : ∀ {a b : List Int}, LeAll a b → ∀ {i : Nat} (hi : i < (a.zip b).length), ((a.zip b)[i]).1 ≤ ((a.zip b)[i]).2
  | [], [], _, i, hi => by simp at hi
  | _ :: _, _ :: _, h, 0, hi => h.1
  | _ :: _, _ :: _, h, i + 1, hi => by
    have := LeAll.get h.2 (i := i) (by simpa using hi)
    simpa using this
  | [], _ :: _, h, _, _ => h.elim
  | _ :: _, [], h, _, _ => h.elim
/-- the pair is possible -/
def Poss (ts fs : List Int) : Prop := LeAll (lows (nb ts) 0 fs) (highs (nb ts) ts.length fs)
def spObsNone : Sp := fun vs H Q _ => ∃ (a b : Addr) (ts fs : List Int), vs = [.ref a, .ref b] ∧ H a = some (.lst (vI ts)) ∧ H b = some (.lst (vI fs)) ∧ ts.Nodup ∧ ts.length ≤ 1000 ∧ fs.Perm ts ∧ Poss ts fs ∧ ∀ H', Same H H' → Q .non H'
theorem ok_obstruction_of {f : Addr} {fd : FuncData} (B : Bn mg) (D_bounds_by : Df P w K mg base 2 "bounds_by" [] spBoundsBy) (F : Fun K "obstruction_of" "obstruction_of" Sobstruction_of f fd) : FnG P w K mg base 3 f fd ["takes", "fills"] spObsNone := by
  refine gok F scobstruction_of (fun vs H Q E h => ?_) (fun cdv A fs s H vs Q E hG hr h => ?_)
  · obtain ⟨_, _, _, _, rfl, _⟩ := h; rfl
  · obtain ⟨a, b, ts, fl, rfl, hA, hB, hn, hl, hp, hPo, q⟩ := h
    have hu := hr.units
    refine ⟨_, (pss_cons (ps_if (pt_val (pe_callB (k_all K) (by rfl) B.all Ball (pa_cons (pe_lc (own := [("least", 5), ("most", 6)]) rfl scobstruction_of.nd (k_piL K (pe_df D_bounds_by hG (hr.mono (by first | decide | omega)) passL (by rfl) (pa_cons (pv 0) (pa_cons (pv 1) pa_nil)))) (blkOk_by (own := [("least", 5), ("most", 6)]) (N := Nobstruction_of) (sc := defScope Sobstruction_of) (by decide +kernel)) (fun _ _ _ _ _ => (k_gtup (n := 2) K rfl (pgs_cons (pg_name (i := 5) scobstruction_of.nd rfl (Or.inl rfl)) (pgs_cons (pg_name (i := 6) scobstruction_of.nd rfl (Or.inl rfl)) pgs_nil)))) (fun _ _ _ _ _ => pts_nil) (fun _ _ _ _ _ => (pe_cmpR op_le (pv 5) (pv 6) (nomark _)))) pa_nil))) (pss_one (ps_ret pe_non)) pss_nil) (pss_cons ps_never (pss_one ps_never))), ?_⟩
    walk_at "s"
    refine ⟨a, b, ts, fl, rfl, hA, hB, hn, hl, hp, fun H1 p as s1 np hp1 => ?_⟩
    have bl := bnds_len ts fl
    have fll := hp.length_eq
    refine ⟨p, rfl, ⟨_, lst_of hp1.hp⟩, fun Dl nD => ?_⟩
    refine lc_pure (src_list (xs := as.map V.ref)) (fun _ => true) (fun _ => .bl true) (by rw [List.length_map, hp1.len]; omega) (fun H' s' => lst_of (s' _ _ hp1.hp)) ?_ nD fun H7 s7 hD => ?_
    · rintro j x H8 H9 Yes No hj' s8 ⟨rfl, hx⟩ hY hN
      rw [List.length_map, hp1.len] at hj'
      obtain ⟨t, e1, e2, _⟩ := hp1.at hj'
      rw [e1] at hx
      cases hx
      have e2' := s8 _ _ e2
      have hle : ((bnds ts fl)[j]).1 ≤ ((bnds ts fl)[j]).2 := LeAll.get hPo hj'
      generalize (bnds ts fl)[j] = z at *
      walk_at "s"
      refine ⟨rfl, ?_⟩
      walk_at "s"
      rw [decide_eq_true hle]
      exact hY rfl _ (Same.refl _)
    · walk_at "s"
      refine ⟨Dl, List.replicate (as.map V.ref).length true, rfl, lst_of (hD.trans (by rw [giv_const, List.map_replicate])), ?_⟩
      rw [show (List.replicate (as.map V.ref).length true).all id = true by simp]
      walk_at "s"
      exact q _ (s1.trans s7)
end

section
local macro_rules | `(tactic| walk_at "s") => `(tactic| repeat (first | walk_at "s1" | walk_at "s2" | walk_at "fld"))
abbrev Scheck_size : Stmt := topS 14
abbrev Ncheck_size : List Str := ["size"]
theorem sccheck_size : FnScope Ncheck_size ["size"] (defScope Scheck_size) := ⟨rfl, rfl, rfl, by decide +kernel, rfl, by decide +kernel, by decide +kernel⟩
abbrev SShelf_d__init_d_ : Stmt := inClass (topS 15) 0
abbrev NShelf_d__init_d_ : List Str := ["self", "size"]
theorem scShelf_d__init_d_ : FnScope NShelf_d__init_d_ ["self", "size"] (defScope SShelf_d__init_d_) := ⟨rfl, rfl, rfl, by decide +kernel, rfl, by decide +kernel, by decide +kernel⟩
abbrev SShelf_can_take : Stmt := inClass (topS 15) 1
abbrev NShelf_can_take : List Str := ["self", "place"]
theorem scShelf_can_take : FnScope NShelf_can_take ["self", "place"] (defScope SShelf_can_take) := ⟨rfl, rfl, rfl, by decide +kernel, rfl, by decide +kernel, by decide +kernel⟩
abbrev SShelf_can_return : Stmt := inClass (topS 15) 2
abbrev NShelf_can_return : List Str := ["self", "book"]
theorem scShelf_can_return : FnScope NShelf_can_return ["self", "book"] (defScope SShelf_can_return) := ⟨rfl, rfl, rfl, by decide +kernel, rfl, by decide +kernel, by decide +kernel⟩
abbrev SShelf_take : Stmt := inClass (topS 15) 3
abbrev NShelf_take : List Str := ["self", "place", "book"]
theorem scShelf_take : FnScope NShelf_take ["self", "place"] (defScope SShelf_take) := ⟨rfl, rfl, rfl, by decide +kernel, rfl, by decide +kernel, by decide +kernel⟩
abbrev SShelf_put_back : Stmt := inClass (topS 15) 4
abbrev NShelf_put_back : List Str := ["self", "book", "place"]
theorem scShelf_put_back : FnScope NShelf_put_back ["self", "book"] (defScope SShelf_put_back) := ⟨rfl, rfl, rfl, by decide +kernel, rfl, by decide +kernel, by decide +kernel⟩

/-! a shelf -/
def bV : Option Int → V
  | some i => .int i
  | none => .non
def vB (bs : List (Option Int)) : List V := bs.map bV
theorem vB_len (bs : List (Option Int)) : (vB bs).length = bs.length := List.length_map ..
theorem vB_at {bs : List (Option Int)} {i : Nat} {x : Option Int} (h : bs[i]? = some x) : (vB bs)[i]? = some (bV x) := by
  unfold vB; rw [List.getElem?_map, h]; rfl
theorem vB_set (bs : List (Option Int)) (n : Nat) (x : Option Int) : (vB bs).set n (bV x) = vB (bs.set n x) := List.map_set.symm
theorem vB_flat (bs : List (Option Int)) : (vB bs).all flatV = true := by
  unfold vB
  rw [List.all_map]
  exact List.all_eq_true.mpr fun x _ => by cases x <;> rfl
abbrev shF (b t : Addr) : List (Str × V) := [("books", V.ref b), ("taken", V.ref t)]
/-- a shelf at s: its books at b, the books out at t -/
structure ShelfAt (C : Addr) (H : Hp) (s b t : Addr) (bs : List (Option Int)) (tk : List Int) : Prop where
  ob : ∃ dx, H s = some (.ins C dx (shF b t))
  hb : H b = some (.lst (vB bs))
  ht : H t = some (.lst (vI tk))
  ne : b ≠ t
structure ShK (K : PySem.W.Frag) (C : Addr) : Prop where
  cl : Cls K C
  nb : NoAttr K C "books"
  nt : NoAttr K C "taken"
theorem ShelfAt.same {C : Addr} {H H' : Hp} {s b t : Addr} {bs : List (Option Int)} {tk : List Int} (h : ShelfAt C H s b t bs tk) (k : Same H H') : ShelfAt C H' s b t bs tk := by
  obtain ⟨⟨dx, h1⟩, h2, h3, h4⟩ := h
  exact ⟨⟨dx, k _ _ h1⟩, k _ _ h2, k _ _ h3, h4⟩
section
variable {P : Program} {w : World} {K : PySem.W.Frag} {mg : Str → Option Value} {base : Heap}
def spCheckSize : Sp := fun vs H Q _ => ∃ n : Int, vs = [.int n] ∧ 1 ≤ n ∧ n ≤ 200 ∧ Q .non H
theorem ok_check_size {f : Addr} {fd : FuncData} (c_MAX_SIZE : Gc mg "MAX_SIZE" (.int 200)) (D_is_integer : Df P w K mg base 1 "is_integer" [] spIsInteger) (F : Fun K "check_size" "check_size" Scheck_size f fd) : FnG P w K mg base 2 f fd ["size"] spCheckSize := by
  refine gok F sccheck_size (fun vs H Q E h => ?_) (fun cdv A fs s H vs Q E hG hr h => ?_)
  · obtain ⟨_, rfl, _⟩ := h; rfl
  · obtain ⟨n, rfl, h1, h2, q⟩ := h
    have hu := hr.units
    refine ⟨_, (pss_one (ps_if (pt_not (pt_val (pe_df D_is_integer hG (hr.mono (by first | decide | omega)) passL (by rfl) (pa_cons (pv 0) (pa_cons pe_int (pa_cons (pe_gc c_MAX_SIZE (by rfl)) pa_nil)))))) (pss_one ps_never) pss_nil)), ?_⟩
    walk_at "s"
    refine ⟨_, _, _, rfl, .inl ⟨_, rfl, ?_⟩⟩
    rw [decide_eq_true h1, decide_eq_true h2]
    walk_at "s"
    exact q
def spShInit (C : Addr) : Sp := fun vs H Q _ => ∃ (s dx : Addr) (n : Nat), vs = [.ref s, .int n] ∧ H s = some (.ins C dx []) ∧ n ≤ 200 ∧ ∀ H' b t, KpL [s] H H' → H b = none → H t = none → ShelfAt C H' s b t ((List.range n).map fun i => some ((i : Nat) : Int)) [] → Q .non H'
theorem iota_vB (n : Nat) : rgV 0 (n : Int) = vB ((List.range n).map fun i => some ((i : Nat) : Int)) := by
  unfold rgV vB
  rw [List.map_map, show ((n : Int) - 0).toNat = n by omega]
  exact List.map_congr_left fun i _ => by show V.int (0 + (i : Int)) = V.int ((i : Nat) : Int); rw [Int.zero_add]
theorem ok_Shelf_init {C f : Addr} {fd : FuncData} {k : Nat} (B : Bn mg) (S : ShK K C) (F : Fun K "__init__" "Shelf.__init__" SShelf_d__init_d_ f fd) : FnG P w K mg base (k + 1) f fd ["self", "size"] (spShInit C) := by
  refine gok F scShelf_d__init_d_ (fun vs H Q E h => ?_) (fun cdv A fs s H vs Q E hG hr h => ?_)
  · obtain ⟨_, _, _, rfl, _⟩ := h; rfl
  · obtain ⟨s, dx, n, rfl, hs, hn, q⟩ := h
    have hu := hr.units
    obtain ⟨cl, nb, nt⟩ := S
    refine ⟨_, (pss_cons (ps_fld (pv 0) (pe_listRg rfl (by rfl) B.list (prg_1 (by rfl) B.range (pv 1))) rfl) (pss_one (ps_fld (pv 0) (pe_lst pa_nil) rfl))), ?_⟩
    walk_at "s"
    refine ⟨.of_le (by omega) (by omega) (by omega) (by omega), fun b nb => ?_⟩
    rw [iota_vB]
    have nsb : s ≠ b := ne_new nb hs
    have hs1 := (same_new (o := .lst (vB ((List.range n).map fun i => some ((i : Nat) : Int)))) nb) _ _ hs
    walk_at "s"
    rw [put1]
    intro t nt
    have nst : s ≠ t := ne_new nt upd_same
    have nbt : b ≠ t := ne_new nt ((upd_ne nsb.symm).trans upd_same)
    have nt0 : H t = none := by
      rw [upd_ne nst.symm, upd_ne nbt.symm] at nt
      exact nt
    walk_at "s"
    rw [put2 (by decide +kernel)]
    refine q _ b t ?_ nb nt0 ⟨⟨dx, upd_same⟩, (upd_ne nsb.symm).trans ((upd_ne nbt).trans ((upd_ne nsb.symm).trans upd_same)), (upd_ne nst.symm).trans upd_same, nbt⟩
    exact (((KpL.of (same_new nb)).set (List.mem_singleton.mpr rfl)).put nt).set (List.mem_singleton.mpr rfl)
def spCanTake (C : Addr) : Sp := fun vs H Q _ => ∃ (s b t : Addr) (bs : List (Option Int)) (tk : List Int) (p : Nat) (i : Int), vs = [.ref s, .int p] ∧ ShelfAt C H s b t bs tk ∧ bs[p]? = some (some i) ∧ Q (.bl true) H
theorem ok_Shelf_can_take {C f : Addr} {fd : FuncData} (B : Bn mg) (S : ShK K C) (D_is_integer : Df P w K mg base 1 "is_integer" [] spIsInteger) (F : Fun K "can_take" "Shelf.can_take" SShelf_can_take f fd) : FnG P w K mg base 2 f fd ["self", "place"] (spCanTake C) := by
  refine gok F scShelf_can_take (fun vs H Q E h => ?_) (fun cdv A fs s H vs Q E hG hr h => ?_)
  · obtain ⟨_, _, _, _, _, _, _, rfl, _⟩ := h; rfl
  · obtain ⟨s, b, t, bs, tk, p, i, rfl, ⟨⟨dx, hs⟩, hb, ht, nbt⟩, hp, q⟩ := h
    have hu := hr.units
    obtain ⟨cl, nb, nt⟩ := S
    refine ⟨_, (pss_one (ps_ret (pe_and (pe_df D_is_integer hG (hr.mono (by first | decide | omega)) passL (by rfl) (pa_cons (pv 1) (pa_cons pe_int (pa_cons (pe_op op_sub (pe_callB (k_len K) (by rfl) B.len Blen (pa_cons (k_fld K (pv 0)) pa_nil)) pe_int) pa_nil)))) (pe_one (pe_cmpR op_notN' (pe_ix (k_ixL K) (k_fld K (pv 0)) (pv 1) (fun _ _ => rfl)) pe_non (nomark _)))))), ?_⟩
    walk_at "s"
    have pl : p < bs.length := (List.getElem?_eq_some_iff.mp hp).1
    refine ⟨_, _, _, rfl, .inl ⟨_, rfl, ?_⟩⟩
    rw [vB_len, decide_eq_true (show (0 : Int) ≤ (p : Int) by omega), decide_eq_true (show (p : Int) ≤ (bs.length : Int) - 1 by omega), Bool.and_self]
    have e : atI (vB bs) (p : Int) = some (.int i) := atI_nat (vB_at hp)
    walk_at "s"
    exact q
def spCanReturn (C : Addr) : Sp := fun vs H Q _ => ∃ (s b t : Addr) (bs : List (Option Int)) (tk : List Int) (i : Int), vs = [.ref s, .int i] ∧ ShelfAt C H s b t bs tk ∧ 0 ≤ i ∧ i ∈ tk ∧ Q (.bl true) H
theorem ok_Shelf_can_return {C f : Addr} {fd : FuncData} (S : ShK K C) (D_is_integer_2 : Df P w K mg base 1 "is_integer" [.non] spIsInteger) (F : Fun K "can_return" "Shelf.can_return" SShelf_can_return f fd) : FnG P w K mg base 2 f fd ["self", "book"] (spCanReturn C) := by
  refine gok F scShelf_can_return (fun vs H Q E h => ?_) (fun cdv A fs s H vs Q E hG hr h => ?_)
  · obtain ⟨_, _, _, _, _, _, rfl, _⟩ := h; rfl
  · obtain ⟨s, b, t, bs, tk, i, rfl, ⟨⟨dx, hs⟩, hb, ht, nbt⟩, h0, hi, q⟩ := h
    have hu := hr.units
    obtain ⟨cl, nb, nt⟩ := S
    refine ⟨_, (pss_one (ps_ret (pe_and (pe_df D_is_integer_2 hG (hr.mono (by first | decide | omega)) passL (by rfl) (pa_cons (pv 1) (pa_cons pe_int pa_nil))) (pe_one (pe_cmpR (k_in K) (pv 1) (k_fld K (pv 0)) rfl))))), ?_⟩
    walk_at "s"
    refine ⟨_, _, _, rfl, .inr ⟨rfl, ?_⟩⟩
    rw [decide_eq_true h0]
    walk_at "s"
    refine r_in (.inl (lst_of ht)) rfl (flat_ints tk) ?_
    rw [inV_ints, decide_eq_true hi]
    exact q
def spTake (C : Addr) : Sp := fun vs H Q _ => ∃ (s b t : Addr) (bs : List (Option Int)) (tk : List Int) (p : Nat) (i : Int), vs = [.ref s, .int p] ∧ ShelfAt C H s b t bs tk ∧ bs[p]? = some (some i) ∧ tk.length ≤ 1000 ∧ ∀ H', KpL [b, t] H H' → ShelfAt C H' s b t (bs.set p none) (tk ++ [i]) → Q (.int i) H'
theorem ok_Shelf_take {C f : Addr} {fd : FuncData} {k : Nat} (B : Bn mg) (S : ShK K C) (F : Fun K "take" "Shelf.take" SShelf_take f fd) : FnG P w K mg base (k + 1) f fd ["self", "place"] (spTake C) := by
  refine gok F scShelf_take (fun vs H Q E h => ?_) (fun cdv A fs s H vs Q E hG hr h => ?_)
  · obtain ⟨_, _, _, _, _, _, _, rfl, _⟩ := h; rfl
  · obtain ⟨s, b, t, bs, tk, p, i, rfl, ⟨⟨dx, hs⟩, hb, ht, nbt⟩, hp, hl, q⟩ := h
    have hu := hr.units
    obtain ⟨cl, nb, nt⟩ := S
    refine ⟨_, (pss_cons (ps_set (i := 2) scShelf_take.nd rfl (Or.inl rfl) (pe_ix (k_ixL K) (k_fld K (pv 0)) (pv 1) (fun _ _ => rfl))) (pss_cons (ps_asg pe_non (pg_sub (k_fld K (pv 0)) (pv 1) set_list)) (pss_cons (ps_expr (k_bmP K (pe_bm PySem.F.plainAttrs_list PySem.F.slot_list_append PySem.F.type_list_append mt_append (k_fld K (pv 0)) (pa_cons (pv 2) pa_nil)))) (pss_one (ps_ret (pv 2)))))), ?_⟩
    have pl : p < bs.length := (List.getElem?_eq_some_iff.mp hp).1
    have e : atI (vB bs) (p : Int) = some (.int i) := atI_nat (vB_at hp)
    have e1 : ixN (vB bs).length (p : Int) = some p := by rw [vB_len, ixN_ok (by omega) (by omega), Int.toNat_natCast]
    have nsb : s ≠ b := fun z => by rw [z, hb] at hs; cases hs
    have nst : s ≠ t := fun z => by rw [z, ht] at hs; cases hs
    have tl : (vI tk).length ≤ 1000 := by rw [vI_len]; exact hl
    walk_at "s"
    refine q _ ((KpL.refl _ _).set (by simp) |>.set (by simp)) ⟨⟨dx, (upd_ne nst).trans ((upd_ne nsb).trans hs)⟩, ?_, ?_, nbt⟩
    · rw [upd_ne nbt, upd_same]
      exact congrArg (fun l => some (HO.lst l)) (vB_set bs p none)
    · rw [upd_same]
      exact congrArg (fun l => some (HO.lst l)) (vI_app tk [i])
def spPutBack (C : Addr) : Sp := fun vs H Q _ => ∃ (s b t : Addr) (bs : List (Option Int)) (tk : List Int) (p : Nat) (i : Int), vs = [.ref s, .int i] ∧ ShelfAt C H s b t bs tk ∧ bs[p]? = some none ∧ (∀ m : Nat, m < p → bs[m]? ≠ some none) ∧ i ∈ tk ∧ ∀ H', KpL [b, t] H H' → ShelfAt C H' s b t (bs.set p (some i)) (tk.erase i) → Q (.int p) H'
theorem ok_Shelf_put_back {C f : Addr} {fd : FuncData} {k : Nat} (B : Bn mg) (S : ShK K C) (F : Fun K "put_back" "Shelf.put_back" SShelf_put_back f fd) : FnG P w K mg base (k + 1) f fd ["self", "book"] (spPutBack C) := by
  refine gok F scShelf_put_back (fun vs H Q E h => ?_) (fun cdv A fs s H vs Q E hG hr h => ?_)
  · obtain ⟨_, _, _, _, _, _, _, rfl, _⟩ := h; rfl
  · obtain ⟨s, b, t, bs, tk, p, i, rfl, ⟨⟨dx, hs⟩, hb, ht, nbt⟩, hp, hm, hi, q⟩ := h
    have hu := hr.units
    obtain ⟨cl, nb, nt⟩ := S
    refine ⟨_, (pss_cons (ps_set (i := 2) scShelf_put_back.nd rfl (Or.inl rfl) (k_bmP K (pe_bm PySem.F.plainAttrs_list PySem.F.slot_list_index PySem.F.type_list_index (k_index K) (k_fld K (pv 0)) (pa_cons pe_non pa_nil)))) (pss_cons (ps_asg (pv 1) (pg_sub (k_fld K (pv 0)) (pv 2) set_list)) (pss_cons (ps_expr (k_bmP K (pe_bm PySem.F.plainAttrs_list PySem.F.slot_list_remove PySem.F.type_list_remove mt_remove (k_fld K (pv 0)) (pa_cons (pv 1) pa_nil)))) (pss_one (ps_ret (pv 2)))))), ?_⟩
    have pl : p < bs.length := (List.getElem?_eq_some_iff.mp hp).1
    have e1 : ixN (vB bs).length (p : Int) = some p := by rw [vB_len, ixN_ok (by omega) (by omega), Int.toNat_natCast]
    have nsb : s ≠ b := fun z => by rw [z, hb] at hs; cases hs
    have nst : s ≠ t := fun z => by rw [z, ht] at hs; cases hs
    walk_at "s"
    refine r_index (lst_of hb) rfl (vB_flat bs) (vB_at hp) rfl (fun m z' hm' hz => ?_) ?_
    · unfold vB at hz
      rw [List.getElem?_map] at hz
      cases hx : bs[m]? with
      | none => rw [hx] at hz; cases hz
      | some x =>
        rw [hx] at hz
        cases hz
        cases x with
        | none => exact absurd hx (hm m hm')
        | some j => rfl
    · have ht1 : upd H b (.lst ((vB bs).set p (.int i))) t = some (.lst (vI tk)) := (upd_ne nbt.symm).trans ht
      walk_at "s"
      refine r_remove ht1 hi ?_
      walk_at "s"
      refine q _ ((KpL.refl _ _).set (by simp) |>.set (by simp)) ⟨⟨dx, (upd_ne nst).trans ((upd_ne nsb).trans hs)⟩, ?_, upd_same, nbt⟩
      rw [upd_ne nbt, upd_same]
      exact congrArg (fun l => some (HO.lst l)) (vB_set bs p (some i))
end

end

abbrev Slaw_bag : Stmt := topS 44
abbrev Nlaw_bag : List Str := ["script", "total", "cell"]
theorem sclaw_bag : FnScope Nlaw_bag ["script"] (defScope Slaw_bag) := ⟨rfl, rfl, rfl, by decide +kernel, rfl, by decide +kernel, by decide +kernel⟩
abbrev Slaw_stir : Stmt := topS 45
abbrev Nlaw_stir : List Str := ["number", "place", "one", "two"]
theorem sclaw_stir : FnScope Nlaw_stir ["number", "place"] (defScope Slaw_stir) := ⟨rfl, rfl, rfl, by decide +kernel, rfl, by decide +kernel, by decide +kernel⟩
abbrev Slaw_draw : Stmt := topS 46
abbrev Nlaw_draw : List Str := ["bag", "bound", "cell", "found"]
theorem sclaw_draw : FnScope Nlaw_draw ["bag", "bound"] (defScope Slaw_draw) := ⟨rfl, rfl, rfl, by decide +kernel, rfl, by decide +kernel, by decide +kernel⟩
abbrev Slaw_shuffled : Stmt := topS 47
abbrev Nlaw_shuffled : List Str := ["bag", "items", "left", "step"]
theorem sclaw_shuffled : FnScope Nlaw_shuffled ["bag", "items"] (defScope Slaw_shuffled) := ⟨rfl, rfl, rfl, by decide +kernel, rfl, by decide +kernel, by decide +kernel⟩

/-- the bag at r, its cells at l, at most n draws made -/
def BagAt (H : Hp) (r l : Addr) (n : Nat) : Prop := ∃ (cs : List Int) (i : Nat) (x c t : Int), H r = some (.lst [.ref l, .int i, .int x, .int c, .int t]) ∧ H l = some (.lst (vI cs)) ∧ l ≠ r ∧ i ≤ cs.length ∧ cs.length ≤ 100000 ∧ 0 ≤ x ∧ 0 ≤ c ∧ c ≤ n ∧ 0 ≤ t ∧ t < 2305843009213693951
theorem BagAt.same {H H' : Hp} {r l : Addr} {n : Nat} (h : BagAt H r l n) (s : Same H H') : BagAt H' r l n := by
  obtain ⟨cs, i, x, c, t, h, h2, z⟩ := h
  exact ⟨cs, i, x, c, t, s _ _ h, s _ _ h2, z⟩
theorem BagAt.mono {H : Hp} {r l : Addr} {n m : Nat} (h : BagAt H r l n) (k : n ≤ m) : BagAt H r l m := by
  obtain ⟨cs, i, x, c, t, h, h2, h3, h4, h5, h6, h7, h8, h9⟩ := h
  exact ⟨cs, i, x, c, t, h, h2, h3, h4, h5, h6, h7, by omega, h9⟩
theorem BagAt.got {H : Hp} {r l : Addr} {n : Nat} (h : BagAt H r l n) : H r ≠ none ∧ H l ≠ none := by
  obtain ⟨cs, i, x, c, t, h, h2, z⟩ := h
  rw [h, h2]; simp
theorem BagAt.ne {H : Hp} {r l p : Addr} {n : Nat} (h : BagAt H r l n) (e : H p = none) : r ≠ p ∧ l ≠ p := ⟨fun z => h.got.1 (z ▸ e), fun z => h.got.2 (z ▸ e)⟩
theorem BagAt.upd {H : Hp} {r l p : Addr} {n : Nat} {o : HO} (h : BagAt H r l n) (e : r ≠ p ∧ l ≠ p) : BagAt (L2.upd H p o) r l n := by
  obtain ⟨cs, i, x, c, t, h, h2, z⟩ := h
  exact ⟨cs, i, x, c, t, (upd_ne e.1).trans h, (upd_ne e.2).trans h2, z⟩
theorem two200 {x : Int} (h : x ≤ 1000000) : x < 2 ^ 200 := Int.lt_of_le_of_lt h (by decide)
section
variable {P : Program} {w : World} {K : PySem.W.Frag} {mg : Str → Option Value} {base : Heap}
def spStir : Sp := fun vs H Q _ => ∃ a b : Int, vs = [.int a, .int b] ∧ 0 ≤ a ∧ a < 2305843009213693951 ∧ 0 ≤ b ∧ b < 1000000000000000000 ∧ ∀ v : Int, Q (.int v) H
theorem ok_law_stir {f : Addr} {fd : FuncData} {k : Nat} (F : Fun K "_law_stir" "_law_stir" Slaw_stir f fd) : FnG P w K mg base (k + 1) f fd ["number", "place"] spStir := by
  refine gok F sclaw_stir (fun vs H Q E h => ?_) (fun cdv A fs s H vs Q E hG hr h => ?_)
  · obtain ⟨_, _, rfl, _⟩ := h; rfl
  · obtain ⟨a, b, rfl, a0, a1, b0, b1, q⟩ := h
    have hu := hr.units
    refine ⟨_, (pss_cons (ps_set (i := 2) sclaw_stir.nd rfl (Or.inl rfl) (pe_op op_mod (pe_op op_add (pe_op op_add (pe_op op_mul (pv 0) pe_int) (pe_op op_mul (pv 1) pe_int)) pe_int) pe_int)) (pss_cons (ps_set (i := 3) sclaw_stir.nd rfl (Or.inl rfl) (pe_op op_mod (pe_op op_mul (pv 2) (pv 2)) pe_int)) (pss_one (ps_ret (pe_op op_fdivW (pe_op op_mod (pe_op op_add (pe_op op_add (pe_op op_mul (pv 3) pe_int) (pe_op op_mul (pe_op op_mul (pv 1) (pv 1)) pe_int)) (pe_op op_fdivW (pv 2) pe_int)) pe_int) pe_int))))), ?_⟩
    walk_at "s"
    exact q _
def spDraw : Sp := fun vs H Q _ => ∃ (r l : Addr) (b : Int) (n : Nat), vs = [.ref r, .int b] ∧ BagAt H r l n ∧ n < 100000000000 ∧ 0 < b ∧ b < 2 ^ 200 ∧ ∀ d H', 0 ≤ d → d < b → BagAt H' r l (n + 1) → Kp r H H' → Q (.int d) H'
theorem ok_law_draw {f : Addr} {fd : FuncData} (B : Bn mg) (D_law_stir : Df P w K mg base 1 "_law_stir" [] spStir) (F : Fun K "_law_draw" "_law_draw" Slaw_draw f fd) : FnG P w K mg base 2 f fd ["bag", "bound"] spDraw := by
  refine gok F sclaw_draw (fun vs H Q E h => ?_) (fun cdv A fs s H vs Q E hG hr h => ?_)
  · obtain ⟨_, _, _, _, rfl, _⟩ := h; rfl
  · obtain ⟨r, l, b, n, rfl, ⟨cs, i, x, c, t, hR, hL, nl, hi, hl, x0, c0, cn, t0, t1⟩, hn, b0, b1, q⟩ := h
    have hu := hr.units
    have md : ∀ y : Int, 0 ≤ y % b ∧ y % b < b := fun y => ⟨Int.emod_nonneg _ (by omega), Int.emod_lt_of_pos _ b0⟩
    have mM : ∀ y : Int, 0 ≤ y % 2305843009213693951 ∧ y % 2305843009213693951 < 2305843009213693951 := fun y => ⟨Int.emod_nonneg _ (by decide), Int.emod_lt_of_pos _ (by decide)⟩
    have hbc : ((n + 1 : Nat) : Int) = (n : Int) + 1 := rfl
    refine ⟨_, (pss_cons (ps_if (pt_cmpR op_eq (pv 1) pe_int (nomark _)) (pss_one (ps_ret pe_int)) pss_nil) (pss_cons (ps_asg (pe_op op_add (pe_ix (k_ixL K) (pv 0) pe_int (fun _ _ => rfl)) pe_int) (pg_sub (pv 0) pe_int set_list)) (pss_cons (ps_if (pw_and (pt_cmpR op_lt (pe_ix (k_ixL K) (pv 0) pe_int (fun _ _ => rfl)) pe_int (nomark _)) (pw_and1 (pt_cmpR op_eq (pe_ix (k_ixL K) (pv 0) pe_int (fun _ _ => rfl)) (pe_callB (k_len K) (by rfl) B.len Blen (pa_cons (pe_ix (k_ixL K) (pv 0) pe_int (fun _ _ => rfl)) pa_nil)) (nomark _)))).pt (pss_one (ps_ret (pe_op op_mod (pe_df D_law_stir hG (hr.mono (by first | decide | omega)) passL (by rfl) (pa_cons (pe_ix (k_ixL K) (pv 0) pe_int (fun _ _ => rfl)) (pa_cons (pe_ix (k_ixL K) (pv 0) pe_int (fun _ _ => rfl)) pa_nil))) (pv 1)))) pss_nil) (pss_cons (ps_if (pt_cmpR op_lt (pe_ix (k_ixL K) (pv 0) pe_int (fun _ _ => rfl)) pe_int (nomark _)) (pss_cons (ps_set (i := 2) sclaw_draw.nd rfl (Or.inl rfl) (pe_ix (k_ixL K) (pe_ix (k_ixL K) (pv 0) pe_int (fun _ _ => rfl)) (pe_ix (k_ixL K) (pv 0) pe_int (fun _ _ => rfl)) (fun _ _ => rfl))) (pss_cons (ps_asg (pe_op op_add (pe_ix (k_ixL K) (pv 0) pe_int (fun _ _ => rfl)) pe_int) (pg_sub (pv 0) pe_int set_list)) (pss_cons (ps_if (pt_cmpR op_lt (pv 2) (pe_op op_pow pe_int pe_int) (nomark _)) (pss_one (ps_ret (pe_op op_mod (pe_df D_law_stir hG (hr.mono (by first | decide | omega)) passL (by rfl) (pa_cons (pe_op op_mod (pv 2) pe_int) (pa_cons (pe_ix (k_ixL K) (pv 0) pe_int (fun _ _ => rfl)) pa_nil))) (pv 1)))) pss_nil) (pss_one (ps_asg (pe_op op_sub (pv 2) (pe_op op_pow pe_int pe_int)) (pg_sub (pv 0) pe_int set_list)))))) pss_nil) (pss_cons (ps_set (i := 3) sclaw_draw.nd rfl (Or.inl rfl) (pe_op op_mod (pe_ix (k_ixL K) (pv 0) pe_int (fun _ _ => rfl)) (pv 1))) (pss_cons (ps_asg (pe_op op_fdivW (pe_ix (k_ixL K) (pv 0) pe_int (fun _ _ => rfl)) (pv 1)) (pg_sub (pv 0) pe_int set_list)) (pss_one (ps_ret (pv 3))))))))), ?_⟩
    walk_at "s"
    refine ifD (fun h1 => ?_) (fun h1 => ?_)
    · walk_at "s"
      exact q 0 H (Int.le_refl _) b0 ⟨cs, i, x, c, t, hR, hL, nl, hi, hl, x0, c0, by omega, t0, t1⟩ (Kp.refl _ _)
    · walk_at "s"
      have hL1 : upd H r (.lst ([V.ref l, .int i, .int x, .int c, .int t].set 3 (.int (c + 1)))) l = some (.lst (vI cs)) := (upd_ne nl).trans hL
      refine ifD (fun h2 => ?_) (fun h2 => ?_)
      · walk_at "s"
        rw [vI_len]
        refine ifD (fun h3 => ?_) (fun h3 => ?_)
        · walk_at "s"
          refine ⟨t, c + 1, rfl, t0, t1, by omega, by omega, fun v => ?_⟩
          walk_at "s"
          exact q _ _ (md v).1 (md v).2 ⟨cs, i, x, c + 1, t, upd_same, hL1, nl, hi, hl, x0, by omega, by omega, t0, t1⟩ Kp.set
        · walk_at "s"
          refine ifDT h2 ?_
          have ei : atI (vI cs) (i : Int) = some (.int (cs[i]'(by omega))) := atI_nat (vI_at (by omega))
          walk_at "s"
          refine ifD (fun h4 => ?_) (fun h4 => ?_)
          · walk_at "s"
            refine ⟨_, c + 1, rfl, (mM _).1, (mM _).2, by omega, by omega, fun v => ?_⟩
            walk_at "s"
            exact q _ _ (md v).1 (md v).2 ⟨cs, i + 1, x, c + 1, t, upd_same, (upd_ne nl).trans hL1, nl, by omega, hl, x0, by omega, by omega, t0, t1⟩ (Kp.set.trans Kp.set)
          · have h4' : 0 ≤ cs[i]'(by omega) - 10 ^ Int.toNat 18 := by omega
            walk_at "s"
            exact q _ _ (md _).1 (md _).2 ⟨cs, i + 1, _, c + 1, t, upd_same, (upd_ne nl).trans ((upd_ne nl).trans ((upd_ne nl).trans hL1)), nl, by omega, hl, Int.ediv_nonneg h4' (by omega), by omega, by omega, t0, t1⟩ (((Kp.set.trans Kp.set).trans Kp.set).trans Kp.set)
      · walk_at "s"
        refine ifDF h2 ?_
        walk_at "s"
        exact q _ _ (md _).1 (md _).2 ⟨cs, i, _, c + 1, t, upd_same, (upd_ne nl).trans hL1, nl, by omega, hl, Int.ediv_nonneg x0 (by omega), by omega, by omega, t0, t1⟩ (Kp.set.trans Kp.set)
def spBag (K : PySem.W.Frag) : Sp := fun vs H Q _ => ∃ (a : Addr) (ns : List Int), vs = [.ref a] ∧ SqL K H a (ns.map V.int) ∧ ns.length ≤ 63 ∧ ∀ H' r l, Same H H' → H r = none → BagAt H' r l 0 → Q (.ref r) H'
theorem ok_law_bag {f : Addr} {fd : FuncData} {k : Nat} (B : Bn mg) (F : Fun K "_law_bag" "_law_bag" Slaw_bag f fd) : FnG P w K mg base (k + 1) f fd ["script"] (spBag K) := by
  refine gok F sclaw_bag (fun vs H Q E h => ?_) (fun cdv A fs s H vs Q E hG hr h => ?_)
  · obtain ⟨_, _, rfl, _⟩ := h; rfl
  · obtain ⟨a, ns, rfl, hA, hl, q⟩ := h
    have hu := hr.units
    have mM : ∀ y : Int, 0 ≤ y % 2305843009213693951 ∧ y % 2305843009213693951 < 2305843009213693951 := fun y => ⟨Int.emod_nonneg _ (by decide), Int.emod_lt_of_pos _ (by decide)⟩
    refine ⟨_, (pss_cons (ps_set (i := 1) sclaw_bag.nd rfl (Or.inl rfl) pe_int) (pss_cons (ps_for (passes_of rfl) rfl (k_piL K (pv 0)) (pg_name (i := 2) sclaw_bag.nd rfl (Or.inl rfl)) (pss_one (ps_set (i := 1) sclaw_bag.nd rfl (Or.inl rfl) (pe_op op_mod (pe_op op_add (pe_op op_add (pe_op op_mul (pv 1) pe_int) (pe_op op_mod (pv 2) pe_int)) pe_int) pe_int)))) (pss_one (ps_ret (pe_lst (pa_cons (pe_callTy (k_list K) (by rfl) B.list Tlist (pa_cons (pv 0) pa_nil)) (pa_cons pe_int (pa_cons pe_int (pa_cons pe_int (pa_cons (pv 1) pa_nil)))))))))), ?_⟩
    walk_at "s"
    refine ⟨a, rfl, ⟨_, hA⟩, ?_⟩
    refine for_src (src_list (xs := ns.map V.int)) (fun i σ H' => ∃ (t : Int) (v2 : Option V), σ = [some (.ref a), some (.int t), v2] ∧ H' = H ∧ 0 ≤ t ∧ t < 2305843009213693951) (fun i σ H' h => by obtain ⟨_, _, _, h, _⟩ := h; rw [h]; exact hA) ⟨1, none, rfl, rfl, by decide, by decide⟩ ?_ ?_
    · rintro i v σ H1 H1' hi ⟨t, v2, rfl, rfl, t0, t1⟩ ⟨rfl, hv⟩
      rw [List.length_map] at hi
      have e := vI_at hi
      have hv' := e.symm.trans hv
      cases hv'
      walk_at "s"
      exact ⟨_, _, rfl, rfl, (mM _).1, (mM _).2⟩
    · rintro σ H1 ⟨t, v2, rfl, rfl, t0, t1⟩
      walk_at "s"
      intro l nl
      walk_at "s"
      intro r nr
      have s1 := same_new (o := .lst (vI ns)) nl
      exact q _ r l (s1.trans (same_new nr)) (s1.free nr) ⟨ns, 0, 0, 0, t, upd_same, (same_new nr) _ _ upd_same, ne_new nr upd_same, Nat.zero_le _, by omega, by decide, by decide, by decide, t0, t1⟩
def spShuffled : Sp := fun vs H Q _ => ∃ (r l a : Addr) (n : Nat) (xs : List V), vs = [.ref r, .ref a] ∧ BagAt H r l n ∧ n + xs.length < 100000000000 ∧ Sq H a xs ∧ a ≠ r ∧ xs.length ≤ 100000 ∧ ∀ ys p H', ys.Perm xs → BagAt H' r l (n + xs.length) → Kp r H H' → H p = none → H' p = some (.lst ys) → Q (.ref p) H'
theorem erase_perm {α : Type} : ∀ (l : List α) (i : Nat) (h : i < l.length), ([l[i]] ++ l.eraseIdx i).Perm l
  | x :: l, 0, _ => .refl _
  | x :: l, i + 1, h => by
    have ih := erase_perm l i (Nat.lt_of_succ_lt_succ h)
    exact (List.Perm.swap x _ _).trans (ih.cons x)
theorem ok_law_shuffled {f : Addr} {fd : FuncData} (B : Bn mg) (D_law_draw : Df P w K mg base 2 "_law_draw" [] spDraw) (F : Fun K "_law_shuffled" "_law_shuffled" Slaw_shuffled f fd) : FnG P w K mg base 3 f fd ["bag", "items"] spShuffled := by
  refine gok F sclaw_shuffled (fun vs H Q E h => ?_) (fun cdv A fs s H vs Q E hG hr h => ?_)
  · obtain ⟨_, _, _, _, _, rfl, _⟩ := h; rfl
  · obtain ⟨r, l, a, n, xs, rfl, hS, hn, hA, nar, hl, q⟩ := h
    have hu := hr.units
    refine ⟨_, (pss_cons (ps_set (i := 2) sclaw_shuffled.nd rfl (Or.inr rfl) (pe_callTy (k_list K) (by rfl) B.list Tlist (pa_cons (pv 1) pa_nil))) (pss_one (ps_ret (pe_lc (own := [("step", 3)]) rfl sclaw_shuffled.nd (pi_range1 (by rfl) B.range (pa_cons (pe_callB (k_len K) (by rfl) B.len Blen (pa_cons (pv 1) pa_nil)) pa_nil)) (blkOk_by (own := [("step", 3)]) (N := Nlaw_shuffled) (sc := defScope Slaw_shuffled) (by decide +kernel)) (fun _ _ _ _ _ => (pg_name (i := 3) sclaw_shuffled.nd rfl (Or.inl rfl))) (fun _ _ _ _ _ => pts_nil) (fun _ _ _ _ _ => (k_bmP K (pe_bm PySem.F.plainAttrs_list PySem.F.slot_list_pop PySem.F.type_list_pop mt_popAt (pv 2) (pa_cons (pe_df D_law_draw hG (hr.mono (by first | decide | omega)) passL (by rfl) (pa_cons (pv 0) (pa_cons (pe_callB (k_len K) (by rfl) B.len Blen (pa_cons (pv 2) pa_nil)) pa_nil))) pa_nil)))))))), ?_⟩
    walk_at "s"
    intro left nl
    have s1 := same_new (o := .lst xs) nl
    have hA1 := s1.sq hA
    have hS1 := hS.same s1
    walk_at "s"
    refine ⟨_, rfl, by omega, by omega, fun Dl nD => ?_⟩
    rw [Int.toNat_natCast]
    have nr := hS.ne nl
    have nrD := hS1.ne nD
    have nlD : left ≠ Dl := ne_new nD upd_same
    refine lc_src src_range (fun i H' => ∃ acc lf, acc.length = i ∧ (acc ++ lf).Perm xs ∧ H' left = some (.lst lf) ∧ H' Dl = some (.lst acc) ∧ Kp r H H' ∧ BagAt H' r l (n + i)) (fun _ _ _ => trivial) ⟨[], xs, rfl, .refl _, (upd_ne nlD).trans upd_same, upd_same, Kp.of (s1.trans (same_new nD)), hS1.same (same_new nD)⟩ ?_ ?_
    · rintro i v H1 H1' hi ⟨acc, lf, ha, hp, hL, hD, hK, hS2⟩ ⟨rfl, rfl⟩
      have ll : acc.length + lf.length = xs.length := by rw [← List.length_append]; exact hp.length_eq
      walk_at "s"
      refine ⟨rfl, ?_⟩
      walk_at "s"
      refine ⟨r, l, _, n + i, rfl, hS2, by omega, by omega, by have : (lf.length : Int) ≤ 100000 := by omega
                                                               have e : (100000 : Int) < 2 ^ 200 := by decide
                                                               omega, fun d H3 d0 d1 hS3 hK3 => ?_⟩
      have hL3 := hK3.get nr.1.symm hL
      have hD3 := hK3.get nrD.1.symm hD
      have hx : lf[d.toNat]? = some (lf[d.toNat]'(by omega)) := List.getElem?_eq_getElem (by omega)
      walk_at "s"
      refine r_popAt hL3 d0 d1 (by omega) hx ?_
      walk_at "s"
      refine ⟨acc, (upd_ne nlD.symm).trans hD3, szl (by omega), ?_⟩
      refine ⟨acc ++ [lf[d.toNat]'(by omega)], lf.eraseIdx d.toNat, by rw [List.length_append, ha]; rfl, ?_, (upd_ne nlD).trans upd_same, upd_same, ((hK.trans hK3).put nl).put (s1.free nD), (hS3.upd nr).upd nrD⟩
      refine List.Perm.trans ?_ hp
      rw [List.append_assoc]
      refine List.Perm.append_left acc ?_
      exact erase_perm _ _ (by omega)
    · rintro H1 ⟨acc, lf, ha, hp, hL, hD, hK, hS2⟩
      have ll : acc.length + lf.length = xs.length := by rw [← List.length_append]; exact hp.length_eq
      have e : lf = [] := List.length_eq_zero_iff.mp (by omega)
      subst e
      rw [List.append_nil] at hp
      exact q acc Dl H1 hp hS2 hK (s1.free nD) hD
end

abbrev Slaw_pattern : Stmt := topS 48
abbrev Nlaw_pattern : List Str := ["bag", "count", "found", "left", "out", "share", "step"]
theorem sclaw_pattern : FnScope Nlaw_pattern ["bag", "count"] (defScope Slaw_pattern) := ⟨rfl, rfl, rfl, by decide +kernel, rfl, by decide +kernel, by decide +kernel⟩

section
variable {P : Program} {w : World} {K : PySem.W.Frag} {mg : Str → Option Value} {base : Heap}
def spPattern : Sp := fun vs H Q _ => ∃ (r l : Addr) (n c : Nat), vs = [.ref r, .int c] ∧ BagAt H r l n ∧ n < 10000000000 ∧ c ≤ 200 ∧ ∀ p H', IsPat p c → BagAt H' r l (n + 1000) → Kp r H H' → Q (.str (pS p)) H'
theorem ok_law_pattern {f : Addr} {fd : FuncData} (B : Bn mg) (D_law_draw : Df P w K mg base 2 "_law_draw" [] spDraw) (F : Fun K "_law_pattern" "_law_pattern" Slaw_pattern f fd) : FnG P w K mg base 3 f fd ["bag", "count"] spPattern := by
  refine gok F sclaw_pattern (fun vs H Q E h => ?_) (fun cdv A fs s H vs Q E hG hr h => ?_)
  · obtain ⟨_, _, _, _, rfl, _⟩ := h; rfl
  · obtain ⟨r, l, n, c, rfl, hS, hn, hc, q⟩ := h
    have hu := hr.units
    refine ⟨_, (pss_cons (ps_asg (pe_tup (pa_cons pe_str (pa_cons (pv 1) (pa_cons pe_int (pa_cons (pe_op op_add pe_int (pe_df D_law_draw hG (hr.mono (by first | decide | omega)) passL (by rfl) (pa_cons (pv 0) (pa_cons pe_int pa_nil)))) pa_nil))))) (k_gtup (n := 4) K rfl (pgs_cons (pg_name (i := 2) sclaw_pattern.nd rfl (Or.inl rfl)) (pgs_cons (pg_name (i := 3) sclaw_pattern.nd rfl (Or.inl rfl)) (pgs_cons (pg_name (i := 4) sclaw_pattern.nd rfl (Or.inl rfl)) (pgs_cons (pg_name (i := 5) sclaw_pattern.nd rfl (Or.inl rfl)) pgs_nil)))))) (pss_cons (ps_for (passes_of rfl) rfl (pi_range1 (by rfl) B.range (pa_cons (pe_op op_mul pe_int (pv 1)) pa_nil)) (pg_name (i := 6) sclaw_pattern.nd rfl (Or.inl rfl)) (pss_one (ps_if (pw_and (pt_cmpR op_gt (pv 3) pe_int (nomark _)) (pw_and1 (pw_or (pt_cmpR op_eq (pv 4) pe_int (nomark _)) (pw_or1 (pt_cmpR op_lt (pe_df D_law_draw hG (hr.mono (by first | decide | omega)) passL (by rfl) (pa_cons (pv 0) (pa_cons pe_int pa_nil))) (pv 5) (nomark _)))).pt)).pt (pss_one (ps_par3 (i := 2) (j := 3) (l := 4) rfl sclaw_pattern.nd rfl rfl rfl (by decide) (by decide) (by decide) rfl rfl rfl (pa_cons (pe_op op_addS (pv 2) pe_str) (pa_cons (pe_op op_sub (pv 3) pe_int) (pa_cons (pe_op op_add (pv 4) pe_int) pa_nil))) (by with_unfolding_all rfl))) (pss_one (ps_par (i := 2) (j := 4) rfl sclaw_pattern.nd rfl rfl (by decide) rfl rfl (pa_cons (pe_op op_addS (pv 2) pe_str) (pa_cons (pe_op op_sub (pv 4) pe_int) pa_nil)) (by with_unfolding_all rfl)))))) (pss_one (ps_ret (pv 2))))), ?_⟩
    walk_at "s"
    refine ⟨r, l, 5, n, rfl, hS, by omega, by decide, by decide, fun sh H1 d0 d1 hS1 hK1 => ?_⟩
    walk_at "s"
    intro t nt
    have nrt := hS1.ne nt
    walk_at "s"
    refine ⟨_, rfl, by omega, by omega, ?_⟩
    rw [show (2 * (c : Int)).toNat = 2 * c by omega]
    refine for_src src_range (fun i σ H' => ∃ p v6, σ = [some (.ref r), some (.int c), some (.str (pS p)), some (.int ((c : Int) - (tks p : Nat))), some (.int (dif p)), some (.int (1 + sh)), v6] ∧ Way p c i ∧ BagAt H' r l (n + 1 + i) ∧ Kp r H H')
      (fun _ _ _ _ => trivial) ⟨[], none, rfl, Way.nil c, hS1.upd nrt, hK1.put (hK1.free nt nrt.1.symm)⟩ ?_ ?_
    · rintro i v σ H2 H3 hi ⟨p, v6, rfl, hW, hS2, hK2⟩ ⟨rfl, rfl⟩
      have hl := hW.len
      have hpl : (pS p).length + 1 ≤ sizeLine := sz (by rw [pS_len]; omega)
      have e1 := dif_tks p
      have hf := hW.few
      have hz : 0 ≤ dif p := by have := hW.pos p.length; rwa [List.take_length] at this
      have eS : pS p ++ ("T" : Str) = pS (p ++ [true]) := pS_app p true
      have eR : pS p ++ ("R" : Str) = pS (p ++ [false]) := pS_app p false
      have kS : tks (p ++ [true]) = tks p + 1 := tks_app p true
      have kR : tks (p ++ [false]) = tks p := tks_app p false
      have eL : (c : Int) - (tks p : Nat) - 1 = (c : Int) - (tks (p ++ [true]) : Nat) := by rw [kS]; omega
      have eL2 : (c : Int) - (tks p : Nat) = (c : Int) - (tks (p ++ [false]) : Nat) := by rw [kR]
      have eD : dif p + 1 = dif (p ++ [true]) := (dif_app p true).symm
      have eD2 : dif p - 1 = dif (p ++ [false]) := (dif_app p false).symm
      walk_at "s"
      refine ifD (fun h1 => ?_) (fun h1 => ?_)
      · walk_at "s"
        refine ifD (fun h2 => ?_) (fun h2 => ?_)
        · walk_at "s"
          rw [eS, eL, eD]
          exact ⟨_, _, rfl, hW.add (by omega) (by omega), hS2.mono (by omega), hK2⟩
        · walk_at "s"
          refine ⟨r, l, 6, _, rfl, hS2, by omega, by decide, by decide, fun d H4 d0 d1 hS4 hK4 => ?_⟩
          walk_at "s"
          refine ifD (fun h3 => ?_) (fun h3 => ?_)
          · walk_at "s"
            rw [eS, eL, eD]
            exact ⟨_, _, rfl, hW.add (by omega) (by omega), hS4.mono (by omega), hK2.trans hK4⟩
          · walk_at "s"
            rw [eR, eL2, eD2]
            exact ⟨_, _, rfl, hW.add (by omega) (by omega), hS4.mono (by omega), hK2.trans hK4⟩
      · walk_at "s"
        rw [eR, eL2, eD2]
        exact ⟨_, _, rfl, hW.add (by omega) (by omega), hS2.mono (by omega), hK2⟩
    · rintro σ H2 ⟨p, v6, rfl, hW, hS2, hK2⟩
      walk_at "s"
      exact q p _ (hW.all hc) (hS2.mono (by omega)) hK2
end

section
local macro_rules | `(tactic| walk_at "s") => `(tactic| repeat (first | walk_at "s1" | walk_at "s2" | walk_at "fld"))
abbrev SShelf_can_perform : Stmt := inClass (topS 15) 5
abbrev NShelf_can_perform : List Str := ["self", "operation", "name", "number"]
theorem scShelf_can_perform : FnScope NShelf_can_perform ["self", "operation"] (defScope SShelf_can_perform) := ⟨rfl, rfl, rfl, by decide +kernel, rfl, by decide +kernel, by decide +kernel⟩
abbrev SShelf_perform : Stmt := inClass (topS 15) 6
abbrev NShelf_perform : List Str := ["self", "operation", "name", "number"]
theorem scShelf_perform : FnScope NShelf_perform ["self", "operation"] (defScope SShelf_perform) := ⟨rfl, rfl, rfl, by decide +kernel, rfl, by decide +kernel, by decide +kernel⟩
abbrev Sperformed : Stmt := topS 16
abbrev Nperformed : List Str := ["size", "schedule", "shelf", "filled", "most", "index", "operation", "place"]
theorem scperformed : FnScope Nperformed ["size", "schedule"] (defScope Sperformed) := ⟨rfl, rfl, rfl, by decide +kernel, rfl, by decide +kernel, by decide +kernel⟩

/-- an operation: take from a place, or return a book -/
structure Op where
  k : Bool
  x : Int
def opN : Bool → Str
  | true => "take"
  | false => "return"
def opV (o : Op) : List V := [.str (opN o.k), .int o.x]
def RowsIn (H : Hp) (p : Addr) (as : List Addr) (qs : List Op) : Prop := Sq H p (as.map V.ref) ∧ as.length = qs.length ∧ ∀ (i : Nat) (a : Addr) (q : Op), as[i]? = some a → qs[i]? = some q → Sq H a (opV q)
theorem RowsIn.same {H H' : Hp} {p : Addr} {as : List Addr} {qs : List Op} (h : RowsIn H p as qs) (s : Same H H') : RowsIn H' p as qs := ⟨s.sq h.1, h.2.1, fun i a q e1 e2 => s.sq (h.2.2 i a q e1 e2)⟩
/-- books at places and books out -/
abbrev Sh := List (Option Int) × List Int
def fg (bs : List (Option Int)) : Nat := bs.idxOf none
def OpOk (s : Sh) (o : Op) : Prop := if o.k = true then ∃ (p : Nat) (i : Int), o.x = p ∧ s.1[p]? = some (some i) else 0 ≤ o.x ∧ o.x ∈ s.2 ∧ none ∈ s.1
def stepO (s : Sh) (o : Op) : Sh := if o.k = true then (s.1.set o.x.toNat none, s.2 ++ [(s.1.getD o.x.toNat none).getD 0]) else (s.1.set (fg s.1) (some o.x), s.2.erase o.x)
theorem fg_at {bs : List (Option Int)} (h : none ∈ bs) : bs[fg bs]? = some none ∧ ∀ m : Nat, m < fg bs → bs[m]? ≠ some none := by
  unfold fg
  have hl := List.idxOf_lt_length_of_mem h
  refine ⟨by rw [List.getElem?_eq_getElem hl, List.getElem_idxOf], fun m hm z => ?_⟩
  have hm' : m < bs.length := Nat.lt_trans hm hl
  rw [List.getElem?_eq_getElem hm'] at z
  have := List.not_of_lt_findIdx (show m < bs.findIdx (· == none) from hm)
  rw [Option.some.inj z] at this
  simp at this
def allO (n : Nat) : List (Option Int) := (List.range n).map fun i => some ((i : Nat) : Int)
def stepP (s : Sh × List Int × Int) (o : Op) : Sh × List Int × Int :=
  (stepO s.1 o, (if o.k = true then s.2.1 else s.2.1 ++ [((fg s.1.1 : Nat) : Int)]), if (((stepO s.1 o).2.length : Nat) : Int) > s.2.2 then (((stepO s.1 o).2.length : Nat) : Int) else s.2.2)
def runP (n : Nat) (ops : List Op) : Sh × List Int × Int := ops.foldl stepP ((allO n, []), [], 0)
def VldO (n : Nat) (ops : List Op) : Prop := ∀ (i : Nat) (hi : i < ops.length), OpOk (runP n (ops.take i)).1 ops[i]
theorem runP_succ {n : Nat} {ops : List Op} {i : Nat} (hi : i < ops.length) : runP n (ops.take (i + 1)) = stepP (runP n (ops.take i)) ops[i] := by
  have e : ops.take (i + 1) = ops.take i ++ [ops[i]] := by rw [List.take_add_one, List.getElem?_eq_getElem hi]; rfl
  unfold runP
  rw [e, List.foldl_append]
  rfl
section
variable {P : Program} {w : World} {K : PySem.W.Frag} {mg : Str → Option Value} {base : Heap}
def spCanPerform (C : Addr) : Sp := fun vs H Q _ => ∃ (s b t a : Addr) (bs : List (Option Int)) (tk : List Int) (o : Op), vs = [.ref s, .ref a] ∧ ShelfAt C H s b t bs tk ∧ Sq H a (opV o) ∧ OpOk (bs, tk) o ∧ ∀ H', Same H H' → Q (.bl true) H'
theorem ok_Shelf_can_perform {C f : Addr} {fd : FuncData} (B : Bn mg) (c_TAKE : Gc mg "TAKE" (.str "take")) (c_RETURN : Gc mg "RETURN" (.str "return")) (S : ShK K C) (D_is_listed : Df P w K mg base 1 "is_listed" [] spIsListed) (M_Shelf_can_take : Mt P w K mg base 2 C "can_take" [] (spCanTake C)) (M_Shelf_can_return : Mt P w K mg base 2 C "can_return" [] (spCanReturn C)) (F : Fun K "can_perform" "Shelf.can_perform" SShelf_can_perform f fd) : FnG P w K mg base 3 f fd ["self", "operation"] (spCanPerform C) := by
  refine gok F scShelf_can_perform (fun vs H Q E h => ?_) (fun cdv A fs s H vs Q E hG hr h => ?_)
  · obtain ⟨_, _, _, _, _, _, _, rfl, _⟩ := h; rfl
  · obtain ⟨s, b, t, a, bs, tk, ⟨k, x⟩, rfl, hS, hA, ho, q⟩ := h
    have hu := hr.units
    obtain ⟨cl, nb, nt⟩ := S
    refine ⟨_, (pss_cons (ps_if (pw_or (pt_not (pt_val (pe_df D_is_listed hG (hr.mono (by first | decide | omega)) passL (by rfl) (pa_cons (pv 1) pa_nil)))) (pw_or1 (pt_cmpR op_ne (pe_callB (k_len K) (by rfl) B.len Blen (pa_cons (pv 1) pa_nil)) pe_int (nomark _)))).pt (pss_one (ps_ret pe_bl)) pss_nil) (pss_cons (ps_asg (pv 1) (pg_or (k_gtup (n := 2) K rfl (pgs_cons (pg_name (i := 2) scShelf_can_perform.nd rfl (Or.inl rfl)) (pgs_cons (pg_name (i := 3) scShelf_can_perform.nd rfl (Or.inl rfl)) pgs_nil))) (k_gunl (n := 2) K rfl (pgs_cons (pg_name (i := 2) scShelf_can_perform.nd rfl (Or.inl rfl)) (pgs_cons (pg_name (i := 3) scShelf_can_perform.nd rfl (Or.inl rfl)) pgs_nil))))) (pss_cons (ps_if (pt_not (pt_val (pe_callB (k_isi K) (by rfl) B.isinstance Bisinstance (pa_cons (pv 2) (pa_cons (pe_bltn (v := .ty "str") (by rfl) B.str Tstr rfl) pa_nil))))) (pss_one (ps_ret pe_bl)) pss_nil) (pss_one (ps_ret (pe_or (pe_and (pe_cmpR op_eq (pv 2) (pe_gc c_TAKE (by rfl)) (nomark _)) (pe_one (pe_mt M_Shelf_can_take hG (hr.mono (by first | decide | omega)) passL (pv 0) (pa_cons (pv 3) pa_nil)))) (pe_one (pe_and (pe_cmpR op_eq (pv 2) (pe_gc c_RETURN (by rfl)) (nomark _)) (pe_one (pe_mt M_Shelf_can_return hG (hr.mono (by first | decide | omega)) passL (pv 0) (pa_cons (pv 3) pa_nil))))))))))), ?_⟩
    walk_at "s"
    refine ⟨a, _, rfl, hA, fun H1 s1 => ?_⟩
    have hA1 := s1.sq hA
    have hS1 := hS.same s1
    have hsh := hS1
    obtain ⟨⟨dx, hs⟩, hb, ht, nbt⟩ := hsh
    walk_at "s"
    refine r_gOr1 hA1 rfl ?_
    rw [show opV ⟨k, x⟩ = [.str (opN k), .int x] from rfl]
    walk_at "s"
    cases k with
    | true =>
      obtain ⟨p, i, e, hp⟩ : ∃ (p : Nat) (i : Int), x = p ∧ bs[p]? = some (some i) := ho
      subst e
      refine ifDT rfl ?_
      walk_at "s"
      refine ⟨s, b, t, bs, tk, p, i, rfl, hS1, hp, ?_⟩
      walk_at "s"
      exact q _ s1
    | false =>
      obtain ⟨h0, hm, hn⟩ : 0 ≤ x ∧ x ∈ tk ∧ none ∈ bs := ho
      refine ifDF (by decide +kernel) ?_
      walk_at "s"
      refine ⟨s, b, t, bs, tk, x, rfl, hS1, h0, hm, ?_⟩
      exact q _ s1
def spPerform (C : Addr) : Sp := fun vs H Q _ => ∃ (s b t a : Addr) (bs : List (Option Int)) (tk : List Int) (o : Op), vs = [.ref s, .ref a] ∧ ShelfAt C H s b t bs tk ∧ Sq H a (opV o) ∧ OpOk (bs, tk) o ∧ tk.length ≤ 1000 ∧
  ∀ H' v, KpL [b, t] H H' → ShelfAt C H' s b t (stepO (bs, tk) o).1 (stepO (bs, tk) o).2 → (v = if o.k = true then .non else .int (fg bs : Nat)) → Q v H'
theorem ok_Shelf_perform {C f : Addr} {fd : FuncData} (B : Bn mg) (c_TAKE : Gc mg "TAKE" (.str "take")) (S : ShK K C) (M_Shelf_take : Mt P w K mg base 1 C "take" [] (spTake C)) (M_Shelf_put_back : Mt P w K mg base 1 C "put_back" [] (spPutBack C)) (F : Fun K "perform" "Shelf.perform" SShelf_perform f fd) : FnG P w K mg base 2 f fd ["self", "operation"] (spPerform C) := by
  refine gok F scShelf_perform (fun vs H Q E h => ?_) (fun cdv A fs s H vs Q E hG hr h => ?_)
  · obtain ⟨_, _, _, _, _, _, _, rfl, _⟩ := h; rfl
  · obtain ⟨s, b, t, a, bs, tk, ⟨k, x⟩, rfl, hS, hA, ho, hl, q⟩ := h
    have hu := hr.units
    obtain ⟨cl, nb, nt⟩ := S
    have hsh := hS
    obtain ⟨⟨dx, hs⟩, hb, ht, nbt⟩ := hsh
    refine ⟨_, (pss_cons (ps_asg (pv 1) (pg_or (k_gtup (n := 2) K rfl (pgs_cons (pg_name (i := 2) scShelf_perform.nd rfl (Or.inl rfl)) (pgs_cons (pg_name (i := 3) scShelf_perform.nd rfl (Or.inl rfl)) pgs_nil))) (k_gunl (n := 2) K rfl (pgs_cons (pg_name (i := 2) scShelf_perform.nd rfl (Or.inl rfl)) (pgs_cons (pg_name (i := 3) scShelf_perform.nd rfl (Or.inl rfl)) pgs_nil))))) (pss_cons (ps_if (pt_cmpR op_eq (pv 2) (pe_gc c_TAKE (by rfl)) (nomark _)) (pss_cons (ps_expr (pe_mt M_Shelf_take hG (hr.mono (by first | decide | omega)) passL (pv 0) (pa_cons (pv 3) pa_nil))) (pss_one (ps_ret pe_non))) pss_nil) (pss_one (ps_ret (pe_mt M_Shelf_put_back hG (hr.mono (by first | decide | omega)) passL (pv 0) (pa_cons (pv 3) pa_nil)))))), ?_⟩
    walk_at "s"
    refine r_gOr1 hA rfl ?_
    rw [show opV ⟨k, x⟩ = [.str (opN k), .int x] from rfl]
    walk_at "s"
    cases k with
    | true =>
      obtain ⟨p, i, e, hp⟩ : ∃ (p : Nat) (i : Int), x = p ∧ bs[p]? = some (some i) := ho
      subst e
      refine ifDT rfl ?_
      walk_at "s"
      refine ⟨s, b, t, bs, tk, p, i, rfl, hS, hp, hl, fun H1 hK1 hS1 => ?_⟩
      walk_at "s"
      refine q _ _ hK1 ?_ rfl
      have e1 : stepO (bs, tk) ⟨true, (p : Nat)⟩ = (bs.set p none, tk ++ [i]) := by
        show (bs.set p none, tk ++ [(bs.getD p none).getD 0]) = _
        rw [List.getD_eq_getElem?_getD, hp]
        rfl
      rw [e1]
      exact hS1
    | false =>
      obtain ⟨h0, hm, hn⟩ : 0 ≤ x ∧ x ∈ tk ∧ none ∈ bs := ho
      refine ifDF (by decide +kernel) ?_
      walk_at "s"
      obtain ⟨g1, g2⟩ := fg_at hn
      refine ⟨s, b, t, bs, tk, fg bs, x, rfl, hS, g1, g2, hm, fun H1 hK1 hS1 => ?_⟩
      exact q _ _ hK1 hS1 rfl
def spPerformed (C : Addr) : Sp := fun vs H Q _ => ∃ (n : Nat) (a : Addr) (as : List Addr) (ops : List Op), vs = [.int (n : Nat), .ref a] ∧ 1 ≤ n ∧ n ≤ 200 ∧ RowsIn H a as ops ∧ ops.length ≤ 400 ∧ VldO n ops ∧
  ∀ H' u s b t f, Same H H' → H u = none → H s = none → H b = none → H t = none → H f = none → H' u = some (.tup [.ref s, .ref f, .int (runP n ops).2.2]) → ShelfAt C H' s b t (runP n ops).1.1 (runP n ops).1.2 → H' f = some (.lst (vI (runP n ops).2.1)) → Q (.ref u) H'
theorem ok_performed {CS f : Addr} {fd : FuncData} (B : Bn mg) (c_MAX_OPERATIONS : Gc mg "MAX_OPERATIONS" (.int 400)) (S : ShK K CS) (D_check_size : Df P w K mg base 2 "check_size" [] spCheckSize) (D_is_listed : Df P w K mg base 1 "is_listed" [] spIsListed) (N_Shelf : Cn P w K mg base 1 "Shelf" CS [] (spShInit CS)) (M_Shelf_can_perform : Mt P w K mg base 3 CS "can_perform" [] (spCanPerform CS)) (M_Shelf_perform : Mt P w K mg base 2 CS "perform" [] (spPerform CS)) (F : Fun K "performed" "performed" Sperformed f fd) : FnG P w K mg base 4 f fd ["size", "schedule"] (spPerformed CS) := by
  refine gok F scperformed (fun vs H Q E h => ?_) (fun cdv A fs s H vs Q E hG hr h => ?_)
  · obtain ⟨_, _, _, _, rfl, _⟩ := h; rfl
  · obtain ⟨n, a, as, ops, rfl, n1, n2, hA, ol, hv, q⟩ := h
    have hu := hr.units
    obtain ⟨cl, nb, nt⟩ := S
    refine ⟨_, (pss_cons (ps_expr (pe_df D_check_size hG (hr.mono (by first | decide | omega)) passL (by rfl) (pa_cons (pv 0) pa_nil))) (pss_cons (ps_if (pw_or (pt_not (pt_val (pe_df D_is_listed hG (hr.mono (by first | decide | omega)) passL (by rfl) (pa_cons (pv 1) pa_nil)))) (pw_or1 (pt_cmpR op_gt (pe_callB (k_len K) (by rfl) B.len Blen (pa_cons (pv 1) pa_nil)) (pe_gc c_MAX_OPERATIONS (by rfl)) (nomark _)))).pt (pss_one ps_never) pss_nil) (pss_cons (ps_set (i := 2) scperformed.nd rfl (Or.inl rfl) (pe_cn N_Shelf hG (hr.mono (by first | decide | omega)) passL (by rfl) (pa_cons (pv 0) pa_nil))) (pss_cons (ps_par (i := 3) (j := 4) rfl scperformed.nd rfl rfl (by decide) rfl rfl (pa_cons (pe_lst pa_nil) (pa_cons pe_int pa_nil)) (by with_unfolding_all rfl)) (pss_cons (ps_for (passes_of rfl) rfl (pi_or (k_enum K (by rfl) B.enumerate (pa_cons (pv 1) pa_nil)) (k_enumT K (by rfl) B.enumerate (pa_cons (pv 1) pa_nil))) (k_gtup (n := 2) K rfl (pgs_cons (pg_name (i := 5) scperformed.nd rfl (Or.inl rfl)) (pgs_cons (pg_name (i := 6) scperformed.nd rfl (Or.inl rfl)) pgs_nil))) (pss_cons (ps_if (pt_not (pt_val (pe_mt M_Shelf_can_perform hG (hr.mono (by first | decide | omega)) passL (pv 2) (pa_cons (pv 6) pa_nil)))) (pss_one ps_never) pss_nil) (pss_cons (ps_set (i := 7) scperformed.nd rfl (Or.inl rfl) (pe_mt M_Shelf_perform hG (hr.mono (by first | decide | omega)) passL (pv 2) (pa_cons (pv 6) pa_nil))) (pss_cons (ps_if (pt_cmpR op_notN' (pv 7) pe_non (nomark _)) (pss_one (ps_expr (k_bmP K (pe_bm PySem.F.plainAttrs_list PySem.F.slot_list_append PySem.F.type_list_append mt_append (pv 3) (pa_cons (pv 7) pa_nil))))) pss_nil) (pss_one (ps_set (i := 4) scperformed.nd rfl (Or.inl rfl) (pe_callB (call_max2' rfl) (by rfl) B.max Bmax (pa_cons (pv 4) (pa_cons (pe_callB (k_len K) (by rfl) B.len Blen (pa_cons (k_fld K (pv 2)) pa_nil)) pa_nil))))))))) (pss_one (ps_ret (pe_tup (pa_cons (pv 2) (pa_cons (pv 3) (pa_cons (pv 4) pa_nil))))))))))), ?_⟩
    walk_at "s"
    refine ⟨n, rfl, by omega, by omega, ?_⟩
    walk_at "s"
    refine ⟨a, _, rfl, hA.1, fun H1 s1 => ?_⟩
    have hA1 := s1.sq hA.1
    walk_at "s"
    rw [List.length_map, hA.2.1]
    refine ifDF (by omega) ?_
    walk_at "s"
    intro s dx m1 m2 ndx
    refine ⟨s, dx, n, rfl, upd_same, n2, fun H2 b t hK nb' nt' hS => ⟨rfl, ?_⟩⟩
    have hs0 : H1 s = none := m1
    have hd0 : H1 dx = none := m2
    have k12 : Same H1 H2 := fun x o hx => by
      have e1 : x ≠ s := fun z => by rw [z, hs0] at hx; cases hx
      have e2 : x ≠ dx := fun z => by rw [z, hd0] at hx; cases hx
      exact hK _ _ (by simpa using e1) ((upd_ne e1).trans ((upd_ne e2).trans hx))
    have off : ∀ x, upd (upd H1 dx (.own s)) s (.ins CS dx []) x = none → H1 x = none := fun x hx => by
      have e1 : x ≠ s := fun z => by rw [z, upd_same] at hx; cases hx
      rw [upd_ne e1] at hx
      have e2 : x ≠ dx := fun z => by rw [z, upd_same] at hx; cases hx
      rw [upd_ne e2] at hx
      exact hx
    have hb0 := off b nb'
    have ht0 := off t nt'
    walk_at "s"
    intro f nf
    have sf := same_new (o := .lst []) nf
    have sHf := (s1.trans k12).trans sf
    have hf0 : H f = none := (s1.trans k12).free nf
    have hbf : b ≠ f := fun z => by have := hS.hb; rw [z, nf] at this; cases this
    have htf : t ≠ f := fun z => by have := hS.ht; rw [z, nf] at this; cases this
    have hb0 : H b = none := s1.free hb0
    have ht0 : H t = none := s1.free ht0
    have hs00 : H s = none := s1.free hs0
    have hSf := hS.same sf
    have hff : upd H2 f (.lst []) f = some (.lst (vI [])) := upd_same
    generalize upd H2 f (.lst []) = H3 at *
    have hA3 := sHf.sq hA.1
    walk_at "s"
    obtain ⟨oA, hAo⟩ := hA.1.there
    refine r_enumSq rfl hA3 fun J OK ok S => ?_
    refine for_src S (fun i σ H' => ∃ v5 v6 v7, σ = [some (.int (n : Nat)), some (.ref a), some (.ref s), some (.ref f), some (.int (runP n (ops.take i)).2.2), v5, v6, v7] ∧ Same H H' ∧ ShelfAt CS H' s b t (runP n (ops.take i)).1.1 (runP n (ops.take i)).1.2 ∧ H' f = some (.lst (vI (runP n (ops.take i)).2.1)) ∧ (runP n (ops.take i)).1.2.length ≤ i ∧ (runP n (ops.take i)).2.1.length ≤ i) (fun i σ H' h => by
      obtain ⟨_, _, _, _, k, _⟩ := h
      exact ok _ ((k _ _ hAo).trans (sHf _ _ hAo).symm)) ⟨none, none, none, rfl, sHf, hSf, hff, Nat.zero_le _, Nat.zero_le _⟩ ?_ ?_
    · rintro i v σ H4 H5 hi ⟨v5, v6, v7, rfl, s4, hS4, hf4, l1, l2⟩ ⟨T, x, rfl, nT, rfl, hx⟩
      rw [List.length_map, hA.2.1] at hi
      have hia : i < as.length := by rw [hA.2.1]; exact hi
      rw [List.getElem?_map, List.getElem?_eq_getElem hia] at hx
      cases hx
      have hrow := hA.2.2 i _ _ (List.getElem?_eq_getElem hia) (List.getElem?_eq_getElem hi)
      have hok := hv i hi
      have sT := same_new (o := .tup [.int (i : Nat), .ref as[i]]) nT
      have hT : upd H4 T (.tup [.int (i : Nat), .ref as[i]]) T = some (.tup [.int (i : Nat), .ref as[i]]) := upd_same
      have s5 := s4.trans sT
      have hS5 := hS4.same sT
      have hf5 := sT _ _ hf4
      have hrow5 := s5.sq hrow
      rw [runP_succ hi]
      generalize runP n (ops.take i) = R at *
      obtain ⟨⟨bs, tk⟩, fl, mo⟩ := R
      generalize ops[i] = o at *
      generalize as[i] = y at *
      generalize upd H4 T (.tup [.int (i : Nat), .ref y]) = H5 at *
      have l1 : tk.length ≤ i := l1
      have l2 : fl.length ≤ i := l2
      obtain ⟨ds5, hs5⟩ := hS5.ob
      walk_at "s"
      refine ⟨s, b, t, y, bs, tk, o, rfl, hS5, hrow5, hok, fun H6 s6 => ?_⟩
      have s46 := s5.trans s6
      have hS6 := hS5.same s6
      have hf6 := s6 _ _ hf5
      obtain ⟨ds6, hs6⟩ := hS6.ob
      walk_at "s"
      refine ⟨s, b, t, y, bs, tk, o, rfl, hS6, s46.sq hrow, hok, by omega, fun H7 v7' hK7 hS7 ev => ?_⟩
      have s7 : Same H H7 := fun x o hx => hK7 _ _ (by simp; exact ⟨fun z => (by rw [z, hb0] at hx; cases hx), fun z => (by rw [z, ht0] at hx; cases hx)⟩) (s46 _ _ hx)
      have hf7 := hK7 _ _ (by simp; exact ⟨hbf.symm, htf.symm⟩) hf6
      obtain ⟨ds7, hs7⟩ := hS7.ob
      have ht7 := hS7.ht
      have lt : (stepO (bs, tk) o).2.length ≤ i + 1 := by
        unfold stepO
        split
        · show (tk ++ [_]).length ≤ i + 1
          rw [List.length_append]; simp; omega
        · show (tk.erase _).length ≤ i + 1
          have := List.length_erase_le (a := o.x) (l := tk)
          omega
      have nsf : s ≠ f := fun z => by rw [z, hf7] at hs7; cases hs7
      have e2 : stepP ((bs, tk), fl, mo) o = (stepO (bs, tk) o, (if o.k = true then fl else fl ++ [((fg bs : Nat) : Int)]), if (((stepO (bs, tk) o).2.length : Nat) : Int) > mo then (((stepO (bs, tk) o).2.length : Nat) : Int) else mo) := rfl
      rw [e2]
      generalize stepO (bs, tk) o = R2 at *
      obtain ⟨bs2, tk2⟩ := R2
      cases hk : o.k with
      | true =>
        rw [hk, if_pos rfl] at ev
        subst ev
        rw [if_pos rfl]
        walk_at "s"
        rw [vI_len]
        exact ⟨_, _, _, rfl, s7, hS7, hf7, lt, Nat.le_succ_of_le l2⟩
      | false =>
        rw [hk, if_neg Bool.false_ne_true] at ev
        subst ev
        rw [if_neg Bool.false_ne_true]
        have hf8 : (vI fl).length ≤ 1000 := by rw [vI_len]; omega
        walk_at "s"
        rw [vI_len]
        obtain ⟨⟨dx7, g1⟩, g2, g3, g4⟩ := hS7
        refine ⟨_, _, _, rfl, same_set s7 hf0, ⟨⟨dx7, (upd_ne nsf).trans g1⟩, (upd_ne hbf).trans g2, (upd_ne htf).trans g3, g4⟩, ?_, lt, ?_⟩
        · rw [upd_same]
          exact congrArg (fun l => some (HO.lst l)) (vI_app fl [_])
        · rw [List.length_append, List.length_singleton]; omega
    · rintro σ H4 ⟨v5, v6, v7, rfl, s4, hS4, hf4, l1, l2⟩
      rw [List.length_map, hA.2.1, List.take_length] at hS4 hf4
      rw [List.length_map, hA.2.1, List.take_length]
      walk_at "s"
      intro u nu
      have su := same_new (o := .tup [.ref s, .ref f, .int (runP n ops).2.2]) nu
      exact q _ u s b t f (s4.trans su) (s4.free nu) hs00 hb0 ht0 hf0 upd_same (hS4.same su) (su _ _ hf4)
end

end

section
local macro_rules | `(tactic| walk_at "s") => `(tactic| repeat (first | walk_at "s1" | walk_at "s2" | walk_at "fld"))
abbrev Sis_schedule : Stmt := topS 17
abbrev Nis_schedule : List Str := ["size", "value"]
theorem scis_schedule : FnScope Nis_schedule ["size", "value"] (defScope Sis_schedule) := ⟨rfl, rfl, rfl, by decide +kernel, rfl, by decide +kernel, by decide +kernel⟩
abbrev Sbooks_after : Stmt := topS 18
abbrev Nbooks_after : List Str := ["size", "schedule"]
theorem scbooks_after : FnScope Nbooks_after ["size", "schedule"] (defScope Sbooks_after) := ⟨rfl, rfl, rfl, by decide +kernel, rfl, by decide +kernel, by decide +kernel⟩
abbrev Sbooks_out : Stmt := topS 19
abbrev Nbooks_out : List Str := ["size", "schedule"]
theorem scbooks_out : FnScope Nbooks_out ["size", "schedule"] (defScope Sbooks_out) := ⟨rfl, rfl, rfl, by decide +kernel, rfl, by decide +kernel, by decide +kernel⟩
abbrev Splaces_filled : Stmt := topS 20
abbrev Nplaces_filled : List Str := ["size", "schedule"]
theorem scplaces_filled : FnScope Nplaces_filled ["size", "schedule"] (defScope Splaces_filled) := ⟨rfl, rfl, rfl, by decide +kernel, rfl, by decide +kernel, by decide +kernel⟩
abbrev Smost_out : Stmt := topS 21
abbrev Nmost_out : List Str := ["size", "schedule"]
theorem scmost_out : FnScope Nmost_out ["size", "schedule"] (defScope Smost_out) := ⟨rfl, rfl, rfl, by decide +kernel, rfl, by decide +kernel, by decide +kernel⟩

section
variable {P : Program} {w : World} {K : PySem.W.Frag} {mg : Str → Option Value} {base : Heap}
def spIsSched : Sp := fun vs H Q _ => ∃ (n : Nat) (a : Addr) (as : List Addr) (ops : List Op), vs = [.int (n : Nat), .ref a] ∧ 1 ≤ n ∧ n ≤ 200 ∧ RowsIn H a as ops ∧ ops.length ≤ 400 ∧ VldO n ops ∧ ∀ H', Same H H' → Q (.bl true) H'
theorem ok_is_schedule {CS f : Addr} {fd : FuncData} (D_performed : Df P w K mg base 4 "performed" [] (spPerformed CS)) (F : Fun K "is_schedule" "is_schedule" Sis_schedule f fd) : FnG P w K mg base 5 f fd ["size", "value"] spIsSched := by
  refine gok F scis_schedule (fun vs H Q E h => ?_) (fun cdv A fs s H vs Q E hG hr h => ?_)
  · obtain ⟨_, _, _, _, rfl, _⟩ := h; rfl
  · obtain ⟨n, a, as, ops, rfl, n1, n2, hA, ol, hv, q⟩ := h
    have hu := hr.units
    refine ⟨_, (pss_cons (ps_try_thru0 (pss_one (ps_expr (pe_df D_performed hG (hr.mono (by first | decide | omega)) passL (by rfl) (pa_cons (pv 0) (pa_cons (pv 1) pa_nil)))))) (pss_one (ps_ret pe_bl))), ?_⟩
    walk_at "s"
    refine ⟨n, a, as, ops, rfl, n1, n2, hA, ol, hv, fun H1 u s b t f s1 nu ns nb' nt nf hu hS hf => ?_⟩
    walk_at "s"
    exact q _ s1
def spBooksAfter : Sp := fun vs H Q _ => ∃ (n : Nat) (a : Addr) (as : List Addr) (ops : List Op), vs = [.int (n : Nat), .ref a] ∧ 1 ≤ n ∧ n ≤ 200 ∧ RowsIn H a as ops ∧ ops.length ≤ 400 ∧ VldO n ops ∧ ∀ H' b, Same H H' → H b = none → H' b = some (.lst (vB (runP n ops).1.1)) → Q (.ref b) H'
theorem ok_books_after {CS f : Addr} {fd : FuncData} (S : ShK K CS) (D_performed : Df P w K mg base 4 "performed" [] (spPerformed CS)) (F : Fun K "books_after" "books_after" Sbooks_after f fd) : FnG P w K mg base 5 f fd ["size", "schedule"] spBooksAfter := by
  refine gok F scbooks_after (fun vs H Q E h => ?_) (fun cdv A fs s H vs Q E hG hr h => ?_)
  · obtain ⟨_, _, _, _, rfl, _⟩ := h; rfl
  · obtain ⟨n, a, as, ops, rfl, n1, n2, hA, ol, hv, q⟩ := h
    have hu := hr.units
    obtain ⟨cl, nb, nt⟩ := S
    refine ⟨_, (pss_one (ps_ret (k_fld K (pe_ix (k_ixT K) (pe_df D_performed hG (hr.mono (by first | decide | omega)) passL (by rfl) (pa_cons (pv 0) (pa_cons (pv 1) pa_nil))) pe_int (fun _ _ => rfl))))), ?_⟩
    walk_at "s"
    refine ⟨n, a, as, ops, rfl, n1, n2, hA, ol, hv, fun H1 u s b t f s1 nu ns nb' nt' nf hu' hS hf => ?_⟩
    obtain ⟨⟨dx, g1⟩, g2, g3, g4⟩ := hS
    walk_at "s"
    exact q _ b s1 nb' g2
def spBooksOut : Sp := fun vs H Q _ => ∃ (n : Nat) (a : Addr) (as : List Addr) (ops : List Op), vs = [.int (n : Nat), .ref a] ∧ 1 ≤ n ∧ n ≤ 200 ∧ RowsIn H a as ops ∧ ops.length ≤ 400 ∧ VldO n ops ∧ ∀ H' p l, Same H H' → H p = none → l.Perm (runP n ops).1.2 → l.Pairwise (· ≤ ·) → H' p = some (.lst (vI l)) → Q (.ref p) H'
theorem ok_books_out {CS f : Addr} {fd : FuncData} (B : Bn mg) (S : ShK K CS) (D_performed : Df P w K mg base 4 "performed" [] (spPerformed CS)) (F : Fun K "books_out" "books_out" Sbooks_out f fd) : FnG P w K mg base 5 f fd ["size", "schedule"] spBooksOut := by
  refine gok F scbooks_out (fun vs H Q E h => ?_) (fun cdv A fs s H vs Q E hG hr h => ?_)
  · obtain ⟨_, _, _, _, rfl, _⟩ := h; rfl
  · obtain ⟨n, a, as, ops, rfl, n1, n2, hA, ol, hv, q⟩ := h
    have hu := hr.units
    obtain ⟨cl, nb, nt⟩ := S
    refine ⟨_, (pss_one (ps_ret (pe_callB (k_sorted K) (by rfl) B.sorted Bsorted (pa_cons (k_fld K (pe_ix (k_ixT K) (pe_df D_performed hG (hr.mono (by first | decide | omega)) passL (by rfl) (pa_cons (pv 0) (pa_cons (pv 1) pa_nil))) pe_int (fun _ _ => rfl))) pa_nil)))), ?_⟩
    walk_at "s"
    refine ⟨n, a, as, ops, rfl, n1, n2, hA, ol, hv, fun H1 u s b t f s1 nu ns nb' nt' nf hu' hS hf => ?_⟩
    obtain ⟨⟨dx, g1⟩, g2, g3, g4⟩ := hS
    walk_at "s"
    refine r_sortI (lst_of g3) fun l p hp hs np => ?_
    exact q _ p l (s1.trans (same_new np)) (s1.free np) hp hs upd_same
def spFilledP : Sp := fun vs H Q _ => ∃ (n : Nat) (a : Addr) (as : List Addr) (ops : List Op), vs = [.int (n : Nat), .ref a] ∧ 1 ≤ n ∧ n ≤ 200 ∧ RowsIn H a as ops ∧ ops.length ≤ 400 ∧ VldO n ops ∧ ∀ H' b, Same H H' → H b = none → H' b = some (.lst (vI (runP n ops).2.1)) → Q (.ref b) H'
theorem ok_places_filled {CS f : Addr} {fd : FuncData} (D_performed : Df P w K mg base 4 "performed" [] (spPerformed CS)) (F : Fun K "places_filled" "places_filled" Splaces_filled f fd) : FnG P w K mg base 5 f fd ["size", "schedule"] spFilledP := by
  refine gok F scplaces_filled (fun vs H Q E h => ?_) (fun cdv A fs s H vs Q E hG hr h => ?_)
  · obtain ⟨_, _, _, _, rfl, _⟩ := h; rfl
  · obtain ⟨n, a, as, ops, rfl, n1, n2, hA, ol, hv, q⟩ := h
    have hu := hr.units
    refine ⟨_, (pss_one (ps_ret (pe_ix (k_ixT K) (pe_df D_performed hG (hr.mono (by first | decide | omega)) passL (by rfl) (pa_cons (pv 0) (pa_cons (pv 1) pa_nil))) pe_int (fun _ _ => rfl)))), ?_⟩
    walk_at "s"
    refine ⟨n, a, as, ops, rfl, n1, n2, hA, ol, hv, fun H1 u s b t f s1 nu ns nb' nt' nf hu' hS hf => ?_⟩
    walk_at "s"
    exact q _ f s1 nf hf
def spMostOut : Sp := fun vs H Q _ => ∃ (n : Nat) (a : Addr) (as : List Addr) (ops : List Op), vs = [.int (n : Nat), .ref a] ∧ 1 ≤ n ∧ n ≤ 200 ∧ RowsIn H a as ops ∧ ops.length ≤ 400 ∧ VldO n ops ∧ ∀ H', Same H H' → Q (.int (runP n ops).2.2) H'
theorem ok_most_out {CS f : Addr} {fd : FuncData} (D_performed : Df P w K mg base 4 "performed" [] (spPerformed CS)) (F : Fun K "most_out" "most_out" Smost_out f fd) : FnG P w K mg base 5 f fd ["size", "schedule"] spMostOut := by
  refine gok F scmost_out (fun vs H Q E h => ?_) (fun cdv A fs s H vs Q E hG hr h => ?_)
  · obtain ⟨_, _, _, _, rfl, _⟩ := h; rfl
  · obtain ⟨n, a, as, ops, rfl, n1, n2, hA, ol, hv, q⟩ := h
    have hu := hr.units
    refine ⟨_, (pss_one (ps_ret (pe_ix (k_ixT K) (pe_df D_performed hG (hr.mono (by first | decide | omega)) passL (by rfl) (pa_cons (pv 0) (pa_cons (pv 1) pa_nil))) pe_int (fun _ _ => rfl)))), ?_⟩
    walk_at "s"
    refine ⟨n, a, as, ops, rfl, n1, n2, hA, ol, hv, fun H1 u s b t f s1 nu ns nb' nt' nf hu' hS hf => ?_⟩
    walk_at "s"
    exact q _ s1
end

end

/-! ### a shelf while operations are done (no program here) -/
def inb (bs : List (Option Int)) : List Int := bs.filterMap id
def itg (n : Nat) : List Int := (List.range n).map fun i => ((i : Nat) : Int)
structure Iv (n : Nat) (s : Sh) : Prop where
  len : s.1.length = n
  all : (inb s.1 ++ s.2).Perm (itg n)
theorem itg_len (n : Nat) : (itg n).length = n := by unfold itg; rw [List.length_map, List.length_range]
theorem itg_nd (n : Nat) : (itg n).Nodup := by
  unfold itg
  refine List.Pairwise.map _ (fun a b (h : a ≠ b) (z : ((a : Nat) : Int) = ((b : Nat) : Int)) => h (by omega)) ?_
  exact List.nodup_range
theorem mem_itg {n : Nat} {x : Int} : x ∈ itg n ↔ 0 ≤ x ∧ x < n := by
  unfold itg
  constructor
  · intro h
    obtain ⟨i, hi, rfl⟩ := List.mem_map.mp h
    have := List.mem_range.mp hi
    omega
  · rintro ⟨a, b⟩
    exact List.mem_map.mpr ⟨x.toNat, List.mem_range.mpr (by omega), by omega⟩
theorem inb_cnt : ∀ bs : List (Option Int), (inb bs).length + bs.count none = bs.length
  | [] => rfl
  | none :: bs => by
    have := inb_cnt bs
    show (inb bs).length + (none :: bs).count none = bs.length + 1
    rw [List.count_cons_self]; omega
  | some x :: bs => by
    have := inb_cnt bs
    show (inb bs).length + 1 + (some x :: bs).count none = bs.length + 1
    rw [List.count_cons_of_ne (by simp)]; omega
theorem Iv.nd {n : Nat} {s : Sh} (h : Iv n s) : s.2.Nodup := ((h.all.nodup_iff.mpr (itg_nd n)).sublist (List.sublist_append_right _ _))
theorem Iv.cnt {n : Nat} {s : Sh} (h : Iv n s) : s.1.count none = s.2.length := by
  have a := inb_cnt s.1
  have b := h.all.length_eq
  rw [List.length_append, itg_len] at b
  have := h.len
  omega
theorem Iv.gap {n : Nat} {s : Sh} (h : Iv n s) (ne : s.2 ≠ []) : none ∈ s.1 := by
  refine List.count_pos_iff.mp ?_
  rw [h.cnt]
  exact List.length_pos_iff.mpr ne
theorem inb_all : ∀ (n : Nat), inb (allO n) = itg n := by
  intro n
  unfold inb allO itg
  rw [List.filterMap_map]
  induction (List.range n) with
  | nil => rfl
  | cons a l ih => rw [List.filterMap_cons]; simp only [Function.comp, id]; rw [ih]; rfl
theorem Iv.start (n : Nat) : Iv n (allO n, []) := ⟨by unfold allO; rw [List.length_map, List.length_range], by rw [inb_all, List.append_nil]⟩
theorem inb_set_none : ∀ {bs : List (Option Int)} {p : Nat} {i : Int}, bs[p]? = some (some i) → (i :: inb (bs.set p none)).Perm (inb bs)
  | none :: bs, 0, i, h => by cases h
  | some x :: bs, 0, i, h => by cases h; exact .refl _
  | none :: bs, p + 1, i, h => inb_set_none (bs := bs) (by simpa using h)
  | some x :: bs, p + 1, i, h => by
    have := inb_set_none (bs := bs) (p := p) (i := i) (by simpa using h)
    exact (List.Perm.swap x i _).trans (this.cons x)
theorem inb_set_some : ∀ {bs : List (Option Int)} {p : Nat} {i : Int}, bs[p]? = some none → (inb (bs.set p (some i))).Perm (i :: inb bs)
  | none :: bs, 0, i, h => .refl _
  | some x :: bs, 0, i, h => by cases h
  | none :: bs, p + 1, i, h => inb_set_some (bs := bs) (by simpa using h)
  | some x :: bs, p + 1, i, h => by
    have := inb_set_some (bs := bs) (p := p) (i := i) (by simpa using h)
    exact (this.cons x).trans (List.Perm.swap i x _)
theorem Iv.step {n : Nat} {s : Sh} {o : Op} (h : Iv n s) (ok : OpOk s o) : Iv n (stepO s o) := by
  obtain ⟨bs, tk⟩ := s
  obtain ⟨k, x⟩ := o
  have h1 : bs.length = n := h.len
  have h2 : (inb bs ++ tk).Perm (itg n) := h.all
  cases k with
  | true =>
    obtain ⟨p, i, e, hp⟩ : ∃ (p : Nat) (i : Int), x = p ∧ bs[p]? = some (some i) := ok
    subst e
    refine ⟨by show (bs.set _ none).length = n; rw [List.length_set]; exact h1, ?_⟩
    show (inb (bs.set p none) ++ (tk ++ [(bs.getD p none).getD 0])).Perm (itg n)
    rw [List.getD_eq_getElem?_getD, hp]
    show (inb (bs.set p none) ++ (tk ++ [i])).Perm (itg n)
    have := inb_set_none hp
    refine List.Perm.trans ?_ h2
    rw [← List.append_assoc]
    refine (List.perm_append_singleton i _).trans ?_
    exact this.append_right tk
  | false =>
    obtain ⟨h0, hm, hn⟩ : 0 ≤ x ∧ x ∈ tk ∧ none ∈ bs := ok
    refine ⟨by show (bs.set _ (some x)).length = n; rw [List.length_set]; exact h1, ?_⟩
    show (inb (bs.set (fg bs) (some x)) ++ tk.erase x).Perm (itg n)
    have := inb_set_some (i := x) (fg_at hn).1
    refine List.Perm.trans ?_ h2
    refine (this.append_right _).trans ?_
    refine List.perm_middle.symm.trans ?_
    exact (List.perm_cons_erase hm).symm.append_left _
theorem runP_iv {n : Nat} {ops : List Op} (h : VldO n ops) : ∀ i, i ≤ ops.length → Iv n (runP n (ops.take i)).1
  | 0, _ => by rw [List.take_zero]; exact Iv.start n
  | i + 1, hi => by
    rw [runP_succ (by omega)]
    exact (runP_iv h i (by omega)).step (h i (by omega))
theorem erase_at {tk : List Int} (h : tk.Nodup) {d : Nat} (hd : d < tk.length) : tk.erase tk[d] = tk.eraseIdx d := by
  rw [List.erase_eq_eraseIdx_of_idxOf (i := d) (by rw [h.idxOf_getElem])]
theorem VldO.snoc {n : Nat} {ops : List Op} {o : Op} (h : VldO n ops) (ok : OpOk (runP n ops).1 o) : VldO n (ops ++ [o]) := by
  intro i hi
  by_cases hl : i < ops.length
  · rw [List.take_append_of_le_length (by omega), List.getElem_append_left hl]
    exact h i hl
  · have e : i = ops.length := by rw [List.length_append, List.length_singleton] at hi; omega
    subst e
    rw [List.take_append_of_le_length (Nat.le_refl _), List.take_length, List.getElem_append_right (Nat.le_refl _)]
    simp only [Nat.sub_self, List.getElem_cons_zero]
    exact ok
theorem runP_snoc (n : Nat) (ops : List Op) (o : Op) : runP n (ops ++ [o]) = stepP (runP n ops) o := by
  unfold runP
  rw [List.foldl_append]
  rfl

/-! ### whole schedules (no program here) -/
theorem perm_le_eq : ∀ {xs ys : List Int}, xs.Perm ys → xs.Pairwise (· ≤ ·) → ys.Pairwise (· ≤ ·) → xs = ys
  | [], ys, h, _, _ => (List.Perm.nil_eq h)
  | x :: xs, [], h, _, _ => absurd h.length_eq (by simp)
  | x :: xs, y :: ys, h, hx, hy => by
    obtain ⟨x1, x2⟩ := List.pairwise_cons.mp hx
    obtain ⟨y1, y2⟩ := List.pairwise_cons.mp hy
    have a : x ≤ y := by
      rcases List.mem_cons.mp (h.mem_iff.mpr (List.mem_cons_self ..)) with e | e
      · exact Int.le_of_eq e.symm
      · exact x1 _ e
    have b : y ≤ x := by
      rcases List.mem_cons.mp (h.mem_iff.mp (List.mem_cons_self ..)) with e | e
      · exact Int.le_of_eq e.symm
      · exact y1 _ e
    obtain rfl := Int.le_antisymm a b
    exact congrArg (x :: ·) (perm_le_eq ((List.perm_cons x).mp h) x2 y2)
theorem itg_le (n : Nat) : (itg n).Pairwise (· ≤ ·) := by
  unfold itg
  refine List.Pairwise.map _ (fun a b (h : a ≤ b) => Int.ofNat_le.mpr h) ?_
  exact List.pairwise_le_range
theorem rgV_itg (n : Nat) : rgV 0 (n : Int) = vI (itg n) := by
  unfold rgV vI itg
  rw [List.map_map, show ((n : Int) - 0).toNat = n by omega]
  exact List.map_congr_left fun i _ => by show V.int (0 + (i : Int)) = V.int ((i : Nat) : Int); rw [Int.zero_add]
theorem fold_fil : ∀ (ops : List Op) (s : Sh × List Int × Int), ∃ t, (ops.foldl stepP s).2.1 = s.2.1 ++ t ∧ t.length = (ops.filter fun o => !o.k).length
  | [], s => ⟨[], by simp⟩
  | o :: ops, s => by
    obtain ⟨t, h1, h2⟩ := fold_fil ops (stepP s o)
    rw [List.foldl_cons, h1]
    obtain ⟨k, x⟩ := o
    cases k with
    | true => exact ⟨t, rfl, h2⟩
    | false => exact ⟨((fg s.1.1 : Nat) : Int) :: t, by show (s.2.1 ++ [_]) ++ t = _; rw [List.append_assoc]; rfl, by show _ = (_ :: _).length; rw [List.length_cons, List.length_cons, h2]⟩
theorem fil_pre (n : Nat) (ops : List Op) (c : Nat) : (runP n ops).2.1.take (runP n (ops.take c)).2.1.length = (runP n (ops.take c)).2.1 := by
  obtain ⟨t, h, _⟩ := fold_fil (ops.drop c) (runP n (ops.take c))
  have e : runP n ops = (ops.drop c).foldl stepP (runP n (ops.take c)) := by
    unfold runP
    rw [← List.foldl_append, List.take_append_drop]
  rw [e, h, List.take_left']
  rfl
theorem fil_len (n : Nat) (ops : List Op) : (runP n ops).2.1.length = (ops.filter fun o => !o.k).length := by
  obtain ⟨t, h1, h2⟩ := fold_fil ops ((allO n, []), [], 0)
  unfold runP
  rw [h1, List.nil_append, h2]
theorem fold_most : ∀ (ops : List Op) (s : Sh × List Int × Int), s.2.2 ≤ (ops.foldl stepP s).2.2 ∧ ((s.1.2.length : Int) ≤ s.2.2 → ((ops.foldl stepP s).1.2.length : Int) ≤ (ops.foldl stepP s).2.2)
  | [], s => ⟨Int.le_refl _, id⟩
  | o :: ops, s => by
    obtain ⟨h1, h2⟩ := fold_most ops (stepP s o)
    rw [List.foldl_cons]
    have a : s.2.2 ≤ (stepP s o).2.2 ∧ ((stepP s o).1.2.length : Int) ≤ (stepP s o).2.2 := by
      show s.2.2 ≤ (if _ then _ else _) ∧ (((stepO s.1 o).2.length : Nat) : Int) ≤ (if _ then _ else _)
      split <;> omega
    exact ⟨Int.le_trans a.1 h1, fun _ => h2 a.2⟩
theorem most_pre (n : Nat) (ops : List Op) (c : Nat) : (runP n (ops.take c)).2.2 ≤ (runP n ops).2.2 ∧ ((runP n (ops.take c)).1.2.length : Int) ≤ (runP n ops).2.2 := by
  have e : runP n ops = (ops.drop c).foldl stepP (runP n (ops.take c)) := by
    unfold runP
    rw [← List.foldl_append, List.take_append_drop]
  have h := (fold_most (ops.drop c) (runP n (ops.take c))).1
  have h2 := (fold_most (ops.take c) ((allO n, []), [], 0)).2 (Int.le_refl _)
  rw [← e] at h
  exact ⟨h, Int.le_trans h2 h⟩
theorem fg_app {bs : List (Option Int)} {x : Option Int} (h : none ∈ bs) : fg (bs ++ [x]) = fg bs := by
  unfold fg
  rw [List.idxOf_append, if_pos h]
theorem OpOk.app {bs : List (Option Int)} {tk : List Int} {o : Op} (h : OpOk (bs, tk) o) (y : Int) : OpOk (bs ++ [some y], tk) o := by
  obtain ⟨k, x⟩ := o
  cases k with
  | true =>
    obtain ⟨p, i, e, hp⟩ : ∃ (p : Nat) (i : Int), x = p ∧ bs[p]? = some (some i) := h
    exact ⟨p, i, e, by show (bs ++ [some y])[p]? = _; rw [List.getElem?_append_left (List.getElem?_eq_some_iff.mp hp).1]; exact hp⟩
  | false =>
    obtain ⟨h0, hm, hn⟩ : 0 ≤ x ∧ x ∈ tk ∧ none ∈ bs := h
    exact ⟨h0, hm, List.mem_append_left _ hn⟩
theorem stepP_app {bs : List (Option Int)} {tk : List Int} {r : List Int × Int} {o : Op} (h : OpOk (bs, tk) o) (y : Int) :
    stepP ((bs ++ [some y], tk), r) o = (((stepP ((bs, tk), r) o).1.1 ++ [some y], (stepP ((bs, tk), r) o).1.2), (stepP ((bs, tk), r) o).2) := by
  obtain ⟨k, x⟩ := o
  cases k with
  | true =>
    obtain ⟨p, i, e, hp⟩ : ∃ (p : Nat) (i : Int), x = p ∧ bs[p]? = some (some i) := h
    subst e
    have hl : p < bs.length := (List.getElem?_eq_some_iff.mp hp).1
    have e1 : stepO (bs ++ [some y], tk) ⟨true, ((p : Nat) : Int)⟩ = (bs.set p none ++ [some y], tk ++ [i]) := by
      show ((bs ++ [some y]).set p none, tk ++ [((bs ++ [some y]).getD p none).getD 0]) = _
      rw [List.getD_eq_getElem?_getD, List.getElem?_append_left hl, hp, List.set_append_left _ _ hl]
      rfl
    have e2 : stepO (bs, tk) ⟨true, ((p : Nat) : Int)⟩ = (bs.set p none, tk ++ [i]) := by
      show (bs.set p none, tk ++ [(bs.getD p none).getD 0]) = _
      rw [List.getD_eq_getElem?_getD, hp]
      rfl
    unfold stepP
    rw [e1, e2]
    rfl
  | false =>
    obtain ⟨h0, hm, hn⟩ : 0 ≤ x ∧ x ∈ tk ∧ none ∈ bs := h
    have hf := fg_app (x := some y) hn
    have hl : fg bs < bs.length := (List.getElem?_eq_some_iff.mp (fg_at hn).1).1
    have e1 : stepO (bs ++ [some y], tk) ⟨false, x⟩ = (bs.set (fg bs) (some x) ++ [some y], tk.erase x) := by
      show ((bs ++ [some y]).set (fg (bs ++ [some y])) (some x), tk.erase x) = _
      rw [hf, List.set_append_left _ _ hl]
    have e2 : stepO (bs, tk) ⟨false, x⟩ = (bs.set (fg bs) (some x), tk.erase x) := rfl
    unfold stepP
    rw [e1, e2]
    show (_, (r.1 ++ [((fg (bs ++ [some y]) : Nat) : Int)], _)) = _
    rw [hf]
    rfl
theorem allO_succ (n : Nat) : allO (n + 1) = allO n ++ [some ((n : Nat) : Int)] := by
  unfold allO
  rw [List.range_succ, List.map_append]
  rfl
/-- a longer shelf has the same run, and its last book -/
theorem longer {n : Nat} {ops : List Op} (h : VldO n ops) : ∀ i, i ≤ ops.length → runP (n + 1) (ops.take i) = (((runP n (ops.take i)).1.1 ++ [some ((n : Nat) : Int)], (runP n (ops.take i)).1.2), (runP n (ops.take i)).2)
  | 0, _ => by
    rw [List.take_zero]
    show ((allO (n + 1), []), [], 0) = _
    rw [allO_succ]
    rfl
  | i + 1, hi => by
    rw [runP_succ (by omega), runP_succ (by omega), longer h i (by omega)]
    exact stepP_app (h i (by omega)) _
theorem VldO.longer {n : Nat} {ops : List Op} (h : VldO n ops) : VldO (n + 1) ops := by
  intro i hi
  rw [My.longer h i (by omega)]
  exact OpOk.app (h i hi) _
theorem last_two {n : Nat} {ops : List Op} (h : VldO n ops) {p : Nat} {i : Int} (hp : (runP n ops).1.1[p]? = some (some i)) :
    VldO n (ops ++ [⟨true, ((p : Nat) : Int)⟩] ++ [⟨false, i⟩]) ∧ (runP n (ops ++ [⟨true, ((p : Nat) : Int)⟩] ++ [⟨false, i⟩])).2.1 = (runP n ops).2.1 ++ [((fg ((runP n ops).1.1.set p none) : Nat) : Int)] := by
  have iv : Iv n (runP n ops).1 := by have := runP_iv h ops.length (Nat.le_refl _); rwa [List.take_length] at this
  have v1 : VldO n (ops ++ [⟨true, ((p : Nat) : Int)⟩]) := h.snoc ⟨p, i, rfl, hp⟩
  have e1 : runP n (ops ++ [⟨true, ((p : Nat) : Int)⟩]) = stepP (runP n ops) ⟨true, ((p : Nat) : Int)⟩ := runP_snoc ..
  have e2 : stepO (runP n ops).1 ⟨true, ((p : Nat) : Int)⟩ = ((runP n ops).1.1.set p none, (runP n ops).1.2 ++ [i]) := by
    show ((runP n ops).1.1.set p none, (runP n ops).1.2 ++ [((runP n ops).1.1.getD p none).getD 0]) = _
    rw [List.getD_eq_getElem?_getD, hp]
    rfl
  have hl : p < (runP n ops).1.1.length := (List.getElem?_eq_some_iff.mp hp).1
  have i0 : 0 ≤ i := (mem_itg.mp (iv.all.mem_iff.mp (List.mem_append_left _ (List.mem_filterMap.mpr ⟨some i, List.mem_of_getElem? hp, rfl⟩)))).1
  have e3 : (runP n (ops ++ [⟨true, ((p : Nat) : Int)⟩])).1 = ((runP n ops).1.1.set p none, (runP n ops).1.2 ++ [i]) := by
    rw [e1]; exact e2
  refine ⟨v1.snoc ?_, ?_⟩
  · rw [e3]
    exact ⟨i0, List.mem_append_right _ (List.mem_singleton.mpr rfl), List.mem_of_getElem? (List.getElem?_set_self hl)⟩
  · rw [runP_snoc]
    show (runP n (ops ++ [⟨true, ((p : Nat) : Int)⟩])).2.1 ++ [((fg (runP n (ops ++ [⟨true, ((p : Nat) : Int)⟩])).1.1 : Nat) : Int)] = _
    rw [e3, e1]
    rfl
/-- places without a book -/
def gapsF (bs : List (Option Int)) (n : Nat) : List Int := ((List.range n).filter fun j => decide (bs[j]? = some none)).map fun j => ((j : Nat) : Int)
theorem least_gap {bs : List (Option Int)} {n p : Nat} (hl : bs.length = n) (hp : p < n) : minI (((p : Nat) : Int) :: gapsF bs n) = ((fg (bs.set p none) : Nat) : Int) := by
  have hn : none ∈ bs.set p none := List.mem_of_getElem? (List.getElem?_set_self (by omega))
  obtain ⟨g1, g2⟩ := fg_at hn
  have gl := (List.getElem?_eq_some_iff.mp g1).1
  rw [List.length_set] at gl
  generalize fg (bs.set p none) = g at *
  have m1 := minI_mem (ns := ((p : Nat) : Int) :: gapsF bs n) (by simp)
  have m2 : ∀ y ∈ ((p : Nat) : Int) :: gapsF bs n, minI (((p : Nat) : Int) :: gapsF bs n) ≤ y := fun y hy => minI_le hy
  generalize minI (((p : Nat) : Int) :: gapsF bs n) = m at *
  have a : m ≤ ((g : Nat) : Int) := by
    refine m2 _ ?_
    by_cases e : g = p
    · rw [e]; exact List.mem_cons_self ..
    · refine List.mem_cons_of_mem _ (List.mem_map.mpr ⟨g, List.mem_filter.mpr ⟨List.mem_range.mpr (by omega), ?_⟩, rfl⟩)
      rw [List.getElem?_set_ne (fun z => e z.symm)] at g1
      simp [g1]
  have b : ∃ j : Nat, m = ((j : Nat) : Int) ∧ (bs.set p none)[j]? = some none := by
    rcases List.mem_cons.mp m1 with e | e
    · exact ⟨p, e, List.getElem?_set_self (by omega)⟩
    · obtain ⟨j, hj, rfl⟩ := List.mem_map.mp e
      obtain ⟨j1, j2⟩ := List.mem_filter.mp hj
      refine ⟨j, rfl, ?_⟩
      by_cases z : j = p
      · rw [z]; exact List.getElem?_set_self (by omega)
      · rw [List.getElem?_set_ne (fun w => z w.symm)]
        exact of_decide_eq_true j2
  obtain ⟨j, rfl, hj⟩ := b
  have : ¬ j < g := fun z => g2 j z hj
  omega

/-! ### operations and books as data -/
def opD (o : Op) : PyData := .tuple [.str (opN o.k), .int o.x]
def opDL (o : Op) : PyData := .list [.str (opN o.k), .int o.x]
def bkD : Option Int → PyData
  | some i => .int i
  | none => .none
theorem dpAll_rf {K : PySem.W.Frag} {H : Hp} : ∀ {as : List Addr} {ds : List PyData}, as.length = ds.length → (∀ (i : Nat) (a : Addr) (d : PyData), as[i]? = some a → ds[i]? = some d → Dp K H (.ref a) d) → DpAll K H (as.map V.ref) ds
  | [], [], _, _ => .nil
  | a :: as, d :: ds, h, g => .cons (g 0 a d rfl rfl) (dpAll_rf (Nat.succ.inj h) fun i a d e1 e2 => g (i + 1) a d (by simpa using e1) (by simpa using e2))
  | [], _ :: _, h, _ => by cases h
  | _ :: _, [], h, _ => by cases h
theorem dp_ops {K : PySem.W.Frag} {G : Addr → Prop} {H : Hp} {p : Addr} {as : List Addr} {qs : List Op} (h : TupsAt opV G H p as qs) : Dp K H (.ref p) (.list (qs.map opD)) := by
  refine .lst (lst_of h.hp) (dpAll_rf (by rw [List.length_map, h.len]) fun i a d e1 e2 => ?_)
  rw [List.getElem?_map] at e2
  cases z : qs[i]? with
  | none => rw [z] at e2; cases e2
  | some q =>
    rw [z] at e2
    cases e2
    exact .tup (tup_of (h.it i a q e1 z).1) (.cons (.str _) (.cons (.int _) .nil))
theorem eqs_opN (k : Bool) : Eqs (.str (opN k)) 0 := ⟨rfl, by cases k <;> decide +kernel, Nat.le_refl _⟩
theorem eqs_op (o : Op) : Eqs (opD o) 1 := .tup fun d hd => by
  have hd' : d = .str (opN o.k) ∨ d = .int o.x := by simpa using hd
  rcases hd' with rfl | rfl
  · exact eqs_opN _
  · exact .int _
theorem eqs_ops (qs : List Op) : Eqs (.list (qs.map opD)) 2 := .list fun d hd => by
  obtain ⟨f, _, rfl⟩ := List.mem_map.mp hd
  exact eqs_op f
theorem dpAll_bk {K : PySem.W.Frag} {H : Hp} : ∀ bs : List (Option Int), DpAll K H (vB bs) (bs.map bkD)
  | [] => .nil
  | none :: bs => .cons .non (dpAll_bk bs)
  | some i :: bs => .cons (.int i) (dpAll_bk bs)
theorem dp_bk {K : PySem.W.Frag} {H : Hp} {a : Addr} {bs : List (Option Int)} (h : SqL K H a (vB bs)) : Dp K H (.ref a) (.list (bs.map bkD)) := .lst h (dpAll_bk bs)
theorem eqs_bk (bs : List (Option Int)) : Eqs (.list (bs.map bkD)) 1 := .list fun d hd => by
  obtain ⟨x, _, rfl⟩ := List.mem_map.mp hd
  cases x with
  | none => exact .none
  | some i => exact .int _
theorem bkD_inj : ∀ {bs cs : List (Option Int)}, bs.map bkD = cs.map bkD → bs = cs
  | [], [], _ => rfl
  | [], _ :: _, h => by cases h
  | _ :: _, [], h => by cases h
  | x :: bs, y :: cs, h => by
    obtain ⟨h1, h2⟩ := List.cons.inj (show bkD x :: bs.map bkD = bkD y :: cs.map bkD from h)
    rw [bkD_inj h2]
    cases x with
    | none =>
      cases y with
      | none => rfl
      | some j => cases h1
    | some i =>
      cases y with
      | none => cases h1
      | some j => cases h1; rfl

/-! ### a schedule that follows a pattern (no program here) -/
def mstep (s : Int × Int) (b : Bool) : Int × Int := (s.1 + (if b then 1 else -1), if s.1 + (if b then 1 else -1) > s.2 then s.1 + (if b then 1 else -1) else s.2)
def mstF (q : List Bool) : Int × Int := q.foldl mstep (0, 0)
theorem mstF_app (q : List Bool) (b : Bool) : mstF (q ++ [b]) = mstep (mstF q) b := by
  unfold mstF
  rw [List.foldl_append]
  rfl
theorem mstF_dif (q : List Bool) : (mstF q).1 = dif q := by
  suffices h : ∀ (q : List Bool) (s : Int × Int), (q.foldl mstep s).1 = s.1 + dif q by
    have := h q (0, 0)
    unfold mstF
    rw [this]
    show 0 + dif q = dif q
    omega
  intro q
  induction q with
  | nil => intro s; show s.1 = s.1 + 0; omega
  | cons b q ih =>
    intro s
    rw [List.foldl_cons, ih]
    show s.1 + (if b then 1 else -1) + dif q = s.1 + ((if b then 1 else -1) + dif q)
    omega
structure Fol (ts : List Int) (q : List Bool) (ops : List Op) (rets : List Int) : Prop where
  vl : VldO ts.length ops
  ln : ops.length = q.length
  few : tks q ≤ ts.length
  fil : (runP ts.length ops).2.1 = fillF ts q
  atk : (runF ts q).2.2 = tks q
  gnd : (runF ts q).1.Nodup
  gin : ∀ x ∈ (runF ts q).1, ∃ k : Nat, k < tks q ∧ ts[k]? = some x
  gap : ∀ j : Nat, (runP ts.length ops).1.1[j]? = some none ↔ ((j : Nat) : Int) ∈ (runF ts q).1
  rest : ∀ (k : Nat) (x : Int), tks q ≤ k → ts[k]? = some x → (runP ts.length ops).1.1[x.toNat]? = some (some x)
  out : ∀ x ∈ (runP ts.length ops).1.2, ∃ k : Nat, k < tks q ∧ ts[k]? = some x
  cnt : (((runP ts.length ops).1.2.length : Nat) : Int) = dif q
  most : (runP ts.length ops).2.2 = (mstF q).2
  rl : rets.length = (fillF ts q).length
  tl : (tmsF 0 q).length = (fillF ts q).length
  fin : ∀ x ∈ fillF ts q, ∃ k : Nat, k < tks q ∧ ts[k]? = some x
  res : ∀ (j : Nat) (x y t : Int), (fillF ts q)[j]? = some x → rets[j]? = some y → (tmsF 0 q)[j]? = some t → (runP ts.length ops).1.1[x.toNat]? = some (some y) ∧ nb ts y < t ∧ y ∈ ts
theorem nb_idx {ts : List Int} (hn : ts.Nodup) {k : Nat} {x : Int} (h : ts[k]? = some x) : nb ts x = k := by
  obtain ⟨hk, rfl⟩ := List.getElem?_eq_some_iff.mp h
  have := nb_get hn hk
  rwa [getD_el hk] at this
theorem idx_inj {ts : List Int} (hn : ts.Nodup) {j k : Nat} {x : Int} (h1 : ts[j]? = some x) (h2 : ts[k]? = some x) : j = k := by
  have a := nb_idx hn h1
  have b := nb_idx hn h2
  omega
theorem allO_at {n j : Nat} (h : j < n) : (allO n)[j]? = some (some ((j : Nat) : Int)) := by
  unfold allO
  rw [List.getElem?_map, List.getElem?_range h]
  rfl
theorem Fol.nil {ts : List Int} (hp : ts.Perm (itg ts.length)) : Fol ts [] [] [] where
  vl := fun i hi => absurd hi (Nat.not_lt_zero _)
  ln := rfl
  few := Nat.zero_le _
  fil := rfl
  atk := rfl
  gnd := List.nodup_nil
  gin := fun x hx => by cases hx
  gap := fun j => by
    refine ⟨fun h => ?_, fun h => by cases h⟩
    have h : (allO ts.length)[j]? = some none := h
    have hj := (List.getElem?_eq_some_iff.mp h).1
    unfold allO at hj
    rw [List.length_map, List.length_range] at hj
    rw [allO_at hj] at h
    cases h
  rest := fun k x _ h => by
    have hm := mem_itg.mp (hp.mem_iff.mp (List.mem_of_getElem? h))
    show (allO ts.length)[x.toNat]? = _
    rw [allO_at (by omega), Int.toNat_of_nonneg hm.1]
  out := fun x hx => by cases hx
  cnt := rfl
  most := rfl
  rl := rfl
  tl := rfl
  fin := fun x hx => by cases hx
  res := fun j x y t h => by cases h
theorem Fol.iv {ts : List Int} {q : List Bool} {ops : List Op} {rets : List Int} (h : Fol ts q ops rets) : Iv ts.length (runP ts.length ops).1 := by
  have := runP_iv h.vl ops.length (Nat.le_refl _)
  rwa [List.take_length] at this
theorem Fol.take {ts : List Int} (hp : ts.Perm (itg ts.length)) {q : List Bool} {ops : List Op} {rets : List Int} (h : Fol ts q ops rets) {x : Int} (hx : ts[tks q]? = some x) : Fol ts (q ++ [true]) (ops ++ [⟨true, x⟩]) rets := by
  have hn : ts.Nodup := hp.nodup_iff.mpr (itg_nd _)
  have hm := mem_itg.mp (hp.mem_iff.mp (List.mem_of_getElem? hx))
  have hk := (List.getElem?_eq_some_iff.mp hx).1
  have hb := h.rest (tks q) x (Nat.le_refl _) hx
  have iv := h.iv
  obtain ⟨p, rfl⟩ : ∃ p : Nat, x = ((p : Nat) : Int) := ⟨x.toNat, by rw [Int.toNat_of_nonneg hm.1]⟩
  rw [Int.toNat_natCast] at hb
  have ok : OpOk (runP ts.length ops).1 ⟨true, ((p : Nat) : Int)⟩ := ⟨p, _, rfl, hb⟩
  have e0 : stepO (runP ts.length ops).1 ⟨true, ((p : Nat) : Int)⟩ = ((runP ts.length ops).1.1.set p none, (runP ts.length ops).1.2 ++ [((p : Nat) : Int)]) := by
    show ((runP ts.length ops).1.1.set p none, (runP ts.length ops).1.2 ++ [((runP ts.length ops).1.1.getD p none).getD 0]) = _
    rw [List.getD_eq_getElem?_getD, hb]
    rfl
  have e1 : runP ts.length (ops ++ [⟨true, ((p : Nat) : Int)⟩]) = stepP (runP ts.length ops) ⟨true, ((p : Nat) : Int)⟩ := runP_snoc ..
  have e2 : (runP ts.length (ops ++ [⟨true, ((p : Nat) : Int)⟩])).1 = ((runP ts.length ops).1.1.set p none, (runP ts.length ops).1.2 ++ [((p : Nat) : Int)]) := by rw [e1]; exact e0
  have pl : p < (runP ts.length ops).1.1.length := (List.getElem?_eq_some_iff.mp hb).1
  have et : tks (q ++ [true]) = tks q + 1 := tks_app q true
  have ef : runF ts (q ++ [true]) = ((runF ts q).1 ++ [((p : Nat) : Int)], (runF ts q).2.1, (runF ts q).2.2 + 1) := by
    rw [runF_app]
    show ((runF ts q).1 ++ [ts.getD (runF ts q).2.2 0], (runF ts q).2.1, (runF ts q).2.2 + 1) = _
    rw [h.atk, List.getD_eq_getElem?_getD, hx]
    rfl
  have eff : fillF ts (q ++ [true]) = fillF ts q := by unfold fillF; rw [ef]
  have etm : tmsF 0 (q ++ [true]) = tmsF 0 q := by rw [tmsF_app]; simp
  refine ⟨h.vl.snoc ok, by rw [List.length_append, List.length_append, h.ln]; rfl, by rw [et]; omega, ?_, ?_, ?_, ?_, ?_, ?_, ?_, ?_, ?_, by rw [eff]; exact h.rl, by rw [eff, etm]; exact h.tl, ?_, ?_⟩
  · rw [e1, eff]; exact h.fil
  · rw [ef, et]; exact congrArg (· + 1) h.atk
  · rw [ef]
    refine List.nodup_append.mpr ⟨h.gnd, by simp, fun a ha b hb' => ?_⟩
    rw [List.mem_singleton] at hb'
    subst hb'
    intro z
    obtain ⟨k, k1, k2⟩ := h.gin a ha
    rw [z] at k2
    have := idx_inj hn k2 hx
    omega
  · rw [ef, et]
    intro y hy
    rcases List.mem_append.mp hy with z | z
    · obtain ⟨k, k1, k2⟩ := h.gin y z
      exact ⟨k, by omega, k2⟩
    · rw [List.mem_singleton] at z
      subst z
      exact ⟨tks q, by omega, hx⟩
  · intro j
    rw [e2, ef]
    show ((runP ts.length ops).1.1.set p none)[j]? = some none ↔ _ ∈ (runF ts q).1 ++ [_]
    rw [List.mem_append, List.mem_singleton]
    by_cases hj : j = p
    · subst hj
      rw [List.getElem?_set_self pl]
      exact ⟨fun _ => .inr rfl, fun _ => rfl⟩
    · rw [List.getElem?_set_ne (fun z => hj z.symm), h.gap j]
      exact ⟨.inl, fun z => z.elim id fun z => absurd (Int.ofNat.inj z) hj⟩
  · intro k y hk' hy
    rw [et] at hk'
    rw [e2]
    show ((runP ts.length ops).1.1.set p none)[y.toNat]? = _
    have hy0 := mem_itg.mp (hp.mem_iff.mp (List.mem_of_getElem? hy))
    have ne : p ≠ y.toNat := fun z => by
      have : ((p : Nat) : Int) = y := by omega
      rw [← this] at hy
      have := idx_inj hn hx hy
      omega
    rw [List.getElem?_set_ne ne]
    exact h.rest k y (by omega) hy
  · rw [e2, et]
    intro y hy
    rcases List.mem_append.mp hy with z | z
    · obtain ⟨k, k1, k2⟩ := h.out y z
      exact ⟨k, by omega, k2⟩
    · rw [List.mem_singleton] at z
      subst z
      exact ⟨tks q, by omega, hx⟩
  · rw [e2, dif_app]
    show ((((runP ts.length ops).1.2 ++ [((p : Nat) : Int)]).length : Nat) : Int) = dif q + 1
    rw [List.length_append, List.length_singleton, Int.natCast_add, h.cnt]
    rfl
  · rw [e1, mstF_app]
    show (if (((stepO (runP ts.length ops).1 ⟨true, ((p : Nat) : Int)⟩).2.length : Nat) : Int) > (runP ts.length ops).2.2 then (((stepO (runP ts.length ops).1 ⟨true, ((p : Nat) : Int)⟩).2.length : Nat) : Int) else (runP ts.length ops).2.2) = (if (mstF q).1 + 1 > (mstF q).2 then (mstF q).1 + 1 else (mstF q).2)
    rw [e0, h.most, mstF_dif]
    have el : ((((runP ts.length ops).1.2 ++ [((p : Nat) : Int)]).length : Nat) : Int) = dif q + 1 := by
      rw [List.length_append, List.length_singleton, Int.natCast_add, h.cnt]
      rfl
    rw [el]
  · rw [eff, et]
    intro y hy
    obtain ⟨k, k1, k2⟩ := h.fin y hy
    exact ⟨k, by omega, k2⟩
  · rw [eff, etm, e2]
    intro j y z t f1 f2 f3
    obtain ⟨r1, r2, r3⟩ := h.res j y z t f1 f2 f3
    refine ⟨?_, r2, r3⟩
    obtain ⟨k, k1, k2⟩ := h.fin y (List.mem_of_getElem? f1)
    have hy0 := mem_itg.mp (hp.mem_iff.mp (List.mem_of_getElem? k2))
    have ne : p ≠ y.toNat := fun z => by
      have : ((p : Nat) : Int) = y := by omega
      rw [← this] at k2
      have := idx_inj hn hx k2
      omega
    show ((runP ts.length ops).1.1.set p none)[y.toNat]? = _
    rw [List.getElem?_set_ne ne]
    exact r1
theorem Fol.ret {ts : List Int} (hp : ts.Perm (itg ts.length)) {q : List Bool} {ops : List Op} {rets : List Int} (h : Fol ts q ops rets) {x : Int} (hx : x ∈ (runP ts.length ops).1.2) : Fol ts (q ++ [false]) (ops ++ [⟨false, x⟩]) (rets ++ [x]) := by
  have hn : ts.Nodup := hp.nodup_iff.mpr (itg_nd _)
  have iv := h.iv
  obtain ⟨kx, kx1, kx2⟩ := h.out x hx
  have hm := mem_itg.mp (hp.mem_iff.mp (List.mem_of_getElem? kx2))
  have gp : none ∈ (runP ts.length ops).1.1 := iv.gap fun z => by rw [z] at hx; cases hx
  obtain ⟨g1, g2⟩ := fg_at gp
  have ok : OpOk (runP ts.length ops).1 ⟨false, x⟩ := ⟨hm.1, hx, gp⟩
  have gl : fg (runP ts.length ops).1.1 < (runP ts.length ops).1.1.length := (List.getElem?_eq_some_iff.mp g1).1
  have e0 : stepO (runP ts.length ops).1 ⟨false, x⟩ = ((runP ts.length ops).1.1.set (fg (runP ts.length ops).1.1) (some x), (runP ts.length ops).1.2.erase x) := rfl
  have e1 : runP ts.length (ops ++ [⟨false, x⟩]) = stepP (runP ts.length ops) ⟨false, x⟩ := runP_snoc ..
  have e2 : (runP ts.length (ops ++ [⟨false, x⟩])).1 = ((runP ts.length ops).1.1.set (fg (runP ts.length ops).1.1) (some x), (runP ts.length ops).1.2.erase x) := by rw [e1]; exact e0
  have et : tks (q ++ [false]) = tks q := tks_app q false
  have hmin : minI (runF ts q).1 = ((fg (runP ts.length ops).1.1 : Nat) : Int) := by
    refine (minI_eq ((h.gap _).mp g1) fun y hy => ?_).symm
    obtain ⟨k, k1, k2⟩ := h.gin y hy
    have hy0 := mem_itg.mp (hp.mem_iff.mp (List.mem_of_getElem? k2))
    have hg := (h.gap y.toNat).mpr (by rw [Int.toNat_of_nonneg hy0.1]; exact hy)
    have : ¬ y.toNat < fg (runP ts.length ops).1.1 := fun z => g2 _ z hg
    omega
  have ef : runF ts (q ++ [false]) = ((runF ts q).1.erase ((fg (runP ts.length ops).1.1 : Nat) : Int), (runF ts q).2.1 ++ [((fg (runP ts.length ops).1.1 : Nat) : Int)], (runF ts q).2.2) := by
    rw [runF_app]
    show ((runF ts q).1.erase (minI (runF ts q).1), (runF ts q).2.1 ++ [minI (runF ts q).1], (runF ts q).2.2) = _
    rw [hmin]
  have eff : fillF ts (q ++ [false]) = fillF ts q ++ [((fg (runP ts.length ops).1.1 : Nat) : Int)] := by unfold fillF; rw [ef]
  have etm : tmsF 0 (q ++ [false]) = tmsF 0 q ++ [((tks q : Nat) : Int)] := by
    rw [tmsF_app]
    show tmsF 0 q ++ [((0 + tks q : Nat) : Int)] = _
    rw [Nat.zero_add]
  have gin := (h.gap _).mp g1
  have bl := iv.len
  generalize hg : fg (runP ts.length ops).1.1 = g at *
  have cl : ((((runP ts.length ops).1.2.erase x).length : Nat) : Int) = dif q + -1 := by
    rw [List.length_erase_of_mem hx, ← h.cnt]
    have := List.length_pos_of_mem hx
    omega
  refine ⟨h.vl.snoc ok, by rw [List.length_append, List.length_append, h.ln]; rfl, by rw [et]; exact h.few, ?_, ?_, ?_, ?_, ?_, ?_, ?_, ?_, ?_, ?_, ?_, ?_, ?_⟩
  · rw [e1, eff]
    show (runP ts.length ops).2.1 ++ [((fg (runP ts.length ops).1.1 : Nat) : Int)] = _
    rw [h.fil, hg]
  · rw [ef, et]; exact h.atk
  · rw [ef]; exact h.gnd.sublist List.erase_sublist
  · rw [ef, et]
    exact fun y hy => h.gin y (List.mem_of_mem_erase hy)
  · intro j
    rw [e2, ef]
    show ((runP ts.length ops).1.1.set g (some x))[j]? = some none ↔ _ ∈ (runF ts q).1.erase _
    rw [h.gnd.mem_erase_iff]
    by_cases hj : j = g
    · subst hj
      rw [List.getElem?_set_self gl]
      exact ⟨(fun z => by cases z), fun z => absurd rfl z.1⟩
    · rw [List.getElem?_set_ne (fun z => hj z.symm), h.gap j]
      exact ⟨fun z => ⟨fun w => hj (by omega), z⟩, fun z => z.2⟩
  · intro k y hk' hy
    rw [et] at hk'
    rw [e2]
    show ((runP ts.length ops).1.1.set g (some x))[y.toNat]? = _
    have hb := h.rest k y hk' hy
    have ne : g ≠ y.toNat := fun z => by rw [← z, g1] at hb; cases hb
    rw [List.getElem?_set_ne ne]
    exact hb
  · rw [e2, et]
    exact fun y hy => h.out y (List.mem_of_mem_erase hy)
  · rw [e2, dif_app]
    exact cl
  · rw [e1, mstF_app]
    show (if (((stepO (runP ts.length ops).1 ⟨false, x⟩).2.length : Nat) : Int) > (runP ts.length ops).2.2 then (((stepO (runP ts.length ops).1 ⟨false, x⟩).2.length : Nat) : Int) else (runP ts.length ops).2.2) = (if (mstF q).1 + -1 > (mstF q).2 then (mstF q).1 + -1 else (mstF q).2)
    rw [show stepO (runP ts.length ops).1 ⟨false, x⟩ = ((runP ts.length ops).1.1.set g (some x), (runP ts.length ops).1.2.erase x) by rw [← hg]; rfl, h.most, mstF_dif]
    show (if ((((runP ts.length ops).1.2.erase x).length : Nat) : Int) > _ then ((((runP ts.length ops).1.2.erase x).length : Nat) : Int) else _) = _
    rw [cl]
  · rw [eff, List.length_append, List.length_append, h.rl]; rfl
  · rw [eff, etm, List.length_append, List.length_append, h.tl]; rfl
  · rw [eff, et]
    intro y hy
    rcases List.mem_append.mp hy with z | z
    · exact h.fin y z
    · rw [List.mem_singleton] at z
      subst z
      exact h.gin _ gin
  · rw [eff, etm, e2]
    intro j y z t f1 f2 f3
    show ((runP ts.length ops).1.1.set g (some x))[y.toNat]? = _ ∧ _
    by_cases hj : j < (fillF ts q).length
    · rw [List.getElem?_append_left hj] at f1
      rw [List.getElem?_append_left (by rw [h.rl]; exact hj)] at f2
      rw [List.getElem?_append_left (by rw [h.tl]; exact hj)] at f3
      obtain ⟨r1, r2, r3⟩ := h.res j y z t f1 f2 f3
      have ne : g ≠ y.toNat := fun w => by rw [← w, g1] at r1; cases r1
      rw [List.getElem?_set_ne ne]
      exact ⟨r1, r2, r3⟩
    · have hj' : j = (fillF ts q).length := by
        have := (List.getElem?_eq_some_iff.mp f1).1
        rw [List.length_append, List.length_singleton] at this
        omega
      subst hj'
      rw [List.getElem?_append_right (Nat.le_refl _), Nat.sub_self] at f1
      rw [← h.rl, List.getElem?_append_right (Nat.le_refl _), Nat.sub_self] at f2
      rw [← h.tl, List.getElem?_append_right (Nat.le_refl _), Nat.sub_self] at f3
      cases f1; cases f2; cases f3
      rw [Int.toNat_natCast, List.getElem?_set_self gl]
      exact ⟨rfl, by rw [nb_idx hn kx2]; omega, List.mem_of_getElem? kx2⟩

abbrev Sobstruction : Stmt := topS 40
abbrev Nobstruction : List Str := ["takes", "fills", "one", "other"]
theorem scobstruction : FnScope Nobstruction ["takes", "fills"] (defScope Sobstruction) := ⟨rfl, rfl, rfl, by decide +kernel, rfl, by decide +kernel, by decide +kernel⟩
abbrev Sis_possible : Stmt := topS 41
abbrev Nis_possible : List Str := ["takes", "fills"]
theorem scis_possible : FnScope Nis_possible ["takes", "fills"] (defScope Sis_possible) := ⟨rfl, rfl, rfl, by decide +kernel, rfl, by decide +kernel, by decide +kernel⟩
abbrev Sis_result : Stmt := topS 42
abbrev Nis_result : List Str := ["takes", "pattern", "books", "places", "number", "taken", "returned", "letter"]
theorem scis_result : FnScope Nis_result ["takes", "pattern", "books"] (defScope Sis_result) := ⟨rfl, rfl, rfl, by decide +kernel, rfl, by decide +kernel, by decide +kernel⟩

theorem tms_pre : ∀ (p : List Bool) (k i : Nat), ∃ r, tmsF k p = tmsF k (p.take i) ++ r
  | p, k, 0 => ⟨tmsF k p, by rw [List.take_zero]; rfl⟩
  | [], k, i + 1 => ⟨[], by rw [List.take_nil]; rfl⟩
  | true :: p, k, i + 1 => tms_pre p (k + 1) i
  | false :: p, k, i + 1 => by
    obtain ⟨r, h⟩ := tms_pre p k i
    exact ⟨r, by show (k : Int) :: tmsF k p = (k : Int) :: tmsF k (p.take i) ++ r; rw [h]; rfl⟩
theorem tms_at {p : List Bool} {i : Nat} (h : p[i]? = some false) : (tmsF 0 p)[(tmsF 0 (p.take i)).length]? = some ((tks (p.take i) : Nat) : Int) := by
  obtain ⟨r, e⟩ := tms_pre p 0 (i + 1)
  rw [take_succ h, tmsF_app] at e
  rw [e]
  show (tmsF 0 (p.take i) ++ [((0 + tks (p.take i) : Nat) : Int)] ++ r)[_]? = _
  rw [List.append_assoc, List.getElem?_append_right (Nat.le_refl _), Nat.sub_self, Nat.zero_add]
  rfl
theorem tms_len : ∀ (p : List Bool) (k : Nat), (tmsF k p).length + tks p = p.length
  | [], _ => rfl
  | true :: p, k => by
    have := tms_len p (k + 1)
    show (tmsF (k + 1) p).length + (1 + tks p) = p.length + 1
    omega
  | false :: p, k => by
    have := tms_len p k
    show (tmsF k p).length + 1 + (0 + tks p) = p.length + 1
    omega
section
variable {P : Program} {w : World} {K : PySem.W.Frag} {mg : Str → Option Value} {base : Heap}
def spObsN : Sp := fun vs H Q _ => ∃ (a b : Addr) (ts fs : List Int), vs = [.ref a, .ref b] ∧ Sq H a (vI ts) ∧ Sq H b (vI fs) ∧ IsPl ts ∧ fs.Perm ts ∧ Poss ts fs ∧ ∀ H', Same H H' → Q .non H'
theorem ok_obstruction {f : Addr} {fd : FuncData} (D_checked_pair : Df P w K mg base 4 "checked_pair" [] spCheckedPair) (D_obstruction_of : Df P w K mg base 3 "obstruction_of" [] spObsNone) (F : Fun K "obstruction" "obstruction" Sobstruction f fd) : FnG P w K mg base 5 f fd ["takes", "fills"] spObsN := by
  refine gok F scobstruction (fun vs H Q E h => ?_) (fun cdv A fs s H vs Q E hG hr h => ?_)
  · obtain ⟨_, _, _, _, rfl, _⟩ := h; rfl
  · obtain ⟨a, b, ts, fl, rfl, hA, hB, hL, hp, hP, q⟩ := h
    have hu := hr.units
    refine ⟨_, (pss_cons (ps_asg (pe_df D_checked_pair hG (hr.mono (by first | decide | omega)) passL (by rfl) (pa_cons (pv 0) (pa_cons (pv 1) pa_nil))) (k_gtup (n := 2) K rfl (pgs_cons (pg_name (i := 2) scobstruction.nd rfl (Or.inl rfl)) (pgs_cons (pg_name (i := 3) scobstruction.nd rfl (Or.inl rfl)) pgs_nil)))) (pss_one (ps_ret (pe_df D_obstruction_of hG (hr.mono (by first | decide | omega)) passL (by rfl) (pa_cons (pv 2) (pa_cons (pv 3) pa_nil)))))), ?_⟩
    walk_at "s"
    refine ⟨a, b, ts, fl, rfl, hA, hB, hL, hp, fun H1 t p1 p2 s1 nt n1 n2 n12 ht h1 h2 => ?_⟩
    walk_at "s"
    have tl := hL.top
    refine ⟨p1, p2, ts, fl, rfl, h1, h2, hL.nd, by omega, hp, hP, fun H2 s2 => ?_⟩
    exact q _ (s1.trans s2)
def spPossT : Sp := fun vs H Q _ => ∃ (a b : Addr) (ts fs : List Int), vs = [.ref a, .ref b] ∧ Sq H a (vI ts) ∧ Sq H b (vI fs) ∧ IsPl ts ∧ fs.Perm ts ∧ Poss ts fs ∧ ∀ H', Same H H' → Q (.bl true) H'
theorem ok_is_possible {f : Addr} {fd : FuncData} (D_obstruction : Df P w K mg base 5 "obstruction" [] spObsN) (F : Fun K "is_possible" "is_possible" Sis_possible f fd) : FnG P w K mg base 6 f fd ["takes", "fills"] spPossT := by
  refine gok F scis_possible (fun vs H Q E h => ?_) (fun cdv A fs s H vs Q E hG hr h => ?_)
  · obtain ⟨_, _, _, _, rfl, _⟩ := h; rfl
  · obtain ⟨a, b, ts, fl, rfl, hA, hB, hL, hp, hP, q⟩ := h
    have hu := hr.units
    refine ⟨_, (pss_one (ps_ret (pe_cmpR op_isN' (pe_df D_obstruction hG (hr.mono (by first | decide | omega)) passL (by rfl) (pa_cons (pv 0) (pa_cons (pv 1) pa_nil))) pe_non (nomark _)))), ?_⟩
    walk_at "s"
    refine ⟨a, b, ts, fl, rfl, hA, hB, hL, hp, hP, fun H1 s1 => ?_⟩
    walk_at "s"
    exact q _ s1
def spIsResult : Sp := fun vs H Q _ => ∃ (a b : Addr) (ts rs : List Int) (p : List Bool), vs = [.ref a, .str (pS p), .ref b] ∧ Sq H a (vI ts) ∧ IsPl ts ∧ IsPat p ts.length ∧ Sq H b (vI rs) ∧ rs.Perm ts ∧ (∀ (j : Nat) (y t : Int), rs[j]? = some y → (tmsF 0 p)[j]? = some t → nb ts y < t) ∧ ∀ H', Same H H' → Q (.bl true) H'
theorem ok_is_result {f : Addr} {fd : FuncData} (B : Bn mg) (c_TAKING : Gc mg "TAKING" (.str "T")) (D_checked_places : Df P w K mg base 3 "checked_places" [] spCheckedPlaces) (D_check_pattern : Df P w K mg base 2 "check_pattern" [] spCheckPattern) (D_is_place_list : Df P w K mg base 2 "is_place_list" [] spIsPlaceList) (D_numbered : Df P w K mg base 1 "numbered" [] spNumbered) (F : Fun K "is_result" "is_result" Sis_result f fd) : FnG P w K mg base 4 f fd ["takes", "pattern", "books"] spIsResult := by
  refine gok F scis_result (fun vs H Q E h => ?_) (fun cdv A fs s H vs Q E hG hr h => ?_)
  · obtain ⟨_, _, _, _, _, rfl, _⟩ := h; rfl
  · obtain ⟨a, b, ts, rs, p, rfl, hA, hL, hP, hB, hp, hlt, q⟩ := h
    have hu := hr.units
    refine ⟨_, (pss_cons (ps_set (i := 3) scis_result.nd rfl (Or.inl rfl) (pe_df D_checked_places hG (hr.mono (by first | decide | omega)) passL (by rfl) (pa_cons (pv 0) pa_nil))) (pss_cons (ps_expr (pe_df D_check_pattern hG (hr.mono (by first | decide | omega)) passL (by rfl) (pa_cons (pv 1) (pa_cons (pe_callB (k_len K) (by rfl) B.len Blen (pa_cons (pv 3) pa_nil)) pa_nil)))) (pss_cons (ps_if (pw_or (pt_not (pt_val (pe_df D_is_place_list hG (hr.mono (by first | decide | omega)) passL (by rfl) (pa_cons (pv 2) pa_nil)))) (pw_or1 (pt_cmpR (k_neD K hu) (pe_callB (call_or (k_sorted K) (k_sortedU K)) (by rfl) B.sorted Bsorted (pa_cons (pv 2) pa_nil)) (pe_callB (k_sorted K) (by rfl) B.sorted Bsorted (pa_cons (pv 3) pa_nil)) (nomark _)))).pt (pss_one ps_never) pss_nil) (pss_cons (ps_set (i := 4) scis_result.nd rfl (Or.inl rfl) (pe_df D_numbered hG (hr.mono (by first | decide | omega)) passL (by rfl) (pa_cons (pv 3) pa_nil))) (pss_cons (ps_asg (pe_tup (pa_cons pe_int (pa_cons pe_int pa_nil))) (k_gtup (n := 2) K rfl (pgs_cons (pg_name (i := 5) scis_result.nd rfl (Or.inl rfl)) (pgs_cons (pg_name (i := 6) scis_result.nd rfl (Or.inl rfl)) pgs_nil)))) (pss_cons (ps_for (passes_of rfl) rfl (pi_str (pv 1)) (pg_name (i := 7) scis_result.nd rfl (Or.inl rfl)) (pss_one (ps_if (pt_cmpR op_eq (pv 7) (pe_gc c_TAKING (by rfl)) (nomark _)) (pss_one (ps_aug (i := 5) scis_result.nd rfl (Or.inl rfl) pe_int ip_add)) (pss_cons (ps_if (pt_cmpR op_ge (pe_dget (hu1 hu) (pv 4) (pe_ix (ix_or (k_ixL K) (k_ixT K)) (pv 2) (pv 6) (fun _ _ => rfl)) (fun _ _ => rfl)) (pv 5) (nomark _)) (pss_one (ps_ret pe_bl)) pss_nil) (pss_one (ps_aug (i := 6) scis_result.nd rfl (Or.inl rfl) pe_int ip_add)))))) (pss_one (ps_ret pe_bl)))))))), ?_⟩
    walk_at "s"
    refine ⟨a, ts, rfl, hA, hL, fun H1 c s1 nc hc => ?_⟩
    walk_at "s"
    rw [vI_len]
    refine ⟨p, ts.length, rfl, hP, fun H2 s2 => ?_⟩
    walk_at "s"
    refine ⟨b, rs, rfl, (s1.trans s2).sq hB, hL.perm' hp, fun H3 s3 => ?_⟩
    have s13 := (s1.trans s2).trans s3
    have hB3 := s13.sq hB
    have hc3 := (s2.trans s3) _ _ hc
    walk_at "s"
    refine r_sortSq hB3 fun l1 u1 hl1 hs1 nu1 => ?_
    have s4 := same_new (o := .lst (vI l1)) nu1
    have hu1 : upd H3 u1 (.lst (vI l1)) u1 = some (.lst (vI l1)) := upd_same
    have hc4 := s4 _ _ hc3
    generalize upd H3 u1 (.lst (vI l1)) = H4 at *
    walk_at "s"
    refine r_sortI (lst_of hc4) fun l2 u2 hl2 hs2 nu2 => ?_
    have s5 := same_new (o := .lst (vI l2)) nu2
    have hu2 : upd H4 u2 (.lst (vI l2)) u2 = some (.lst (vI l2)) := upd_same
    have hu15 := s5 _ _ hu1
    have hc5 := s5 _ _ hc4
    have hB5 := (s4.trans s5).sq hB3
    have s15 := (s13.trans s4).trans s5
    generalize upd H4 u2 (.lst (vI l2)) = H5 at *
    have el : l1 = l2 := perm_le_eq ((hl1.trans hp).trans hl2.symm) hs1 hs2
    refine r_neLI (lst_of hu15) (lst_of hu2) ?_
    rw [decide_eq_true el]
    walk_at "s"
    have tl := hL.top
    refine ⟨c, ts, rfl, hc5, hL.nd, by omega, fun H6 d s6 nd hd => ?_⟩
    have hB6 := s6.sq hB5
    have s16 := s15.trans s6
    walk_at "s"
    intro u nu
    have s7 := same_new (o := .tup [.int 0, .int 0]) nu
    have hu7 : upd H6 u (.tup [.int 0, .int 0]) u = some (.tup [.int 0, .int 0]) := upd_same
    have hB7 := s7.sq hB6
    have hd7 := hd.same s7
    have s17 := s16.trans s7
    generalize upd H6 u (.tup [.int 0, .int 0]) = H7 at *
    walk_at "s"
    refine ⟨pS p, rfl, ?_⟩
    refine for_src (src_str (x := pS p)) (fun i σ H' => ∃ v7, σ = [some (.ref a), some (.str (pS p)), some (.ref b), some (.ref c), some (.ref d), some (.int ((tks (p.take i) : Nat) : Int)), some (.int (((tmsF 0 (p.take i)).length : Nat) : Int)), v7] ∧ Same H7 H') (fun _ _ _ _ => trivial) ⟨none, by rw [List.take_zero] <;> rfl, Same.refl _⟩ ?_ ?_
    · rintro i v σ H8 H9 hi ⟨v7, rfl, s8⟩ ⟨rfl, ch, hch, rfl⟩
      obtain ⟨bb, hb, eb⟩ := pS_at hch
      rw [eb]
      have et : tks (p.take (i + 1)) = tks (p.take i) + (if bb then 1 else 0) := by rw [take_succ hb, tks_app]
      have em : tmsF 0 (p.take (i + 1)) = tmsF 0 (p.take i) ++ (if bb then [] else [((0 + tks (p.take i) : Nat) : Int)]) := by rw [take_succ hb, tmsF_app]
      have hB8 := s8.sq hB7
      have hd8 := hd7.same s8
      walk_at "s"
      rw [sB_T]
      cases bb with
      | true =>
        rw [et, em]
        walk_at "s"
        refine ⟨_, by simp only [if_true, List.append_nil, Int.natCast_add, Int.natCast_one, List.set_cons_succ, List.set_cons_zero]; rfl, s8⟩
      | false =>
        walk_at "s"
        have jl : (tmsF 0 (p.take i)).length < rs.length := by
          have h1 := (List.getElem?_eq_some_iff.mp (tms_at hb)).1
          have h2 := tms_len p 0
          have h3 := hP.tks
          have h4 := hP.len
          have h5 := hp.length_eq
          omega
        have hlt' := hlt _ _ _ (List.getElem?_eq_getElem jl) (tms_at hb)
        have hym : rs[(tmsF 0 (p.take i)).length] ∈ ts := hp.mem_iff.mp (List.getElem_mem jl)
        have ex : atI (vI rs) (((tmsF 0 (p.take i)).length : Nat) : Int) = some (.int rs[(tmsF 0 (p.take i)).length]) := atI_nat (vI_at jl)
        refine r_dget ?_
        walk_at "s"
        refine r_ixLT hB8 ex ?_
        refine hd8.get (ixO_mem hym) ?_
        walk_at "s"
        refine ifDF (by omega) ?_
        walk_at "s"
        rw [et, em]
        refine ⟨some (.str (sB false)), ?_, s8⟩
        have el : ((((tmsF 0 (p.take i)).length : Nat) : Int) + 1) = (((tmsF 0 (p.take i) ++ [((0 + tks (p.take i) : Nat) : Int)]).length : Nat) : Int) := by
          rw [List.length_append, List.length_singleton, Int.natCast_add]; rfl
        rw [el]
        rfl
    · rintro σ H8 ⟨v7, rfl, s8⟩
      walk_at "s"
      exact q _ (s17.trans s8)
end

abbrev Slaw_followed : Stmt := topS 49
abbrev Nlaw_followed : List Str := ["bag", "takes", "pattern", "way", "out", "found", "at", "letter", "spot"]
theorem sclaw_followed : FnScope Nlaw_followed ["bag", "takes", "pattern", "way"] (defScope Slaw_followed) := ⟨rfl, rfl, rfl, by decide +kernel, rfl, by decide +kernel, by decide +kernel⟩
abbrev Slaw_late : Stmt := topS 50
abbrev Nlaw_late : List Str := ["takes", "pattern"]
theorem sclaw_late : FnScope Nlaw_late ["takes", "pattern"] (defScope Slaw_late) := ⟨rfl, rfl, rfl, by decide +kernel, rfl, by decide +kernel, by decide +kernel⟩
abbrev Slaw_most : Stmt := topS 51
abbrev Nlaw_most : List Str := ["pattern", "out", "found", "letter"]
theorem sclaw_most : FnScope Nlaw_most ["pattern"] (defScope Slaw_most) := ⟨rfl, rfl, rfl, by decide +kernel, rfl, by decide +kernel, by decide +kernel⟩

theorem count_T5 (p : List Bool) : Txt.count (pS p) ("T" : Str) = (tks p : Nat) := by
  have e : ("T" : Str) = ⟨#[84]⟩ := by decide
  rw [e, count_cnt]
  show cnt 84 (p.map fun b => if b then 84 else 82).toArray.toList = _
  rw [List.toList_toArray]
  induction p with
  | nil => rfl
  | cons b p ih =>
    rw [List.map_cons, cnt_cons, ih]
    cases b <;> simp [tks] <;> omega
theorem vI_erase' : ∀ (a : List Int) (k : Nat), (vI a).eraseIdx k = vI (a.eraseIdx k)
  | [], _ => rfl
  | _ :: _, 0 => rfl
  | x :: a, k + 1 => congrArg (V.int x :: ·) (vI_erase' a k)
section
variable {P : Program} {w : World} {K : PySem.W.Frag} {mg : Str → Option Value} {base : Heap}
def spLate : Sp := fun vs H Q _ => ∃ (a : Addr) (ts : List Int) (p : List Bool), vs = [.ref a, .str (pS p)] ∧ H a = some (.lst (vI ts)) ∧ ts.Nodup ∧ IsPat p ts.length ∧ ∀ H', Same H H' → Q (.bl true) H'
theorem ok_law_late {f : Addr} {fd : FuncData} {k : Nat} (B : Bn mg) (F : Fun K "_law_late" "_law_late" Slaw_late f fd) : FnG P w K mg base (k + 1) f fd ["takes", "pattern"] spLate := by
  refine gok F sclaw_late (fun vs H Q E h => ?_) (fun cdv A fs s H vs Q E hG hr h => ?_)
  · obtain ⟨_, _, _, rfl, _⟩ := h; rfl
  · obtain ⟨a, ts, p, rfl, hA, hn, hP, q⟩ := h
    have hu := hr.units
    refine ⟨_, (pss_one (ps_ret (pe_and (pe_cmpR op_eq (pe_lenSet K (by rfl) B.len (by rfl) B.set (pv 0)) (pe_callB (k_len K) (by rfl) B.len Blen (pa_cons (pv 0) pa_nil)) (nomark _)) (pe_one (pe_cmpR op_eq (k_bmP K (pe_bm PySem.F.plainAttrs_str PySem.F.slot_str_count PySem.F.type_str_count mt_countS (pv 1) (pa_cons pe_str pa_nil))) (pe_callB (k_len K) (by rfl) B.len Blen (pa_cons (pv 0) pa_nil)) (nomark _)))))), ?_⟩
    walk_at "s"
    have pt := hP.top
    refine ⟨a, ts, rfl, .inl (lst_of hA), hn, by omega, ?_⟩
    walk_at "s"
    rw [vI_len]
    refine ifDT rfl ?_
    walk_at "s"
    rw [count_T5, hP.tks, vI_len]
    rw [decide_eq_true rfl]
    exact q _ (Same.refl _)
def spMost : Sp := fun vs H Q _ => ∃ (p : List Bool), vs = [.str (pS p)] ∧ p.length ≤ 400 ∧ ∀ H', Same H H' → Q (.int (mstF p).2) H'
theorem ok_law_most {f : Addr} {fd : FuncData} {k : Nat} (B : Bn mg) (F : Fun K "_law_most" "_law_most" Slaw_most f fd) : FnG P w K mg base (k + 1) f fd ["pattern"] spMost := by
  refine gok F sclaw_most (fun vs H Q E h => ?_) (fun cdv A fs s H vs Q E hG hr h => ?_)
  · obtain ⟨_, rfl, _⟩ := h; rfl
  · obtain ⟨p, rfl, pl, q⟩ := h
    have hu := hr.units
    refine ⟨_, (pss_cons (ps_asg (pe_tup (pa_cons pe_int (pa_cons pe_int pa_nil))) (k_gtup (n := 2) K rfl (pgs_cons (pg_name (i := 1) sclaw_most.nd rfl (Or.inl rfl)) (pgs_cons (pg_name (i := 2) sclaw_most.nd rfl (Or.inl rfl)) pgs_nil)))) (pss_cons (ps_for (passes_of rfl) rfl (pi_str (pv 0)) (pg_name (i := 3) sclaw_most.nd rfl (Or.inl rfl)) (pss_cons (ps_set (i := 1) sclaw_most.nd rfl (Or.inl rfl) (pe_op op_add (pv 1) (pe_ix (k_ixL K) (pe_lst (pa_cons (pe_un un_neg pe_int) (pa_cons pe_int pa_nil))) (pe_callTy call_int1' (by rfl) B.int Tint (pa_cons (pe_cmpR op_eq (pv 3) pe_str (nomark _)) pa_nil)) (fun _ _ => rfl)))) (pss_one (ps_set (i := 2) sclaw_most.nd rfl (Or.inl rfl) (pe_callB (call_max2' rfl) (by rfl) B.max Bmax (pa_cons (pv 2) (pa_cons (pv 1) pa_nil))))))) (pss_one (ps_ret (pv 2))))), ?_⟩
    walk_at "s"
    intro u nu
    have s1 := same_new (o := .tup [.int 0, .int 0]) nu
    have hu1 : upd H u (.tup [.int 0, .int 0]) u = some (.tup [.int 0, .int 0]) := upd_same
    generalize upd H u (.tup [.int 0, .int 0]) = H1 at *
    walk_at "s"
    refine ⟨pS p, rfl, ?_⟩
    refine for_src (src_str (x := pS p)) (fun i σ H' => ∃ v3, σ = [some (.str (pS p)), some (.int (mstF (p.take i)).1), some (.int (mstF (p.take i)).2), v3] ∧ Same H H') (fun _ _ _ _ => trivial) ⟨none, by rw [List.take_zero] <;> rfl, s1⟩ ?_ ?_
    · rintro i v σ H8 H9 hi ⟨v3, rfl, s8⟩ ⟨rfl, ch, hch, rfl⟩
      obtain ⟨bb, hb, eb⟩ := pS_at hch
      rw [eb, take_succ hb, mstF_app]
      generalize mstF (p.take i) = M
      obtain ⟨o, m⟩ := M
      walk_at "s"
      intro d nd
      have s9 := s8.trans (same_new (o := .lst [.int (-1), .int 1]) nd)
      have hd9 : upd H9 d (.lst [.int (-1), .int 1]) d = some (.lst [.int (-1), .int 1]) := upd_same
      generalize upd H9 d (.lst [.int (-1), .int 1]) = H10 at *
      walk_at "s"
      rw [sB_T]
      have e0 : atI [V.int (-1), V.int 1] 0 = some (.int (-1)) := rfl
      have e1 : atI [V.int (-1), V.int 1] 1 = some (.int 1) := rfl
      cases bb with
      | true =>
        walk_at "s"
        exact ⟨_, rfl, s9⟩
      | false =>
        walk_at "s"
        exact ⟨_, rfl, s9⟩
    · rintro σ H8 ⟨v3, rfl, s8⟩
      rw [pS_size, List.take_length]
      walk_at "s"
      exact q _ s8
def spFollowed : Sp := fun vs H Q _ => ∃ (r l a : Addr) (k way : Nat) (ts : List Int) (p : List Bool), vs = [.ref r, .ref a, .str (pS p), .int (way : Nat)] ∧ BagAt H r l k ∧ k < 10000000000 ∧ H a = some (.lst (vI ts)) ∧ a ≠ r ∧ ts.Perm (itg ts.length) ∧ IsPat p ts.length ∧ way < 3 ∧
  ∀ H' u as ops rets, BagAt H' r l (k + 400) → Kp r H H' → H u = none → TupsAt opV (fun _ => True) H' u as ops → Fol ts p ops rets → Q (.ref u) H'
theorem ok_law_followed {f : Addr} {fd : FuncData} (B : Bn mg) (D_law_draw : Df P w K mg base 2 "_law_draw" [] spDraw) (F : Fun K "_law_followed" "_law_followed" Slaw_followed f fd) : FnG P w K mg base 3 f fd ["bag", "takes", "pattern", "way"] spFollowed := by
  refine gok F sclaw_followed (fun vs H Q E h => ?_) (fun cdv A fs s H vs Q E hG hr h => ?_)
  · obtain ⟨_, _, _, _, _, _, _, rfl, _⟩ := h; rfl
  · obtain ⟨r, l, a, k, way, ts, p, rfl, hS, hk, hA, nar, hp, hP, hw, q⟩ := h
    have hu := hr.units
    refine ⟨_, (pss_cons (ps_par3 (i := 4) (j := 5) (l := 6) rfl sclaw_followed.nd rfl rfl rfl (by decide) (by decide) (by decide) rfl rfl rfl (pa_cons (pe_lst pa_nil) (pa_cons (pe_lst pa_nil) (pa_cons pe_int pa_nil))) (by with_unfolding_all rfl)) (pss_cons (ps_for (passes_of rfl) rfl (pi_str (pv 2)) (pg_name (i := 7) sclaw_followed.nd rfl (Or.inl rfl)) (pss_one (ps_if (pt_cmpR op_eq (pv 7) pe_str (nomark _)) (pss_cons (ps_expr (k_bmP K (pe_bm PySem.F.plainAttrs_list PySem.F.slot_list_append PySem.F.type_list_append mt_append (pv 4) (pa_cons (pe_ix (k_ixL K) (pv 1) (pv 6) (fun _ _ => rfl)) pa_nil)))) (pss_cons (ps_expr (k_bmP K (pe_bm PySem.F.plainAttrs_list PySem.F.slot_list_append PySem.F.type_list_append mt_append (pv 5) (pa_cons (pe_tup (pa_cons pe_str (pa_cons (pe_ix (k_ixL K) (pv 1) (pv 6) (fun _ _ => rfl)) pa_nil))) pa_nil)))) (pss_one (ps_set (i := 6) sclaw_followed.nd rfl (Or.inl rfl) (pe_op op_add (pv 6) pe_int))))) (pss_cons (ps_set (i := 8) sclaw_followed.nd rfl (Or.inl rfl) (pe_ix (k_ixL K) (pe_lst (pa_cons (pe_df D_law_draw hG (hr.mono (by first | decide | omega)) passL (by rfl) (pa_cons (pv 0) (pa_cons (pe_callB (k_len K) (by rfl) B.len Blen (pa_cons (pv 4) pa_nil)) pa_nil))) (pa_cons pe_int (pa_cons (pe_op op_sub (pe_callB (k_len K) (by rfl) B.len Blen (pa_cons (pv 4) pa_nil)) pe_int) pa_nil)))) (pv 3) (fun _ _ => rfl))) (pss_one (ps_expr (k_bmP K (pe_bm PySem.F.plainAttrs_list PySem.F.slot_list_append PySem.F.type_list_append mt_append (pv 5) (pa_cons (pe_tup (pa_cons pe_str (pa_cons (k_bmP K (pe_bm PySem.F.plainAttrs_list PySem.F.slot_list_pop PySem.F.type_list_pop mt_popAt (pv 4) (pa_cons (pv 8) pa_nil))) pa_nil))) pa_nil))))))))) (pss_one (ps_ret (pv 5))))), ?_⟩
    walk_at "s"
    intro o no
    have s1 := same_new (o := .lst []) no
    have hS1 := hS.same s1
    have hA1 := s1 _ _ hA
    have nor := hS.ne no
    have ho1 : upd H o (.lst []) o = some (.lst (vI [])) := upd_same
    have nao : a ≠ o := ne_new no hA
    generalize upd H o (.lst []) = H1 at *
    walk_at "s"
    intro u nu
    have s2 := same_new (o := .lst []) nu
    have hS2 := hS1.same s2
    have hA2 := s2 _ _ hA1
    have ho2 := s2 _ _ ho1
    have nur := hS1.ne nu
    have nou : o ≠ u := ne_new nu ho1
    have nau : a ≠ u := ne_new nu hA1
    have hu2 : TupsAt opV (fun _ => True) (upd H1 u (.lst [])) u [] ([] : List Op) := .nil upd_same
    have nu0 : H u = none := s1.free nu
    have s12 := s1.trans s2
    generalize upd H1 u (.lst []) = H2 at *
    walk_at "s"
    refine ⟨pS p, rfl, ?_⟩
    have pl := hP.len
    have ptop := hP.top
    refine for_src (src_str (x := pS p)) (fun i σ H' => ∃ v7 v8 as ops rets, σ = [some (.ref r), some (.ref a), some (.str (pS p)), some (.int (way : Nat)), some (.ref o), some (.ref u), some (.int ((tks (p.take i) : Nat) : Int)), v7, v8] ∧ BagAt H' r l (k + i) ∧ Kp r H H' ∧ H' a = some (.lst (vI ts)) ∧ H' o = some (.lst (vI (runP ts.length ops).1.2)) ∧ TupsAt opV (fun _ => True) H' u as ops ∧ Fol ts (p.take i) ops rets) (fun _ _ _ _ => trivial) ⟨none, none, [], [], [], by rw [List.take_zero] <;> rfl, hS2, Kp.of s12, hA2, ho2, hu2, by rw [List.take_zero]; exact Fol.nil hp⟩ ?_ ?_
    · rintro i v σ H4 H5 hi ⟨v7, v8, as, ops, rets, rfl, hS4, hK4, hA4, ho4, hu4, hF⟩ ⟨rfl, ch, hch, rfl⟩
      rw [pS_size] at hi
      obtain ⟨bb, hb, eb⟩ := pS_at hch
      rw [eb]
      have et : tks (p.take (i + 1)) = tks (p.take i) + (if bb then 1 else 0) := by rw [take_succ hb, tks_app]
      have ol : ops.length = i := by rw [hF.ln, List.length_take]; omega
      walk_at "s"
      rw [sB_T]
      cases bb with
      | true =>
        walk_at "s"
        have tkl : tks (p.take i) < ts.length := by
          have h1 := tks_take_le p (i + 1)
          have h2 := hP.tks
          rw [et, if_pos rfl] at h1
          omega
        have htx := List.getElem?_eq_getElem tkl
        have hx : atI (vI ts) ((tks (p.take i) : Nat) : Int) = some (.int ts[tks (p.take i)]) := atI_nat (vI_at tkl)
        have hF2 := hF.take hp htx
        rw [← take_succ hb] at hF2
        generalize ts[tks (p.take i)] = x at *
        have iv := hF.iv
        have tll : (runP ts.length ops).1.2.length ≤ 200 := by
          have := iv.all.length_eq
          rw [List.length_append, itg_len] at this
          omega
        refine r_ixL (lst_of hA4) hx ?_
        walk_at "s"
        have hA5 : upd H5 o (.lst (vI (runP ts.length ops).1.2 ++ [.int x])) a = some (.lst (vI ts)) := (upd_ne nao).trans hA4
        have ho5 : upd H5 o (.lst (vI (runP ts.length ops).1.2 ++ [.int x])) o = some (.lst (vI (runP ts.length ops).1.2 ++ [.int x])) := upd_same
        have hu5 := hu4.upd (o := .lst (vI (runP ts.length ops).1.2 ++ [.int x])) nou.symm ho4
        have hS5 : BagAt (upd H5 o (.lst (vI (runP ts.length ops).1.2 ++ [.int x]))) r l _ := hS4.upd nor
        have hK5 : Kp r H (upd H5 o (.lst (vI (runP ts.length ops).1.2 ++ [.int x]))) := hK4.put no
        have hup5 := hu5.hp
        generalize upd H5 o (.lst (vI (runP ts.length ops).1.2 ++ [.int x])) = H6 at *
        walk_at "s"
        intro w nw
        have s7 := same_new (o := .tup [.str "take", .int x]) nw
        have hw7 : upd H6 w (.tup [.str "take", .int x]) w = some (.tup (opV ⟨true, x⟩)) := upd_same
        have hA7 := s7 _ _ hA5
        have ho7 := s7 _ _ ho5
        have hu7 := hu5.same s7
        have hS7 := hS5.same s7
        have hK7 := hK5.trans (Kp.of s7)
        have hup7 := hu7.hp
        generalize upd H6 w (.tup [.str "take", .int x]) = H7 at *
        have asl : as.length ≤ 1000 := by rw [hu7.len]; omega
        walk_at "s"
        rw [et]
        have es : (runP ts.length (ops ++ [⟨true, x⟩])).1.2 = (runP ts.length ops).1.2 ++ [x] := by
          rw [runP_snoc]
          have hb0 := hF.rest _ _ (Nat.le_refl _) htx
          have hm := mem_itg.mp (hp.mem_iff.mp (List.mem_of_getElem? htx))
          show (runP ts.length ops).1.2 ++ [((runP ts.length ops).1.1.getD x.toNat none).getD 0] = _
          rw [List.getD_eq_getElem?_getD, hb0]
          rfl
        refine ⟨some (.str (sB true)), _, _, _, _, rfl, (hS7.upd nur).mono (by omega), hK7.put nu0, (upd_ne nau).trans hA7, ?_, hu7.app hw7 trivial, hF2⟩
        rw [es]
        exact (upd_ne nou).trans (ho7.trans (congrArg (fun l => some (HO.lst l)) (vI_app _ [x])))
      | false =>
        walk_at "s"
        have hpos := hP.pos (i + 1)
        have ed : dif (p.take (i + 1)) = dif (p.take i) + -1 := by rw [take_succ hb, dif_app]; rfl
        have cnt := hF.cnt
        have iv := hF.iv
        have tll : (runP ts.length ops).1.2.length ≤ 200 := by
          have := iv.all.length_eq
          rw [List.length_append, itg_len] at this
          omega
        rw [vI_len]
        refine ⟨r, l, _, _, rfl, hS4, by omega, by omega, two200 (by omega), fun d H6 d0 d1 hS6 hK6 => ?_⟩
        have hA6 := hK6.get nar hA4
        have ho6 := hK6.get nor.1.symm ho4
        obtain ⟨ys4, hry4⟩ : ∃ ys, H5 r = some (.lst ys) := by
          obtain ⟨cs, i, x, c, t, h, _⟩ := hS4
          exact ⟨_, h⟩
        have hu6 := hu4.kp hK6 hry4 nur.1.symm
        have hK06 := hK4.trans hK6
        obtain ⟨d, rfl⟩ := Int.eq_ofNat_of_zero_le d0
        walk_at "s"
        rw [vI_len]
        intro sp nsp
        have s7 := same_new (o := .lst [.int ((d : Nat) : Int), .int 0, .int (((runP ts.length ops).1.2.length : Nat) - 1 : Int)]) nsp
        have hA7 := s7 _ _ hA6
        have ho7 := s7 _ _ ho6
        have hu7 := hu6.same s7
        have hup7 := hu7.hp
        have hS7 := hS6.same s7
        have hK7 := hK06.trans (Kp.of s7)
        have hsp7 : upd H6 sp (.lst [.int ((d : Nat) : Int), .int 0, .int (((runP ts.length ops).1.2.length : Nat) - 1 : Int)]) sp = some (.lst [.int ((d : Nat) : Int), .int 0, .int (((runP ts.length ops).1.2.length : Nat) - 1 : Int)]) := upd_same
        generalize upd H6 sp (.lst [.int ((d : Nat) : Int), .int 0, .int (((runP ts.length ops).1.2.length : Nat) - 1 : Int)]) = H7 at *
        obtain ⟨j, hj, hjl⟩ : ∃ j : Nat, atI [V.int ((d : Nat) : Int), V.int 0, V.int (((runP ts.length ops).1.2.length : Nat) - 1 : Int)] ((way : Nat) : Int) = some (.int ((j : Nat) : Int)) ∧ j < (runP ts.length ops).1.2.length := by
          have : way = 0 ∨ way = 1 ∨ way = 2 := by omega
          rcases this with rfl | rfl | rfl
          · exact ⟨d, rfl, by omega⟩
          · exact ⟨0, rfl, by omega⟩
          · refine ⟨(runP ts.length ops).1.2.length - 1, ?_, by omega⟩
            show some (V.int _) = some (V.int _)
            rw [show (((runP ts.length ops).1.2.length - 1 : Nat) : Int) = ((runP ts.length ops).1.2.length : Int) - 1 by omega]
        walk_at "s"
        have hdx : (vI (runP ts.length ops).1.2)[((j : Nat) : Int).toNat]? = some (.int (runP ts.length ops).1.2[j]) := by rw [Int.toNat_natCast]; exact vI_at hjl
        have ee : (runP ts.length ops).1.2.erase (runP ts.length ops).1.2[j] = (runP ts.length ops).1.2.eraseIdx j := erase_at iv.nd hjl
        have hF2 := hF.ret hp (List.getElem_mem hjl)
        rw [← take_succ hb] at hF2
        generalize (runP ts.length ops).1.2[j] = x at *
        refine r_popAt ho7 (by omega) (by rw [vI_len]; omega) (by rw [vI_len]; omega) hdx ?_
        rw [Int.toNat_natCast, vI_erase']
        have ho8 : upd H7 o (.lst (vI ((runP ts.length ops).1.2.eraseIdx j))) o = some (.lst (vI ((runP ts.length ops).1.2.eraseIdx j))) := upd_same
        have hA8 : upd H7 o (.lst (vI ((runP ts.length ops).1.2.eraseIdx j))) a = some (.lst (vI ts)) := (upd_ne nao).trans hA7
        have hu8 := hu7.upd (o := .lst (vI ((runP ts.length ops).1.2.eraseIdx j))) nou.symm ho7
        have hS8 : BagAt (upd H7 o (.lst (vI ((runP ts.length ops).1.2.eraseIdx j)))) r l _ := hS7.upd nor
        have hK8 : Kp r H (upd H7 o (.lst (vI ((runP ts.length ops).1.2.eraseIdx j)))) := hK7.put no
        generalize upd H7 o (.lst (vI ((runP ts.length ops).1.2.eraseIdx j))) = H8 at *
        walk_at "s"
        intro w nw
        have s9 := same_new (o := .tup [.str "return", .int x]) nw
        have hw9 : upd H8 w (.tup [.str "return", .int x]) w = some (.tup (opV ⟨false, x⟩)) := upd_same
        have hu9 := hu8.same s9
        have hup9 := hu9.hp
        have asl : as.length ≤ 1000 := by rw [hu9.len]; omega
        walk_at "s"
        rw [et]
        have es : (runP ts.length (ops ++ [⟨false, x⟩])).1.2 = (runP ts.length ops).1.2.eraseIdx j := by
          rw [runP_snoc]
          exact ee
        refine ⟨some (.str (sB false)), _, _, _, _, rfl, ((hS8.same s9).upd nur).mono (by omega), (hK8.trans (Kp.of s9)).put nu0, (upd_ne nau).trans (s9 _ _ hA8), ?_, hu9.app hw9 trivial, hF2⟩
        rw [es]
        exact (upd_ne nou).trans (s9 _ _ ho8)
    · rintro σ H4 ⟨v7, v8, as, ops, rets, rfl, hS4, hK4, hA4, ho4, hu4, hF⟩
      rw [pS_size] at hS4 hF
      rw [List.take_length] at hF
      walk_at "s"
      exact q _ u as ops rets (hS4.mono (by omega)) hK4 nu0 hu4 hF
end

/-! ### the end of a schedule that follows a whole pattern -/
def bkAt (bs : List (Option Int)) (x : Int) : Int := (bs.getD x.toNat none).getD 0
theorem all_some : ∀ {bs : List (Option Int)}, none ∉ bs → bs = (inb bs).map some
  | [], _ => rfl
  | none :: bs, h => absurd (List.mem_cons_self ..) h
  | some x :: bs, h => congrArg (some x :: ·) (all_some fun z => h (List.mem_cons_of_mem _ z))
theorem inb_at {bs : List (Option Int)} (h : none ∉ bs) : (itg bs.length).map (bkAt bs) = inb bs := by
  have e := all_some h
  refine List.ext_getElem? fun j => ?_
  unfold itg
  rw [List.map_map, List.getElem?_map]
  by_cases hj : j < bs.length
  · rw [List.getElem?_range hj]
    have e1 : bs[j]? = ((inb bs).map some)[j]? := congrArg (·[j]?) e
    rw [List.getElem?_map] at e1
    show some (bkAt bs ((j : Nat) : Int)) = _
    unfold bkAt
    rw [Int.toNat_natCast, List.getD_eq_getElem?_getD, e1]
    cases z : (inb bs)[j]? with
    | none =>
      rw [z, List.getElem?_eq_getElem hj] at e1
      cases e1
    | some y => rfl
  · have l1 := congrArg List.length e
    rw [List.length_map] at l1
    rw [List.getElem?_eq_none (by rw [List.length_range]; omega), List.getElem?_eq_none (by omega)]
    rfl
structure FolEnd (ts : List Int) (p : List Bool) (ops : List Op) (rets : List Int) : Prop where
  out : (runP ts.length ops).1.2 = []
  len : (runP ts.length ops).1.1.length = ts.length
  bks : vB (runP ts.length ops).1.1 = vI (inb (runP ts.length ops).1.1)
  all : (inb (runP ts.length ops).1.1).Perm (itg ts.length)
  rp : rets.Perm ts
  at_ : ∀ (j : Nat) (x : Int), (fillF ts p)[j]? = some x → ∃ y, rets[j]? = some y ∧ atI (vI (inb (runP ts.length ops).1.1)) x = some (.int y)
  rlen : rets.length = (fillF ts p).length
  lt : ∀ (j : Nat) (y t : Int), rets[j]? = some y → (tmsF 0 p)[j]? = some t → nb ts y < t
theorem Fol.done {ts : List Int} (hp : ts.Perm (itg ts.length)) {p : List Bool} {ops : List Op} {rets : List Int} (h : Fol ts p ops rets) (hP : IsPat p ts.length) : FolEnd ts p ops rets := by
  have hn : ts.Nodup := hp.nodup_iff.mpr (itg_nd _)
  have iv := h.iv
  have tk0 : (runP ts.length ops).1.2 = [] := by
    have := h.cnt
    rw [hP.nul] at this
    exact List.length_eq_zero_iff.mp (by omega)
  have nn : none ∉ (runP ts.length ops).1.1 := fun z => by
    have c := iv.cnt
    rw [tk0] at c
    have := List.count_pos_iff.mpr z
    rw [c] at this
    exact absurd this (by decide)
  have e := all_some nn
  have bks : vB (runP ts.length ops).1.1 = vI (inb (runP ts.length ops).1.1) := by
    unfold vB vI
    conv => lhs; rw [e]
    rw [List.map_map]
    rfl
  have all : (inb (runP ts.length ops).1.1).Perm (itg ts.length) := by
    have := iv.all
    rwa [tk0, List.append_nil] at this
  have fp : (fillF ts p).Perm ts := (pat_lead hn hP).2.1
  have er : rets = (fillF ts p).map (bkAt (runP ts.length ops).1.1) := by
    refine List.ext_getElem? fun j => ?_
    rw [List.getElem?_map]
    by_cases hj : j < (fillF ts p).length
    · have hj2 : j < rets.length := by rw [h.rl]; exact hj
      have hj3 : j < (tmsF 0 p).length := by rw [h.tl]; exact hj
      obtain ⟨r1, _⟩ := h.res j _ _ _ (List.getElem?_eq_getElem hj) (List.getElem?_eq_getElem hj2) (List.getElem?_eq_getElem hj3)
      rw [List.getElem?_eq_getElem hj, List.getElem?_eq_getElem hj2]
      show some rets[j] = some (bkAt _ _)
      unfold bkAt
      rw [List.getD_eq_getElem?_getD, r1]
      rfl
    · rw [List.getElem?_eq_none (by rw [h.rl]; omega), List.getElem?_eq_none (by omega)]
      rfl
  refine ⟨tk0, iv.len, bks, all, ?_, fun j x hx => ?_, h.rl, fun j y t e1 e2 => ?_⟩
  · have : rets.Perm (inb (runP ts.length ops).1.1) := by
      rw [er, ← inb_at nn, iv.len]
      exact (fp.trans hp).map _
    exact (this.trans all).trans hp.symm
  · have hj := (List.getElem?_eq_some_iff.mp hx).1
    have hj2 : j < rets.length := by rw [h.rl]; exact hj
    have hj3 : j < (tmsF 0 p).length := by rw [h.tl]; exact hj
    obtain ⟨r1, _⟩ := h.res j _ _ _ hx (List.getElem?_eq_getElem hj2) (List.getElem?_eq_getElem hj3)
    refine ⟨rets[j], List.getElem?_eq_getElem hj2, ?_⟩
    have hm := mem_itg.mp ((fp.trans hp).mem_iff.mp (List.mem_of_getElem? hx))
    rw [← bks]
    have := atI_nat (vB_at r1)
    rwa [Int.toNat_of_nonneg hm.1] at this
  · have hj := (List.getElem?_eq_some_iff.mp e1).1
    obtain ⟨_, r2, _⟩ := h.res j _ _ _ (List.getElem?_eq_getElem (show j < (fillF ts p).length by rw [← h.rl]; exact hj)) e1 e2
    exact r2
def vInt : V → Int
  | .int i => i
  | _ => 0
theorem vI_of_perm {ys : List V} {ns : List Int} (h : ys.Perm (vI ns)) : ∃ ms, ys = vI ms ∧ ms.Perm ns := by
  have key : ∀ (ys : List V), (∀ y ∈ ys, ∃ i, y = V.int i) → ∃ ms, ys = vI ms := fun ys => by
    induction ys with
    | nil => exact fun _ => ⟨[], rfl⟩
    | cons y ys ih =>
      intro h
      obtain ⟨i, rfl⟩ := h y (List.mem_cons_self ..)
      obtain ⟨ms, rfl⟩ := ih fun x hx => h x (List.mem_cons_of_mem _ hx)
      exact ⟨i :: ms, rfl⟩
  obtain ⟨ms, rfl⟩ := key ys fun y hy => by
    obtain ⟨i, _, rfl⟩ := List.mem_map.mp (h.mem_iff.mp hy)
    exact ⟨i, rfl⟩
  refine ⟨ms, rfl, ?_⟩
  have e : ∀ l : List Int, (vI l).map vInt = l := fun l => by
    induction l with
    | nil => rfl
    | cons x l ih => exact congrArg (x :: ·) ih
  have := h.map vInt
  rwa [e, e] at this

abbrev Slaw_right : Stmt := topS 52
abbrev Nlaw_right : List Str := ["bag", "count", "takes", "pattern", "fills", "way", "rows", "books", "place"]
theorem sclaw_right : FnScope Nlaw_right ["bag", "count"] (defScope Slaw_right) := ⟨rfl, rfl, rfl, by decide +kernel, rfl, by decide +kernel, by decide +kernel⟩
abbrev Slaw : Stmt := topS 53
abbrev Nlaw : List Str := ["script", "bag", "turn", "count"]
theorem sclaw : FnScope Nlaw ["script"] (defScope Slaw) := ⟨rfl, rfl, rfl, by decide +kernel, rfl, by decide +kernel, by decide +kernel⟩

theorem rows_of5 {G : Addr → Prop} {H : Hp} {p : Addr} {as : List Addr} {qs : List Op} (h : TupsAt opV G H p as qs) : RowsIn H p as qs := ⟨.inl h.hp, h.len, fun i a q e1 e2 => .inr (h.it i a q e1 e2).1⟩
section
variable {P : Program} {w : World} {K : PySem.W.Frag} {mg : Str → Option Value} {base : Heap}
def spRight5 : Sp := fun vs H Q _ => ∃ (r l : Addr) (k n : Nat), vs = [.ref r, .int (n : Nat)] ∧ BagAt H r l k ∧ k < 100000000 ∧ 1 ≤ n ∧ n ≤ 200 ∧ ∀ H', BagAt H' r l (k + 5000) → Q (.bl true) H'
theorem ok_law_right {f : Addr} {fd : FuncData} (B : Bn mg) (D_law_shuffled : Df P w K mg base 3 "_law_shuffled" [] spShuffled) (D_law_pattern : Df P w K mg base 3 "_law_pattern" [] spPattern) (D_law_late : Df P w K mg base 1 "_law_late" [] spLate) (D_fills_by : Df P w K mg base 4 "fills_by" [] spFillsBy) (D_is_possible : Df P w K mg base 6 "is_possible" [] spPossT)
    (D_law_followed : Df P w K mg base 3 "_law_followed" [] spFollowed) (D_is_schedule : Df P w K mg base 5 "is_schedule" [] spIsSched) (D_places_filled : Df P w K mg base 5 "places_filled" [] spFilledP) (D_books_out : Df P w K mg base 5 "books_out" [] spBooksOut) (D_books_after : Df P w K mg base 5 "books_after" [] spBooksAfter) (D_most_out : Df P w K mg base 5 "most_out" [] spMostOut)
    (D_law_most : Df P w K mg base 1 "_law_most" [] spMost) (D_is_result : Df P w K mg base 4 "is_result" [] spIsResult) (F : Fun K "_law_right" "_law_right" Slaw_right f fd) : FnG P w K mg base 7 f fd ["bag", "count"] spRight5 := by
  refine gok F sclaw_right (fun vs H Q E h => ?_) (fun cdv A fs s H vs Q E hG hr h => ?_)
  · obtain ⟨_, _, _, _, rfl, _⟩ := h; rfl
  · obtain ⟨r, l, k, n, rfl, hS, hk, n1, n2, q⟩ := h
    have hu := hr.units
    refine ⟨_, (pss_cons (ps_par (i := 2) (j := 3) rfl sclaw_right.nd rfl rfl (by decide) rfl rfl (pa_cons (pe_df D_law_shuffled hG (hr.mono (by first | decide | omega)) passL (by rfl) (pa_cons (pv 0) (pa_cons (pe_listRg rfl (by rfl) B.list (prg_1 (by rfl) B.range (pv 1))) pa_nil))) (pa_cons (pe_df D_law_pattern hG (hr.mono (by first | decide | omega)) passL (by rfl) (pa_cons (pv 0) (pa_cons (pv 1) pa_nil))) pa_nil)) (by with_unfolding_all rfl)) (pss_cons (ps_if (pt_not (pt_val (pe_df D_law_late hG (hr.mono (by first | decide | omega)) passL (by rfl) (pa_cons (pv 2) (pa_cons (pv 3) pa_nil))))) (pss_one (ps_ret pe_bl)) pss_nil) (pss_cons (ps_set (i := 4) sclaw_right.nd rfl (Or.inl rfl) (pe_df D_fills_by hG (hr.mono (by first | decide | omega)) passL (by rfl) (pa_cons (pv 2) (pa_cons (pv 3) pa_nil)))) (pss_cons (ps_if (pt_cmpR op_notB (pe_df D_is_possible hG (hr.mono (by first | decide | omega)) passL (by rfl) (pa_cons (pv 2) (pa_cons (pv 4) pa_nil))) pe_bl (nomark _)) (pss_one (ps_ret pe_bl)) pss_nil) (pss_cons (ps_for (passes_of rfl) rfl (pi_range1 (by rfl) B.range (pa_cons pe_int pa_nil)) (pg_name (i := 5) sclaw_right.nd rfl (Or.inl rfl)) (pss_cons (ps_set (i := 6) sclaw_right.nd rfl (Or.inl rfl) (pe_df D_law_followed hG (hr.mono (by first | decide | omega)) passL (by rfl) (pa_cons (pv 0) (pa_cons (pv 2) (pa_cons (pv 3) (pa_cons (pv 5) pa_nil)))))) (pss_cons (ps_if (pw_or (pt_cmpR op_notB (pe_df D_is_schedule hG (hr.mono (by first | decide | omega)) passL (by rfl) (pa_cons (pv 1) (pa_cons (pv 6) pa_nil))) pe_bl (nomark _)) (pw_or (pt_cmpR (k_neD K hu) (pe_df D_places_filled hG (hr.mono (by first | decide | omega)) passL (by rfl) (pa_cons (pv 1) (pa_cons (pv 6) pa_nil))) (pv 4) (nomark _)) (pw_or1 (pt_cmpR (k_neD K hu) (pe_df D_books_out hG (hr.mono (by first | decide | omega)) passL (by rfl) (pa_cons (pv 1) (pa_cons (pv 6) pa_nil))) (pe_lst pa_nil) (nomark _))))).pt (pss_one (ps_ret pe_bl)) pss_nil) (pss_cons (ps_set (i := 7) sclaw_right.nd rfl (Or.inr rfl) (pe_df D_books_after hG (hr.mono (by first | decide | omega)) passL (by rfl) (pa_cons (pv 1) (pa_cons (pv 6) pa_nil)))) (pss_cons (ps_if (pw_or (pt_cmpR (k_neD K hu) (pe_callB (k_sorted K) (by rfl) B.sorted Bsorted (pa_cons (pv 7) pa_nil)) (pe_listRg rfl (by rfl) B.list (prg_1 (by rfl) B.range (pv 1))) (nomark _)) (pw_or1 (pt_cmpR op_ne (pe_df D_most_out hG (hr.mono (by first | decide | omega)) passL (by rfl) (pa_cons (pv 1) (pa_cons (pv 6) pa_nil))) (pe_df D_law_most hG (hr.mono (by first | decide | omega)) passL (by rfl) (pa_cons (pv 3) pa_nil)) (nomark _)))).pt (pss_one (ps_ret pe_bl)) pss_nil) (pss_one (ps_if (pt_cmpR op_notB (pe_df D_is_result hG (hr.mono (by first | decide | omega)) passL (by rfl) (pa_cons (pv 2) (pa_cons (pv 3) (pa_cons (pe_lc (own := [("place", 8)]) rfl sclaw_right.nd (k_piL K (pv 4)) (blkOk_by (own := [("place", 8)]) (N := Nlaw_right) (sc := defScope Slaw_right) (by decide +kernel)) (fun _ _ _ _ _ => (pg_name (i := 8) sclaw_right.nd rfl (Or.inl rfl))) (fun _ _ _ _ _ => pts_nil) (fun _ _ _ _ _ => (pe_ix (k_ixL K) (pv 7) (pv 8) (fun _ _ => rfl)))) pa_nil)))) pe_bl (nomark _)) (pss_one (ps_ret pe_bl)) pss_nil))))))) (pss_one (ps_ret pe_bl))))))), ?_⟩
    walk_at "s"
    refine ⟨⟨by omega, by omega, by omega, by omega, by omega⟩, fun z nz => ?_⟩
    rw [rgV_itg]
    have s1 := same_new (o := .lst (vI (itg n))) nz
    have hS1 := hS.same s1
    have hz1 : upd H z (.lst (vI (itg n))) z = some (.lst (vI (itg n))) := upd_same
    have nzr := (hS.ne nz).1.symm
    generalize upd H z (.lst (vI (itg n))) = H1 at *
    walk_at "s"
    refine ⟨r, l, z, _, _, rfl, hS1, by rw [vI_len, itg_len]; omega, .inl hz1, nzr, by rw [vI_len, itg_len]; omega, fun ys a H2 hys hS2 hK2 na ha => ?_⟩
    obtain ⟨ts, rfl, hts⟩ := vI_of_perm hys
    have htl : ts.length = n := by rw [hts.length_eq, itg_len]
    have hp : ts.Perm (itg ts.length) := by rw [htl]; exact hts
    have hL : IsPl ts := ⟨by omega, fun x hx => by
      have := mem_itg.mp (hts.mem_iff.mp hx)
      omega, hts.nodup_iff.mpr (itg_nd n)⟩
    have nar : a ≠ r := (hS1.ne na).1.symm
    walk_at "s"
    refine ⟨r, l, _, n, rfl, hS2, by rw [vI_len, itg_len]; omega, by omega, fun p H3 hP hS3 hK3 => ?_⟩
    have ha3 := hK3.get nar ha
    rw [← htl] at hP
    walk_at "s"
    refine ⟨a, ts, p, rfl, ha3, hL.nd, hP, fun H4 s4 => ?_⟩
    have ha4 := s4 _ _ ha3
    walk_at "s"
    refine ⟨a, ts, p, rfl, .inl ha4, hL, hP, fun H5 fi s5 nfi hfi => ?_⟩
    have ha5 := s5 _ _ ha4
    have s35 := s4.trans s5
    have hS5 := hS3.same s35
    obtain ⟨ld, hpm, z1, z2⟩ := pat_lead hL.nd hP
    have hPo : Poss ts (fillF ts p) := by
      have hbw := (Lead.iff (lo := 0) (P := prsF ts p) fun q _ hq => by have := nb_nn ts q.1; omega).mp ld
      rw [z1, z2] at hbw
      obtain ⟨tup', tlo, thi⟩ := hbw
      exact tlo.trans thi
    have nfr : fi ≠ r := fun e => by
      obtain ⟨cs, i, x, c, t, h, _⟩ := hS3.same s4
      rw [e, h] at nfi; cases nfi
    walk_at "s"
    refine ⟨a, fi, ts, fillF ts p, rfl, .inl ha5, .inl hfi, hL, hpm, hPo, fun H6 s6 => ?_⟩
    have ha6 := s6 _ _ ha5
    have hfi6 := s6 _ _ hfi
    have hS6 := hS5.same s6
    walk_at "s"
    refine r_notB ?_
    rw [decide_eq_true rfl]
    walk_at "s"
    refine ⟨_, rfl, by omega, by omega, ?_⟩
    refine for_src src_range (fun i σ H' => ∃ v5 v6 v7 v8, σ = [some (.ref r), some (.int (n : Nat)), some (.ref a), some (.str (pS p)), some (.ref fi), v5, v6, v7, v8] ∧ BagAt H' r l (k + n + 1000 + 400 * i) ∧ H' a = some (.lst (vI ts)) ∧ H' fi = some (.lst (vI (fillF ts p)))) (fun _ _ _ _ => trivial) ⟨none, none, none, none, rfl, hS6.mono (by rw [vI_len, itg_len]; omega), ha6, hfi6⟩ ?_ ?_
    · rintro i v σ H7 H8 hi ⟨v5, v6, v7, v8, rfl, hS7, ha7, hfi7⟩ ⟨rfl, rfl⟩
      have hi : i < 3 := by omega
      walk_at "s"
      rw [Int.zero_add]
      refine ⟨r, l, a, _, i, ts, p, rfl, hS7, by omega, ha7, nar, hp, hP, hi, fun H9 u as ops rets hS9 hK9 nu hA9 hF => ?_⟩
      have E := hF.done hp hP
      have ol : ops.length ≤ 400 := by
        have h1 := hF.ln
        have h2 := hP.len
        omega
      have hvl := hF.vl
      have hfil := hF.fil
      have hmost := hF.most
      rw [htl] at hvl hfil hmost
      have efi : (runP n ops).2.1 = fillF ts p := hfil
      have eout := E.out
      have ebk := E.bks
      have eall := E.all
      have eat := E.at_
      rw [htl] at eout ebk eall eat
      have ha9 := hK9.get nar ha7
      have hfi9 := hK9.get nfr hfi7
      walk_at "s"
      refine ⟨n, u, as, ops, rfl, n1, n2, rows_of5 hA9, ol, hvl, fun H10 s10 => ?_⟩
      have hA10 := hA9.same s10
      have hfi10 := s10 _ _ hfi9
      walk_at "s"
      refine r_notB ?_
      rw [decide_eq_true rfl]
      walk_at "s"
      refine ⟨n, u, as, ops, rfl, n1, n2, rows_of5 hA10, ol, hvl, fun H11 f1 s11 nf1 hf1 => ?_⟩
      have hA11 := hA10.same s11
      have hfi11 := s11 _ _ hfi10
      walk_at "s"
      refine r_neLI (lst_of hf1) (lst_of hfi11) ?_
      rw [decide_eq_true efi]
      walk_at "s"
      refine ⟨n, u, as, ops, rfl, n1, n2, rows_of5 hA11, ol, hvl, fun H12 o1 l1 s12 no1 hl1 hs1 ho1 => ?_⟩
      rw [eout] at hl1
      rw [hl1.eq_nil] at ho1
      have hA12 := hA11.same s12
      have hfi12 := s12 _ _ hfi11
      walk_at "s"
      intro e1 ne1
      have s13 := same_new (o := .lst []) ne1
      have he13 : upd H12 e1 (.lst []) e1 = some (.lst (vI [])) := upd_same
      have ho13 := s13 _ _ ho1
      have hA13 := hA12.same s13
      have hfi13 := s13 _ _ hfi12
      generalize upd H12 e1 (.lst []) = H13 at *
      refine r_neLI (lst_of ho13) (lst_of he13) ?_
      rw [decide_eq_true rfl]
      walk_at "s"
      refine ⟨n, u, as, ops, rfl, n1, n2, rows_of5 hA13, ol, hvl, fun H14 b s14 nb hb => ?_⟩
      rw [ebk] at hb
      have hA14 := hA13.same s14
      have hfi14 := s14 _ _ hfi13
      walk_at "s"
      refine r_sortI (lst_of hb) fun l2 q2 hl2 hs2 nq2 => ?_
      have s15 := same_new (o := .lst (vI l2)) nq2
      have hq15 : upd H14 q2 (.lst (vI l2)) q2 = some (.lst (vI l2)) := upd_same
      have hb15 := s15 _ _ hb
      have hA15 := hA14.same s15
      have hfi15 := s15 _ _ hfi14
      generalize upd H14 q2 (.lst (vI l2)) = H15 at *
      walk_at "s"
      refine ⟨⟨by omega, by omega, by omega, by omega, by omega⟩, fun q3 nq3 => ?_⟩
      rw [rgV_itg]
      have s16 := same_new (o := .lst (vI (itg n))) nq3
      have hq16 : upd H15 q3 (.lst (vI (itg n))) q3 = some (.lst (vI (itg n))) := upd_same
      have hb16 := s16 _ _ hb15
      have hA16 := hA15.same s16
      have hfi16 := s16 _ _ hfi15
      have hq216 := s16 _ _ hq15
      generalize upd H15 q3 (.lst (vI (itg n))) = H16 at *
      refine r_neLI (lst_of hq216) (lst_of hq16) ?_
      rw [decide_eq_true (perm_le_eq (hl2.trans eall) hs2 (itg_le n))]
      walk_at "s"
      refine ⟨n, u, as, ops, rfl, n1, n2, rows_of5 hA16, ol, hvl, fun H17 s17 => ?_⟩
      walk_at "s"
      refine ⟨p, rfl, by have := hP.len; omega, fun H18 s18 => ?_⟩
      have s1618 := s17.trans s18
      have hb18 := s1618 _ _ hb16
      have hfi18 := s1618 _ _ hfi16
      rw [hmost]
      walk_at "s"
      have fll : (fillF ts p).length ≤ 200 := by rw [hpm.length_eq]; omega
      refine ⟨fi, rfl, ⟨_, lst_of hfi18⟩, fun D nD => ?_⟩
      refine lc_pure (src_list (xs := vI (fillF ts p))) (fun _ => true) (fun j => .int (rets.getD j 0)) (by rw [vI_len]; omega) (fun H' s' => lst_of (s' _ _ hfi18)) ?_ nD fun H19 s19 hD => ?_
      · rintro j x H' H'' Yes No hj s' ⟨rfl, hx⟩ hY hN
        rw [vI_len] at hj
        rw [vI_at hj] at hx
        cases hx
        obtain ⟨y, y1, y2⟩ := eat j _ (List.getElem?_eq_getElem hj)
        have hb' := s' _ _ hb18
        have ey : rets.getD j 0 = y := by rw [List.getD_eq_getElem?_getD, y1]; rfl
        rw [ey] at hY
        walk_at "s"
        refine ⟨rfl, ?_⟩
        walk_at "s"
        exact hY rfl _ (Same.refl _)
      · rw [vI_len, giv_all] at hD
        have eD : (List.range (fillF ts p).length).map (fun j => V.int (rets.getD j 0)) = vI rets := by
          have := Lx.range_getD rets 0
          rw [← E.rlen]
          unfold vI
          conv => rhs; rw [← this]
          rw [List.map_map]
          rfl
        rw [eD] at hD
        have s619 := ((((((((s10.trans s11).trans s12).trans s13).trans s14).trans s15).trans s16).trans s17).trans s18).trans s19
        have ha19 := s619 _ _ ha9
        have hfi19 := s619 _ _ hfi9
        have hS19 := hS9.same s619
        walk_at "s"
        refine ⟨a, D, ts, rets, p, rfl, .inl ha19, hL, hP, .inl hD, E.rp, E.lt, fun H20 s20 => ?_⟩
        walk_at "s"
        refine r_notB ?_
        rw [decide_eq_true rfl]
        walk_at "s"
        exact ⟨_, _, _, _, rfl, (hS19.same s20).mono (by omega), s20 _ _ ha19, s20 _ _ hfi19⟩
    · rintro σ H7 ⟨v5, v6, v7, v8, rfl, hS7, ha7, hfi7⟩
      walk_at "s"
      exact q _ (hS7.mono (by omega))
def spLaw (K : PySem.W.Frag) : Sp := fun vs H Q _ => ∃ (a : Addr) (ns : List Int), vs = [.ref a] ∧ SqL K H a (ns.map V.int) ∧ ns.length ≤ 63 ∧ ∀ H', Q (.bl true) H'
theorem ok_law {f : Addr} {fd : FuncData} (B : Bn mg) (D_law_bag : Df P w K mg base 1 "_law_bag" [] (spBag K)) (D_law_draw : Df P w K mg base 2 "_law_draw" [] spDraw) (D_law_right : Df P w K mg base 7 "_law_right" [] spRight5) (F : Fun K "law" "law" Slaw f fd) : FnG P w K mg base 8 f fd ["script"] (spLaw K) := by
  refine gok F sclaw (fun vs H Q E h => ?_) (fun cdv A fs s H vs Q E hG hr h => ?_)
  · obtain ⟨_, _, rfl, _⟩ := h; rfl
  · obtain ⟨a, ns, rfl, hA, hl, q⟩ := h
    have hu := hr.units
    refine ⟨_, (pss_cons (ps_set (i := 1) sclaw.nd rfl (Or.inl rfl) (pe_df D_law_bag hG (hr.mono (by first | decide | omega)) passL (by rfl) (pa_cons (pv 0) pa_nil))) (pss_cons (ps_for (passes_of rfl) rfl (pi_range1 (by rfl) B.range (pa_cons (pe_op op_add pe_int (pe_callB (call_min2' rfl) (by rfl) B.min Bmin (pa_cons pe_int (pa_cons (pe_callB (k_len K) (by rfl) B.len Blen (pa_cons (pv 0) pa_nil)) pa_nil)))) pa_nil)) (pg_name (i := 2) sclaw.nd rfl (Or.inl rfl)) (pss_cons (ps_set (i := 3) sclaw.nd rfl (Or.inl rfl) (pe_ifExp (pt_cmpR op_gt (pv 2) pe_int (nomark _)) (pe_op op_add pe_int (pe_df D_law_draw hG (hr.mono (by first | decide | omega)) passL (by rfl) (pa_cons (pv 1) (pa_cons pe_int pa_nil)))) pe_int)) (pss_one (ps_if (pt_not (pt_val (pe_df D_law_right hG (hr.mono (by first | decide | omega)) passL (by rfl) (pa_cons (pv 1) (pa_cons (pv 3) pa_nil))))) (pss_one (ps_ret pe_bl)) pss_nil)))) (pss_one (ps_ret pe_bl)))), ?_⟩
    walk_at "s"
    refine ⟨a, ns, rfl, hA, hl, fun H1 r l s1 nr hS1 => ?_⟩
    have hA1 := s1.seq hA
    walk_at "s"
    rw [List.length_map]
    have hc : 3 ≤ 3 + (if (ns.length : Int) < 5 then (ns.length : Int) else (5 : Int)) ∧ 3 + (if (ns.length : Int) < 5 then (ns.length : Int) else (5 : Int)) ≤ 8 := by split <;> omega
    generalize 3 + (if (ns.length : Int) < 5 then (ns.length : Int) else (5 : Int)) = c at hc
    refine ⟨_, rfl, by omega, by omega, ?_⟩
    refine for_src src_range (fun i σ H' => ∃ v2 v3, σ = [some (.ref a), some (.ref r), v2, v3] ∧ BagAt H' r l (10000 * i)) (fun _ _ _ _ => trivial) ⟨none, none, rfl, hS1⟩ ?_ ?_
    · rintro i v σ H3 H2 hi ⟨v2, v3, rfl, hS2⟩ ⟨rfl, rfl⟩
      have hi2 : i < 8 := by omega
      walk_at "s"
      refine ifD (fun h0 => ?_) (fun h0 => ?_)
      · walk_at "s"
        refine ⟨r, l, 30, _, rfl, hS2, by omega, by decide, by decide, fun e1 H3 e10 e11 hS3 hK3 => ?_⟩
        obtain ⟨e1, rfl⟩ := Int.eq_ofNat_of_zero_le e10
        walk_at "s"
        refine ⟨r, l, _, 1 + e1, by rw [Int.natCast_add]; rfl, hS3, by omega, by omega, by omega, fun H4 hS4 => ?_⟩
        walk_at "s"
        exact ⟨_, _, rfl, hS4.mono (by omega)⟩
      · walk_at "s"
        refine ⟨r, l, _, 200, rfl, hS2, by omega, by omega, by omega, fun H4 hS4 => ?_⟩
        walk_at "s"
        exact ⟨_, _, rfl, hS4.mono (by omega)⟩
    · rintro σ H2 ⟨v2, v3, rfl, hS2⟩
      walk_at "s"
      exact q _
end

theorem all_mk {l : PySem.W.OpenLaw} {w : World} {K : PySem.W.Frag} {h : Heap} {mg : Str → Option Value} {fa : Addr} (X : K.In h) (G : h.Ns mainGlobals mg) (hfa : mg "law" = some (.ref fa))
    {f_is_integer : Addr} {od_is_integer an_is_integer : Option Addr} {sl_is_integer : Array (Option Value)} {oc_is_integer kV_is_integer dc_is_integer pm_is_integer cd_is_integer ct_is_integer : Value}
    {T_is_integer : Addr} {oT_is_integer : Value} {dT_is_integer : Option Addr} {nT_is_integer : Nat} {sT_is_integer : Array (Option Value)}
    {f_is_listed : Addr} {od_is_listed an_is_listed : Option Addr} {sl_is_listed : Array (Option Value)} {oc_is_listed kV_is_listed dc_is_listed pm_is_listed cd_is_listed ct_is_listed : Value}
    {f_check_size : Addr} {od_check_size an_check_size : Option Addr} {sl_check_size : Array (Option Value)} {oc_check_size kV_check_size dc_check_size pm_check_size cd_check_size ct_check_size : Value}
    {f_performed : Addr} {od_performed an_performed : Option Addr} {sl_performed : Array (Option Value)} {oc_performed kV_performed dc_performed pm_performed cd_performed ct_performed : Value}
    {f_is_schedule : Addr} {od_is_schedule an_is_schedule : Option Addr} {sl_is_schedule : Array (Option Value)} {oc_is_schedule kV_is_schedule dc_is_schedule pm_is_schedule cd_is_schedule ct_is_schedule : Value}
    {f_books_after : Addr} {od_books_after an_books_after : Option Addr} {sl_books_after : Array (Option Value)} {oc_books_after kV_books_after dc_books_after pm_books_after cd_books_after ct_books_after : Value}
    {f_books_out : Addr} {od_books_out an_books_out : Option Addr} {sl_books_out : Array (Option Value)} {oc_books_out kV_books_out dc_books_out pm_books_out cd_books_out ct_books_out : Value}
    {f_places_filled : Addr} {od_places_filled an_places_filled : Option Addr} {sl_places_filled : Array (Option Value)} {oc_places_filled kV_places_filled dc_places_filled pm_places_filled cd_places_filled ct_places_filled : Value}
    {f_most_out : Addr} {od_most_out an_most_out : Option Addr} {sl_most_out : Array (Option Value)} {oc_most_out kV_most_out dc_most_out pm_most_out cd_most_out ct_most_out : Value}
    {f_is_place_list : Addr} {od_is_place_list an_is_place_list : Option Addr} {sl_is_place_list : Array (Option Value)} {oc_is_place_list kV_is_place_list dc_is_place_list pm_is_place_list cd_is_place_list ct_is_place_list : Value}
    {f_checked_places : Addr} {od_checked_places an_checked_places : Option Addr} {sl_checked_places : Array (Option Value)} {oc_checked_places kV_checked_places dc_checked_places pm_checked_places cd_checked_places ct_checked_places : Value}
    {f_checked_pair : Addr} {od_checked_pair an_checked_pair : Option Addr} {sl_checked_pair : Array (Option Value)} {oc_checked_pair kV_checked_pair dc_checked_pair pm_checked_pair cd_checked_pair ct_checked_pair : Value}
    {f_is_pattern : Addr} {od_is_pattern an_is_pattern : Option Addr} {sl_is_pattern : Array (Option Value)} {oc_is_pattern kV_is_pattern dc_is_pattern pm_is_pattern cd_is_pattern ct_is_pattern : Value}
    {f_check_pattern : Addr} {od_check_pattern an_check_pattern : Option Addr} {sl_check_pattern : Array (Option Value)} {oc_check_pattern kV_check_pattern dc_check_pattern pm_check_pattern cd_check_pattern ct_check_pattern : Value}
    {f_numbered : Addr} {od_numbered an_numbered : Option Addr} {sl_numbered : Array (Option Value)} {oc_numbered kV_numbered dc_numbered pm_numbered cd_numbered ct_numbered : Value}
    {f_filled_by : Addr} {od_filled_by an_filled_by : Option Addr} {sl_filled_by : Array (Option Value)} {oc_filled_by kV_filled_by dc_filled_by pm_filled_by cd_filled_by ct_filled_by : Value}
    {f_fills_by : Addr} {od_fills_by an_fills_by : Option Addr} {sl_fills_by : Array (Option Value)} {oc_fills_by kV_fills_by dc_fills_by pm_fills_by cd_fills_by ct_fills_by : Value}
    {f_bounds_by : Addr} {od_bounds_by an_bounds_by : Option Addr} {sl_bounds_by : Array (Option Value)} {oc_bounds_by kV_bounds_by dc_bounds_by pm_bounds_by cd_bounds_by ct_bounds_by : Value}
    {f_obstruction_of : Addr} {od_obstruction_of an_obstruction_of : Option Addr} {sl_obstruction_of : Array (Option Value)} {oc_obstruction_of kV_obstruction_of dc_obstruction_of pm_obstruction_of cd_obstruction_of ct_obstruction_of : Value}
    {f_obstruction : Addr} {od_obstruction an_obstruction : Option Addr} {sl_obstruction : Array (Option Value)} {oc_obstruction kV_obstruction dc_obstruction pm_obstruction cd_obstruction ct_obstruction : Value}
    {f_is_possible : Addr} {od_is_possible an_is_possible : Option Addr} {sl_is_possible : Array (Option Value)} {oc_is_possible kV_is_possible dc_is_possible pm_is_possible cd_is_possible ct_is_possible : Value}
    {f_is_result : Addr} {od_is_result an_is_result : Option Addr} {sl_is_result : Array (Option Value)} {oc_is_result kV_is_result dc_is_result pm_is_result cd_is_result ct_is_result : Value}
    {f_law_bag : Addr} {od_law_bag an_law_bag : Option Addr} {sl_law_bag : Array (Option Value)} {oc_law_bag kV_law_bag dc_law_bag pm_law_bag cd_law_bag ct_law_bag : Value}
    {f_law_stir : Addr} {od_law_stir an_law_stir : Option Addr} {sl_law_stir : Array (Option Value)} {oc_law_stir kV_law_stir dc_law_stir pm_law_stir cd_law_stir ct_law_stir : Value}
    {f_law_draw : Addr} {od_law_draw an_law_draw : Option Addr} {sl_law_draw : Array (Option Value)} {oc_law_draw kV_law_draw dc_law_draw pm_law_draw cd_law_draw ct_law_draw : Value}
    {f_law_shuffled : Addr} {od_law_shuffled an_law_shuffled : Option Addr} {sl_law_shuffled : Array (Option Value)} {oc_law_shuffled kV_law_shuffled dc_law_shuffled pm_law_shuffled cd_law_shuffled ct_law_shuffled : Value}
    {f_law_pattern : Addr} {od_law_pattern an_law_pattern : Option Addr} {sl_law_pattern : Array (Option Value)} {oc_law_pattern kV_law_pattern dc_law_pattern pm_law_pattern cd_law_pattern ct_law_pattern : Value}
    {f_law_followed : Addr} {od_law_followed an_law_followed : Option Addr} {sl_law_followed : Array (Option Value)} {oc_law_followed kV_law_followed dc_law_followed pm_law_followed cd_law_followed ct_law_followed : Value}
    {f_law_late : Addr} {od_law_late an_law_late : Option Addr} {sl_law_late : Array (Option Value)} {oc_law_late kV_law_late dc_law_late pm_law_late cd_law_late ct_law_late : Value}
    {f_law_most : Addr} {od_law_most an_law_most : Option Addr} {sl_law_most : Array (Option Value)} {oc_law_most kV_law_most dc_law_most pm_law_most cd_law_most ct_law_most : Value}
    {f_law_right : Addr} {od_law_right an_law_right : Option Addr} {sl_law_right : Array (Option Value)} {oc_law_right kV_law_right dc_law_right pm_law_right cd_law_right ct_law_right : Value}
    {f_law : Addr} {od_law an_law : Option Addr} {sl_law : Array (Option Value)} {oc_law kV_law dc_law pm_law cd_law ct_law : Value}
    {C_Shelf : Addr}
    {f_Shelf_d__init_d_ : Addr} {od_Shelf_d__init_d_ an_Shelf_d__init_d_ : Option Addr} {sl_Shelf_d__init_d_ : Array (Option Value)} {oc_Shelf_d__init_d_ kV_Shelf_d__init_d_ dc_Shelf_d__init_d_ pm_Shelf_d__init_d_ cd_Shelf_d__init_d_ ct_Shelf_d__init_d_ : Value}
    {f_Shelf_can_take : Addr} {od_Shelf_can_take an_Shelf_can_take : Option Addr} {sl_Shelf_can_take : Array (Option Value)} {oc_Shelf_can_take kV_Shelf_can_take dc_Shelf_can_take pm_Shelf_can_take cd_Shelf_can_take ct_Shelf_can_take : Value}
    {f_Shelf_can_return : Addr} {od_Shelf_can_return an_Shelf_can_return : Option Addr} {sl_Shelf_can_return : Array (Option Value)} {oc_Shelf_can_return kV_Shelf_can_return dc_Shelf_can_return pm_Shelf_can_return cd_Shelf_can_return ct_Shelf_can_return : Value}
    {f_Shelf_take : Addr} {od_Shelf_take an_Shelf_take : Option Addr} {sl_Shelf_take : Array (Option Value)} {oc_Shelf_take kV_Shelf_take dc_Shelf_take pm_Shelf_take cd_Shelf_take ct_Shelf_take : Value}
    {f_Shelf_put_back : Addr} {od_Shelf_put_back an_Shelf_put_back : Option Addr} {sl_Shelf_put_back : Array (Option Value)} {oc_Shelf_put_back kV_Shelf_put_back dc_Shelf_put_back pm_Shelf_put_back cd_Shelf_put_back ct_Shelf_put_back : Value}
    {f_Shelf_can_perform : Addr} {od_Shelf_can_perform an_Shelf_can_perform : Option Addr} {sl_Shelf_can_perform : Array (Option Value)} {oc_Shelf_can_perform kV_Shelf_can_perform dc_Shelf_can_perform pm_Shelf_can_perform cd_Shelf_can_perform ct_Shelf_can_perform : Value}
    {f_Shelf_perform : Addr} {od_Shelf_perform an_Shelf_perform : Option Addr} {sl_Shelf_perform : Array (Option Value)} {oc_Shelf_perform kV_Shelf_perform dc_Shelf_perform pm_Shelf_perform cd_Shelf_perform ct_Shelf_perform : Value}
    {t_MAX_SIZE : Tok}
    {t_MAX_PLACE : Tok}
    {t_TAKING : Tok}
    {t_RETURNING : Tok}
    {t_TAKE : Tok}
    {t_RETURN : Tok}
    {t_MAX_OPERATIONS : Tok}
    (a_is_integer : PySem.W.nsIn K mainGlobals "is_integer" = some (some (.ref f_is_integer)))
    (l_is_integer : K.lookup f_is_integer = some ⟨oc_is_integer, od_is_integer, .func (PySem.W.fnOf "is_integer" "is_integer" (defArgs Sis_integer) (defBody Sis_integer) (defScope Sis_integer) (.ref T_is_integer) kV_is_integer dc_is_integer pm_is_integer an_is_integer cd_is_integer ct_is_integer), sl_is_integer⟩)
    (t_is_integer : K.lookup T_is_integer = some ⟨oT_is_integer, dT_is_integer, .seq #[.none] nT_is_integer, sT_is_integer⟩)
    (c_is_integer : PySem.W.codeIn K cd_is_integer "is_integer" = true)
    (k_is_integer : PySem.W.keepIn K (.ref f_is_integer) = true)
    (a_is_listed : PySem.W.nsIn K mainGlobals "is_listed" = some (some (.ref f_is_listed)))
    (l_is_listed : K.lookup f_is_listed = some ⟨oc_is_listed, od_is_listed, .func (PySem.W.fnOf "is_listed" "is_listed" (defArgs Sis_listed) (defBody Sis_listed) (defScope Sis_listed) .none kV_is_listed dc_is_listed pm_is_listed an_is_listed cd_is_listed ct_is_listed), sl_is_listed⟩)
    (c_is_listed : PySem.W.codeIn K cd_is_listed "is_listed" = true)
    (k_is_listed : PySem.W.keepIn K (.ref f_is_listed) = true)
    (a_check_size : PySem.W.nsIn K mainGlobals "check_size" = some (some (.ref f_check_size)))
    (l_check_size : K.lookup f_check_size = some ⟨oc_check_size, od_check_size, .func (PySem.W.fnOf "check_size" "check_size" (defArgs Scheck_size) (defBody Scheck_size) (defScope Scheck_size) .none kV_check_size dc_check_size pm_check_size an_check_size cd_check_size ct_check_size), sl_check_size⟩)
    (c_check_size : PySem.W.codeIn K cd_check_size "check_size" = true)
    (k_check_size : PySem.W.keepIn K (.ref f_check_size) = true)
    (a_performed : PySem.W.nsIn K mainGlobals "performed" = some (some (.ref f_performed)))
    (l_performed : K.lookup f_performed = some ⟨oc_performed, od_performed, .func (PySem.W.fnOf "performed" "performed" (defArgs Sperformed) (defBody Sperformed) (defScope Sperformed) .none kV_performed dc_performed pm_performed an_performed cd_performed ct_performed), sl_performed⟩)
    (c_performed : PySem.W.codeIn K cd_performed "performed" = true)
    (k_performed : PySem.W.keepIn K (.ref f_performed) = true)
    (a_is_schedule : PySem.W.nsIn K mainGlobals "is_schedule" = some (some (.ref f_is_schedule)))
    (l_is_schedule : K.lookup f_is_schedule = some ⟨oc_is_schedule, od_is_schedule, .func (PySem.W.fnOf "is_schedule" "is_schedule" (defArgs Sis_schedule) (defBody Sis_schedule) (defScope Sis_schedule) .none kV_is_schedule dc_is_schedule pm_is_schedule an_is_schedule cd_is_schedule ct_is_schedule), sl_is_schedule⟩)
    (c_is_schedule : PySem.W.codeIn K cd_is_schedule "is_schedule" = true)
    (k_is_schedule : PySem.W.keepIn K (.ref f_is_schedule) = true)
    (a_books_after : PySem.W.nsIn K mainGlobals "books_after" = some (some (.ref f_books_after)))
    (l_books_after : K.lookup f_books_after = some ⟨oc_books_after, od_books_after, .func (PySem.W.fnOf "books_after" "books_after" (defArgs Sbooks_after) (defBody Sbooks_after) (defScope Sbooks_after) .none kV_books_after dc_books_after pm_books_after an_books_after cd_books_after ct_books_after), sl_books_after⟩)
    (c_books_after : PySem.W.codeIn K cd_books_after "books_after" = true)
    (k_books_after : PySem.W.keepIn K (.ref f_books_after) = true)
    (a_books_out : PySem.W.nsIn K mainGlobals "books_out" = some (some (.ref f_books_out)))
    (l_books_out : K.lookup f_books_out = some ⟨oc_books_out, od_books_out, .func (PySem.W.fnOf "books_out" "books_out" (defArgs Sbooks_out) (defBody Sbooks_out) (defScope Sbooks_out) .none kV_books_out dc_books_out pm_books_out an_books_out cd_books_out ct_books_out), sl_books_out⟩)
    (c_books_out : PySem.W.codeIn K cd_books_out "books_out" = true)
    (k_books_out : PySem.W.keepIn K (.ref f_books_out) = true)
    (a_places_filled : PySem.W.nsIn K mainGlobals "places_filled" = some (some (.ref f_places_filled)))
    (l_places_filled : K.lookup f_places_filled = some ⟨oc_places_filled, od_places_filled, .func (PySem.W.fnOf "places_filled" "places_filled" (defArgs Splaces_filled) (defBody Splaces_filled) (defScope Splaces_filled) .none kV_places_filled dc_places_filled pm_places_filled an_places_filled cd_places_filled ct_places_filled), sl_places_filled⟩)
    (c_places_filled : PySem.W.codeIn K cd_places_filled "places_filled" = true)
    (k_places_filled : PySem.W.keepIn K (.ref f_places_filled) = true)
    (a_most_out : PySem.W.nsIn K mainGlobals "most_out" = some (some (.ref f_most_out)))
    (l_most_out : K.lookup f_most_out = some ⟨oc_most_out, od_most_out, .func (PySem.W.fnOf "most_out" "most_out" (defArgs Smost_out) (defBody Smost_out) (defScope Smost_out) .none kV_most_out dc_most_out pm_most_out an_most_out cd_most_out ct_most_out), sl_most_out⟩)
    (c_most_out : PySem.W.codeIn K cd_most_out "most_out" = true)
    (k_most_out : PySem.W.keepIn K (.ref f_most_out) = true)
    (a_is_place_list : PySem.W.nsIn K mainGlobals "is_place_list" = some (some (.ref f_is_place_list)))
    (l_is_place_list : K.lookup f_is_place_list = some ⟨oc_is_place_list, od_is_place_list, .func (PySem.W.fnOf "is_place_list" "is_place_list" (defArgs Sis_place_list) (defBody Sis_place_list) (defScope Sis_place_list) .none kV_is_place_list dc_is_place_list pm_is_place_list an_is_place_list cd_is_place_list ct_is_place_list), sl_is_place_list⟩)
    (c_is_place_list : PySem.W.codeIn K cd_is_place_list "is_place_list" = true)
    (k_is_place_list : PySem.W.keepIn K (.ref f_is_place_list) = true)
    (a_checked_places : PySem.W.nsIn K mainGlobals "checked_places" = some (some (.ref f_checked_places)))
    (l_checked_places : K.lookup f_checked_places = some ⟨oc_checked_places, od_checked_places, .func (PySem.W.fnOf "checked_places" "checked_places" (defArgs Schecked_places) (defBody Schecked_places) (defScope Schecked_places) .none kV_checked_places dc_checked_places pm_checked_places an_checked_places cd_checked_places ct_checked_places), sl_checked_places⟩)
    (c_checked_places : PySem.W.codeIn K cd_checked_places "checked_places" = true)
    (k_checked_places : PySem.W.keepIn K (.ref f_checked_places) = true)
    (a_checked_pair : PySem.W.nsIn K mainGlobals "checked_pair" = some (some (.ref f_checked_pair)))
    (l_checked_pair : K.lookup f_checked_pair = some ⟨oc_checked_pair, od_checked_pair, .func (PySem.W.fnOf "checked_pair" "checked_pair" (defArgs Schecked_pair) (defBody Schecked_pair) (defScope Schecked_pair) .none kV_checked_pair dc_checked_pair pm_checked_pair an_checked_pair cd_checked_pair ct_checked_pair), sl_checked_pair⟩)
    (c_checked_pair : PySem.W.codeIn K cd_checked_pair "checked_pair" = true)
    (k_checked_pair : PySem.W.keepIn K (.ref f_checked_pair) = true)
    (a_is_pattern : PySem.W.nsIn K mainGlobals "is_pattern" = some (some (.ref f_is_pattern)))
    (l_is_pattern : K.lookup f_is_pattern = some ⟨oc_is_pattern, od_is_pattern, .func (PySem.W.fnOf "is_pattern" "is_pattern" (defArgs Sis_pattern) (defBody Sis_pattern) (defScope Sis_pattern) .none kV_is_pattern dc_is_pattern pm_is_pattern an_is_pattern cd_is_pattern ct_is_pattern), sl_is_pattern⟩)
    (c_is_pattern : PySem.W.codeIn K cd_is_pattern "is_pattern" = true)
    (k_is_pattern : PySem.W.keepIn K (.ref f_is_pattern) = true)
    (a_check_pattern : PySem.W.nsIn K mainGlobals "check_pattern" = some (some (.ref f_check_pattern)))
    (l_check_pattern : K.lookup f_check_pattern = some ⟨oc_check_pattern, od_check_pattern, .func (PySem.W.fnOf "check_pattern" "check_pattern" (defArgs Scheck_pattern) (defBody Scheck_pattern) (defScope Scheck_pattern) .none kV_check_pattern dc_check_pattern pm_check_pattern an_check_pattern cd_check_pattern ct_check_pattern), sl_check_pattern⟩)
    (c_check_pattern : PySem.W.codeIn K cd_check_pattern "check_pattern" = true)
    (k_check_pattern : PySem.W.keepIn K (.ref f_check_pattern) = true)
    (a_numbered : PySem.W.nsIn K mainGlobals "numbered" = some (some (.ref f_numbered)))
    (l_numbered : K.lookup f_numbered = some ⟨oc_numbered, od_numbered, .func (PySem.W.fnOf "numbered" "numbered" (defArgs Snumbered) (defBody Snumbered) (defScope Snumbered) .none kV_numbered dc_numbered pm_numbered an_numbered cd_numbered ct_numbered), sl_numbered⟩)
    (c_numbered : PySem.W.codeIn K cd_numbered "numbered" = true)
    (k_numbered : PySem.W.keepIn K (.ref f_numbered) = true)
    (a_filled_by : PySem.W.nsIn K mainGlobals "filled_by" = some (some (.ref f_filled_by)))
    (l_filled_by : K.lookup f_filled_by = some ⟨oc_filled_by, od_filled_by, .func (PySem.W.fnOf "filled_by" "filled_by" (defArgs Sfilled_by) (defBody Sfilled_by) (defScope Sfilled_by) .none kV_filled_by dc_filled_by pm_filled_by an_filled_by cd_filled_by ct_filled_by), sl_filled_by⟩)
    (c_filled_by : PySem.W.codeIn K cd_filled_by "filled_by" = true)
    (k_filled_by : PySem.W.keepIn K (.ref f_filled_by) = true)
    (a_fills_by : PySem.W.nsIn K mainGlobals "fills_by" = some (some (.ref f_fills_by)))
    (l_fills_by : K.lookup f_fills_by = some ⟨oc_fills_by, od_fills_by, .func (PySem.W.fnOf "fills_by" "fills_by" (defArgs Sfills_by) (defBody Sfills_by) (defScope Sfills_by) .none kV_fills_by dc_fills_by pm_fills_by an_fills_by cd_fills_by ct_fills_by), sl_fills_by⟩)
    (c_fills_by : PySem.W.codeIn K cd_fills_by "fills_by" = true)
    (k_fills_by : PySem.W.keepIn K (.ref f_fills_by) = true)
    (a_bounds_by : PySem.W.nsIn K mainGlobals "bounds_by" = some (some (.ref f_bounds_by)))
    (l_bounds_by : K.lookup f_bounds_by = some ⟨oc_bounds_by, od_bounds_by, .func (PySem.W.fnOf "bounds_by" "bounds_by" (defArgs Sbounds_by) (defBody Sbounds_by) (defScope Sbounds_by) .none kV_bounds_by dc_bounds_by pm_bounds_by an_bounds_by cd_bounds_by ct_bounds_by), sl_bounds_by⟩)
    (c_bounds_by : PySem.W.codeIn K cd_bounds_by "bounds_by" = true)
    (k_bounds_by : PySem.W.keepIn K (.ref f_bounds_by) = true)
    (a_obstruction_of : PySem.W.nsIn K mainGlobals "obstruction_of" = some (some (.ref f_obstruction_of)))
    (l_obstruction_of : K.lookup f_obstruction_of = some ⟨oc_obstruction_of, od_obstruction_of, .func (PySem.W.fnOf "obstruction_of" "obstruction_of" (defArgs Sobstruction_of) (defBody Sobstruction_of) (defScope Sobstruction_of) .none kV_obstruction_of dc_obstruction_of pm_obstruction_of an_obstruction_of cd_obstruction_of ct_obstruction_of), sl_obstruction_of⟩)
    (c_obstruction_of : PySem.W.codeIn K cd_obstruction_of "obstruction_of" = true)
    (k_obstruction_of : PySem.W.keepIn K (.ref f_obstruction_of) = true)
    (a_obstruction : PySem.W.nsIn K mainGlobals "obstruction" = some (some (.ref f_obstruction)))
    (l_obstruction : K.lookup f_obstruction = some ⟨oc_obstruction, od_obstruction, .func (PySem.W.fnOf "obstruction" "obstruction" (defArgs Sobstruction) (defBody Sobstruction) (defScope Sobstruction) .none kV_obstruction dc_obstruction pm_obstruction an_obstruction cd_obstruction ct_obstruction), sl_obstruction⟩)
    (c_obstruction : PySem.W.codeIn K cd_obstruction "obstruction" = true)
    (k_obstruction : PySem.W.keepIn K (.ref f_obstruction) = true)
    (a_is_possible : PySem.W.nsIn K mainGlobals "is_possible" = some (some (.ref f_is_possible)))
    (l_is_possible : K.lookup f_is_possible = some ⟨oc_is_possible, od_is_possible, .func (PySem.W.fnOf "is_possible" "is_possible" (defArgs Sis_possible) (defBody Sis_possible) (defScope Sis_possible) .none kV_is_possible dc_is_possible pm_is_possible an_is_possible cd_is_possible ct_is_possible), sl_is_possible⟩)
    (c_is_possible : PySem.W.codeIn K cd_is_possible "is_possible" = true)
    (k_is_possible : PySem.W.keepIn K (.ref f_is_possible) = true)
    (a_is_result : PySem.W.nsIn K mainGlobals "is_result" = some (some (.ref f_is_result)))
    (l_is_result : K.lookup f_is_result = some ⟨oc_is_result, od_is_result, .func (PySem.W.fnOf "is_result" "is_result" (defArgs Sis_result) (defBody Sis_result) (defScope Sis_result) .none kV_is_result dc_is_result pm_is_result an_is_result cd_is_result ct_is_result), sl_is_result⟩)
    (c_is_result : PySem.W.codeIn K cd_is_result "is_result" = true)
    (k_is_result : PySem.W.keepIn K (.ref f_is_result) = true)
    (a_law_bag : PySem.W.nsIn K mainGlobals "_law_bag" = some (some (.ref f_law_bag)))
    (l_law_bag : K.lookup f_law_bag = some ⟨oc_law_bag, od_law_bag, .func (PySem.W.fnOf "_law_bag" "_law_bag" (defArgs Slaw_bag) (defBody Slaw_bag) (defScope Slaw_bag) .none kV_law_bag dc_law_bag pm_law_bag an_law_bag cd_law_bag ct_law_bag), sl_law_bag⟩)
    (c_law_bag : PySem.W.codeIn K cd_law_bag "_law_bag" = true)
    (k_law_bag : PySem.W.keepIn K (.ref f_law_bag) = true)
    (a_law_stir : PySem.W.nsIn K mainGlobals "_law_stir" = some (some (.ref f_law_stir)))
    (l_law_stir : K.lookup f_law_stir = some ⟨oc_law_stir, od_law_stir, .func (PySem.W.fnOf "_law_stir" "_law_stir" (defArgs Slaw_stir) (defBody Slaw_stir) (defScope Slaw_stir) .none kV_law_stir dc_law_stir pm_law_stir an_law_stir cd_law_stir ct_law_stir), sl_law_stir⟩)
    (c_law_stir : PySem.W.codeIn K cd_law_stir "_law_stir" = true)
    (k_law_stir : PySem.W.keepIn K (.ref f_law_stir) = true)
    (a_law_draw : PySem.W.nsIn K mainGlobals "_law_draw" = some (some (.ref f_law_draw)))
    (l_law_draw : K.lookup f_law_draw = some ⟨oc_law_draw, od_law_draw, .func (PySem.W.fnOf "_law_draw" "_law_draw" (defArgs Slaw_draw) (defBody Slaw_draw) (defScope Slaw_draw) .none kV_law_draw dc_law_draw pm_law_draw an_law_draw cd_law_draw ct_law_draw), sl_law_draw⟩)
    (c_law_draw : PySem.W.codeIn K cd_law_draw "_law_draw" = true)
    (k_law_draw : PySem.W.keepIn K (.ref f_law_draw) = true)
    (a_law_shuffled : PySem.W.nsIn K mainGlobals "_law_shuffled" = some (some (.ref f_law_shuffled)))
    (l_law_shuffled : K.lookup f_law_shuffled = some ⟨oc_law_shuffled, od_law_shuffled, .func (PySem.W.fnOf "_law_shuffled" "_law_shuffled" (defArgs Slaw_shuffled) (defBody Slaw_shuffled) (defScope Slaw_shuffled) .none kV_law_shuffled dc_law_shuffled pm_law_shuffled an_law_shuffled cd_law_shuffled ct_law_shuffled), sl_law_shuffled⟩)
    (c_law_shuffled : PySem.W.codeIn K cd_law_shuffled "_law_shuffled" = true)
    (k_law_shuffled : PySem.W.keepIn K (.ref f_law_shuffled) = true)
    (a_law_pattern : PySem.W.nsIn K mainGlobals "_law_pattern" = some (some (.ref f_law_pattern)))
    (l_law_pattern : K.lookup f_law_pattern = some ⟨oc_law_pattern, od_law_pattern, .func (PySem.W.fnOf "_law_pattern" "_law_pattern" (defArgs Slaw_pattern) (defBody Slaw_pattern) (defScope Slaw_pattern) .none kV_law_pattern dc_law_pattern pm_law_pattern an_law_pattern cd_law_pattern ct_law_pattern), sl_law_pattern⟩)
    (c_law_pattern : PySem.W.codeIn K cd_law_pattern "_law_pattern" = true)
    (k_law_pattern : PySem.W.keepIn K (.ref f_law_pattern) = true)
    (a_law_followed : PySem.W.nsIn K mainGlobals "_law_followed" = some (some (.ref f_law_followed)))
    (l_law_followed : K.lookup f_law_followed = some ⟨oc_law_followed, od_law_followed, .func (PySem.W.fnOf "_law_followed" "_law_followed" (defArgs Slaw_followed) (defBody Slaw_followed) (defScope Slaw_followed) .none kV_law_followed dc_law_followed pm_law_followed an_law_followed cd_law_followed ct_law_followed), sl_law_followed⟩)
    (c_law_followed : PySem.W.codeIn K cd_law_followed "_law_followed" = true)
    (k_law_followed : PySem.W.keepIn K (.ref f_law_followed) = true)
    (a_law_late : PySem.W.nsIn K mainGlobals "_law_late" = some (some (.ref f_law_late)))
    (l_law_late : K.lookup f_law_late = some ⟨oc_law_late, od_law_late, .func (PySem.W.fnOf "_law_late" "_law_late" (defArgs Slaw_late) (defBody Slaw_late) (defScope Slaw_late) .none kV_law_late dc_law_late pm_law_late an_law_late cd_law_late ct_law_late), sl_law_late⟩)
    (c_law_late : PySem.W.codeIn K cd_law_late "_law_late" = true)
    (k_law_late : PySem.W.keepIn K (.ref f_law_late) = true)
    (a_law_most : PySem.W.nsIn K mainGlobals "_law_most" = some (some (.ref f_law_most)))
    (l_law_most : K.lookup f_law_most = some ⟨oc_law_most, od_law_most, .func (PySem.W.fnOf "_law_most" "_law_most" (defArgs Slaw_most) (defBody Slaw_most) (defScope Slaw_most) .none kV_law_most dc_law_most pm_law_most an_law_most cd_law_most ct_law_most), sl_law_most⟩)
    (c_law_most : PySem.W.codeIn K cd_law_most "_law_most" = true)
    (k_law_most : PySem.W.keepIn K (.ref f_law_most) = true)
    (a_law_right : PySem.W.nsIn K mainGlobals "_law_right" = some (some (.ref f_law_right)))
    (l_law_right : K.lookup f_law_right = some ⟨oc_law_right, od_law_right, .func (PySem.W.fnOf "_law_right" "_law_right" (defArgs Slaw_right) (defBody Slaw_right) (defScope Slaw_right) .none kV_law_right dc_law_right pm_law_right an_law_right cd_law_right ct_law_right), sl_law_right⟩)
    (c_law_right : PySem.W.codeIn K cd_law_right "_law_right" = true)
    (k_law_right : PySem.W.keepIn K (.ref f_law_right) = true)
    (a_law : PySem.W.nsIn K mainGlobals "law" = some (some (.ref f_law)))
    (l_law : K.lookup f_law = some ⟨oc_law, od_law, .func (PySem.W.fnOf "law" "law" (defArgs Slaw) (defBody Slaw) (defScope Slaw) .none kV_law dc_law pm_law an_law cd_law ct_law), sl_law⟩)
    (c_law : PySem.W.codeIn K cd_law "law" = true)
    (k_law : PySem.W.keepIn K (.ref f_law) = true)
    (aC_Shelf : PySem.W.nsIn K mainGlobals "Shelf" = some (some (.ref C_Shelf)))
    (a_Shelf_d__init_d_ : PySem.W.findIn K (.ref C_Shelf) "__init__" = some (some (.ref f_Shelf_d__init_d_)))
    (i_Shelf_d__init_d_ : PySem.W.isFn K (.ref f_Shelf_d__init_d_) = true)
    (l_Shelf_d__init_d_ : K.lookup f_Shelf_d__init_d_ = some ⟨oc_Shelf_d__init_d_, od_Shelf_d__init_d_, .func (PySem.W.fnOf "__init__" "Shelf.__init__" (defArgs SShelf_d__init_d_) (defBody SShelf_d__init_d_) (defScope SShelf_d__init_d_) .none kV_Shelf_d__init_d_ dc_Shelf_d__init_d_ pm_Shelf_d__init_d_ an_Shelf_d__init_d_ cd_Shelf_d__init_d_ ct_Shelf_d__init_d_), sl_Shelf_d__init_d_⟩)
    (c_Shelf_d__init_d_ : PySem.W.codeIn K cd_Shelf_d__init_d_ "Shelf.__init__" = true)
    (k_Shelf_d__init_d_ : PySem.W.keepIn K (.ref f_Shelf_d__init_d_) = true)
    (a_Shelf_can_take : PySem.W.findIn K (.ref C_Shelf) "can_take" = some (some (.ref f_Shelf_can_take)))
    (i_Shelf_can_take : PySem.W.isFn K (.ref f_Shelf_can_take) = true)
    (l_Shelf_can_take : K.lookup f_Shelf_can_take = some ⟨oc_Shelf_can_take, od_Shelf_can_take, .func (PySem.W.fnOf "can_take" "Shelf.can_take" (defArgs SShelf_can_take) (defBody SShelf_can_take) (defScope SShelf_can_take) .none kV_Shelf_can_take dc_Shelf_can_take pm_Shelf_can_take an_Shelf_can_take cd_Shelf_can_take ct_Shelf_can_take), sl_Shelf_can_take⟩)
    (c_Shelf_can_take : PySem.W.codeIn K cd_Shelf_can_take "Shelf.can_take" = true)
    (k_Shelf_can_take : PySem.W.keepIn K (.ref f_Shelf_can_take) = true)
    (a_Shelf_can_return : PySem.W.findIn K (.ref C_Shelf) "can_return" = some (some (.ref f_Shelf_can_return)))
    (i_Shelf_can_return : PySem.W.isFn K (.ref f_Shelf_can_return) = true)
    (l_Shelf_can_return : K.lookup f_Shelf_can_return = some ⟨oc_Shelf_can_return, od_Shelf_can_return, .func (PySem.W.fnOf "can_return" "Shelf.can_return" (defArgs SShelf_can_return) (defBody SShelf_can_return) (defScope SShelf_can_return) .none kV_Shelf_can_return dc_Shelf_can_return pm_Shelf_can_return an_Shelf_can_return cd_Shelf_can_return ct_Shelf_can_return), sl_Shelf_can_return⟩)
    (c_Shelf_can_return : PySem.W.codeIn K cd_Shelf_can_return "Shelf.can_return" = true)
    (k_Shelf_can_return : PySem.W.keepIn K (.ref f_Shelf_can_return) = true)
    (a_Shelf_take : PySem.W.findIn K (.ref C_Shelf) "take" = some (some (.ref f_Shelf_take)))
    (i_Shelf_take : PySem.W.isFn K (.ref f_Shelf_take) = true)
    (l_Shelf_take : K.lookup f_Shelf_take = some ⟨oc_Shelf_take, od_Shelf_take, .func (PySem.W.fnOf "take" "Shelf.take" (defArgs SShelf_take) (defBody SShelf_take) (defScope SShelf_take) .none kV_Shelf_take dc_Shelf_take pm_Shelf_take an_Shelf_take cd_Shelf_take ct_Shelf_take), sl_Shelf_take⟩)
    (c_Shelf_take : PySem.W.codeIn K cd_Shelf_take "Shelf.take" = true)
    (k_Shelf_take : PySem.W.keepIn K (.ref f_Shelf_take) = true)
    (a_Shelf_put_back : PySem.W.findIn K (.ref C_Shelf) "put_back" = some (some (.ref f_Shelf_put_back)))
    (i_Shelf_put_back : PySem.W.isFn K (.ref f_Shelf_put_back) = true)
    (l_Shelf_put_back : K.lookup f_Shelf_put_back = some ⟨oc_Shelf_put_back, od_Shelf_put_back, .func (PySem.W.fnOf "put_back" "Shelf.put_back" (defArgs SShelf_put_back) (defBody SShelf_put_back) (defScope SShelf_put_back) .none kV_Shelf_put_back dc_Shelf_put_back pm_Shelf_put_back an_Shelf_put_back cd_Shelf_put_back ct_Shelf_put_back), sl_Shelf_put_back⟩)
    (c_Shelf_put_back : PySem.W.codeIn K cd_Shelf_put_back "Shelf.put_back" = true)
    (k_Shelf_put_back : PySem.W.keepIn K (.ref f_Shelf_put_back) = true)
    (a_Shelf_can_perform : PySem.W.findIn K (.ref C_Shelf) "can_perform" = some (some (.ref f_Shelf_can_perform)))
    (i_Shelf_can_perform : PySem.W.isFn K (.ref f_Shelf_can_perform) = true)
    (l_Shelf_can_perform : K.lookup f_Shelf_can_perform = some ⟨oc_Shelf_can_perform, od_Shelf_can_perform, .func (PySem.W.fnOf "can_perform" "Shelf.can_perform" (defArgs SShelf_can_perform) (defBody SShelf_can_perform) (defScope SShelf_can_perform) .none kV_Shelf_can_perform dc_Shelf_can_perform pm_Shelf_can_perform an_Shelf_can_perform cd_Shelf_can_perform ct_Shelf_can_perform), sl_Shelf_can_perform⟩)
    (c_Shelf_can_perform : PySem.W.codeIn K cd_Shelf_can_perform "Shelf.can_perform" = true)
    (k_Shelf_can_perform : PySem.W.keepIn K (.ref f_Shelf_can_perform) = true)
    (a_Shelf_perform : PySem.W.findIn K (.ref C_Shelf) "perform" = some (some (.ref f_Shelf_perform)))
    (i_Shelf_perform : PySem.W.isFn K (.ref f_Shelf_perform) = true)
    (l_Shelf_perform : K.lookup f_Shelf_perform = some ⟨oc_Shelf_perform, od_Shelf_perform, .func (PySem.W.fnOf "perform" "Shelf.perform" (defArgs SShelf_perform) (defBody SShelf_perform) (defScope SShelf_perform) .none kV_Shelf_perform dc_Shelf_perform pm_Shelf_perform an_Shelf_perform cd_Shelf_perform ct_Shelf_perform), sl_Shelf_perform⟩)
    (c_Shelf_perform : PySem.W.codeIn K cd_Shelf_perform "Shelf.perform" = true)
    (k_Shelf_perform : PySem.W.keepIn K (.ref f_Shelf_perform) = true)
    (pg_Shelf : PySem.W.plainGet K C_Shelf Str.empty = true)
    (hd_Shelf : PySem.W.hasDictIn K C_Shelf = true)
    (po_Shelf : PySem.W.plainOver K C_Shelf = true)
    (sa_Shelf : PySem.W.findIn K (.ref C_Shelf) "__setattr__" = some (some (.builtin "object.__setattr__")))
    (mk_Shelf : PySem.W.makesIn K C_Shelf = true)
    (kc_Shelf : PySem.W.keepIn K (.ref C_Shelf) = true)
    (n_Shelf_books : PySem.W.findIn K (.ref C_Shelf) "books" = some none)
    (n_Shelf_taken : PySem.W.findIn K (.ref C_Shelf) "taken" = some none)
    (g_MAX_SIZE : PySem.W.nsIn K mainGlobals "MAX_SIZE" = some (some (.int (200) t_MAX_SIZE)))
    (g_MAX_PLACE : PySem.W.nsIn K mainGlobals "MAX_PLACE" = some (some (.int (1000000000000000000000000000000) t_MAX_PLACE)))
    (g_TAKING : PySem.W.nsIn K mainGlobals "TAKING" = some (some (.str "T" t_TAKING)))
    (g_RETURNING : PySem.W.nsIn K mainGlobals "RETURNING" = some (some (.str "R" t_RETURNING)))
    (g_TAKE : PySem.W.nsIn K mainGlobals "TAKE" = some (some (.str "take" t_TAKE)))
    (g_RETURN : PySem.W.nsIn K mainGlobals "RETURN" = some (some (.str "return" t_RETURN)))
    (g_MAX_OPERATIONS : PySem.W.nsIn K mainGlobals "MAX_OPERATIONS" = some (some (.int (400) t_MAX_OPERATIONS)))
    (z_len : PySem.W.nsIn K mainGlobals "len" = some none)
    (z_range : PySem.W.nsIn K mainGlobals "range" = some none)
    (z_isinstance : PySem.W.nsIn K mainGlobals "isinstance" = some none)
    (z_int : PySem.W.nsIn K mainGlobals "int" = some none)
    (z_bool : PySem.W.nsIn K mainGlobals "bool" = some none)
    (z_str : PySem.W.nsIn K mainGlobals "str" = some none)
    (z_list : PySem.W.nsIn K mainGlobals "list" = some none)
    (z_tuple : PySem.W.nsIn K mainGlobals "tuple" = some none)
    (z_set : PySem.W.nsIn K mainGlobals "set" = some none)
    (z_sorted : PySem.W.nsIn K mainGlobals "sorted" = some none)
    (z_min : PySem.W.nsIn K mainGlobals "min" = some none)
    (z_max : PySem.W.nsIn K mainGlobals "max" = some none)
    (z_sum : PySem.W.nsIn K mainGlobals "sum" = some none)
    (z_all : PySem.W.nsIn K mainGlobals "all" = some none)
    (z_any : PySem.W.nsIn K mainGlobals "any" = some none)
    (z_abs : PySem.W.nsIn K mainGlobals "abs" = some none)
    (z_repr : PySem.W.nsIn K mainGlobals "repr" = some none)
    (z_enumerate : PySem.W.nsIn K mainGlobals "enumerate" = some none)
    (z_zip : PySem.W.nsIn K mainGlobals "zip" = some none)
    (z_reversed : PySem.W.nsIn K mainGlobals "reversed" = some none)
    (z_dict : PySem.W.nsIn K mainGlobals "dict" = some none) :
    ∃ fd : FuncData, (∀ (s : Shared) (v : Value), BindsTo s fd ⟨[v], []⟩ [("script", v)]) ∧ ∀ base : Heap, K.In base → base.Ns mainGlobals mg → FnG l.prog w K mg base 8 fa fd ["script"] (spLaw K) := by
  have e := hfa.symm.trans (PySem.W.mg_of X G a_law)
  cases e
  have B : Bn mg := ⟨PySem.W.mg_none_of X G z_len, PySem.W.mg_none_of X G z_range, PySem.W.mg_none_of X G z_isinstance, PySem.W.mg_none_of X G z_int, PySem.W.mg_none_of X G z_bool, PySem.W.mg_none_of X G z_str, PySem.W.mg_none_of X G z_list, PySem.W.mg_none_of X G z_tuple, PySem.W.mg_none_of X G z_set, PySem.W.mg_none_of X G z_sorted, PySem.W.mg_none_of X G z_min, PySem.W.mg_none_of X G z_max, PySem.W.mg_none_of X G z_sum, PySem.W.mg_none_of X G z_all, PySem.W.mg_none_of X G z_any, PySem.W.mg_none_of X G z_abs, PySem.W.mg_none_of X G z_repr, PySem.W.mg_none_of X G z_enumerate, PySem.W.mg_none_of X G z_zip, PySem.W.mg_none_of X G z_reversed, PySem.W.mg_none_of X G z_dict⟩
  have c_MAX_SIZE : Gc mg "MAX_SIZE" (.int (200)) := ⟨_, PySem.W.mg_of X G g_MAX_SIZE, ⟨_, rfl⟩⟩
  have c_MAX_PLACE : Gc mg "MAX_PLACE" (.int (1000000000000000000000000000000)) := ⟨_, PySem.W.mg_of X G g_MAX_PLACE, ⟨_, rfl⟩⟩
  have c_TAKING : Gc mg "TAKING" (.str "T") := ⟨_, PySem.W.mg_of X G g_TAKING, ⟨_, rfl⟩⟩
  have c_RETURNING : Gc mg "RETURNING" (.str "R") := ⟨_, PySem.W.mg_of X G g_RETURNING, ⟨_, rfl⟩⟩
  have c_TAKE : Gc mg "TAKE" (.str "take") := ⟨_, PySem.W.mg_of X G g_TAKE, ⟨_, rfl⟩⟩
  have c_RETURN : Gc mg "RETURN" (.str "return") := ⟨_, PySem.W.mg_of X G g_RETURN, ⟨_, rfl⟩⟩
  have c_MAX_OPERATIONS : Gc mg "MAX_OPERATIONS" (.int (400)) := ⟨_, PySem.W.mg_of X G g_MAX_OPERATIONS, ⟨_, rfl⟩⟩
  have F_is_integer : FunD K "is_integer" "is_integer" (defArgs Sis_integer) (defBody Sis_integer) (defScope Sis_integer) [.non] [] f_is_integer _ := ⟨⟨_, _, _, _, _, _, _, _, _, _, rfl, l_is_integer, c_is_integer, .inr ⟨List.cons_ne_nil _ _, _, _, [.none], _, rfl, t_is_integer, rfl, .cons rfl (.nil)⟩, .inl rfl⟩, k_is_integer⟩
  have b_is_integer := F_is_integer.binds1 (ps := ["value", "low", "high"]) 3 1 (List.cons_ne_nil _ _) rfl fun T kV doc pm an cdv ct us its hl hi => match us, its, hl, hi with | [_, _, _], [_], _, _ => ⟨_, rfl, rfl⟩
  obtain ⟨ds_is_integer, v_is_integer, b_is_integer⟩ := b_is_integer
  have bd1_is_integer := F_is_integer.binds1 (ps := ["value", "low", "high"]) 2 0 (List.cons_ne_nil _ _) rfl fun T kV doc pm an cdv ct us its hl hi => match us, its, hl, hi with | [_, _], [_], _, _ => ⟨_, rfl, rfl⟩
  obtain ⟨ds1_is_integer, v1_is_integer, b1_is_integer⟩ := bd1_is_integer
  have F_is_listed := fun_mk (st := Sis_listed) l_is_listed c_is_listed k_is_listed
  have b_is_listed := F_is_listed.binds (ps := ["value"]) fun _ _ _ _ _ _ us hl => match us, hl with | [_], _ => rfl
  have F_check_size := fun_mk (st := Scheck_size) l_check_size c_check_size k_check_size
  have b_check_size := F_check_size.binds (ps := ["size"]) fun _ _ _ _ _ _ us hl => match us, hl with | [_], _ => rfl
  have F_performed := fun_mk (st := Sperformed) l_performed c_performed k_performed
  have b_performed := F_performed.binds (ps := ["size", "schedule"]) fun _ _ _ _ _ _ us hl => match us, hl with | [_, _], _ => rfl
  have F_is_schedule := fun_mk (st := Sis_schedule) l_is_schedule c_is_schedule k_is_schedule
  have b_is_schedule := F_is_schedule.binds (ps := ["size", "value"]) fun _ _ _ _ _ _ us hl => match us, hl with | [_, _], _ => rfl
  have F_books_after := fun_mk (st := Sbooks_after) l_books_after c_books_after k_books_after
  have b_books_after := F_books_after.binds (ps := ["size", "schedule"]) fun _ _ _ _ _ _ us hl => match us, hl with | [_, _], _ => rfl
  have F_books_out := fun_mk (st := Sbooks_out) l_books_out c_books_out k_books_out
  have b_books_out := F_books_out.binds (ps := ["size", "schedule"]) fun _ _ _ _ _ _ us hl => match us, hl with | [_, _], _ => rfl
  have F_places_filled := fun_mk (st := Splaces_filled) l_places_filled c_places_filled k_places_filled
  have b_places_filled := F_places_filled.binds (ps := ["size", "schedule"]) fun _ _ _ _ _ _ us hl => match us, hl with | [_, _], _ => rfl
  have F_most_out := fun_mk (st := Smost_out) l_most_out c_most_out k_most_out
  have b_most_out := F_most_out.binds (ps := ["size", "schedule"]) fun _ _ _ _ _ _ us hl => match us, hl with | [_, _], _ => rfl
  have F_is_place_list := fun_mk (st := Sis_place_list) l_is_place_list c_is_place_list k_is_place_list
  have b_is_place_list := F_is_place_list.binds (ps := ["value"]) fun _ _ _ _ _ _ us hl => match us, hl with | [_], _ => rfl
  have F_checked_places := fun_mk (st := Schecked_places) l_checked_places c_checked_places k_checked_places
  have b_checked_places := F_checked_places.binds (ps := ["value"]) fun _ _ _ _ _ _ us hl => match us, hl with | [_], _ => rfl
  have F_checked_pair := fun_mk (st := Schecked_pair) l_checked_pair c_checked_pair k_checked_pair
  have b_checked_pair := F_checked_pair.binds (ps := ["takes", "fills"]) fun _ _ _ _ _ _ us hl => match us, hl with | [_, _], _ => rfl
  have F_is_pattern := fun_mk (st := Sis_pattern) l_is_pattern c_is_pattern k_is_pattern
  have b_is_pattern := F_is_pattern.binds (ps := ["value"]) fun _ _ _ _ _ _ us hl => match us, hl with | [_], _ => rfl
  have F_check_pattern := fun_mk (st := Scheck_pattern) l_check_pattern c_check_pattern k_check_pattern
  have b_check_pattern := F_check_pattern.binds (ps := ["value", "count"]) fun _ _ _ _ _ _ us hl => match us, hl with | [_, _], _ => rfl
  have F_numbered := fun_mk (st := Snumbered) l_numbered c_numbered k_numbered
  have b_numbered := F_numbered.binds (ps := ["places"]) fun _ _ _ _ _ _ us hl => match us, hl with | [_], _ => rfl
  have F_filled_by := fun_mk (st := Sfilled_by) l_filled_by c_filled_by k_filled_by
  have b_filled_by := F_filled_by.binds (ps := ["takes", "pattern"]) fun _ _ _ _ _ _ us hl => match us, hl with | [_, _], _ => rfl
  have F_fills_by := fun_mk (st := Sfills_by) l_fills_by c_fills_by k_fills_by
  have b_fills_by := F_fills_by.binds (ps := ["takes", "pattern"]) fun _ _ _ _ _ _ us hl => match us, hl with | [_, _], _ => rfl
  have F_bounds_by := fun_mk (st := Sbounds_by) l_bounds_by c_bounds_by k_bounds_by
  have b_bounds_by := F_bounds_by.binds (ps := ["takes", "fills"]) fun _ _ _ _ _ _ us hl => match us, hl with | [_, _], _ => rfl
  have F_obstruction_of := fun_mk (st := Sobstruction_of) l_obstruction_of c_obstruction_of k_obstruction_of
  have b_obstruction_of := F_obstruction_of.binds (ps := ["takes", "fills"]) fun _ _ _ _ _ _ us hl => match us, hl with | [_, _], _ => rfl
  have F_obstruction := fun_mk (st := Sobstruction) l_obstruction c_obstruction k_obstruction
  have b_obstruction := F_obstruction.binds (ps := ["takes", "fills"]) fun _ _ _ _ _ _ us hl => match us, hl with | [_, _], _ => rfl
  have F_is_possible := fun_mk (st := Sis_possible) l_is_possible c_is_possible k_is_possible
  have b_is_possible := F_is_possible.binds (ps := ["takes", "fills"]) fun _ _ _ _ _ _ us hl => match us, hl with | [_, _], _ => rfl
  have F_is_result := fun_mk (st := Sis_result) l_is_result c_is_result k_is_result
  have b_is_result := F_is_result.binds (ps := ["takes", "pattern", "books"]) fun _ _ _ _ _ _ us hl => match us, hl with | [_, _, _], _ => rfl
  have F_law_bag := fun_mk (st := Slaw_bag) l_law_bag c_law_bag k_law_bag
  have b_law_bag := F_law_bag.binds (ps := ["script"]) fun _ _ _ _ _ _ us hl => match us, hl with | [_], _ => rfl
  have F_law_stir := fun_mk (st := Slaw_stir) l_law_stir c_law_stir k_law_stir
  have b_law_stir := F_law_stir.binds (ps := ["number", "place"]) fun _ _ _ _ _ _ us hl => match us, hl with | [_, _], _ => rfl
  have F_law_draw := fun_mk (st := Slaw_draw) l_law_draw c_law_draw k_law_draw
  have b_law_draw := F_law_draw.binds (ps := ["bag", "bound"]) fun _ _ _ _ _ _ us hl => match us, hl with | [_, _], _ => rfl
  have F_law_shuffled := fun_mk (st := Slaw_shuffled) l_law_shuffled c_law_shuffled k_law_shuffled
  have b_law_shuffled := F_law_shuffled.binds (ps := ["bag", "items"]) fun _ _ _ _ _ _ us hl => match us, hl with | [_, _], _ => rfl
  have F_law_pattern := fun_mk (st := Slaw_pattern) l_law_pattern c_law_pattern k_law_pattern
  have b_law_pattern := F_law_pattern.binds (ps := ["bag", "count"]) fun _ _ _ _ _ _ us hl => match us, hl with | [_, _], _ => rfl
  have F_law_followed := fun_mk (st := Slaw_followed) l_law_followed c_law_followed k_law_followed
  have b_law_followed := F_law_followed.binds (ps := ["bag", "takes", "pattern", "way"]) fun _ _ _ _ _ _ us hl => match us, hl with | [_, _, _, _], _ => rfl
  have F_law_late := fun_mk (st := Slaw_late) l_law_late c_law_late k_law_late
  have b_law_late := F_law_late.binds (ps := ["takes", "pattern"]) fun _ _ _ _ _ _ us hl => match us, hl with | [_, _], _ => rfl
  have F_law_most := fun_mk (st := Slaw_most) l_law_most c_law_most k_law_most
  have b_law_most := F_law_most.binds (ps := ["pattern"]) fun _ _ _ _ _ _ us hl => match us, hl with | [_], _ => rfl
  have F_law_right := fun_mk (st := Slaw_right) l_law_right c_law_right k_law_right
  have b_law_right := F_law_right.binds (ps := ["bag", "count"]) fun _ _ _ _ _ _ us hl => match us, hl with | [_, _], _ => rfl
  have F_law := fun_mk (st := Slaw) l_law c_law k_law
  have S_Shelf : ShK K C_Shelf := ⟨⟨pg_Shelf, hd_Shelf, po_Shelf, sa_Shelf⟩, n_Shelf_books, n_Shelf_taken⟩
  have F_Shelf_d__init_d_ := fun_mk (st := SShelf_d__init_d_) l_Shelf_d__init_d_ c_Shelf_d__init_d_ k_Shelf_d__init_d_
  have b_Shelf_d__init_d_ := F_Shelf_d__init_d_.binds (ps := ["self", "size"]) fun _ _ _ _ _ _ us hl => match us, hl with | [_, _], _ => rfl
  have F_Shelf_can_take := fun_mk (st := SShelf_can_take) l_Shelf_can_take c_Shelf_can_take k_Shelf_can_take
  have b_Shelf_can_take := F_Shelf_can_take.binds (ps := ["self", "place"]) fun _ _ _ _ _ _ us hl => match us, hl with | [_, _], _ => rfl
  have F_Shelf_can_return := fun_mk (st := SShelf_can_return) l_Shelf_can_return c_Shelf_can_return k_Shelf_can_return
  have b_Shelf_can_return := F_Shelf_can_return.binds (ps := ["self", "book"]) fun _ _ _ _ _ _ us hl => match us, hl with | [_, _], _ => rfl
  have F_Shelf_take := fun_mk (st := SShelf_take) l_Shelf_take c_Shelf_take k_Shelf_take
  have b_Shelf_take := F_Shelf_take.binds (ps := ["self", "place"]) fun _ _ _ _ _ _ us hl => match us, hl with | [_, _], _ => rfl
  have F_Shelf_put_back := fun_mk (st := SShelf_put_back) l_Shelf_put_back c_Shelf_put_back k_Shelf_put_back
  have b_Shelf_put_back := F_Shelf_put_back.binds (ps := ["self", "book"]) fun _ _ _ _ _ _ us hl => match us, hl with | [_, _], _ => rfl
  have F_Shelf_can_perform := fun_mk (st := SShelf_can_perform) l_Shelf_can_perform c_Shelf_can_perform k_Shelf_can_perform
  have b_Shelf_can_perform := F_Shelf_can_perform.binds (ps := ["self", "operation"]) fun _ _ _ _ _ _ us hl => match us, hl with | [_, _], _ => rfl
  have F_Shelf_perform := fun_mk (st := SShelf_perform) l_Shelf_perform c_Shelf_perform k_Shelf_perform
  have b_Shelf_perform := F_Shelf_perform.binds (ps := ["self", "operation"]) fun _ _ _ _ _ _ us hl => match us, hl with | [_, _], _ => rfl
  refine ⟨PySem.W.fnOf "law" "law" (defArgs Slaw) (defBody Slaw) (defScope Slaw) .none kV_law dc_law pm_law an_law cd_law ct_law, fun s v => .of_eq rfl, fun base _ _ => ?_⟩
  have D_is_integer : Df l.prog w K mg base 1 "is_integer" [] spIsInteger := ⟨_, _, _, _, ok_is_integer (k := 0) B F_is_integer, PySem.W.mg_of X G a_is_integer, k_is_integer, b_is_integer, v_is_integer⟩
  have D_is_integer_2 : Df l.prog w K mg base 1 "is_integer" [.non] spIsInteger := ⟨_, _, _, _, ok_is_integer (k := 0) B F_is_integer, PySem.W.mg_of X G a_is_integer, k_is_integer, b1_is_integer, v1_is_integer⟩
  have D_check_size : Df l.prog w K mg base 2 "check_size" [] spCheckSize := ⟨_, _, _, _, ok_check_size c_MAX_SIZE D_is_integer F_check_size, PySem.W.mg_of X G a_check_size, k_check_size, b_check_size, .nil⟩
  have D_is_listed : Df l.prog w K mg base 1 "is_listed" [] spIsListed := ⟨_, _, _, _, ok_is_listed (k := 0) B F_is_listed, PySem.W.mg_of X G a_is_listed, k_is_listed, b_is_listed, .nil⟩
  have N_Shelf : Cn l.prog w K mg base 1 "Shelf" C_Shelf [] (spShInit C_Shelf) := ⟨_, _, _, _, ok_Shelf_init (k := 0) B S_Shelf F_Shelf_d__init_d_, PySem.W.mg_of X G aC_Shelf, ⟨mk_Shelf, a_Shelf_d__init_d_, i_Shelf_d__init_d_, kc_Shelf⟩, b_Shelf_d__init_d_, .nil⟩
  have M_Shelf_can_take : Mt l.prog w K mg base 2 C_Shelf "can_take" [] (spCanTake C_Shelf) := ⟨_, _, _, _, ok_Shelf_can_take B S_Shelf D_is_integer F_Shelf_can_take, S_Shelf.cl, ⟨a_Shelf_can_take, i_Shelf_can_take, k_Shelf_can_take⟩, b_Shelf_can_take, .nil⟩
  have M_Shelf_can_return : Mt l.prog w K mg base 2 C_Shelf "can_return" [] (spCanReturn C_Shelf) := ⟨_, _, _, _, ok_Shelf_can_return S_Shelf D_is_integer_2 F_Shelf_can_return, S_Shelf.cl, ⟨a_Shelf_can_return, i_Shelf_can_return, k_Shelf_can_return⟩, b_Shelf_can_return, .nil⟩
  have M_Shelf_take : Mt l.prog w K mg base 1 C_Shelf "take" [] (spTake C_Shelf) := ⟨_, _, _, _, ok_Shelf_take (k := 0) B S_Shelf F_Shelf_take, S_Shelf.cl, ⟨a_Shelf_take, i_Shelf_take, k_Shelf_take⟩, b_Shelf_take, .nil⟩
  have M_Shelf_put_back : Mt l.prog w K mg base 1 C_Shelf "put_back" [] (spPutBack C_Shelf) := ⟨_, _, _, _, ok_Shelf_put_back (k := 0) B S_Shelf F_Shelf_put_back, S_Shelf.cl, ⟨a_Shelf_put_back, i_Shelf_put_back, k_Shelf_put_back⟩, b_Shelf_put_back, .nil⟩
  have M_Shelf_can_perform : Mt l.prog w K mg base 3 C_Shelf "can_perform" [] (spCanPerform C_Shelf) := ⟨_, _, _, _, ok_Shelf_can_perform B c_TAKE c_RETURN S_Shelf D_is_listed M_Shelf_can_take M_Shelf_can_return F_Shelf_can_perform, S_Shelf.cl, ⟨a_Shelf_can_perform, i_Shelf_can_perform, k_Shelf_can_perform⟩, b_Shelf_can_perform, .nil⟩
  have M_Shelf_perform : Mt l.prog w K mg base 2 C_Shelf "perform" [] (spPerform C_Shelf) := ⟨_, _, _, _, ok_Shelf_perform B c_TAKE S_Shelf M_Shelf_take M_Shelf_put_back F_Shelf_perform, S_Shelf.cl, ⟨a_Shelf_perform, i_Shelf_perform, k_Shelf_perform⟩, b_Shelf_perform, .nil⟩
  have D_performed : Df l.prog w K mg base 4 "performed" [] (spPerformed C_Shelf) := ⟨_, _, _, _, ok_performed B c_MAX_OPERATIONS S_Shelf D_check_size D_is_listed N_Shelf M_Shelf_can_perform M_Shelf_perform F_performed, PySem.W.mg_of X G a_performed, k_performed, b_performed, .nil⟩
  have D_is_schedule : Df l.prog w K mg base 5 "is_schedule" [] spIsSched := ⟨_, _, _, _, ok_is_schedule D_performed F_is_schedule, PySem.W.mg_of X G a_is_schedule, k_is_schedule, b_is_schedule, .nil⟩
  have D_books_after : Df l.prog w K mg base 5 "books_after" [] spBooksAfter := ⟨_, _, _, _, ok_books_after S_Shelf D_performed F_books_after, PySem.W.mg_of X G a_books_after, k_books_after, b_books_after, .nil⟩
  have D_books_out : Df l.prog w K mg base 5 "books_out" [] spBooksOut := ⟨_, _, _, _, ok_books_out B S_Shelf D_performed F_books_out, PySem.W.mg_of X G a_books_out, k_books_out, b_books_out, .nil⟩
  have D_places_filled : Df l.prog w K mg base 5 "places_filled" [] spFilledP := ⟨_, _, _, _, ok_places_filled D_performed F_places_filled, PySem.W.mg_of X G a_places_filled, k_places_filled, b_places_filled, .nil⟩
  have D_most_out : Df l.prog w K mg base 5 "most_out" [] spMostOut := ⟨_, _, _, _, ok_most_out D_performed F_most_out, PySem.W.mg_of X G a_most_out, k_most_out, b_most_out, .nil⟩
  have D_is_place_list : Df l.prog w K mg base 2 "is_place_list" [] spIsPlaceList := ⟨_, _, _, _, ok_is_place_list B c_MAX_SIZE c_MAX_PLACE D_is_listed D_is_integer F_is_place_list, PySem.W.mg_of X G a_is_place_list, k_is_place_list, b_is_place_list, .nil⟩
  have D_checked_places : Df l.prog w K mg base 3 "checked_places" [] spCheckedPlaces := ⟨_, _, _, _, ok_checked_places B D_is_place_list F_checked_places, PySem.W.mg_of X G a_checked_places, k_checked_places, b_checked_places, .nil⟩
  have D_is_pattern : Df l.prog w K mg base 1 "is_pattern" [] spIsPattern := ⟨_, _, _, _, ok_is_pattern (k := 0) B c_MAX_SIZE c_TAKING c_RETURNING F_is_pattern, PySem.W.mg_of X G a_is_pattern, k_is_pattern, b_is_pattern, .nil⟩
  have D_check_pattern : Df l.prog w K mg base 2 "check_pattern" [] spCheckPattern := ⟨_, _, _, _, ok_check_pattern B D_is_pattern F_check_pattern, PySem.W.mg_of X G a_check_pattern, k_check_pattern, b_check_pattern, .nil⟩
  have D_filled_by : Df l.prog w K mg base 1 "filled_by" [] spFilledBy := ⟨_, _, _, _, ok_filled_by (k := 0) B c_TAKING F_filled_by, PySem.W.mg_of X G a_filled_by, k_filled_by, b_filled_by, .nil⟩
  have D_fills_by : Df l.prog w K mg base 4 "fills_by" [] spFillsBy := ⟨_, _, _, _, ok_fills_by B D_checked_places D_check_pattern D_filled_by F_fills_by, PySem.W.mg_of X G a_fills_by, k_fills_by, b_fills_by, .nil⟩
  have D_numbered : Df l.prog w K mg base 1 "numbered" [] spNumbered := ⟨_, _, _, _, ok_numbered (k := 0) B F_numbered, PySem.W.mg_of X G a_numbered, k_numbered, b_numbered, .nil⟩
  have D_bounds_by : Df l.prog w K mg base 2 "bounds_by" [] spBoundsBy := ⟨_, _, _, _, ok_bounds_by B D_numbered F_bounds_by, PySem.W.mg_of X G a_bounds_by, k_bounds_by, b_bounds_by, .nil⟩
  have D_checked_pair : Df l.prog w K mg base 4 "checked_pair" [] spCheckedPair := ⟨_, _, _, _, ok_checked_pair B D_checked_places F_checked_pair, PySem.W.mg_of X G a_checked_pair, k_checked_pair, b_checked_pair, .nil⟩
  have D_obstruction_of : Df l.prog w K mg base 3 "obstruction_of" [] spObsNone := ⟨_, _, _, _, ok_obstruction_of B D_bounds_by F_obstruction_of, PySem.W.mg_of X G a_obstruction_of, k_obstruction_of, b_obstruction_of, .nil⟩
  have D_obstruction : Df l.prog w K mg base 5 "obstruction" [] spObsN := ⟨_, _, _, _, ok_obstruction D_checked_pair D_obstruction_of F_obstruction, PySem.W.mg_of X G a_obstruction, k_obstruction, b_obstruction, .nil⟩
  have D_is_possible : Df l.prog w K mg base 6 "is_possible" [] spPossT := ⟨_, _, _, _, ok_is_possible D_obstruction F_is_possible, PySem.W.mg_of X G a_is_possible, k_is_possible, b_is_possible, .nil⟩
  have D_is_result : Df l.prog w K mg base 4 "is_result" [] spIsResult := ⟨_, _, _, _, ok_is_result B c_TAKING D_checked_places D_check_pattern D_is_place_list D_numbered F_is_result, PySem.W.mg_of X G a_is_result, k_is_result, b_is_result, .nil⟩
  have D_law_bag : Df l.prog w K mg base 1 "_law_bag" [] (spBag K) := ⟨_, _, _, _, ok_law_bag (k := 0) B F_law_bag, PySem.W.mg_of X G a_law_bag, k_law_bag, b_law_bag, .nil⟩
  have D_law_stir : Df l.prog w K mg base 1 "_law_stir" [] spStir := ⟨_, _, _, _, ok_law_stir (k := 0) F_law_stir, PySem.W.mg_of X G a_law_stir, k_law_stir, b_law_stir, .nil⟩
  have D_law_draw : Df l.prog w K mg base 2 "_law_draw" [] spDraw := ⟨_, _, _, _, ok_law_draw B D_law_stir F_law_draw, PySem.W.mg_of X G a_law_draw, k_law_draw, b_law_draw, .nil⟩
  have D_law_shuffled : Df l.prog w K mg base 3 "_law_shuffled" [] spShuffled := ⟨_, _, _, _, ok_law_shuffled B D_law_draw F_law_shuffled, PySem.W.mg_of X G a_law_shuffled, k_law_shuffled, b_law_shuffled, .nil⟩
  have D_law_pattern : Df l.prog w K mg base 3 "_law_pattern" [] spPattern := ⟨_, _, _, _, ok_law_pattern B D_law_draw F_law_pattern, PySem.W.mg_of X G a_law_pattern, k_law_pattern, b_law_pattern, .nil⟩
  have D_law_late : Df l.prog w K mg base 1 "_law_late" [] spLate := ⟨_, _, _, _, ok_law_late (k := 0) B F_law_late, PySem.W.mg_of X G a_law_late, k_law_late, b_law_late, .nil⟩
  have D_law_most : Df l.prog w K mg base 1 "_law_most" [] spMost := ⟨_, _, _, _, ok_law_most (k := 0) B F_law_most, PySem.W.mg_of X G a_law_most, k_law_most, b_law_most, .nil⟩
  have D_law_followed : Df l.prog w K mg base 3 "_law_followed" [] spFollowed := ⟨_, _, _, _, ok_law_followed B D_law_draw F_law_followed, PySem.W.mg_of X G a_law_followed, k_law_followed, b_law_followed, .nil⟩
  have D_law_right : Df l.prog w K mg base 7 "_law_right" [] spRight5 := ⟨_, _, _, _, ok_law_right B D_law_shuffled D_law_pattern D_law_late D_fills_by D_is_possible D_law_followed D_is_schedule D_places_filled D_books_out D_books_after D_most_out D_law_most D_is_result F_law_right, PySem.W.mg_of X G a_law_right, k_law_right, b_law_right, .nil⟩
  exact ok_law B D_law_bag D_law_draw D_law_right F_law
theorem the_walk {l : PySem.W.OpenLaw} {q : Program} {loose : List Str} {XP : (Str → Option Value) → Heap → Prop} {YP : World → Heap → Prop} {d : DefRec} {K : Params → PySem.W.Frag} (hn : l.most = some 63) (hdf : d.params.defaults = [])
    (hY : ∀ (w : World) (h : Heap), YP w h → (K w.params).In h)
    (F : ∀ (w : World) (mg : Str → Option Value) (fa : Addr) (h : Heap), (K w.params).In h → h.Ns mainGlobals mg → mg d.name = some (.ref fa) →
      ∃ fd : FuncData, (∀ (s : Shared) (u : Value), BindsTo s fd ⟨[u], []⟩ [("script", u)]) ∧ ∀ base : Heap, (K w.params).In base → base.Ns mainGlobals mg → FnG l.prog w (K w.params) mg base 8 fa fd ["script"] (spLaw (K w.params))) :
    PySem.W.WalkO q loose XP YP l.row.toRowW d [] (fun f vs => PySem.call f vs) :=
  Lx.gwalk (n := 63) (k := 8) (x := "script") (sp := fun w => spLaw (K w.params)) hn (by decide) hdf ⟨rfl, by decide, by decide⟩ hY F (fun _ _ a ns hl hb hS => ⟨a, ns, rfl, hS, hl, fun _ => rfl⟩)
end My
open PySem PySem.W PyProof.Rows in
set_option maxRecDepth 100000 in
set_option maxHeartbeats 0 in
theorem PySem.Challenge.cw_leftreturn_k05_whole_schedules_and_pairs_holds : PySem.Challenge.rw_leftreturn_k05_whole_schedules_and_pairs.Holds := by
  w_on; o_law; k_head; (case hw => w_witness2)
  k_fill
  refine My.the_walk (l := PySem.Challenge.rw_leftreturn_k05_whole_schedules_and_pairs) rfl rfl (fun w h Y => PySem.W.kIn_of Y) ?F
  case F =>
    intro w mg fa h KX G hmg
    refine' My.all_mk KX G hmg ?a_is_integer ?l_is_integer ?t_is_integer ?c_is_integer ?k_is_integer ?a_is_listed ?l_is_listed ?c_is_listed ?k_is_listed ?a_check_size ?l_check_size ?c_check_size ?k_check_size ?a_performed ?l_performed ?c_performed ?k_performed ?a_is_schedule ?l_is_schedule ?c_is_schedule ?k_is_schedule ?a_books_after ?l_books_after ?c_books_after ?k_books_after ?a_books_out ?l_books_out ?c_books_out ?k_books_out ?a_places_filled ?l_places_filled ?c_places_filled ?k_places_filled ?a_most_out ?l_most_out ?c_most_out ?k_most_out ?a_is_place_list ?l_is_place_list ?c_is_place_list ?k_is_place_list ?a_checked_places ?l_checked_places ?c_checked_places ?k_checked_places ?a_checked_pair ?l_checked_pair ?c_checked_pair ?k_checked_pair ?a_is_pattern ?l_is_pattern ?c_is_pattern ?k_is_pattern ?a_check_pattern ?l_check_pattern ?c_check_pattern ?k_check_pattern ?a_numbered ?l_numbered ?c_numbered ?k_numbered ?a_filled_by ?l_filled_by ?c_filled_by ?k_filled_by ?a_fills_by ?l_fills_by ?c_fills_by ?k_fills_by ?a_bounds_by ?l_bounds_by ?c_bounds_by ?k_bounds_by ?a_obstruction_of ?l_obstruction_of ?c_obstruction_of ?k_obstruction_of ?a_obstruction ?l_obstruction ?c_obstruction ?k_obstruction ?a_is_possible ?l_is_possible ?c_is_possible ?k_is_possible ?a_is_result ?l_is_result ?c_is_result ?k_is_result ?a_law_bag ?l_law_bag ?c_law_bag ?k_law_bag ?a_law_stir ?l_law_stir ?c_law_stir ?k_law_stir ?a_law_draw ?l_law_draw ?c_law_draw ?k_law_draw ?a_law_shuffled ?l_law_shuffled ?c_law_shuffled ?k_law_shuffled ?a_law_pattern ?l_law_pattern ?c_law_pattern ?k_law_pattern ?a_law_followed ?l_law_followed ?c_law_followed ?k_law_followed ?a_law_late ?l_law_late ?c_law_late ?k_law_late ?a_law_most ?l_law_most ?c_law_most ?k_law_most ?a_law_right ?l_law_right ?c_law_right ?k_law_right ?a_law ?l_law ?c_law ?k_law ?aC_Shelf ?a_Shelf_d__init_d_ ?i_Shelf_d__init_d_ ?l_Shelf_d__init_d_ ?c_Shelf_d__init_d_ ?k_Shelf_d__init_d_ ?a_Shelf_can_take ?i_Shelf_can_take ?l_Shelf_can_take ?c_Shelf_can_take ?k_Shelf_can_take ?a_Shelf_can_return ?i_Shelf_can_return ?l_Shelf_can_return ?c_Shelf_can_return ?k_Shelf_can_return ?a_Shelf_take ?i_Shelf_take ?l_Shelf_take ?c_Shelf_take ?k_Shelf_take ?a_Shelf_put_back ?i_Shelf_put_back ?l_Shelf_put_back ?c_Shelf_put_back ?k_Shelf_put_back ?a_Shelf_can_perform ?i_Shelf_can_perform ?l_Shelf_can_perform ?c_Shelf_can_perform ?k_Shelf_can_perform ?a_Shelf_perform ?i_Shelf_perform ?l_Shelf_perform ?c_Shelf_perform ?k_Shelf_perform ?pg_Shelf ?hd_Shelf ?po_Shelf ?sa_Shelf ?mk_Shelf ?kc_Shelf ?n_Shelf_books ?n_Shelf_taken ?g_MAX_SIZE ?g_MAX_PLACE ?g_TAKING ?g_RETURNING ?g_TAKE ?g_RETURN ?g_MAX_OPERATIONS ?z_len ?z_range ?z_isinstance ?z_int ?z_bool ?z_str ?z_list ?z_tuple ?z_set ?z_sorted ?z_min ?z_max ?z_sum ?z_all ?z_any ?z_abs ?z_repr ?z_enumerate ?z_zip ?z_reversed ?z_dict
    (case a_is_integer => k_is)
    (case l_is_integer => k_is)
    (case t_is_integer => k_is)
    (case c_is_integer => k_is)
    (case k_is_integer => k_is)
    (case a_is_listed => k_is)
    (case l_is_listed => k_is)
    (case c_is_listed => k_is)
    (case k_is_listed => k_is)
    (case a_check_size => k_is)
    (case l_check_size => k_is)
    (case c_check_size => k_is)
    (case k_check_size => k_is)
    (case a_performed => k_is)
    (case l_performed => k_is)
    (case c_performed => k_is)
    (case k_performed => k_is)
    (case a_is_schedule => k_is)
    (case l_is_schedule => k_is)
    (case c_is_schedule => k_is)
    (case k_is_schedule => k_is)
    (case a_books_after => k_is)
    (case l_books_after => k_is)
    (case c_books_after => k_is)
    (case k_books_after => k_is)
    (case a_books_out => k_is)
    (case l_books_out => k_is)
    (case c_books_out => k_is)
    (case k_books_out => k_is)
    (case a_places_filled => k_is)
    (case l_places_filled => k_is)
    (case c_places_filled => k_is)
    (case k_places_filled => k_is)
    (case a_most_out => k_is)
    (case l_most_out => k_is)
    (case c_most_out => k_is)
    (case k_most_out => k_is)
    (case a_is_place_list => k_is)
    (case l_is_place_list => k_is)
    (case c_is_place_list => k_is)
    (case k_is_place_list => k_is)
    (case a_checked_places => k_is)
    (case l_checked_places => k_is)
    (case c_checked_places => k_is)
    (case k_checked_places => k_is)
    (case a_checked_pair => k_is)
    (case l_checked_pair => k_is)
    (case c_checked_pair => k_is)
    (case k_checked_pair => k_is)
    (case a_is_pattern => k_is)
    (case l_is_pattern => k_is)
    (case c_is_pattern => k_is)
    (case k_is_pattern => k_is)
    (case a_check_pattern => k_is)
    (case l_check_pattern => k_is)
    (case c_check_pattern => k_is)
    (case k_check_pattern => k_is)
    (case a_numbered => k_is)
    (case l_numbered => k_is)
    (case c_numbered => k_is)
    (case k_numbered => k_is)
    (case a_filled_by => k_is)
    (case l_filled_by => k_is)
    (case c_filled_by => k_is)
    (case k_filled_by => k_is)
    (case a_fills_by => k_is)
    (case l_fills_by => k_is)
    (case c_fills_by => k_is)
    (case k_fills_by => k_is)
    (case a_bounds_by => k_is)
    (case l_bounds_by => k_is)
    (case c_bounds_by => k_is)
    (case k_bounds_by => k_is)
    (case a_obstruction_of => k_is)
    (case l_obstruction_of => k_is)
    (case c_obstruction_of => k_is)
    (case k_obstruction_of => k_is)
    (case a_obstruction => k_is)
    (case l_obstruction => k_is)
    (case c_obstruction => k_is)
    (case k_obstruction => k_is)
    (case a_is_possible => k_is)
    (case l_is_possible => k_is)
    (case c_is_possible => k_is)
    (case k_is_possible => k_is)
    (case a_is_result => k_is)
    (case l_is_result => k_is)
    (case c_is_result => k_is)
    (case k_is_result => k_is)
    (case a_law_bag => k_is)
    (case l_law_bag => k_is)
    (case c_law_bag => k_is)
    (case k_law_bag => k_is)
    (case a_law_stir => k_is)
    (case l_law_stir => k_is)
    (case c_law_stir => k_is)
    (case k_law_stir => k_is)
    (case a_law_draw => k_is)
    (case l_law_draw => k_is)
    (case c_law_draw => k_is)
    (case k_law_draw => k_is)
    (case a_law_shuffled => k_is)
    (case l_law_shuffled => k_is)
    (case c_law_shuffled => k_is)
    (case k_law_shuffled => k_is)
    (case a_law_pattern => k_is)
    (case l_law_pattern => k_is)
    (case c_law_pattern => k_is)
    (case k_law_pattern => k_is)
    (case a_law_followed => k_is)
    (case l_law_followed => k_is)
    (case c_law_followed => k_is)
    (case k_law_followed => k_is)
    (case a_law_late => k_is)
    (case l_law_late => k_is)
    (case c_law_late => k_is)
    (case k_law_late => k_is)
    (case a_law_most => k_is)
    (case l_law_most => k_is)
    (case c_law_most => k_is)
    (case k_law_most => k_is)
    (case a_law_right => k_is)
    (case l_law_right => k_is)
    (case c_law_right => k_is)
    (case k_law_right => k_is)
    (case a_law => k_is)
    (case l_law => k_is)
    (case c_law => k_is)
    (case k_law => k_is)
    (case aC_Shelf => k_is)
    (case a_Shelf_d__init_d_ => k_is)
    (case i_Shelf_d__init_d_ => k_is)
    (case l_Shelf_d__init_d_ => k_is)
    (case c_Shelf_d__init_d_ => k_is)
    (case k_Shelf_d__init_d_ => k_is)
    (case a_Shelf_can_take => k_is)
    (case i_Shelf_can_take => k_is)
    (case l_Shelf_can_take => k_is)
    (case c_Shelf_can_take => k_is)
    (case k_Shelf_can_take => k_is)
    (case a_Shelf_can_return => k_is)
    (case i_Shelf_can_return => k_is)
    (case l_Shelf_can_return => k_is)
    (case c_Shelf_can_return => k_is)
    (case k_Shelf_can_return => k_is)
    (case a_Shelf_take => k_is)
    (case i_Shelf_take => k_is)
    (case l_Shelf_take => k_is)
    (case c_Shelf_take => k_is)
    (case k_Shelf_take => k_is)
    (case a_Shelf_put_back => k_is)
    (case i_Shelf_put_back => k_is)
    (case l_Shelf_put_back => k_is)
    (case c_Shelf_put_back => k_is)
    (case k_Shelf_put_back => k_is)
    (case a_Shelf_can_perform => k_is)
    (case i_Shelf_can_perform => k_is)
    (case l_Shelf_can_perform => k_is)
    (case c_Shelf_can_perform => k_is)
    (case k_Shelf_can_perform => k_is)
    (case a_Shelf_perform => k_is)
    (case i_Shelf_perform => k_is)
    (case l_Shelf_perform => k_is)
    (case c_Shelf_perform => k_is)
    (case k_Shelf_perform => k_is)
    (case pg_Shelf => k_is)
    (case hd_Shelf => k_is)
    (case po_Shelf => k_is)
    (case sa_Shelf => k_is)
    (case mk_Shelf => k_is)
    (case kc_Shelf => k_is)
    (case n_Shelf_books => k_is)
    (case n_Shelf_taken => k_is)
    (case g_MAX_SIZE => k_is)
    (case g_MAX_PLACE => k_is)
    (case g_TAKING => k_is)
    (case g_RETURNING => k_is)
    (case g_TAKE => k_is)
    (case g_RETURN => k_is)
    (case g_MAX_OPERATIONS => k_is)
    (case z_len => k_is)
    (case z_range => k_is)
    (case z_isinstance => k_is)
    (case z_int => k_is)
    (case z_bool => k_is)
    (case z_str => k_is)
    (case z_list => k_is)
    (case z_tuple => k_is)
    (case z_set => k_is)
    (case z_sorted => k_is)
    (case z_min => k_is)
    (case z_max => k_is)
    (case z_sum => k_is)
    (case z_all => k_is)
    (case z_any => k_is)
    (case z_abs => k_is)
    (case z_repr => k_is)
    (case z_enumerate => k_is)
    (case z_zip => k_is)
    (case z_reversed => k_is)
    (case z_dict => k_is)
