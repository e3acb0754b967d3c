import PyProof.Rows.All
import Wide.All
import OpenK.AllK
import Wide.FinOn
import HandS.ForMost
import HandS.WordsExc
import HandS.Wide
import HandS.Defaults
import HandS.SortInts
import HandS.IsInst
import HandS.EndBits
import PyProof.ReprRoads
import HandS.Conv
import HandS.Style
import HandS.NoneIn
import HandS.TupAny
import HandS.SetFor
import HandS.Text
import PyProof.Rows.ChunkEnd
import HandS.Zip
import HandS.Property
import HandS.DictComp
import HandS.More
import KE.GoesMore
import KE.KDictZip
import KE.KRevIter
import HandS.ListItems
import KE.GoesEnum
import PyProof.StrOps2
import HandS.Comp
import HandS.ExcInit
import HandS.ExcField
import HandS.ExcOwn
import HandS.Strs
import PyProof.SumWalkG
import PyProof.ListOps
import PyProof.WalkInts
import HandS.ExcValue
import PySem.Challenge.RW_leftreturn_k32_wishes_of_pairs
import PyProof.Rows.RegReprOcc
set_option Elab.async false
set_option linter.all false
set_option maxRecDepth 100000
set_option maxHeartbeats 4000000
namespace Lx
open PySem PySem.Spec PyProof.Rows L2

/-! ### a def's promise where no repr runs around it -/
structure FnG (P : Program) (w : World) (K : PySem.W.Frag) (mg : Str → Option Value) (base : Heap) (k : Nat) (f : Addr) (fd : FuncData) (ps : List Str) (sp : Sp) : Prop where
  ln : ∀ us H Q E, sp us H Q E → us.length = ps.length
  go : ∀ (A : Around) (fs : List Env) (s : Shared) (H : Hp) (ar : Args) (us : List Value) (vs : List V) (Q : VK) (E : XK), A.guards = some [] → Room k A → Env0 P w K mg base A fs s H →
    BindsTo s fd ar (ps.zip us) → Vals vs us → sp vs H Q E → codeAny (model P w) A (.call (.ref f) ar) (CR (L2.CX P w) fs P w H s Q E) s
section
variable {P : Program} {w : World} {K : PySem.W.Frag} {mg : Str → Option Value} {base : Heap}
theorem FnG.up {j k : Nat} {f : Addr} {fd : FuncData} {ps : List Str} {sp : Sp} (F : FnG P w K mg base j f fd ps sp) (h : j ≤ k) : FnG P w K mg base k f fd ps sp :=
  ⟨F.ln, fun A fs s H ar us vs Q E hg hr => F.go A fs s H ar us vs Q E hg (hr.mono h)⟩
theorem FnG.imp {k : Nat} {f : Addr} {fd : FuncData} {ps : List Str} {sp sp' : Sp} (F : FnG P w K mg base k f fd ps sp) (h : ∀ vs H Q E, sp' vs H Q E → sp vs H Q E) : FnG P w K mg base k f fd ps sp' :=
  ⟨fun vs H Q E z => F.ln vs H Q E (h _ _ _ _ z), fun A fs s H ar us vs Q E hg hr e b v z => F.go A fs s H ar us vs Q E hg hr e b v (h _ _ _ _ z)⟩
theorem FnG.of {k : Nat} {f : Addr} {fd : FuncData} {ps : List Str} {sp : Sp} (F : FnOk P w K mg base (L2.CX P w) k f fd ps sp) : FnG P w K mg base k f fd ps sp :=
  ⟨F.len, fun A fs s H ar us vs Q E _ hr => F.run A fs s H ar us vs Q E hr⟩

/-- the rule for a def: its body's term, read where no repr runs -/
theorem graw {x qual : Str} {st : Stmt} {f : Addr} {dV kV doc pm cdv ct oc : Value} {an od : Option Addr} {osl : Array (Option Value)} {N ps : List Str} {k : Nat} {sp : Sp}
    (lk : K.lookup f = some ⟨oc, od, .func (PySem.W.fnOf x qual (defArgs st) (defBody st) (defScope st) dV kV doc pm an cdv ct), osl⟩) (hcd : PySem.W.codeIn K cdv qual = true) (S : FnScope N ps (defScope st)) (ln : ∀ vs H Q E, sp vs H Q E → vs.length = ps.length)
    (hb : ∀ (A : Around) (fs : List Env) (s : Shared) (H : Hp) (vs : List V) (Q : VK) (E : XK), (A.deeper (envOfC qual (defScope st) s.heap.objs.size f cdv)).guards = some [] → Room k (A.deeper (envOfC qual (defScope st) s.heap.objs.size f cdv)) → sp vs H Q E →
      ∃ t, PSs (cxOf (L2.CX P w) P w K mg base N qual (defScope st) f cdv A fs s H E) (defBody st) t ∧ t { nx := fun _ H' => Q .non H', rt := Q } (start N vs) H) : FnG P w K mg base (k + 1) f (PySem.W.fnOf x qual (defArgs st) (defBody st) (defScope st) dV kV doc pm an cdv ct) ps sp := by
  refine ⟨ln, fun A fs s H ar us vs Q E hg hr e0 hbd rv hs => ?_⟩
  have hl := ln _ _ _ _ hs
  have inK : K.In s.heap := e0.mod.kin.keeps (fun b o z => (e0.bs b o z).1)
  have nl : s.heap.NoLimit := e0.mod.nolimit.keeps (fun b o z => (e0.bs b o z).1)
  have kinds : ∀ y ∈ ps.zip us, (defScope st).names.lookup y.1 = some .local ∨ ((defScope st).names.lookup y.1 = some .cell ∧ ((cellsFrom (s.heap.objs.size + 1) (defScope st).names []).lookup y.1).isSome = true) := by
    rintro ⟨n, v⟩ hy
    have hm := S.par n (List.of_mem_zip hy).1
    cases hm with
    | inl q => exact Or.inl q
    | inr q => exact Or.inr ⟨q, PySem.W.cellsFrom_some _ _ _ (Or.inl q)⟩
  apply codeAny_call_function hr.depth (inK _ _ lk) rfl S.co S.gen rfl (PySem.W.codeRec_of inK hcd)
  apply hbd
  apply wpAny_newFunctionEnv_cells S.kind kinds
  intro env he s1 x
  subst he
  refine ⟨nl.keeps x.toInCall.keep, codeAny_func ?_⟩
  obtain ⟨t, ht, hq⟩ := hb A fs s H vs Q E hg (hr.deeper _) hs
  have I := inv_start (CX := L2.CX P w) (P := P) (w := w) (K := K) (mg := mg) (base := base) (f := f) (cd := cdv) (qual := qual) (E := E) S hr.hd e0 hl rv x
  apply wpAny_mono (ht.run [] s1 (start N vs) H _ I hq)
  · intro fl s' z
    have done : ∀ {σ' : L2.St} {H' : Hp} {v : V} {u : Value}, Inv (cxOf (L2.CX P w) P w K mg base N qual (defScope st) f cdv A fs s H E) [] σ' H' s' → RelV v u → Q v H' → CE fs P w H s Q u s' := by
      intro σ' H' v u J r q
      exact ⟨v, H', J.os, J.bare, J.base, J.hok, r, q⟩
    cases fl with
    | next => exact let ⟨_, _, J, q⟩ := z; done (v := V.non) (u := Value.none) J rfl q
    | brk => exact let ⟨_, _, _, q⟩ := z; q.elim
    | cont => exact let ⟨_, _, _, q⟩ := z; q.elim
    | ret u => exact let ⟨_, _, _, J, r, q⟩ := z; done J r q
  · exact fun _ _ z => z
theorem gok {x qual : Str} {st : Stmt} {f : Addr} {fd : FuncData} {N ps : List Str} {k : Nat} {sp : Sp} (F : Fun K x qual st f fd) (S : FnScope N ps (defScope st)) (ln : ∀ vs H Q E, sp vs H Q E → vs.length = ps.length)
    (hb : ∀ (cdv : Value) (A : Around) (fs : List Env) (s : Shared) (H : Hp) (vs : List V) (Q : VK) (E : XK), (A.deeper (envOfC qual (defScope st) s.heap.objs.size f cdv)).guards = some [] → Room k (A.deeper (envOfC qual (defScope st) s.heap.objs.size f cdv)) → sp vs H Q E →
      ∃ t, PSs (cxOf (L2.CX P w) P w K mg base N qual (defScope st) f cdv A fs s H E) (defBody st) t ∧ t { nx := fun _ H' => Q .non H', rt := Q } (start N vs) H) : FnG P w K mg base (k + 1) f fd ps sp := by
  obtain ⟨oc, od, kV, doc, pm, an, cdv, ct, osl, rfl, lk, hcd⟩ := F.ex
  exact graw lk hcd S ln (hb cdv)
theorem gokD {x qual : Str} {st : Stmt} {f : Addr} {fd : FuncData} {N ps : List Str} {k : Nat} {sp : Sp} {dvs : List V} {kws : List (Str × V)} (F : FunD K x qual (defArgs st) (defBody st) (defScope st) dvs kws f fd) (S : FnScope N ps (defScope st)) (ln : ∀ vs H Q E, sp vs H Q E → vs.length = ps.length)
    (hb : ∀ (cdv : Value) (A : Around) (fs : List Env) (s : Shared) (H : Hp) (vs : List V) (Q : VK) (E : XK), (A.deeper (envOfC qual (defScope st) s.heap.objs.size f cdv)).guards = some [] → Room k (A.deeper (envOfC qual (defScope st) s.heap.objs.size f cdv)) → sp vs H Q E →
      ∃ t, PSs (cxOf (L2.CX P w) P w K mg base N qual (defScope st) f cdv A fs s H E) (defBody st) t ∧ t { nx := fun _ H' => Q .non H', rt := Q } (start N vs) H) : FnG P w K mg base (k + 1) f fd ps sp := by
  obtain ⟨oc, od, dV, kV, doc, pm, an, cdv, ct, osl, rfl, lk, hcd, _, _⟩ := F.ex
  exact graw lk hcd S ln (hb cdv)

/-- a def as callers see it: n values written, the defaults dvs fill up -/
structure Df (P : Program) (w : World) (K : PySem.W.Frag) (mg : Str → Option Value) (base : Heap) (k : Nat) (x : Str) (dvs : List V) (sp : Sp) : Prop where
  ex : ∃ (f : Addr) (fd : FuncData) (ps : List Str) (ds : List Value), FnG P w K mg base k f fd ps sp ∧ mg x = some (.ref f) ∧ PySem.W.keepIn K (.ref f) = true ∧ Binds K fd ps ds ∧ Vals dvs ds
theorem Df.up {j k : Nat} {x : Str} {dvs : List V} {sp : Sp} (D : Df P w K mg base j x dvs sp) (h : j ≤ k) : Df P w K mg base k x dvs sp :=
  let ⟨f, fd, ps, ds, F, r⟩ := D.ex; ⟨f, fd, ps, ds, F.up h, r⟩
theorem Df.imp {k : Nat} {x : Str} {dvs : List V} {sp sp' : Sp} (D : Df P w K mg base k x dvs sp) (h : ∀ vs H Q E, sp' vs H Q E → sp vs H Q E) : Df P w K mg base k x dvs sp' :=
  let ⟨f, fd, ps, ds, F, r⟩ := D.ex; ⟨f, fd, ps, ds, F.imp h, r⟩
end

/-! ### calls -/
section
variable {X : Cx} {k : Nat} {f C : Addr} {fd : FuncData} {ps : List Str} {sp : Sp} {dvs : List V} {ds : List Value} {E : XK} {x m : Str} {p pos apos : Pos} {e o : Expr} {es : List Expr} {ta : TE} {t : TA}
theorem grun {pins : List (Addr × Obj)} {σ : L2.St} {H : Hp} {s : Shared} {Q : VK} {us : List Value} {vs : List V} (F : FnG X.prog X.w X.K X.mg X.base k f fd ps sp) (hG : X.A.guards = some []) (hr : Room k X.A) (hb : Binds X.K fd ps ds) (hd : Vals dvs ds)
    (hx : Passes (L2.CX X.prog X.w) X E) (I : Inv X pins σ H s) (r : Vals vs us) (h : sp (vs ++ dvs) H Q E) : wpAny (model X.prog X.w) X.A (call (.ref f) us) (EP X pins σ Q) X.xe s := by
  have rv := r.append hd
  have z := F.go X.A X.stack s H ⟨us, []⟩ (us ++ ds) (vs ++ dvs) Q E hG hr I.env0 (hb s us I.kIn (rv.length.symm.trans (F.ln _ _ _ _ h))) rv h
  refine wpAny_call (codeAny_mono z ?_)
  intro r s' hq
  cases r with
  | error e => exact hx pins σ H s e s' I hq
  | ok fl => cases fl with
    | ret u => exact I.after hq
    | next => exact hq.elim
    | brk => exact hq.elim
    | cont => exact hq.elim
theorem gcall (F : FnG X.prog X.w X.K X.mg X.base k f fd ps sp) (hG : X.A.guards = some []) (hr : Room k X.A) (hg : Gl X x) (hm : X.mg x = some (.ref f)) (hk : PySem.W.keepIn X.K (.ref f) = true) (hb : Binds X.K fd ps ds) (hd : Vals dvs ds) (hx : Passes (L2.CX X.prog X.w) X E)
    (ha : PA X (e :: es) t) (hdb : (x == ("__debug__" : Str)) = false := by decide) (he : starEach (e :: es) X.env = (false, eval e X.env) :: starEach es X.env := by rfl) (hpl : (backTo pos (starEach es X.env)).any (·.1) = false := by rfl) :
    PE X (.Call (.Name x p) (e :: es) [] pos) (tCall sp dvs E t) := by
  constructor
  intro pins s σ H Q I h
  apply wpAny_Call_Name_kw
  refine ld_glob I hg hm ?_ hdb
  have z := ha.run pos pins s σ H _ I h
  exact PySem.W.callWith_K (h₀ := X.base) I.ok.mod.kin hk (thn z (fun us s1 y => let ⟨_, _, I1, r, q⟩ := y; ⟨I1.kIn, grun F hG hr hb hd hx I1 r q⟩)) he hpl
theorem gcall0 (F : FnG X.prog X.w X.K X.mg X.base k f fd ps sp) (hG : X.A.guards = some []) (hr : Room k X.A) (hg : Gl X x) (hm : X.mg x = some (.ref f)) (hk : PySem.W.keepIn X.K (.ref f) = true) (hb : Binds X.K fd ps ds) (hd : Vals dvs ds) (hx : Passes (L2.CX X.prog X.w) X E)
    (hdb : (x == ("__debug__" : Str)) = false := by decide) : PE X (.Call (.Name x p) [] [] pos) (tCall sp dvs E tNil) := by
  constructor
  intro pins s σ H Q I h
  apply wpAny_Call_Name_kw
  refine ld_glob I hg hm ?_ hdb
  exact PySem.W.callWith_K0 I.kIn hk (grun (us := []) F hG hr hb hd hx I .nil h)
/-- f(..), f a def of the text -/
theorem pe_df (D : Df X.prog X.w X.K X.mg X.base k x dvs sp) (hG : X.A.guards = some []) (hr : Room k X.A) (hx : Passes (L2.CX X.prog X.w) X E) (hg : Gl X x) (ha : PA X (e :: es) t)
    (hdb : (x == ("__debug__" : Str)) = false := by decide) (he : starEach (e :: es) X.env = (false, eval e X.env) :: starEach es X.env := by rfl) (hpl : (backTo pos (starEach es X.env)).any (·.1) = false := by rfl) :
    PE X (.Call (.Name x p) (e :: es) [] pos) (tCall sp dvs E t) :=
  let ⟨_, _, _, _, F, hm, hk, hb, hd⟩ := D.ex; gcall F hG hr hg hm hk hb hd hx ha hdb he hpl
theorem pe_df0 (D : Df X.prog X.w X.K X.mg X.base k x dvs sp) (hG : X.A.guards = some []) (hr : Room k X.A) (hx : Passes (L2.CX X.prog X.w) X E) (hg : Gl X x) (hdb : (x == ("__debug__" : Str)) = false := by decide) : PE X (.Call (.Name x p) [] [] pos) (tCall sp dvs E tNil) :=
  let ⟨_, _, _, _, F, hm, hk, hb, hd⟩ := D.ex; gcall0 F hG hr hg hm hk hb hd hx hdb
/-- a constant of the module -/
def Gc (mg : Str → Option Value) (x : Str) (v : V) : Prop := ∃ u, mg x = some u ∧ RelV v u
theorem pe_gc {v : V} (h : Gc X.mg x v) (hg : Gl X x) (hd : (x == ("__debug__" : Str)) = false := by decide) : PE X (.Name x pos) (tC v) :=
  ⟨fun pins s σ H Q I q => let ⟨_, hm, r⟩ := h; (pe_glob hg hm r hd).run pins s σ H Q I q⟩
end
end Lx

namespace Lx
open PySem PySem.Spec PyProof.Rows L2

/-- what the end wants of the heap told: at most the script -/
structure Told (K : PySem.W.Frag) (a : Addr) (H : Hp) : Prop where
  only : Only H
  one : ∀ b u, H b = some u → b = a ∧ K.lookup a = none
section
variable {P : Program} {w : World} {K : PySem.W.Frag} {mg mb : Str → Option Value} {k : Nat} {fa a : Addr} {fd : FuncData} {x : Str} {sp : Sp} {s : Shared} {vs : List Value} {ns : List Int}
theorem Told.low (T : Told K a H) {b : Addr} {o : Obj} (hb : s.heap.get? b = some o) (n : b ≠ a) : (hidT s.heap H).get? b = some o := by
  apply hidT_get hb
  cases q : H b with
  | none => rfl
  | some u => exact (n (T.one b u q).1).elim
theorem Told.lowK (T : Told K a H) (KX : K.In s.heap) : K.In (hidT s.heap H) := by
  intro b o e
  apply hidT_get (KX b o e)
  cases q : H b with
  | none => rfl
  | some u =>
    have z := T.one b u q
    rw [z.1, z.2] at e
    cases e
theorem Told.nsp (T : Told K a H) (hl : s.heap.get? a = some { cls := .type "list", data := .seq vs.toArray }) {b : Addr} {m : Str → Option Value} (h : s.heap.Ns b m) : (hidT s.heap H).Ns b m := by
  obtain ⟨o, es, ep, h1, h2, h3⟩ := h
  refine ⟨o, es, ep, T.low h1 ?_, h2, h3⟩
  rintro rfl
  rw [hl] at h1
  cases h1
  cases h2
theorem glaw1 {H : Hp} (T : Told K a H) (KX : K.In s.heap) (hm : s.heap.Ns mainGlobals mg) (hb : s.heap.Ns builtinsNs mb) (hbb : ∀ x : Str, x ≠ "__name__" → mb x = bootBuiltins x) (lim : s.heap.NoLimit) (hg : s.gens = #[])
    (hl : s.heap.get? a = some { cls := .type "list", data := .seq vs.toArray }) (hr : Room k callerA)
    (F : ∀ base : Heap, K.In base → base.Ns mainGlobals mg → FnG P w K mg base k fa fd [x] sp) (bind : ∀ (s : Shared) (u : Value), BindsTo s fd ⟨[u], []⟩ [(x, u)])
    (ok : HOk P w H s.heap) (hsp : sp [.ref a] H (fun v _ => v = .bl true) fun _ _ _ => False) :
    codeAny (model P w) callerA (.call (.ref fa) ⟨[.ref a], []⟩) (fun r s' => r = .ok (.ret (.bool true)) ∧ OldK s.heap s'.heap ∧ s'.os = s.os ∧ AllBare s'.gens) s := by
  have KB := T.lowK KX
  have md : Mod K mg (hidT s.heap H) := ⟨KB, T.nsp hl hm, ⟨mb, T.nsp hl hb, hbb⟩, by
    obtain ⟨m, h1, h2⟩ := lim
    exact ⟨m, T.nsp hl h1, h2⟩⟩
  have noFr : ∀ b ∈ frs ([] : List Env), H b = none := by
    intro b z
    cases z
  have e0 : Env0 P w K mg (hidT s.heap H) callerA [] s H := { frames := rfl, mod := md, bs := fun b o e => of_hidT e, bsz := Nat.le_of_eq (hidT_size _ _), funs := trivial, frf := noFr, hok := ok, bare := .of_eq hg }
  have run := (F _ KB md.glob).go callerA [] s H ⟨[.ref a], []⟩ [.ref a] [.ref a] (fun v _ => v = .bl true) (fun _ _ _ => False) rfl hr e0 (bind s (.ref a)) (.cons rfl .nil) hsp
  refine codeAny_mono run ?_
  intro r s' q
  match r, q with
  | .error e, q => exact (by obtain ⟨_, _, _, _, _, _, _, _, _, _, _, _, z⟩ := q; exact z.elim)
  | .ok .next, q => exact q.elim
  | .ok .brk, q => exact q.elim
  | .ok .cont, q => exact q.elim
  | .ok (.ret u), q =>
    obtain ⟨v, H', os, bare, un, ok', rv, e⟩ := q
    have e' : v = V.bl true := e
    subst e'
    have eu : u = Value.bool true := rv
    refine ⟨by rw [eu], OldK.of_keep ?_, os, bare⟩
    intro b o hb
    cases z : H b with
    | none => exact un.keep b o hb z (fun y => by cases y) (fun y => by cases y)
    | some u =>
      cases T.only b with
      | inl y => rw [z] at y; cases y
      | inr y =>
        obtain ⟨ob, xs, y⟩ := y
        have w1 := (ok b _ y).1
        have w2 := (ok' b _ (un.frzs b ob _ y)).1
        rw [hb] at w1
        rw [Option.some.inj w1]
        exact w2
theorem glaw (KX : K.In s.heap) (hm : s.heap.Ns mainGlobals mg) (hb : s.heap.Ns builtinsNs mb) (hbb : ∀ x : Str, x ≠ "__name__" → mb x = bootBuiltins x) (lim : s.heap.NoLimit) (hg : s.gens = #[])
    (hl : s.heap.get? a = some { cls := .type "list", data := .seq vs.toArray }) (hi : IntsAre vs ns) (hz : ns.length ≤ sizeLine) (hr : Room k callerA)
    (F : ∀ base : Heap, K.In base → base.Ns mainGlobals mg → FnG P w K mg base k fa fd [x] sp) (bind : ∀ (s : Shared) (u : Value), BindsTo s fd ⟨[u], []⟩ [(x, u)])
    (hsp : ∀ H : Hp, SqL K H a (ns.map V.int) → sp [.ref a] H (fun v _ => v = .bl true) fun _ _ _ => False) :
    codeAny (model P w) callerA (.call (.ref fa) ⟨[.ref a], []⟩) (fun r s' => r = .ok (.ret (.bool true)) ∧ OldK s.heap s'.heap ∧ s'.os = s.os ∧ AllBare s'.gens) s := by
  have rv := vals_ints hi
  have lv : vs.length = ns.length := hi.length
  by_cases hk : K.lookup a = none
  · have tell : ∀ b, (fun b => if b = a then some (HO.frz { cls := .type "list", data := .seq vs.toArray } (.lst (ns.map V.int))) else none : Hp) b = none ∨ b = a := by
      intro b
      by_cases e : b = a
      · exact .inr e
      · exact .inl (if_neg e)
    refine glaw1 (H := fun b => if b = a then some (.frz { cls := .type "list", data := .seq vs.toArray } (.lst (ns.map V.int))) else none) ⟨?_, ?_⟩ KX hm hb hbb lim hg hl hr F bind ?_ (hsp _ (.inl (.inr ⟨_, if_pos rfl⟩)))
    · intro b
      cases tell b with
      | inl e => exact .inl e
      | inr e => exact .inr ⟨_, _, if_pos e⟩
    · intro b u e
      cases tell b with
      | inl z => exact absurd (z.symm.trans e) (by simp)
      | inr z => exact ⟨z, hk⟩
    · intro b u e
      cases tell b with
      | inl z => exact absurd (z.symm.trans e) (by simp)
      | inr z =>
        subst z
        have eu := Option.some.inj ((if_pos rfl).symm.trans e)
        subst eu
        exact ⟨hl, (by rw [List.length_map]; exact hz), vs, 0, rv, hl⟩
  · obtain ⟨o, ho⟩ := Option.ne_none_iff_exists'.mp hk
    have e := KX a o ho
    rw [hl] at e
    have eo := Option.some.inj e
    subst eo
    have noH : ∀ (b : Addr) (u : HO), ((fun _ => none : Hp) b = some u) → False := by
      intro b u z
      cases z
    refine glaw1 (H := fun _ => none) ⟨fun b => .inl rfl, fun b u z => (noH b u z).elim⟩ KX hm hb hbb lim hg hl hr F bind (fun b u z => (noH b u z).elim) (hsp _ (.inr ?_))
    exact ⟨_, vs.toArray, _, ho, rfl, rfl, rfl, by rw [List.size_toArray, lv]; exact hz, by simpa using rv⟩
end
theorem gwalk {l : PySem.W.OpenLaw} {n k : Nat} {q : Program} {loose : List Str} {XP : (Str → Option Value) → Heap → Prop} {YP : World → Heap → Prop} {d : DefRec} {K : Params → PySem.W.Frag} {sp : World → Sp} {x : Str}
    (hn : l.most = some n) (hn2 : n ≤ sizeLine) (hdf : d.params.defaults = []) (hr : Room k callerA) (hY : ∀ (w : World) (h : Heap), YP w h → (K w.params).In h)
    (F : ∀ (w : World) (mg : Str → Option Value) (fa : Addr) (h : Heap), (K w.params).In h → h.Ns mainGlobals mg → mg d.name = some (.ref fa) →
      ∃ fd : FuncData, (∀ (s : Shared) (u : Value), BindsTo s fd ⟨[u], []⟩ [(x, u)]) ∧ ∀ base : Heap, (K w.params).In base → base.Ns mainGlobals mg → FnG l.prog w (K w.params) mg base k fa fd [x] (sp w))
    (hsp : ∀ (w : World) (H : Hp) (a : Addr) (ns : List Int), ns.length ≤ n → (∀ z ∈ ns, Builtin.Int.intBits z ≤ 1048576) → SqL (K w.params) H a (ns.map V.int) → sp w [.ref a] H (fun v _ => v = .bl true) fun _ _ _ => False) :
    PySem.W.WalkO q loose XP YP l.row.toRowW d [] (fun f vs => PySem.call f vs) := by
  apply Att.attach_callB hn hdf
  intro w s₀ s₁ mg mb fa o pm cd doc a vs ns G Y ho hd hcd hmg hobj hints hlen hbits hg
  obtain ⟨fd, b, hF⟩ := F w mg fa _ (hY w _ Y) G.T.g hmg
  exact glaw (hY w _ Y) G.T.g G.T.b G.T.builtins G.T.nolimit hg hobj hints (Nat.le_trans hlen hn2) hr hF b (fun H hS => hsp w H a ns hlen hbits hS)
end Lx

namespace Lx
open PySem PySem.Spec PyProof.Rows L2

/-! ### built-in names -/
theorem Blen : bootBuiltins "len" = some (.builtin "len") := by decide +kernel
theorem Bisinstance : bootBuiltins "isinstance" = some (.builtin "isinstance") := by decide +kernel
theorem Babs : bootBuiltins "abs" = some (.builtin "abs") := by decide +kernel
theorem Bmin : bootBuiltins "min" = some (.builtin "min") := by decide +kernel
theorem Bmax : bootBuiltins "max" = some (.builtin "max") := by decide +kernel
theorem Bsorted : bootBuiltins "sorted" = some (.builtin "sorted") := by decide +kernel
theorem Bsum : bootBuiltins "sum" = some (.builtin "sum") := by decide +kernel
theorem Ball : bootBuiltins "all" = some (.builtin "all") := by decide +kernel
theorem Bany : bootBuiltins "any" = some (.builtin "any") := by decide +kernel
theorem Brepr : bootBuiltins "repr" = some (.builtin "repr") := by decide +kernel
theorem Tint : bootBuiltins "int" = some (.type "int") := by decide +kernel
theorem Tbool : bootBuiltins "bool" = some (.type "bool") := by decide +kernel
theorem Tstr : bootBuiltins "str" = some (.type "str") := by decide +kernel
theorem Tlist : bootBuiltins "list" = some (.type "list") := by decide +kernel
theorem Ttuple : bootBuiltins "tuple" = some (.type "tuple") := by decide +kernel
theorem Tset : bootBuiltins "set" = some (.type "set") := by decide +kernel
theorem Tdict : bootBuiltins "dict" = some (.type "dict") := by decide +kernel
/-- the module gives none of these names a meaning of its own -/
structure Bn (mg : Str → Option Value) : Prop where
  len : mg "len" = none
  range : mg "range" = none
  isinstance : mg "isinstance" = none
  int : mg "int" = none
  bool : mg "bool" = none
  str : mg "str" = none
  list : mg "list" = none
  tuple : mg "tuple" = none
  set : mg "set" = none
  sorted : mg "sorted" = none
  min : mg "min" = none
  max : mg "max" = none
  sum : mg "sum" = none
  all : mg "all" = none
  any : mg "any" = none
  abs : mg "abs" = none
  repr : mg "repr" = none
  enumerate : mg "enumerate" = none
  zip : mg "zip" = none
  reversed : mg "reversed" = none
  dict : mg "dict" = none

/-! ### repr of data -/
def rRepr (K : PySem.W.Frag) : List V → Hp → VK → Prop := fun xs H Q => ∃ x d, xs = [x] ∧ Dp K H x d ∧ d.showable = true ∧ d.hasDict = false ∧ d.depth ≤ 32 ∧ d.shown.length ≤ sizeLine ∧ Q (.str d.shown) H
theorem call_reprD {X : Cx} (hG : X.A.guards = some []) (hu : X.A.units + 64 < cLine) : CallR X (.builtin "repr") (rRepr X.K) := by
  intro pins s σ H xs us Q I r h
  obtain ⟨x, d, rfl, hd, hs, hn, hp, hz, q⟩ := h
  cases r with
  | cons r rr =>
    cases rr
    rename_i u
    obtain ⟨as, rd⟩ := Dp.reads I d x u hd r
    cases hd with
    | non => cases r; exact P.repr_of_none ⟨.str _, H, I.tok _, ⟨_, rfl⟩, q⟩
    | bl b => cases r; exact P.repr_of_bool ⟨.str _, H, I.tok _, ⟨_, rfl⟩, q⟩
    | int i =>
      obtain ⟨t, rfl⟩ := r
      exact P.repr_of_int (of_decide_eq_true hs) ⟨.str _, H, I.tok _, ⟨_, rfl⟩, q⟩
    | str y =>
      obtain ⟨t, rfl⟩ := r
      exact P.repr_of_str ⟨.str _, H, I.tok _, ⟨_, rfl⟩, q⟩ hz
    | lst h1 h2 =>
      cases r
      exact repr_of_reads' rd hs (fun e => by rw [hn] at e; cases e) hG (by omega) (fun _ _ e => e) (fun h' v tk k => ⟨.str _, H, I.kept (t' := tk) k, ⟨_, rfl⟩, q⟩) hz
    | tup h1 h2 =>
      cases r
      exact repr_of_reads' rd hs (fun e => by rw [hn] at e; cases e) hG (by omega) (fun _ _ e => e) (fun h' v tk k => ⟨.str _, H, I.kept (t' := tk) k, ⟨_, rfl⟩, q⟩) hz
/-! ### how long a shown datum is -/
theorem textFrom_le (m : Nat) : ∀ (ts : List Str) (k : Nat) (acc : Str), (∀ t ∈ ts, t.length ≤ m) → (textFrom k acc ts).length ≤ acc.length + ts.length * (m + 2)
  | [], k, acc, _ => Nat.le_add_right _ _
  | t :: r, k, acc, h => by
    have ih := textFrom_le m r (k + 1) (acc ++ (if k > 0 then ", " else "" : String) ++ t) fun u hu => h u (List.mem_cons_of_mem _ hu)
    have ht := h t List.mem_cons_self
    have e : (acc ++ (if k > 0 then ", " else "" : String) ++ t).length ≤ acc.length + 2 + t.length := by
      rw [strLen_append, strLen_append]
      split <;> exact Nat.add_le_add_right (Nat.add_le_add_left (by decide) _) _
    rw [List.length_cons, Nat.succ_mul]
    show (textFrom (k + 1) _ r).length ≤ _
    omega
theorem shownAll_mem : ∀ {ds : List PyData} {t : Str}, t ∈ PyData.shownAll ds → ∃ d ∈ ds, t = d.shown
  | [], t, h => by cases h
  | d :: ds, t, h => by
    rcases List.mem_cons.mp (show t ∈ d.shown :: PyData.shownAll ds from h) with e | h
    · exact ⟨d, List.mem_cons_self, e⟩
    · obtain ⟨x, hx, e⟩ := shownAll_mem h
      exact ⟨x, List.mem_cons_of_mem _ hx, e⟩
theorem shownAll_len : ∀ ds : List PyData, (PyData.shownAll ds).length = ds.length
  | [] => rfl
  | _ :: ds => congrArg Nat.succ (shownAll_len ds)
theorem piled_le (m : Nat) : ∀ ts : List Str, (∀ t ∈ ts, t.length ≤ m) → piled ts ≤ ts.length * (m + 2)
  | [], _ => by rw [piled_nil]; exact Nat.zero_le _
  | t :: r, h => by
    have ih := piled_le m r fun u hu => h u (List.mem_cons_of_mem _ hu)
    have ht := h t List.mem_cons_self
    rw [piled_cons, List.length_cons, Nat.succ_mul]
    omega
theorem list_shown {ds : List PyData} {m : Nat} (h : ∀ d ∈ ds, d.shown.length ≤ m) : (PyData.list ds).shown.length ≤ ds.length * (m + 2) + 2 := by
  have z := textFrom_le m (PyData.shownAll ds) 0 "[" fun t ht => by
    obtain ⟨d, hd, e⟩ := shownAll_mem ht
    rw [e]
    exact h d hd
  rw [shownAll_len] at z
  show (textFrom 0 "[" (PyData.shownAll ds) ++ "]" : Str).length ≤ _
  rw [strLen_append]
  have e1 : (("[" : String) : Str).length = 1 := rfl
  have e2 : (("]" : String) : Str).length = 1 := rfl
  omega
theorem tuple_shown {ds : List PyData} {m : Nat} (h : ∀ d ∈ ds, d.shown.length ≤ m) : (PyData.tuple ds).shown.length ≤ ds.length * (m + 2) + 3 := by
  have hm : ∀ t ∈ PyData.shownAll ds, t.length ≤ m := fun t ht => by
    obtain ⟨d, hd, e⟩ := shownAll_mem ht
    rw [e]
    exact h d hd
  have z := piled_le m (PyData.shownAll ds) hm
  rw [shownAll_len] at z
  show (("(" : Str) ++ Str.join ", " (PyData.shownAll ds) ++ (if (PyData.shownAll ds).length == 1 then ",)" else ")" : String)).length ≤ _
  rw [strLen_append, strLen_append]
  have e1 : (("(" : String) : Str).length = 1 := rfl
  have e3 : (((if (PyData.shownAll ds).length == 1 then ",)" else ")" : String) : Str)).length ≤ 2 := by split <;> decide
  by_cases e : PyData.shownAll ds = []
  · rw [e] at e3 ⊢
    have e4 : (Str.join ", " ([] : List Str)).length = 0 := rfl
    rw [e4]
    omega
  · have j := join_length_add _ e
    omega
theorem int_shown {i : Int} {k : Nat} (hk : 0 < k) (h0 : 0 ≤ i) (h : i < 10 ^ k) : (PyData.int i).shown.length ≤ k := toString_length_le h0 hk h

/-! ### heaps -/
theorem _root_.L2.Same.get {H H' : Hp} {a : Addr} {o : HO} (s : Same H H') (h : H a = some o) : H' a = some o := s a o h
theorem same_new {H : Hp} {p : Addr} {o : HO} (n : H p = none) : Same H (upd H p o) := by
  intro b u e
  rw [upd_ne (ne_of_none e n)]
  exact e
theorem same_set {H H' : Hp} {p : Addr} {o : HO} (s : Same H H') (n : H p = none) : Same H (upd H' p o) := by
  intro b u e
  rw [upd_ne (ne_of_none e n)]
  exact s b u e
theorem ne_new {H : Hp} {a b : Addr} {o : HO} (n : H b = none) (h : H a = some o) : a ≠ b := ne_of_none h n
/-- all but what stands at r is as it was -/
def Kp (r : Addr) (H H' : Hp) : Prop := ∀ b o, b ≠ r → H b = some o → H' b = some o
theorem Kp.refl (r : Addr) (H : Hp) : Kp r H H := fun _ _ _ h => h
theorem Kp.of {r : Addr} {H H' : Hp} (s : Same H H') : Kp r H H' := fun b o _ h => s b o h
theorem Kp.trans {r : Addr} {H H1 H2 : Hp} (a : Kp r H H1) (b : Kp r H1 H2) : Kp r H H2 := fun c o n h => b c o n (a c o n h)
theorem Kp.set {r : Addr} {H : Hp} {o : HO} : Kp r H (upd H r o) := fun b u n e => by rw [upd_ne n]; exact e
theorem Kp.put {r p : Addr} {H H' : Hp} {o : HO} (k : Kp r H H') (n : H p = none) : Kp r H (upd H' p o) := fun b u m e => by
  rw [upd_ne (ne_of_none e n)]
  exact k b u m e
theorem Kp.free {r p : Addr} {H H' : Hp} (k : Kp r H H') (n : H' p = none) (m : p ≠ r) : H p = none := by
  cases q : H p with
  | none => rfl
  | some o => rw [k p o m q] at n; cases n
theorem Kp.get {r a : Addr} {H H' : Hp} {o : HO} (k : Kp r H H') (n : a ≠ r) (h : H a = some o) : H' a = some o := k a o n h
theorem lst_of {K : PySem.W.Frag} {H : Hp} {a : Addr} {xs : List V} (h : H a = some (.lst xs)) : SqL K H a xs := .inl (.inl h)
theorem tup_of {K : PySem.W.Frag} {H : Hp} {a : Addr} {xs : List V} (h : H a = some (.tup xs)) : SqT K H a xs := .inl (.inl h)
theorem Kp.seq {K : PySem.W.Frag} {r : Addr} {H H' : Hp} {a : Addr} {xs : List V} (k : Kp r H H') (n : a ≠ r) (h : SqL K H a xs) : SqL K H' a xs := by
  rcases h with (h | ⟨o, h⟩) | h
  · exact .inl (.inl (k _ _ n h))
  · exact .inl (.inr ⟨o, k _ _ n h⟩)
  · exact .inr h
theorem Kp.seqT {K : PySem.W.Frag} {r : Addr} {H H' : Hp} {a : Addr} {xs : List V} (k : Kp r H H') (n : a ≠ r) (h : SqT K H a xs) : SqT K H' a xs := by
  rcases h with (h | ⟨o, h⟩) | h
  · exact .inl (.inl (k _ _ n h))
  · exact .inl (.inr ⟨o, k _ _ n h⟩)
  · exact .inr h
theorem _root_.L2.Same.seqT {K : PySem.W.Frag} {H H' : Hp} {a : Addr} {xs : List V} (k : Same H H') (h : SqT K H a xs) : SqT K H' a xs := by
  rcases h with (h | ⟨o, h⟩) | h
  · exact .inl (.inl (k _ _ h))
  · exact .inl (.inr ⟨o, k _ _ h⟩)
  · exact .inr h

/-! ### the layer's rules whose readings have no name, named -/
def rIsN' : R2 := fun x y H Q => y = .non ∧ Q (.bl (decide (x = .non))) H
def rNotN' : R2 := fun x y H Q => y = .non ∧ Q (.bl (!decide (x = .non))) H
def rLen (K : PySem.W.Frag) : List V → Hp → VK → Prop := fun xs H Q => ∃ p ys, xs = [.ref p] ∧ (SqL K H p ys ∨ SqT K H p ys) ∧ Q (.int ys.length) H
def rLenS : List V → Hp → VK → Prop := fun xs H Q => ∃ z, xs = [.str z] ∧ z.length ≤ sizeLine ∧ Q (.int z.length) H
def rAbs : List V → Hp → VK → Prop := fun xs H Q => ∃ i, xs = [.int i] ∧ Q (.int (if i < 0 then -i else i)) H
def rMax2 : List V → Hp → VK → Prop := fun xs H Q => ∃ i j, xs = [.int i, .int j] ∧ Q (.int (if j > i then j else i)) H
def rMin2 : List V → Hp → VK → Prop := fun xs H Q => ∃ i j, xs = [.int i, .int j] ∧ Q (.int (if j < i then j else i)) H
def rInt1 : List V → Hp → VK → Prop := fun xs H Q => (∃ i, xs = [.int i] ∧ Q (.int i) H) ∨ ∃ k, xs = [.bl k] ∧ Q (.int (if k then 1 else 0)) H
def rStrI : List V → Hp → VK → Prop := fun xs H Q => ∃ i, xs = [.int i] ∧ i.natAbs.log2 < 1920 ∧ Q (.str (toString i)) H
def rListOf (K : PySem.W.Frag) : List V → Hp → VK → Prop := fun xs H Q => ∃ p ys, xs = [.ref p] ∧ (SqL K H p ys ∨ SqT K H p ys) ∧ ∀ l, H l = none → Q (.ref l) (upd H l (.lst ys))
def rTupleOf (K : PySem.W.Frag) : List V → Hp → VK → Prop := fun xs H Q => ∃ p ys, xs = [.ref p] ∧ ((SqL K H p ys ∧ ∀ l, H l = none → Q (.ref l) (upd H l (.tup ys))) ∨ (SqT K H p ys ∧ Q (.ref p) H))
section
variable {X : Cx}
theorem op_isN' : OpR X (compareOp .Is) rIsN' := op_isN
theorem op_notN' : OpR X (compareOp .IsNot) rNotN' := op_notN
theorem call_len' : CallR X (.builtin "len") (rLen X.K) := call_len_seq
theorem call_lenS' : CallR X (.builtin "len") rLenS := call_len_str
theorem call_abs' : CallR X (.builtin "abs") rAbs := call_abs
theorem call_max2' (hc : X.calm = true) : CallR X (.builtin "max") rMax2 := call_max2 hc
theorem call_min2' (hc : X.calm = true) : CallR X (.builtin "min") rMin2 := call_min2 hc
theorem call_int1' : CallR X (.type "int") rInt1 := call_int1
theorem call_str' : CallR X (.type "str") rStrI := call_str_int
theorem call_list' : CallR X (.type "list") (rListOf X.K) := call_list_of
theorem call_tuple' : CallR X (.type "tuple") (rTupleOf X.K) := call_tuple_of
end
/-! ### readings, one rule a word -/
section
variable {σ : L2.St} {H : Hp} {Q : VK} {D : Ends} {ta tb tc te : TE} {t u : TT} {ts tu : TS} {tA tB' : TA} {i j : Nat} {x y v : V} {R : L2.St → Hp → Prop} {B : Bool → Hp → Prop} {L : List V → Hp → Prop}
theorem r_seq (h : ts { D with nx := tu D } σ H) : tSeq ts tu D σ H := h
theorem r_next (h : D.nx σ H) : tNext D σ H := h
theorem r_nx {n b c : L2.St → Hp → Prop} {r : VK} (h : n σ H) : Ends.nx ⟨n, r, b, c⟩ σ H := h
theorem r_rt {n b c : L2.St → Hp → Prop} {r : VK} (h : r v H) : Ends.rt ⟨n, r, b, c⟩ v H := h
theorem r_bk {n b c : L2.St → Hp → Prop} {r : VK} (h : b σ H) : Ends.bk ⟨n, r, b, c⟩ σ H := h
theorem r_ct {n b c : L2.St → Hp → Prop} {r : VK} (h : c σ H) : Ends.ct ⟨n, r, b, c⟩ σ H := h
theorem r_brk (h : D.bk σ H) : tBreak D σ H := h
theorem r_cont (h : D.ct σ H) : tCont D σ H := h
theorem r_ret (h : te σ H D.rt) : tRet te D σ H := h
theorem r_retN (h : D.rt .non H) : tRetN D σ H := h
theorem r_drop (h : te σ H fun _ H1 => D.nx σ H1) : tDrop te D σ H := h
theorem r_if (h : t σ H fun b H1 => if b = true then ts D σ H1 else tu D σ H1) : tIfS t ts tu D σ H := h
theorem r_asg {g : TG} (h : te σ H fun x H1 => g x σ H1 D.nx) : tAsg te g D σ H := h
theorem r_par (h : tA σ H fun vs H1 => ∃ v w, vs = [v, w] ∧ D.nx ((σ.set i (some v)).set j (some w)) H1) : tPar i j tA D σ H := h
theorem r_par3 {l : Nat} (h : tA σ H fun vs H1 => ∃ u v w, vs = [u, v, w] ∧ D.nx (((σ.set i (some u)).set j (some v)).set l (some w)) H1) : tPar3 i j l tA D σ H := h
theorem r_two {P : V → V → Prop} (h : P x y) : ∃ v w, [x, y] = [v, w] ∧ P v w := ⟨x, y, rfl, h⟩
theorem r_three {z : V} {P : V → V → V → Prop} (h : P x y z) : ∃ u v w, [x, y, z] = [u, v, w] ∧ P u v w := ⟨x, y, z, rfl, h⟩
theorem r_name (h : R (σ.set i (some v)) H) : gName i v σ H R := h
theorem r_sub {ti to : TE} {s : TSet} (h : to σ H fun o H1 => ti σ H1 fun i H2 => s o i v H2 fun H3 => R σ H3) : gSub to ti s v σ H R := h
theorem r_setL {p : Addr} {xs : List V} {k : Int} {n : Nat} {R : Hp → Prop} (h : H p = some (.lst xs)) (e : ixN xs.length k = some n) (q : R (upd H p (.lst (xs.set n v)))) : rSetL (.ref p) (.int k) v H R := ⟨p, xs, k, n, rfl, rfl, h, e, q⟩
theorem r_gtup {K : PySem.W.Frag} {n : Nat} {g : TGs} {a : Addr} {xs : List V} (h : SqT K H a xs) (e : xs.length = n) (q : g xs σ H R) : gTup K n g (.ref a) σ H R := ⟨a, xs, rfl, h, e, q⟩
theorem r_gunl {K : PySem.W.Frag} {n : Nat} {g : TGs} {a : Addr} {xs : List V} (h : SqL K H a xs) (e : xs.length = n) (q : g xs σ H R) : gUnl K n g (.ref a) σ H R := ⟨a, xs, rfl, h, e, q⟩
theorem r_gcons {g : TG} {gs : TGs} {xs : List V} (h : g x σ H fun σ' H' => gs xs σ' H' R) : gCons g gs (x :: xs) σ H R := ⟨x, xs, rfl, h⟩
theorem r_gnil (h : R σ H) : gNil [] σ H R := ⟨rfl, h⟩
theorem r_var (h : σ[i]? = some (some v)) (q : Q v H) : tVar i σ H Q := ⟨v, h, q⟩
theorem r_c (q : Q v H) : tC v σ H Q := q
theorem r_op {r : R2} (h : ta σ H fun x H1 => tb σ H1 fun y H2 => r x y H2 Q) : tOp r ta tb σ H Q := h
theorem r_un {r : V → Hp → VK → Prop} (h : ta σ H fun x H1 => r x H1 Q) : tUn r ta σ H Q := h
theorem r_test (h : te σ H fun x H' => ∃ k, x = .bl k ∧ B k H') : tTest te σ H B := h
theorem r_B (h : te σ H fun x H' => ∃ k, x = .bl k ∧ B k H') : tB te σ H B := h
theorem r_bl {k : Bool} {P : Bool → Prop} (h : P k) : ∃ k', V.bl k = .bl k' ∧ P k' := ⟨k, rfl, h⟩
theorem r_and (h : t σ H fun c H1 => if c = true then u σ H1 B else B false H1) : tAnd t u σ H B := h
theorem r_or (h : t σ H fun c H1 => if c = true then B true H1 else u σ H1 B) : tOr t u σ H B := h
theorem r_not (h : t σ H fun c H1 => B (!c) H1) : tNot t σ H B := h
theorem r_andV (h : ta σ H fun x H1 => ∃ c, x = .bl c ∧ if c = true then tb σ H1 Q else Q (.bl false) H1) : tAndV ta tb σ H Q := h
theorem r_orV (h : ta σ H fun x H1 => ∃ c, x = .bl c ∧ if c = true then Q (.bl true) H1 else tb σ H1 Q) : tOrV ta tb σ H Q := h
theorem r_notV (h : ta σ H fun x H1 => ∃ c, x = .bl c ∧ Q (.bl (!c)) H1) : tNotV ta σ H Q := h
theorem r_ifE (h : t σ H fun c H1 => if c = true then ta σ H1 Q else tb σ H1 Q) : tIf t ta tb σ H Q := h
theorem r_chain {r r' : R2} (h : ta σ H fun x H1 => tb σ H1 fun y H2 => r x y H2 fun z H3 => ∃ k, z = .bl k ∧ (if k = true then tc σ H3 fun w' H4 => r' y w' H4 Q else Q (.bl false) H3)) : tChain r r' ta tb tc σ H Q := h
theorem r_nil (h : L [] H) : tNil σ H L := h
theorem r_cons (h : ta σ H fun x H1 => tA σ H1 fun xs H2 => L (x :: xs) H2) : tCons ta tA σ H L := h
theorem r_CB {r : List V → Hp → VK → Prop} (h : tA σ H fun vs H1 => r vs H1 Q) : tCB r tA σ H Q := h
theorem r_call {sp : Sp} {dvs : List V} {E : XK} (h : tA σ H fun vs H1 => sp (vs ++ dvs) H1 Q E) : tCall sp dvs E tA σ H Q := h
theorem r_tup (h : tA σ H fun xs H1 => xs.length ≤ sizeLine ∧ ∀ p, H1 p = none → Q (.ref p) (upd H1 p (.tup xs))) : tTup tA σ H Q := h
theorem r_lst (h : tA σ H fun xs H1 => xs.length ≤ sizeLine ∧ ∀ p, H1 p = none → Q (.ref p) (upd H1 p (.lst xs))) : tLst tA σ H Q := h
theorem r_new {n : Nat} {P : Prop} (hn : n ≤ 1000) (h : P) : n ≤ sizeLine ∧ P := ⟨Nat.le_trans hn (by decide), h⟩
theorem r_BM {K : PySem.W.Frag} {T : String} {r : V → List V → Hp → VK → Prop} (h : te σ H fun x H1 => tyV K T x H1 ∧ tA σ H1 fun xs H2 => r x xs H2 Q) : tBM K T r te tA σ H Q := h
theorem r_BM0 {K : PySem.W.Frag} {T : String} {r : V → List V → Hp → VK → Prop} (h : te σ H fun x H1 => tyV K T x H1 ∧ r x [] H1 Q) : tBM0 K T r te σ H Q := h
theorem r_ty {K : PySem.W.Frag} {p : Addr} {xs : List V} {P : Prop} (h : H p = some (.lst xs)) (q : P) : tyV K "list" (.ref p) H ∧ P := ⟨.inl ⟨rfl, xs, .inl (.inl h)⟩, q⟩
theorem r_tyS {K : PySem.W.Frag} {z : Str} {P : Prop} (q : P) : tyV K "str" (.str z) H ∧ P := ⟨rfl, q⟩
theorem r_I0 {g : Int → Int → V} {a b : Int} (q : Q (g a b) H) : rI0 g (.int a) (.int b) H Q := ⟨a, b, rfl, rfl, q⟩
theorem r_I {C : Int → Int → Prop} {g : Int → Int → V} {a b : Int} (c : C a b) (q : Q (g a b) H) : rI C g (.int a) (.int b) H Q := ⟨a, b, rfl, rfl, c, q⟩
theorem r_U {g : Int → V} {a : Int} (q : Q (g a) H) : rU g (.int a) H Q := ⟨a, rfl, q⟩
theorem r_eqI {a b : Int} (q : Q (.bl (decide (a = b))) H) : rEq (.int a) (.int b) H Q := by
  refine ⟨rfl, ?_⟩
  rw [show decide (V.int a = V.int b) = decide (a = b) by simp]
  exact q
theorem r_neI {a b : Int} (q : Q (.bl (!decide (a = b))) H) : rNe (.int a) (.int b) H Q := by
  refine ⟨rfl, ?_⟩
  rw [show decide (V.int a = V.int b) = decide (a = b) by simp]
  exact q
theorem r_eqS {a b : Str} (q : Q (.bl (decide (a = b))) H) : rEq (.str a) (.str b) H Q := by
  refine ⟨rfl, ?_⟩
  rw [show decide (V.str a = V.str b) = decide (a = b) by simp]
  exact q
theorem r_neS {a b : Str} (q : Q (.bl (!decide (a = b))) H) : rNe (.str a) (.str b) H Q := by
  refine ⟨rfl, ?_⟩
  rw [show decide (V.str a = V.str b) = decide (a = b) by simp]
  exact q
theorem r_eqB {a b : Bool} (q : Q (.bl (decide (a = b))) H) : rEq (.bl a) (.bl b) H Q := by
  refine ⟨rfl, ?_⟩
  rw [show decide (V.bl a = V.bl b) = decide (a = b) by simp]
  exact q
theorem r_neB {a b : Bool} (q : Q (.bl (!decide (a = b))) H) : rNe (.bl a) (.bl b) H Q := by
  refine ⟨rfl, ?_⟩
  rw [show decide (V.bl a = V.bl b) = decide (a = b) by simp]
  exact q
theorem r_ixL {K : PySem.W.Frag} {p : Addr} {xs : List V} {a : Int} (h : SqL K H p xs) (e : atI xs a = some v) (q : Q v H) : rIxL K (.ref p) (.int a) H Q := ⟨p, xs, a, v, rfl, rfl, h, e, q⟩
theorem r_ixT {K : PySem.W.Frag} {p : Addr} {xs : List V} {a : Int} (h : SqT K H p xs) (e : atI xs a = some v) (q : Q v H) : rIxT K (.ref p) (.int a) H Q := ⟨p, xs, a, v, rfl, rfl, h, e, q⟩
theorem r_app {p : Addr} {xs : List V} (h : H p = some (.lst xs)) (z : xs.length < sizeLine) (q : Q .non (upd H p (.lst (xs ++ [v])))) : rAppend (.ref p) [v] H Q := ⟨p, xs, v, rfl, rfl, h, z, q⟩
theorem r_sl {r : V → Option Int → Option Int → Hp → VK → Prop} {tl th : TO} (h : te σ H fun x H1 => tl σ H1 fun l H2 => th σ H2 fun u H3 => r x l u H3 Q) : tSl r te tl th σ H Q := h
theorem r_nop {O : Option Int → Hp → Prop} (h : O none H) : tNoPart σ H O := h
theorem r_part {O : Option Int → Hp → Prop} (h : te σ H fun x H1 => ∃ i, x = .int i ∧ O (some i) H1) : tPart te σ H O := h
theorem r_int {a : Int} {P : Int → Prop} (h : P a) : ∃ i, V.int a = .int i ∧ P i := ⟨a, rfl, h⟩
theorem r_slL {K : PySem.W.Frag} {p : Addr} {xs : List V} {lo hi : Option Int} (h : SqL K H p xs) (q : ∀ n, H n = none → Q (.ref n) (upd H n (.lst (cutV xs lo hi)))) : rSlL K (.ref p) lo hi H Q := ⟨p, xs, rfl, h, q⟩
theorem r_cat {a b : Addr} {xs zs : List V} (h : H a = some (.lst xs)) (h' : H b = some (.lst zs)) (z : xs.length + zs.length ≤ sizeLine) (q : ∀ p, H p = none → Q (.ref p) (upd H p (.lst (xs ++ zs)))) : rCat (.ref a) (.ref b) H Q := ⟨a, b, xs, zs, rfl, rfl, h, h', z, q⟩
theorem r_revL {K : PySem.W.Frag} (h : te σ H fun x H1 => ∃ a xs, x = .ref a ∧ SqL K H1 a xs ∧ ∀ p, H1 p = none → Q (.ref p) (upd H1 p (.lst xs.reverse))) : tRevL K te σ H Q := h
theorem r_lstRg {tr : L2.St → Hp → (Int → Int → Hp → Prop) → Prop} (h : tr σ H fun a b H1 => RgOk a b ∧ ∀ q, H1 q = none → Q (.ref q) (upd H1 q (.lst (rgV a b)))) : tLstRg tr σ H Q := h
theorem r_rg1 {P : Int → Int → Hp → Prop} (h : te σ H fun x H1 => ∃ n, x = .int n ∧ P 0 n H1) : tRg1 te σ H P := h
theorem r_aug {ti : TIp} (h : σ[i]? = some (some x)) (q : te σ H fun y H1 => ti x y H1 fun z H2 => D.nx (σ.set i (some z)) H2) : tAug i te ti D σ H := ⟨x, h, q⟩
theorem r_ip {f : Int → Int → Int} {a b : Int} (q : Q (.int (f a b)) H) : ipI f (.int a) (.int b) H Q := ⟨a, b, rfl, rfl, q⟩
theorem r_isN0 (q : Q (.bl true) H) : rIsN' .non .non H Q := ⟨rfl, q⟩
theorem r_isNi {a : Int} (q : Q (.bl false) H) : rIsN' (.int a) .non H Q := ⟨rfl, q⟩
theorem r_isNr {a : Addr} (q : Q (.bl false) H) : rIsN' (.ref a) .non H Q := ⟨rfl, q⟩
theorem r_isNb {a : Bool} (q : Q (.bl false) H) : rIsN' (.bl a) .non H Q := ⟨rfl, q⟩
theorem r_isNs {a : Str} (q : Q (.bl false) H) : rIsN' (.str a) .non H Q := ⟨rfl, q⟩
theorem r_isN {a : V} (q : Q (.bl (decide (a = .non))) H) : rIsN' a .non H Q := ⟨rfl, q⟩
theorem r_notN0 (q : Q (.bl false) H) : rNotN' .non .non H Q := ⟨rfl, q⟩
theorem r_notNi {a : Int} (q : Q (.bl true) H) : rNotN' (.int a) .non H Q := ⟨rfl, q⟩
theorem r_notNr {a : Addr} (q : Q (.bl true) H) : rNotN' (.ref a) .non H Q := ⟨rfl, q⟩
theorem r_notN {a : V} (q : Q (.bl (!decide (a = .non))) H) : rNotN' a .non H Q := ⟨rfl, q⟩
theorem r_len {K : PySem.W.Frag} {p : Addr} {xs : List V} (h : SqL K H p xs ∨ SqT K H p xs) (q : Q (.int xs.length) H) : rLen K [.ref p] H Q := ⟨p, xs, rfl, h, q⟩
theorem r_lenS {z : Str} (h : z.length ≤ sizeLine) (q : Q (.int z.length) H) : rLenS [.str z] H Q := ⟨z, rfl, h, q⟩
theorem r_abs {a : Int} (q : Q (.int (if a < 0 then -a else a)) H) : rAbs [.int a] H Q := ⟨a, rfl, q⟩
theorem r_max2 {a b : Int} (q : Q (.int (if b > a then b else a)) H) : rMax2 [.int a, .int b] H Q := ⟨a, b, rfl, q⟩
theorem r_min2 {a b : Int} (q : Q (.int (if b < a then b else a)) H) : rMin2 [.int a, .int b] H Q := ⟨a, b, rfl, q⟩
theorem r_inti {a : Int} (q : Q (.int a) H) : rInt1 [.int a] H Q := .inl ⟨a, rfl, q⟩
theorem r_intb {b : Bool} (q : Q (.int (if b then 1 else 0)) H) : rInt1 [.bl b] H Q := .inr ⟨b, rfl, q⟩
theorem r_listOf {K : PySem.W.Frag} {p : Addr} {xs : List V} (h : SqL K H p xs ∨ SqT K H p xs) (q : ∀ l, H l = none → Q (.ref l) (upd H l (.lst xs))) : rListOf K [.ref p] H Q := ⟨p, xs, rfl, h, q⟩
theorem r_tupleL {K : PySem.W.Frag} {p : Addr} {xs : List V} (h : SqL K H p xs) (q : ∀ l, H l = none → Q (.ref l) (upd H l (.tup xs))) : rTupleOf K [.ref p] H Q := ⟨p, xs, rfl, .inl ⟨h, q⟩⟩
theorem r_tupleT {K : PySem.W.Frag} {p : Addr} {xs : List V} (h : SqT K H p xs) (q : Q (.ref p) H) : rTupleOf K [.ref p] H Q := ⟨p, xs, rfl, .inr ⟨h, q⟩⟩
/-- an if whose test is a decided proposition -/
theorem ifD {c A B : Prop} [Decidable c] (h1 : c → A) (h2 : ¬ c → B) : if decide c = true then A else B := by
  by_cases h : c
  · rw [decide_eq_true h]; exact iteT (h1 h)
  · rw [decide_eq_false h]; exact iteF (h2 h)
theorem ifN {c A B : Prop} [Decidable c] (h1 : ¬ c → A) (h2 : c → B) : if (!decide c) = true then A else B := by
  by_cases h : c
  · rw [decide_eq_true h]; exact iteF (h2 h)
  · rw [decide_eq_false h]; exact iteT (h1 h)
theorem ifB {b : Bool} {A B : Prop} (h1 : b = true → A) (h2 : b = false → B) : if b = true then A else B := by
  cases b with
  | true => exact iteT (h1 rfl)
  | false => exact iteF (h2 rfl)
theorem ifNB {b : Bool} {A B : Prop} (h1 : b = false → A) (h2 : b = true → B) : if (!b) = true then A else B := by
  cases b with
  | true => exact iteF (h2 rfl)
  | false => exact iteT (h1 rfl)
theorem ifDT {c A B : Prop} [Decidable c] (hc : c) (h : A) : if decide c = true then A else B := ifD (fun _ => h) fun n => (n hc).elim
theorem ifDF {c A B : Prop} [Decidable c] (hc : ¬ c) (h : B) : if decide c = true then A else B := ifD (fun n => (hc n).elim) fun _ => h
theorem ifNT {c A B : Prop} [Decidable c] (hc : ¬ c) (h : A) : if (!decide c) = true then A else B := ifN (fun _ => h) fun n => (hc n).elim
theorem ifNF {c A B : Prop} [Decidable c] (hc : c) (h : B) : if (!decide c) = true then A else B := ifN (fun n => (n hc).elim) fun _ => h
end
theorem sz {n : Nat} (h : n ≤ 100000) : n ≤ sizeLine := Nat.le_trans h (by decide)
theorem szl {n : Nat} (h : n ≤ 100000) : n < sizeLine := Nat.lt_of_le_of_lt h (by decide)
end Lx

namespace Lx
open PySem PySem.Spec PyProof.Rows L2
section
variable {prog : Program} {w : World} {A : Around} {E : Value → Shared → Prop} {s : Shared}
/-- the items of a tuple, gathered into a new list -/
theorem gather_tup {t : Addr} {o : Obj} {vs : List Value} {n : Nat} {Q : List Value → Shared → Prop} (ho : s.heap.get? t = some o) (hc : o.cls = .type "tuple") (hd : o.data = .seq vs.toArray n) (hz : vs.length ≤ sizeLine)
    (h : Q vs { s with heap := (s.heap.push (seqObj "list" #[] 0)).update s.heap.objs.size (Obj.mapSeq (· ++ vs.toArray)) }) : wpAny (model prog w) A (collect (.ref t)) Q E s := by
  have old : (s.heap.push (seqObj "list" #[] 0)).get? t = some o := Heap.get?_push_of_some _ ho
  have new : (s.heap.push (seqObj "list" #[] 0)).get? s.heap.objs.size = some (seqObj "list" #[] 0) := Heap.get?_push_size _ rfl
  have et : (Value.type "tuple" == Value.type "tuple") = true := by rfl
  unfold collect
  apply wpAny_bind
  apply wpAny_runValue
  apply codeAny_builtin entry_proto_collect'
  show wpAny _ _ (do again (.builtin "list.__iadd__" ⟨[← newList [], .ref t], []⟩)) _ _ s
  apply wpAny_bind
  refine wpAny_newList ?_
  refine wpAny_pure ⟨Code.quiet_builtin _ (by decide +kernel), codeAny_builtin entry_list_iadd' ?_⟩
  show wpAny _ _ (Builtin.List.listExtendWith (.ref s.heap.objs.size) (.ref t) (.ref s.heap.objs.size)) _ _ { s with heap := s.heap.push (seqObj "list" #[] 0) }
  unfold Builtin.List.listExtendWith
  refine wpAny_bind (wpAny_typeOf (T := "tuple") ⟨o, old, hc⟩ ?_)
  rw [if_pos (by rw [et]; simp)]
  apply wpAny_bind
  refine listItems_at old hd ?_
  apply wpAny_bind
  refine listItems_at (xs := #[]) (n := 0) new rfl ?_
  rw [if_neg (by simp)]
  apply wpAny_bind
  refine listUpdate_at (xs := #[]) (n := 0) new rfl ?_ (Nat.zero_le _) (by simp only [Array.size_append, List.size_toArray, List.length_nil]; show 0 + vs.length ≤ sizeLine + 1; omega)
  apply wpAny_pure
  show wpAny (model prog w) A (do
    let o' ← load s.heap.objs.size
    match o'.data with
    | .seq xs _ => pure xs.toList
    | _ => unsupported "internal:collect") Q E _
  refine wpAny_bind (wpAny_load (get?_update_seq new _) ?_)
  have e : ((#[] : Array Value) ++ vs.toArray).toList = vs := by simp
  show wpAny _ _ (pure ((#[] : Array Value) ++ vs.toArray).toList) Q E _
  rw [e]
  exact wpAny_pure h
/-- sorted of a tuple of ints -/
theorem sorted_tupI {t : Addr} {o : Obj} {vs : List Value} {ns : List Int} {n : Nat} {Q : Value → Shared → Prop} (ho : s.heap.get? t = some o) (hc : o.cls = .type "tuple") (hd : o.data = .seq vs.toArray n) (hz : vs.length ≤ sizeLine) (hi : IntsAre vs ns)
    (h : ∀ out : List Value, SrtO.Srtd SrtO.ltIv out → SrtO.Stb SrtO.ltIv out vs → Q (.ref (s.heap.objs.size + 1)) { s with heap := sortedAll s.heap vs out.toArray }) : wpAny (model prog w) A (call (.builtin "sorted") [.ref t]) Q E s := by
  have size1 : ((s.heap.push (seqObj "list" #[] 0)).update s.heap.objs.size (Obj.mapSeq (· ++ vs.toArray))).objs.size = s.heap.objs.size + 1 := by rw [Heap.size_update, size_push']
  have made : (((s.heap.push (seqObj "list" #[] 0)).update s.heap.objs.size (Obj.mapSeq (· ++ vs.toArray))).push (seqObj "list" vs.toArray 0)).get? (s.heap.objs.size + 1) = some (seqObj "list" vs.toArray 0) := by
    rw [← size1]
    exact Heap.get?_push_size _ rfl
  apply Calls.call_function_entry kind_sorted plain_sorted entry_sorted (args_sorted1 _)
  unfold Builtin.«sorted»
  refine wpAny_bind (m := checkCount "sorted" 1 1 _) (wpAny_pure ?_)
  apply wpAny_bind
  apply gather_tup ho hc hd hz
  apply wpAny_bind
  refine wpAny_newList ?_ hz
  show wpAny _ _ _ _ _ { s with heap := ((s.heap.push (seqObj "list" #[] 0)).update s.heap.objs.size (Obj.mapSeq (· ++ vs.toArray))).push (seqObj "list" vs.toArray 0) }
  rw [size1]
  apply wpAny_bind
  apply wpAny_holding
  refine wpAny_call_entry slot_list_sort ⟨_, made, rfl⟩ entry_list_sort (SrtO.list_sort_ord SrtO.swo_int made hz (fun h2 => SrtO.ints_sortable hi h2) ?_) (args_list_sort _)
  intro out h1 h2
  exact ⟨_, rfl, wpAny_pure ⟨_, rfl, h out h1 h2⟩⟩
end
/-- sorted(t), t a tuple of ints of any length -/
def rSortedU (K : PySem.W.Frag) : List V → Hp → VK → Prop := fun vs H Q => ∃ (a : Addr) (ns : List Int), vs = [V.ref a] ∧ SqT K H a (ns.map V.int) ∧ ∀ (ns' : List Int) (p : Addr), ns'.Perm ns → ns'.Pairwise (· ≤ ·) → H p = none → Q (.ref p) (upd H p (.lst (ns'.map V.int)))
theorem cr_sortedU {X : Cx} : CallR X (.builtin "sorted") (rSortedU X.K) := by
  intro pins s σ H vs us Q I r h
  obtain ⟨a, ns, rfl, hs, q⟩ := h
  obtain ⟨its, rv, ⟨o, ho, hc, n, hd⟩, hz⟩ := I.tuple hs
  have hi := rv.ints
  rw [Vals.ref1 r]
  refine sorted_tupI ho hc hd (by rw [← rv.length]; exact hz) hi ?_
  intro out h1 h2
  have k := SrtO.ints_out hi h1 h2
  obtain ⟨ep, he⟩ := sortedAll_at s.heap its out.toArray
  refine ⟨.ref _, upd H (s.heap.objs.size + 1) (.lst ((out.map SrtO.iv).map V.int)), ?_, rfl, q _ _ k.2.1 k.2.2 (I.hok.fresh (Nat.le_succ _))⟩
  refine I.laid (t' := s.toks) (fun _ _ => sortedAll_old) (Nat.le_succ _) ⟨?_, out, ep, vals_of_ints k.1, he⟩
  rw [List.length_map, k.2.1.length_eq]
  rw [List.length_map] at hz
  exact hz

/-! ### one of two -/
def iOr (w1 w2 : TI) : TI := fun σ H R => w1 σ H R ∨ w2 σ H R
theorem pi_or {X : Cx} {tg l : Expr} {w1 w2 : TI} (h1 : PI X tg l w1) (h2 : PI X tg l w2) : PI X tg l (iOr w1 w2) :=
  ⟨fun pins s σ H R I h => h.elim (h1.run pins s σ H R I) (h2.run pins s σ H R I)⟩
def cOr (r1 r2 : List V → Hp → VK → Prop) : List V → Hp → VK → Prop := fun xs H Q => r1 xs H Q ∨ r2 xs H Q
theorem call_or {X : Cx} {f : Value} {r1 r2 : List V → Hp → VK → Prop} (h1 : CallR X f r1) (h2 : CallR X f r2) : CallR X f (cOr r1 r2) :=
  fun pins s σ H vs us Q I r h => h.elim (h1 pins s σ H vs us Q I r) (h2 pins s σ H vs us Q I r)
def oOr (r1 r2 : R2) : R2 := fun x y H Q => r1 x y H Q ∨ r2 x y H Q
theorem op_or {X : Cx} {f : Value → Value → Sem Value} {r1 r2 : R2} (h1 : OpR X f r1) (h2 : OpR X f r2) : OpR X f (oOr r1 r2) :=
  fun pins s σ H x y v u Q I rx ry h => h.elim (h1 pins s σ H x y v u Q I rx ry) (h2 pins s σ H x y v u Q I rx ry)
theorem ix_or {X : Cx} {r1 r2 : R2} (h1 : IxR X r1) (h2 : IxR X r2) : IxR X (oOr r1 r2) := IxR.or h1 h2
end Lx

namespace Lx
open PySem PySem.Spec PyProof.Rows L2
/-- a list or a tuple that stands at a -/
def Sq (H : Hp) (a : Addr) (xs : List V) : Prop := H a = some (.lst xs) ∨ H a = some (.tup xs)
theorem _root_.L2.Same.sq {H H' : Hp} {a : Addr} {xs : List V} (s : Same H H') (h : Sq H a xs) : Sq H' a xs := h.elim (fun h => .inl (s _ _ h)) fun h => .inr (s _ _ h)
theorem Kp.sq {r : Addr} {H H' : Hp} {a : Addr} {xs : List V} (k : Kp r H H') (n : a ≠ r) (h : Sq H a xs) : Sq H' a xs := h.elim (fun h => .inl (k _ _ n h)) fun h => .inr (k _ _ n h)
theorem Sq.or {K : PySem.W.Frag} {H : Hp} {a : Addr} {xs : List V} (h : Sq H a xs) : SqL K H a xs ∨ SqT K H a xs := h.elim (fun h => .inl (lst_of h)) fun h => .inr (tup_of h)
/-! ### data of ints -/
def dI (ns : List Int) : List PyData := ns.map PyData.int
def vI (ns : List Int) : List V := ns.map V.int
theorem vI_len (ns : List Int) : (vI ns).length = ns.length := List.length_map ..
theorem dpAll_ints {K : PySem.W.Frag} {H : Hp} : ∀ ns : List Int, DpAll K H (vI ns) (dI ns)
  | [] => .nil
  | n :: ns => .cons (.int n) (dpAll_ints ns)
theorem dp_listI {K : PySem.W.Frag} {H : Hp} {a : Addr} {ns : List Int} (h : SqL K H a (vI ns)) : Dp K H (.ref a) (.list (dI ns)) := .lst h (dpAll_ints ns)
theorem dp_tupI {K : PySem.W.Frag} {H : Hp} {a : Addr} {ns : List Int} (h : SqT K H a (vI ns)) : Dp K H (.ref a) (.tuple (dI ns)) := .tup h (dpAll_ints ns)
theorem eqv_int (a b : Int) : PyData.eqv (.int a) (.int b) = decide (a = b) := by
  unfold PyData.eqv
  by_cases h : a = b
  · subst h; simp
  · simp [h]
theorem eqvAll_ints : ∀ xs ys : List Int, PyData.eqvAll (dI xs) (dI ys) = decide (xs = ys)
  | [], [] => by simp [dI, PyData.eqvAll]
  | [], _ :: _ => by simp [dI, PyData.eqvAll]
  | _ :: _, [] => by simp [dI, PyData.eqvAll]
  | x :: xs, y :: ys => by
    have ih := eqvAll_ints xs ys
    show (PyData.eqv (.int x) (.int y) && PyData.eqvAll (dI xs) (dI ys)) = _
    rw [ih, eqv_int]
    by_cases h : x = y <;> by_cases h2 : xs = ys <;> simp [h, h2]
theorem eqv_listI (xs ys : List Int) : PyData.eqv (.list (dI xs)) (.list (dI ys)) = decide (xs = ys) := by
  unfold PyData.eqv
  exact eqvAll_ints xs ys
theorem depthAll_ints : ∀ ns : List Int, PyData.depthAll (dI ns) = 0
  | [] => rfl
  | n :: ns => by show max 0 (PyData.depthAll (dI ns)) = 0; rw [depthAll_ints ns]; rfl
theorem canLay_ints : ∀ ns : List Int, PyData.canLayAll0 (dI ns) = true
  | [] => rfl
  | n :: ns => by
    have ih := canLay_ints ns
    simp only [dI, List.map_cons, PyData.canLayAll0, PyData.canLay0, Bool.true_and] at ih ⊢
    exact ih
theorem shaped_listI (ns : List Int) : SeqAt.shaped (.list (dI ns)) = true := by
  unfold SeqAt.shaped
  have h1 : PyData.canLay0 (.list (dI ns)) = true := by unfold PyData.canLay0; exact canLay_ints ns
  have h2 : PyData.depth (.list (dI ns)) ≤ 64 := by show PyData.depthAll (dI ns) + 1 ≤ 64; rw [depthAll_ints]; decide
  rw [h1, decide_eq_true h2]
  rfl
theorem dI_mem {ns : List Int} {d : PyData} (h : d ∈ dI ns) : ∃ n ∈ ns, d = .int n := by
  obtain ⟨n, hn, e⟩ := List.mem_map.mp h
  exact ⟨n, hn, e.symm⟩
theorem showableAll_of {ds : List PyData} (h : ∀ d ∈ ds, d.showable = true) : PyData.showableAll ds = true := by
  induction ds with
  | nil => rfl
  | cons d ds ih =>
    show (d.showable && PyData.showableAll ds) = true
    rw [h d List.mem_cons_self, ih fun x hx => h x (List.mem_cons_of_mem _ hx)]
    rfl
theorem hasDictAll_of {ds : List PyData} (h : ∀ d ∈ ds, d.hasDict = false) : PyData.hasDictAll ds = false := by
  induction ds with
  | nil => rfl
  | cons d ds ih =>
    show (d.hasDict || PyData.hasDictAll ds) = false
    rw [h d List.mem_cons_self, ih fun x hx => h x (List.mem_cons_of_mem _ hx)]
    rfl
theorem depthAll_le {ds : List PyData} {m : Nat} (h : ∀ d ∈ ds, d.depth ≤ m) : PyData.depthAll ds ≤ m := by
  induction ds with
  | nil => exact Nat.zero_le _
  | cons d ds ih =>
    show max d.depth (PyData.depthAll ds) ≤ m
    exact Nat.max_le.mpr ⟨h d List.mem_cons_self, ih fun x hx => h x (List.mem_cons_of_mem _ hx)⟩
/-- what repr asks of a datum: to show it takes at most m signs, depth at most k -/
structure Shows (d : PyData) (k m : Nat) : Prop where
  s : d.showable = true
  n : d.hasDict = false
  k : d.depth ≤ k
  z : d.shown.length ≤ m
theorem shows_int {i : Int} {k : Nat} (hk : 0 < k) (hk2 : k ≤ 250) (h0 : 0 ≤ i) (h : i < 10 ^ k) : Shows (.int i) 0 k := by
  refine ⟨?_, rfl, Nat.le_refl _, int_shown hk h0 h⟩
  show decide (i.natAbs.log2 < 1920) = true
  have h1 : i.natAbs < 10 ^ k := by
    have e : ((i.natAbs : Nat) : Int) < ((10 ^ k : Nat) : Int) := by
      rw [Int.natAbs_of_nonneg h0, Int.natCast_pow]
      exact h
    exact Int.ofNat_lt.mp e
  have h2 : (10 : Nat) ^ k ≤ 10 ^ 250 := Nat.pow_le_pow_right (by decide) hk2
  have h3 : i.natAbs < 2 ^ 1920 := Nat.lt_of_lt_of_le (Nat.lt_of_lt_of_le h1 h2) (by decide)
  exact decide_eq_true (PySem.Flt.log2_lt_of (by decide) h3)
theorem shows_none : Shows .none 0 4 := ⟨rfl, rfl, Nat.le_refl _, by decide⟩
theorem shows_list {ds : List PyData} {k m n : Nat} (h : ∀ d ∈ ds, Shows d k m) (hl : ds.length ≤ n) : Shows (.list ds) (k + 1) (n * (m + 2) + 2) := by
  refine ⟨showableAll_of fun d hd => (h d hd).s, hasDictAll_of fun d hd => (h d hd).n, Nat.succ_le_succ (depthAll_le fun d hd => (h d hd).k), ?_⟩
  exact Nat.le_trans (list_shown fun d hd => (h d hd).z) (Nat.add_le_add_right (Nat.mul_le_mul_right _ hl) _)
theorem shows_tup {ds : List PyData} {k m n : Nat} (h : ∀ d ∈ ds, Shows d k m) (hl : ds.length ≤ n) : Shows (.tuple ds) (k + 1) (n * (m + 2) + 3) := by
  refine ⟨showableAll_of fun d hd => (h d hd).s, hasDictAll_of fun d hd => (h d hd).n, Nat.succ_le_succ (depthAll_le fun d hd => (h d hd).k), ?_⟩
  exact Nat.le_trans (tuple_shown fun d hd => (h d hd).z) (Nat.add_le_add_right (Nat.mul_le_mul_right _ hl) _)
theorem r_repr {K : PySem.W.Frag} {H : Hp} {Q : VK} {x : V} {d : PyData} {k m : Nat} (h : Dp K H x d) (s : Shows d k m) (hk : k ≤ 32) (hm : m ≤ 1000000) (q : Q (.str d.shown) H) : rRepr K [x] H Q :=
  ⟨x, d, rfl, h, s.s, s.n, Nat.le_trans s.k hk, Nat.le_trans s.z (Nat.le_trans hm (by decide)), q⟩
theorem r_sortSq {K : PySem.W.Frag} {H : Hp} {Q : VK} {a : Addr} {ns : List Int} (h : Sq H a (vI ns)) (q : ∀ (ns' : List Int) (p : Addr), ns'.Perm ns → ns'.Pairwise (· ≤ ·) → H p = none → Q (.ref p) (upd H p (.lst (vI ns')))) :
    cOr (rSortedI K) (rSortedU K) [.ref a] H Q := h.elim (fun h => .inl ⟨a, ns, rfl, lst_of h, q⟩) fun h => .inr ⟨a, ns, rfl, tup_of h, q⟩
theorem r_neLI {K : PySem.W.Frag} {H : Hp} {Q : VK} {a b : Addr} {xs ys : List Int} (h : SqL K H a (vI xs)) (h' : SqL K H b (vI ys)) (q : Q (.bl (!decide (xs = ys))) H) : rNeD K (.ref a) (.ref b) H Q := by
  refine ⟨_, _, dp_listI h, dp_listI h', shaped_listI xs, shaped_listI ys, ?_⟩
  rw [eqv_listI]
  exact q
theorem r_eqLI {K : PySem.W.Frag} {H : Hp} {Q : VK} {a b : Addr} {xs ys : List Int} (h : SqL K H a (vI xs)) (h' : SqL K H b (vI ys)) (q : Q (.bl (decide (xs = ys))) H) : rEqD K (.ref a) (.ref b) H Q := by
  refine ⟨_, _, dp_listI h, dp_listI h', shaped_listI xs, shaped_listI ys, ?_⟩
  rw [eqv_listI]
  exact q
theorem r_rep {H : Hp} {Q : VK} {l : Addr} {xs : List V} {n : Nat} (h : H l = some (.lst xs)) (h1 : xs.length * n ≤ 100000) (h2 : n ≤ 100000) (q : ∀ p, H p = none → Q (.ref p) (upd H p (.lst (List.replicate n xs).flatten))) : rRep (.ref l) (.int ((n : Nat) : Int)) H Q := by
  refine ⟨l, _, xs, rfl, rfl, h, by omega, by omega, ?_, ?_⟩
  · rw [Int.toNat_natCast]; exact sz h1
  · rw [Int.toNat_natCast]; exact q
/-! ### in a list of ints -/
theorem inV_ints (p : Int) (ns : List Int) : inV (.int p) (vI ns) = decide (p ∈ ns) := by
  unfold inV vI
  rw [List.any_map]
  induction ns with
  | nil => simp
  | cons n ns ih =>
    rw [List.any_cons, ih]
    have e : ((fun y => eqV y (V.int p)) ∘ V.int) n = decide (n = p) := by
      show eqV (.int n) (.int p) = _
      by_cases h : n = p <;> simp [eqV, h]
    rw [e]
    by_cases h : n = p
    · subst h; simp
    · have h' : ¬ p = n := fun z => h z.symm
      simp [h, h']
theorem flat_ints (ns : List Int) : (vI ns).all flatV = true := by
  unfold vI
  rw [List.all_map]
  exact List.all_eq_true.mpr fun x _ => rfl
theorem ixN_ok {n : Nat} {i : Int} (h0 : 0 ≤ i) (h1 : i < n) : ixN n i = some i.toNat := by
  unfold ixN
  rw [if_pos h0, if_pos h1]
theorem atI_ok {α : Type} {xs : List α} {i : Int} {v : α} (h0 : 0 ≤ i) (h : xs[i.toNat]? = some v) : atI xs i = some v := by
  have e : i = ((i.toNat : Nat) : Int) := (Int.toNat_of_nonneg h0).symm
  rw [e]
  exact atI_nat h
theorem vI_at {ns : List Int} {j : Nat} (h : j < ns.length) : (vI ns)[j]? = some (.int ns[j]) := by
  unfold vI
  rw [List.getElem?_map, List.getElem?_eq_getElem h]
  rfl
theorem atI_ints {ns : List Int} {i : Int} (h0 : 0 ≤ i) (h1 : i < ns.length) : atI (vI ns) i = some (.int (ns.getD i.toNat 0)) := by
  have hj : i.toNat < ns.length := by omega
  refine atI_ok h0 ?_
  rw [vI_at hj, List.getD_eq_getElem?_getD, List.getElem?_eq_getElem hj]
  rfl
end Lx

namespace Lx
open PySem PySem.Spec PyProof.Rows L2
/-! ### isinstance -/
section
variable {K : PySem.W.Frag} {H : Hp} {Q : VK} {a tp : Addr} {xs : List V} {i : Int} {z : Str} {b : Bool}
theorem isi_of {x : V} {t T : String} {b : Bool} (ty : TyX K H x (.type t)) (e : kitB t T = some b) (q : Q (.bl b) H) : rIsi K [x, .ty T] H Q := ⟨x, .ty T, .type t, .type T, b, rfl, .ty T, ty, kit_ty e, q⟩
theorem k_ii : kitB "int" "int" = some true := by decide +kernel
theorem k_ib : kitB "int" "bool" = some false := by decide +kernel
theorem k_is : kitB "int" "str" = some false := by decide +kernel
theorem k_il : kitB "int" "list" = some false := by decide +kernel
theorem k_it : kitB "int" "tuple" = some false := by decide +kernel
theorem k_bi : kitB "bool" "int" = some true := by decide +kernel
theorem k_bb : kitB "bool" "bool" = some true := by decide +kernel
theorem k_bs : kitB "bool" "str" = some false := by decide +kernel
theorem k_bl : kitB "bool" "list" = some false := by decide +kernel
theorem k_bt : kitB "bool" "tuple" = some false := by decide +kernel
theorem k_si : kitB "str" "int" = some false := by decide +kernel
theorem k_sb : kitB "str" "bool" = some false := by decide +kernel
theorem k_ss : kitB "str" "str" = some true := by decide +kernel
theorem k_sl : kitB "str" "list" = some false := by decide +kernel
theorem k_st : kitB "str" "tuple" = some false := by decide +kernel
theorem k_ni : kitB "NoneType" "int" = some false := by decide +kernel
theorem k_nb : kitB "NoneType" "bool" = some false := by decide +kernel
theorem k_ns : kitB "NoneType" "str" = some false := by decide +kernel
theorem k_nl : kitB "NoneType" "list" = some false := by decide +kernel
theorem k_nt : kitB "NoneType" "tuple" = some false := by decide +kernel
theorem k_li : kitB "list" "int" = some false := by decide +kernel
theorem k_lb : kitB "list" "bool" = some false := by decide +kernel
theorem k_ls : kitB "list" "str" = some false := by decide +kernel
theorem k_ll : kitB "list" "list" = some true := by decide +kernel
theorem k_lt : kitB "list" "tuple" = some false := by decide +kernel
theorem k_ti : kitB "tuple" "int" = some false := by decide +kernel
theorem k_tb : kitB "tuple" "bool" = some false := by decide +kernel
theorem k_ts : kitB "tuple" "str" = some false := by decide +kernel
theorem k_tl : kitB "tuple" "list" = some false := by decide +kernel
theorem k_tt : kitB "tuple" "tuple" = some true := by decide +kernel
theorem ty_int : TyX K H (.int i) (.type "int") := .base (.int i)
theorem ty_bl : TyX K H (.bl b) (.type "bool") := .base (.bl b)
theorem ty_str : TyX K H (.str z) (.type "str") := .base (.str z)
theorem ty_non : TyX K H .non (.type "NoneType") := .base .non
theorem ty_lst (h : H a = some (.lst xs)) : TyX K H (.ref a) (.type "list") := .base (.lst h)
theorem ty_tup (h : H a = some (.tup xs)) : TyX K H (.ref a) (.type "tuple") := .base (.tup h)
/-- isinstance(x, (list, tuple)), the pair just laid -/
theorem isiLT {x : V} {t : String} {b1 b2 : Bool} (hT : H tp = some (.tup [.ty "list", .ty "tuple"])) (ty : TyX K H x (.type t)) (e1 : kitB t "list" = some b1) (e2 : kitB t "tuple" = some b2) (q : Q (.bl (b1 || b2)) H) : rIsiT K [x, .ref tp] H Q := by
  refine ⟨x, tp, _, .type t, [.type "list", .type "tuple"], b1 || b2, rfl, hT, .cons (.ty _) (.cons (.ty _) .nil), ty, kitAny_cons (kit_ty e1) (fun h1 => ?_) (fun h1 => by rw [h1]; rfl), q⟩
  refine kitAny_cons (kit_ty e2) (fun h2 => ?_) (fun h2 => by rw [h1, h2]; rfl)
  rw [h1, h2]
  exact kitAny_nil
theorem isiLT_l {x : V} {t : String} (hT : H tp = some (.tup [.ty "list", .ty "tuple"])) (ty : TyX K H x (.type t)) (e1 : kitB t "list" = some true) (e2 : kitB t "tuple" = some false) (q : Q (.bl true) H) : rIsiT K [x, .ref tp] H Q := isiLT hT ty e1 e2 q
theorem isiLT_t {x : V} {t : String} (hT : H tp = some (.tup [.ty "list", .ty "tuple"])) (ty : TyX K H x (.type t)) (e1 : kitB t "list" = some false) (e2 : kitB t "tuple" = some true) (q : Q (.bl true) H) : rIsiT K [x, .ref tp] H Q := isiLT hT ty e1 e2 q
theorem isiLT_o {x : V} {t : String} (hT : H tp = some (.tup [.ty "list", .ty "tuple"])) (ty : TyX K H x (.type t)) (e1 : kitB t "list" = some false) (e2 : kitB t "tuple" = some false) (q : Q (.bl false) H) : rIsiT K [x, .ref tp] H Q := isiLT hT ty e1 e2 q
end
theorem ifnT {A B : Prop} (h : B) : if (!true) = true then A else B := iteF h
theorem ifnF {A B : Prop} (h : A) : if (!false) = true then A else B := iteT h
end Lx

namespace Lx
open PySem PySem.Spec PyProof.Rows L2
/-- what an iterator gives: n turns while OK holds; item says what a turn yields -/
structure Src (J : It) (n : Nat) (OK : Hp → Prop) (item : Nat → V → Hp → Hp → Prop) : Prop where
  go : ∀ i H, OK H → i < n → J.go i H
  stop : ∀ H, OK H → J.stop n H
  yld : ∀ i H v H', OK H → i < n → J.yld i H v H' → item i v H H'
section
variable {K : PySem.W.Frag} {a b : Addr} {xs ys : List V}
theorem src_list : Src (Itl K a) xs.length (fun H => SqL K H a xs) (fun i v H H' => H' = H ∧ xs[i]? = some v) where
  go := fun i H h hi => ⟨xs, xs[i], h, by simp [hi]⟩
  stop := fun H h => ⟨xs, h, Nat.le_refl _⟩
  yld := fun i H v H' h _ y => ⟨y.1, y.2 xs h⟩
theorem src_tup : Src (Itt K a) xs.length (fun H => SqT K H a xs) (fun i v H H' => H' = H ∧ xs[i]? = some v) where
  go := fun i H h hi => ⟨xs, xs[i], h, by simp [hi]⟩
  stop := fun H h => ⟨xs, h, Nat.le_refl _⟩
  yld := fun i H v H' h _ y => ⟨y.1, y.2 xs h⟩
theorem src_range {lo : Int} {n : Nat} : Src (Itr lo n) n (fun _ => True) (fun i v H H' => H' = H ∧ v = .int (lo + i)) where
  go := fun i H _ hi => hi
  stop := fun H _ => Nat.le_refl n
  yld := fun i H v H' _ _ y => y
theorem src_step {lo c : Int} {n : Nat} : Src (Itc lo c n) n (fun _ => True) (fun i v H H' => H' = H ∧ v = .int (lo + (i : Nat) * c)) where
  go := fun i H _ hi => hi
  stop := fun H _ => Nat.le_refl n
  yld := fun i H v H' _ _ y => y
theorem src_enum : Src (Ite K a) xs.length (fun H => SqL K H a xs) (fun i v H H' => ∃ T x, v = .ref T ∧ H T = none ∧ H' = upd H T (.tup [.int (i : Nat), x]) ∧ xs[i]? = some x) where
  go := fun i H h hi => ⟨xs, xs[i], h, by simp [hi]⟩
  stop := fun H h => ⟨xs, h, Nat.le_refl _⟩
  yld := fun i H v H' h _ y => by
    obtain ⟨T, x, e, n, u, f⟩ := y
    exact ⟨T, x, e, n, u, f xs h⟩
theorem src_zip (hl : xs.length = ys.length) : Src (Itz K a b) xs.length (fun H => SqL K H a xs ∧ SqL K H b ys) (fun i v H H' => ∃ T x y, v = .ref T ∧ H T = none ∧ H' = upd H T (.tup [x, y]) ∧ xs[i]? = some x ∧ ys[i]? = some y) where
  go := fun i H h hi => ⟨xs, ys, xs[i], ys[i]'(by omega), h.1, h.2, by simp [hi], List.getElem?_eq_getElem (by omega)⟩
  stop := fun H h => ⟨xs, ys, h.1, h.2, .inl (Nat.le_refl _)⟩
  yld := fun i H v H' h _ y => by
    obtain ⟨T, x, z, e, n, u, f, g⟩ := y
    exact ⟨T, x, z, e, n, u, f xs h.1, g ys h.2⟩
theorem src_rev : Src (Itv K a xs.length) xs.length (fun H => SqL K H a xs) (fun i v H H' => H' = H ∧ xs[xs.length - 1 - i]? = some v) where
  go := fun i H h hi => ⟨hi, xs, xs[xs.length - 1 - i]'(by omega), h, List.getElem?_eq_getElem (by omega)⟩
  stop := fun H h => Nat.le_refl xs.length
  yld := fun i H v H' h _ y => ⟨y.1, y.2 xs h⟩
theorem src_str {x : Str} : Src (Its x) x.cps.size (fun _ => True) (fun i v H H' => H' = H ∧ ∃ c, x.cps[i]? = some c ∧ v = .str ⟨#[c]⟩) where
  go := fun i H _ hi => hi
  stop := fun H _ => Nat.le_refl x.cps.size
  yld := fun i H v H' _ _ y => y
end
section
variable {J : It} {n : Nat} {OK : Hp → Prop} {item : Nat → V → Hp → Hp → Prop} {g : TG} {tb : TS} {D : Ends} {σ : L2.St} {H : Hp}
/-- for, by a word over the turn, the slots, the heap -/
theorem for_src (S : Src J n OK item) (Pv : Nat → L2.St → Hp → Prop) (ok : ∀ i σ H, Pv i σ H → OK H) (h0 : Pv 0 σ H)
    (hs : ∀ i v σ H H', i < n → Pv i σ H → item i v H H' → g v σ H' fun σ2 H2 => tb { D with nx := Pv (i + 1), ct := Pv (i + 1), bk := D.nx } σ2 H2) (hd : ∀ σ H, Pv n σ H → D.nx σ H) :
    ∃ W : Nat → Nat → L2.St → Hp → Prop, (∃ m, W 0 m σ H) ∧ ∀ i m σ H, W i m σ H →
      (J.stop i H ∧ D.nx σ H) ∨ (J.go i H ∧ ∃ N : L2.St → Hp → Prop, (∀ σ' H', N σ' H' → ∃ m', m' < m ∧ W (i + 1) m' σ' H') ∧ ∀ x H', J.yld i H x H' → g x σ H' fun σ2 H2 => tb { D with nx := N, ct := N, bk := D.nx } σ2 H2) := by
  refine ⟨fun i m σ H => i + m = n ∧ Pv i σ H, ⟨n, Nat.zero_add n, h0⟩, ?_⟩
  rintro i m σ H ⟨e, p⟩
  have o := ok i σ H p
  by_cases hi : i < n
  · refine .inr ⟨S.go i H o hi, Pv (i + 1), ?_, ?_⟩
    · intro σ' H' p'
      exact ⟨m - 1, by omega, by omega, p'⟩
    · intro x H' y
      exact hs i x σ H H' hi p (S.yld i H x H' o hi y)
  · have ei : i = n := by omega
    subst ei
    exact .inl ⟨S.stop H o, hd σ H p⟩
variable {tt : TT} {te : TE} {vs : List Nat} {H1 : Hp} {Dl : Addr} {Qd : Hp → Prop}
/-- a comprehension, by a word over the turn and the heap -/
theorem lc_src (S : Src J n OK item) (Pv : Nat → Hp → Prop) (ok : ∀ i H, Pv i H → OK H) (h0 : Pv 0 (upd H1 Dl (.lst [])))
    (hs : ∀ i v H H', i < n → Pv i H → item i v H H' → g v (wipe σ vs) H' fun σ2 H2 => wipe σ2 vs = wipe σ vs ∧ tt σ2 H2 fun b H3 =>
      if b = true then te σ2 H3 fun y H4 => ∃ acc, H4 Dl = some (.lst acc) ∧ acc.length < sizeLine ∧ Pv (i + 1) (upd H4 Dl (.lst (acc ++ [y]))) else Pv (i + 1) H3) (hd : ∀ H, Pv n H → Qd H) :
    ∃ W : Nat → Nat → Hp → Prop, (∃ m, W 0 m (upd H1 Dl (.lst []))) ∧ ∀ i m H, W i m H →
      (J.stop i H ∧ Qd H) ∨ (J.go i H ∧ ∃ Nx : Hp → Prop, (∀ H', Nx H' → ∃ m', m' < m ∧ W (i + 1) m' H') ∧ ∀ x H', J.yld i H x H' → g x (wipe σ vs) H' fun σ2 H2 => wipe σ2 vs = wipe σ vs ∧ tt σ2 H2 fun b H3 =>
        if b = true then te σ2 H3 fun y H4 => ∃ acc, H4 Dl = some (.lst acc) ∧ acc.length < sizeLine ∧ Nx (upd H4 Dl (.lst (acc ++ [y]))) else Nx H3) := by
  refine ⟨fun i m H => i + m = n ∧ Pv i H, ⟨n, Nat.zero_add n, h0⟩, ?_⟩
  rintro i m H ⟨e, p⟩
  have o := ok i H p
  by_cases hi : i < n
  · refine .inr ⟨S.go i H o hi, Pv (i + 1), ?_, ?_⟩
    · intro H' p'
      exact ⟨m - 1, by omega, by omega, p'⟩
    · intro x H' y
      exact hs i x H H' hi p (S.yld i H x H' o hi y)
  · have ei : i = n := by omega
    subst ei
    exact .inl ⟨S.stop H o, hd H p⟩
/-- what the turns give: those of f, each v -/
def giv (n : Nat) (f : Nat → Bool) (v : Nat → V) : List V := ((List.range n).filter f).map v
theorem giv_yes {n : Nat} {f : Nat → Bool} {v : Nat → V} (h : f n = true) : giv (n + 1) f v = giv n f v ++ [v n] := by
  unfold giv
  rw [List.range_succ, List.filter_append, List.map_append]
  simp [h]
theorem giv_no {n : Nat} {f : Nat → Bool} {v : Nat → V} (h : f n = false) : giv (n + 1) f v = giv n f v := by
  unfold giv
  rw [List.range_succ, List.filter_append, List.map_append]
  simp [h]
theorem giv_len (n : Nat) (f : Nat → Bool) (v : Nat → V) : (giv n f v).length ≤ n := by
  unfold giv
  rw [List.length_map]
  exact Nat.le_trans (List.length_filter_le f (List.range n)) (by simp)
theorem giv_all (n : Nat) (v : Nat → V) : giv n (fun _ => true) v = (List.range n).map v := by
  unfold giv
  rw [List.filter_eq_self.mpr fun _ _ => rfl]
theorem giv_const (n : Nat) (x : V) : giv n (fun _ => true) (fun _ => x) = List.replicate n x := by
  rw [giv_all, List.map_const', List.length_range]
/-- a comprehension whose turns leave what stood as it was -/
theorem lc_pure (S : Src J n OK item) (p : Nat → Bool) (v : Nat → V) (hn : n ≤ 100000) (hok : ∀ H', Same H1 H' → OK H')
    (hs : ∀ i x H' H'' (Yes : V → Hp → Prop) (No : Hp → Prop), i < n → Same H1 H' → item i x H' H'' → (p i = true → ∀ H4, Same H' H4 → Yes (v i) H4) → (p i = false → ∀ H3, Same H' H3 → No H3) →
      g x (wipe σ vs) H'' fun σ2 H2 => wipe σ2 vs = wipe σ vs ∧ tt σ2 H2 fun b H3 => if b = true then te σ2 H3 Yes else No H3)
    (hD : H1 Dl = none) (q : ∀ H', Same H1 H' → H' Dl = some (.lst (giv n p v)) → Qd H') :
    ∃ W : Nat → Nat → Hp → Prop, (∃ m, W 0 m (upd H1 Dl (.lst []))) ∧ ∀ i m H, W i m H →
      (J.stop i H ∧ Qd H) ∨ (J.go i H ∧ ∃ Nx : Hp → Prop, (∀ H', Nx H' → ∃ m', m' < m ∧ W (i + 1) m' H') ∧ ∀ x H', J.yld i H x H' → g x (wipe σ vs) H' fun σ2 H2 => wipe σ2 vs = wipe σ vs ∧ tt σ2 H2 fun b H3 =>
        if b = true then te σ2 H3 fun y H4 => ∃ acc, H4 Dl = some (.lst acc) ∧ acc.length < sizeLine ∧ Nx (upd H4 Dl (.lst (acc ++ [y]))) else Nx H3) := by
  refine lc_src S (fun i H' => Same H1 H' ∧ H' Dl = some (.lst (giv i p v))) (fun i H' h => hok H' h.1) ⟨same_new hD, upd_same⟩ ?_ (fun H' h => q H' h.1 h.2)
  rintro i x H' H'' hi ⟨s, hl⟩ hit
  refine hs i x H' H'' _ _ hi s hit ?_ ?_
  · intro hp H4 s4
    refine ⟨giv i p v, s4 _ _ hl, ?_, same_set (s.trans s4) hD, ?_⟩
    · exact Nat.lt_of_le_of_lt (Nat.le_trans (giv_len i p v) (Nat.le_of_lt (Nat.lt_of_lt_of_le hi hn))) (by decide)
    · rw [giv_yes hp]; exact upd_same
  · intro hp H3 s3
    refine ⟨s.trans s3, ?_⟩
    rw [giv_no hp]
    exact s3 _ _ hl
end
/-! ### the shapes of loops' readings -/
section
variable {σ : L2.St} {H : Hp} {D : Ends} {K : PySem.W.Frag} {R : It → Hp → Prop} {tl : TE} {ta : TA}
theorem r_for {wi : TI} {g : TG} {tb : TS} (h : wi σ H fun J H1 => ∃ W : Nat → Nat → L2.St → Hp → Prop, (∃ m, W 0 m σ H1) ∧ ∀ i m σ H, W i m σ H →
  (J.stop i H ∧ D.nx σ H) ∨ (J.go i H ∧ ∃ N : L2.St → Hp → Prop, (∀ σ' H', N σ' H' → ∃ m', m' < m ∧ W (i + 1) m' σ' H') ∧ ∀ x H', J.yld i H x H' → g x σ H' fun σ2 H2 => tb { D with nx := N, ct := N, bk := D.nx } σ2 H2)) : tFor wi g tb D σ H := h
theorem r_lc {wi : TI} {g : TG} {tt : TT} {te : TE} {vs : List Nat} {Q : VK} (h : wi σ H fun J H1 => ∀ D, H1 D = none → ∃ W : Nat → Nat → Hp → Prop, (∃ m, W 0 m (upd H1 D (.lst []))) ∧ ∀ i m H, W i m H →
  (J.stop i H ∧ Q (.ref D) H) ∨ (J.go i H ∧ ∃ Nx : Hp → Prop, (∀ H', Nx H' → ∃ m', m' < m ∧ W (i + 1) m' H') ∧ ∀ x H', J.yld i H x H' → g x (wipe σ vs) H' fun σ2 H2 => wipe σ2 vs = wipe σ vs ∧ tt σ2 H2 fun b H3 =>
    if b = true then te σ2 H3 fun y H4 => ∃ acc, H4 D = some (.lst acc) ∧ acc.length < sizeLine ∧ Nx (upd H4 D (.lst (acc ++ [y]))) else Nx H3)) : tLc wi g tt te vs σ H Q := h
theorem r_yes {B : Bool → Hp → Prop} (h : B true H) : tYes σ H B := h
theorem r_iList (h : tl σ H fun x H1 => ∃ a, x = .ref a ∧ (∃ xs, SqL K H1 a xs) ∧ R (Itl K a) H1) : iList K tl σ H R := h
theorem r_iTup (h : tl σ H fun x H1 => ∃ a, x = .ref a ∧ (∃ xs, SqT K H1 a xs) ∧ R (Itt K a) H1) : iTup K tl σ H R := h
theorem r_iRng1 (h : ta σ H fun vs H1 => ∃ j : Int, vs = [.int j] ∧ -(2 ^ 62) ≤ j ∧ j < 2 ^ 62 ∧ R (Itr 0 j.toNat) H1) : iRng1 ta σ H R := h
theorem r_iRng2 (h : ta σ H fun vs H1 => ∃ i j : Int, vs = [.int i, .int j] ∧ (-(2 ^ 62) ≤ i ∧ i < 2 ^ 62 ∧ -(2 ^ 62) ≤ j ∧ j < 2 ^ 62) ∧ R (Itr i (j - i).toNat) H1) : iRng2 ta σ H R := h
theorem r_iRng3 (h : ta σ H fun vs H1 => ∃ (i j c : Int) (n : Nat), vs = [.int i, .int j, .int c] ∧ RgC i j c n ∧ R (Itc i c n) H1) : iRng3 ta σ H R := h
theorem r_iEnum (h : ta σ H fun vs H1 => ∃ a xs, vs = [.ref a] ∧ SqL K H1 a xs ∧ R (Ite K a) H1) : iEnum K ta σ H R := h
theorem r_iZip (h : ta σ H fun vs H1 => ∃ a b xs ys, vs = [.ref a, .ref b] ∧ SqL K H1 a xs ∧ SqL K H1 b ys ∧ R (Itz K a b) H1) : iZip K ta σ H R := h
theorem r_iStr (h : tl σ H fun v H1 => ∃ x, v = .str x ∧ R (Its x) H1) : iStr tl σ H R := h
theorem i_list {a : Addr} {xs : List V} {P : It → Prop} (h : SqL K H a xs) (q : P (Itl K a)) : ∃ a', V.ref a = .ref a' ∧ (∃ xs, SqL K H a' xs) ∧ P (Itl K a') := ⟨a, rfl, ⟨xs, h⟩, q⟩
theorem i_tup {a : Addr} {xs : List V} {P : It → Prop} (h : SqT K H a xs) (q : P (Itt K a)) : ∃ a', V.ref a = .ref a' ∧ (∃ xs, SqT K H a' xs) ∧ P (Itt K a') := ⟨a, rfl, ⟨xs, h⟩, q⟩
theorem i_rng1 {j : Int} {P : It → Prop} (h0 : -(2 ^ 62) ≤ j) (h1 : j < 2 ^ 62) (q : P (Itr 0 j.toNat)) : ∃ j' : Int, [V.int j] = [.int j'] ∧ -(2 ^ 62) ≤ j' ∧ j' < 2 ^ 62 ∧ P (Itr 0 j'.toNat) := ⟨j, rfl, h0, h1, q⟩
theorem r_wN {tb : TS} {I : Nat → L2.St → Hp → Prop} {m : Nat} (h : tb { D with nx := fun σ' H' => ∃ m', m' < m ∧ I m' σ' H', ct := fun σ' H' => ∃ m', m' < m ∧ I m' σ' H', bk := D.nx } σ H) :
    ∃ N : L2.St → Hp → Prop, (∀ σ' H', N σ' H' → ∃ m', m' < m ∧ I m' σ' H') ∧ tb { D with nx := N, ct := N, bk := D.nx } σ H := ⟨_, fun _ _ h => h, h⟩
end
end Lx

/-! the layer's rules with the written part named (within a comprehension's block a reading must not hang on the block) -/
namespace Lx
open PySem PySem.Spec PyProof.Rows L2
section
variable (K : PySem.W.Frag) {X : Cx}
theorem k_len (h : X.K = K := by rfl) : CallR X (.builtin "len") (rLen K) := h ▸ call_len'
theorem k_list (h : X.K = K := by rfl) : CallR X (.type "list") (rListOf K) := h ▸ call_list'
theorem k_tuple (h : X.K = K := by rfl) : CallR X (.type "tuple") (rTupleOf K) := h ▸ call_tuple'
theorem k_isi (h : X.K = K := by rfl) : CallR X (.builtin "isinstance") (rIsi K) := h ▸ call_isi
theorem k_isiT (h : X.K = K := by rfl) : CallR X (.builtin "isinstance") (rIsiT K) := h ▸ call_isiT
theorem k_all (h : X.K = K := by rfl) (hc : X.calm = true := by rfl) : CallR X (.builtin "all") (rAll K) := h ▸ cr_all hc
theorem k_any (h : X.K = K := by rfl) (hc : X.calm = true := by rfl) : CallR X (.builtin "any") (rAny K) := h ▸ cr_any hc
theorem k_sum (h : X.K = K := by rfl) (hc : X.calm = true := by rfl) : CallR X (.builtin "sum") (rSum K) := h ▸ cr_sum hc
theorem k_min (h : X.K = K := by rfl) (hc : X.calm = true := by rfl) : CallR X (.builtin "min") (rMin K) := h ▸ cr_min hc
theorem k_max (h : X.K = K := by rfl) (hc : X.calm = true := by rfl) : CallR X (.builtin "max") (rMax K) := h ▸ cr_max hc
theorem k_sorted (h : X.K = K := by rfl) : CallR X (.builtin "sorted") (rSortedI K) := h ▸ cr_sortedI
theorem k_sortedU (h : X.K = K := by rfl) : CallR X (.builtin "sorted") (rSortedU K) := h ▸ cr_sortedU
theorem k_repr (hG : X.A.guards = some []) (hu : X.A.units + 64 < cLine) (h : X.K = K := by rfl) : CallR X (.builtin "repr") (rRepr K) := h ▸ call_reprD hG hu
theorem k_ixL (h : X.K = K := by rfl) : IxR X (rIxL K) := h ▸ ix_list
theorem k_ixT (h : X.K = K := by rfl) : IxR X (rIxT K) := h ▸ ix_tup
theorem k_slL (h : X.K = K := by rfl) : SlR X (rSlL K) := h ▸ sl_list
theorem k_slT (h : X.K = K := by rfl) : SlR X (rSlA K) := h ▸ sl_tupA
theorem k_in (h : X.K = K := by rfl) : OpR X (compareOp .In) (rIn K false) := h ▸ op_in_seq
theorem k_notIn (h : X.K = K := by rfl) : OpR X (compareOp .NotIn) (rIn K true) := h ▸ op_notIn_seq
theorem k_eqD (hu : X.A.units + 64 < cLine) (h : X.K = K := by rfl) : OpR X (compareOp .Eq) (rEqD K) := h ▸ op_eqD hu
theorem k_neD (hu : X.A.units + 64 < cLine) (h : X.K = K := by rfl) : OpR X (compareOp .NotEq) (rNeD K) := h ▸ op_neD hu
theorem k_catT (h : X.K = K := by rfl) : OpR X (binaryOp .Add) (rCatT K) := h ▸ op_catT
theorem k_piL {tg l : Expr} {tl : TE} (hl : PE X l tl) (h : X.K = K := by rfl) : PI X tg l (iList K tl) := h ▸ pi_list hl
theorem k_piT {tg l : Expr} {tl : TE} (hl : PE X l tl) (h : X.K = K := by rfl) : PI X tg l (iTup K tl) := h ▸ pi_tup hl
theorem k_enum {e : Expr} {ta : TA} {p pos tpos : Pos} {elts : List Expr} {kk : Nat} (hg : Gl X "enumerate") (hm : X.mg "enumerate" = none) (ha : PA X [e] ta) (hs : starEach [e] X.env = [(false, eval e X.env)] := by rfl) (h : X.K = K := by rfl) :
    PI X (.Tuple elts kk tpos) (.Call (.Name "enumerate" p) [e] [] pos) (iEnum K ta) := h ▸ pi_enum hg hm ha hs
theorem k_zip {e e2 : Expr} {ta : TA} {p pos tpos : Pos} {elts : List Expr} {kk : Nat} (hg : Gl X "zip") (hm : X.mg "zip" = none) (ha : PA X [e, e2] ta)
    (hs : starEach [e, e2] X.env = (false, eval e X.env) :: starEach [e2] X.env := by rfl) (hpl : (backTo pos (starEach [e2] X.env)).any (·.1) = false := by rfl) (h : X.K = K := by rfl) :
    PI X (.Tuple elts kk tpos) (.Call (.Name "zip" p) [e, e2] [] pos) (iZip K ta) := h ▸ pi_zip hg hm ha hs hpl
theorem k_gtup {es : List Expr} {k : Nat} {t : TGs} {n : Nat} {pos : Pos} (hc : X.calm = true) (ht : PGs X es t) (hn : (assignEach es X.env).length = n := by rfl) (hst : (assignEach es X.env).findIdx? (·.1) = none := by rfl) (h : X.K = K := by rfl) :
    PG X (.Tuple es k pos) (gTup K n t) := h ▸ pg_tup hc ht hn hst
theorem k_gunl {es : List Expr} {k : Nat} {t : TGs} {n : Nat} {pos : Pos} (hc : X.calm = true) (ht : PGs X es t) (hn : (assignEach es X.env).length = n := by rfl) (hst : (assignEach es X.env).findIdx? (·.1) = none := by rfl) (h : X.K = K := by rfl) :
    PG X (.Tuple es k pos) (gUnl K n t) := h ▸ pg_unl hc ht hn hst
theorem k_rev {e : Expr} {te : TE} {k : Nat} {p1 p2 p3 pos : Pos} (he : PE X e te) (h : X.K = K := by rfl) : PE X (.Subscript e (.Slice none none (some (.UnaryOp .USub (.Constant (.int 1) k p1) p2)) p3) pos) (tRevL K te) := h ▸ pe_revL he
theorem k_fld {e : Expr} {ta : TE} {f : Str} {pos : Pos} (he : PE X e ta) (hb : attributeBase e f X.env (eval e X.env) = eval e X.env := by rfl) (h : X.K = K := by rfl) : PE X (.Attribute e f pos) (tFld K ta f) := h ▸ pe_fld he hb
theorem k_bm {T : String} {name : Str} {id : String} {r : V → List V → Hp → VK → Prop} {o e : Expr} {es : List Expr} {to : TE} {t : TA} {apos cpos : Pos} (pa : PlainAttrs T) (slot : Slot T name id) (hty : typeOf (.builtin id) = pure (.type "method_descriptor")) (hm : MtR X id r) (ho : PE X o to) (ha : PA X (e :: es) t)
    (p : PE X (.Call (.Attribute o name apos) (e :: es) [] cpos) (tBM X.K T r to t)) (h : X.K = K := by rfl) : PE X (.Call (.Attribute o name apos) (e :: es) [] cpos) (tBM K T r to t) := h ▸ p
theorem k_bmP {T : String} {r : V → List V → Hp → VK → Prop} {o : Expr} {to : TE} {t : TA} (p : PE X o (tBM X.K T r to t)) (h : X.K = K := by rfl) : PE X o (tBM K T r to t) := h ▸ p
theorem k_bm0P {T : String} {r : V → List V → Hp → VK → Prop} {o : Expr} {to : TE} (p : PE X o (tBM0 X.K T r to)) (h : X.K = K := by rfl) : PE X o (tBM0 K T r to) := h ▸ p
end
end Lx

namespace Lx
open PySem PySem.Spec PyProof.Rows L2
/-! ### data that stand told, each of their lists and tuples where G holds -/
mutual
inductive Tr (G : Addr → Prop) (H : Hp) : V → PyData → Prop
  | non : Tr G H .non .none
  | bl (b : Bool) : Tr G H (.bl b) (.bool b)
  | int (i : Int) : Tr G H (.int i) (.int i)
  | str (x : Str) : Tr G H (.str x) (.str x)
  | lst {a : Addr} {xs : List V} {ds : List PyData} : H a = some (.lst xs) → G a → xs.length ≤ 100000 → TrAll G H xs ds → Tr G H (.ref a) (.list ds)
  | tup {a : Addr} {xs : List V} {ds : List PyData} : H a = some (.tup xs) → G a → xs.length ≤ 100000 → TrAll G H xs ds → Tr G H (.ref a) (.tuple ds)
inductive TrAll (G : Addr → Prop) (H : Hp) : List V → List PyData → Prop
  | nil : TrAll G H [] []
  | cons {v : V} {vs : List V} {d : PyData} {ds : List PyData} : Tr G H v d → TrAll G H vs ds → TrAll G H (v :: vs) (d :: ds)
end
section
variable {K : PySem.W.Frag} {G G' : Addr → Prop} {H H' : Hp}
mutual
theorem Tr.dp : ∀ {v : V} {d : PyData}, Tr G H v d → Dp K H v d
  | _, _, .non => .non
  | _, _, .bl b => .bl b
  | _, _, .int i => .int i
  | _, _, .str x => .str x
  | _, _, .lst h _ _ t => .lst (lst_of h) t.dp
  | _, _, .tup h _ _ t => .tup (tup_of h) t.dp
theorem TrAll.dp : ∀ {v : List V} {d : List PyData}, TrAll G H v d → DpAll K H v d
  | _, _, .nil => .nil
  | _, _, .cons h t => .cons h.dp t.dp
end
mutual
theorem Tr.move (m : ∀ a o, G a → H a = some o → H' a = some o ∧ G' a) : ∀ {v : V} {d : PyData}, Tr G H v d → Tr G' H' v d
  | _, _, .non => .non
  | _, _, .bl b => .bl b
  | _, _, .int i => .int i
  | _, _, .str x => .str x
  | _, _, .lst h g l t => .lst (m _ _ g h).1 (m _ _ g h).2 l (t.move m)
  | _, _, .tup h g l t => .tup (m _ _ g h).1 (m _ _ g h).2 l (t.move m)
theorem TrAll.move (m : ∀ a o, G a → H a = some o → H' a = some o ∧ G' a) : ∀ {v : List V} {d : List PyData}, TrAll G H v d → TrAll G' H' v d
  | _, _, .nil => .nil
  | _, _, .cons h t => .cons (h.move m) (t.move m)
end
theorem Tr.same {v : V} {d : PyData} (h : Tr G H v d) (s : Same H H') : Tr G H' v d := h.move fun a o g e => ⟨s _ _ e, g⟩
theorem Tr.any {v : V} {d : PyData} (h : Tr G H v d) : Tr (fun _ => True) H v d := h.move fun a o g e => ⟨e, trivial⟩
theorem TrAll.same {v : List V} {d : List PyData} (h : TrAll G H v d) (s : Same H H') : TrAll G H' v d := h.move fun a o g e => ⟨s _ _ e, g⟩
theorem TrAll.len : ∀ {v : List V} {d : List PyData}, TrAll G H v d → v.length = d.length
  | _, _, .nil => rfl
  | _, _, .cons _ t => congrArg Nat.succ t.len
theorem TrAll.at : ∀ {vs : List V} {ds : List PyData}, TrAll G H vs ds → ∀ {i : Nat} {v : V}, vs[i]? = some v → ∃ d, ds[i]? = some d ∧ Tr G H v d
  | _, _, .nil, i, v, e => by simp at e
  | _, _, .cons h t, 0, v, e => by
    rw [List.getElem?_cons_zero] at e
    cases e
    exact ⟨_, rfl, h⟩
  | _, _, .cons h t, i + 1, v, e => by
    rw [List.getElem?_cons_succ] at e
    obtain ⟨d, e', z⟩ := t.at e
    exact ⟨d, by rw [List.getElem?_cons_succ]; exact e', z⟩
theorem TrAll.of : ∀ {vs : List V} {ds : List PyData}, vs.length = ds.length → (∀ (i : Nat) (v : V) (d : PyData), vs[i]? = some v → ds[i]? = some d → Tr G H v d) → TrAll G H vs ds
  | [], [], _, _ => .nil
  | v :: vs, d :: ds, e, h => .cons (h 0 v d rfl rfl) (TrAll.of (Nat.succ.inj e) fun i v d a b => h (i + 1) v d a b)
  | [], _ :: _, e, _ => by cases e
  | _ :: _, [], e, _ => by cases e
theorem TrAll.ints (ns : List Int) : TrAll G H (vI ns) (dI ns) := by
  induction ns with
  | nil => exact .nil
  | cons n ns ih => exact .cons (.int n) ih
end
theorem depth_mem {ds : List PyData} {d : PyData} (h : d ∈ ds) : d.depth ≤ PyData.depthAll ds := by
  induction ds with
  | nil => cases h
  | cons e ds ih =>
    show d.depth ≤ max e.depth (PyData.depthAll ds)
    rcases List.mem_cons.mp h with rfl | h
    · exact Nat.le_max_left _ _
    · exact Nat.le_trans (ih h) (Nat.le_max_right _ _)
/-! ### slices -/
theorem cut_lo {xs : List V} {k : Nat} : cutV xs (some ((k : Nat) : Int)) none = xs.drop k := by
  unfold cutV
  rw [HT.sIx_nat, HT.sIx_none]
  by_cases h : k ≤ xs.length
  · rw [Nat.min_eq_left h]
    exact List.take_of_length_le (by rw [List.length_drop]; exact Nat.le_refl _)
  · rw [Nat.min_eq_right (by omega), Nat.sub_self, List.take_zero, List.drop_eq_nil_of_le (by omega)]
theorem cut_hi {xs : List V} {k : Nat} : cutV xs none (some ((k : Nat) : Int)) = xs.take k := by
  unfold cutV
  rw [HT.sIx_nat, HT.sIx_none, List.drop_zero, Nat.sub_zero]
  by_cases h : k ≤ xs.length
  · rw [Nat.min_eq_left h]
  · rw [Nat.min_eq_right (by omega), List.take_length, List.take_of_length_le (by omega)]
theorem vI_drop (ns : List Int) (k : Nat) : (vI ns).drop k = vI (ns.drop k) := List.map_drop.symm
theorem vI_take (ns : List Int) (k : Nat) : (vI ns).take k = vI (ns.take k) := List.map_take.symm
theorem vI_app (a b : List Int) : vI a ++ vI b = vI (a ++ b) := List.map_append.symm
theorem vI_rev (a : List Int) : (vI a).reverse = vI a.reverse := List.map_reverse.symm
theorem vI_set (a : List Int) (n : Nat) (x : Int) : (vI a).set n (.int x) = vI (a.set n x) := List.map_set.symm
/-- a list of values that is a rearranged list of ints -/
theorem perm_vI {xs : List V} {ns : List Int} (h : xs.Perm (vI ns)) : ∃ ms : List Int, xs = vI ms ∧ ms.Perm ns := by
  have un : ∀ zs : List V, (∀ z ∈ zs, ∃ n : Int, z = .int n) → vI (zs.map fun z => match z with | .int n => n | _ => 0) = zs := by
    intro zs
    induction zs with
    | nil => intro _; rfl
    | cons z zs ih =>
      intro hz
      obtain ⟨n, rfl⟩ := hz z List.mem_cons_self
      have e := ih fun y hy => hz y (List.mem_cons_of_mem _ hy)
      show V.int n :: vI (zs.map _) = _
      rw [e]
  refine ⟨xs.map fun z => match z with | .int n => n | _ => 0, (un xs fun z hz => ?_).symm, ?_⟩
  · obtain ⟨n, _, e⟩ := List.mem_map.mp (h.mem_iff.mp hz)
    exact ⟨n, e.symm⟩
  · have p := h.map fun z : V => match z with | .int n => n | _ => 0
    have e : (vI ns).map (fun z : V => match z with | .int n => n | _ => 0) = ns := by
      unfold vI
      rw [List.map_map]
      exact List.map_id ns
    rw [e] at p
    exact p
theorem seq_ix {i : Int} {n : Nat} (h0 : 0 ≤ i) (h1 : i < n) : seqIndex? i n = some i.toNat := (ixN_seq (ixN_ok h0 h1)).1
theorem rgc_pos {j c : Int} (h0 : 0 ≤ j) (h1 : j < 2 ^ 40) (c0 : 1 ≤ c) (c1 : c < 1000000) : RgC 0 j c ((j + c - 1) / c).toNat := by
  have e := rangeSize_pos (len := j) (c := c) c0 h0
  have g0 : 0 ≤ (j + c - 1) / c := Int.ediv_nonneg (by omega) (by omega)
  have g2 : (j + c - 1) / c * c ≤ j + c - 1 := Int.ediv_mul_le _ (by omega)
  have g1 : (j + c - 1) / c ≤ j + c - 1 := by
    refine Int.le_trans ?_ g2
    have := Int.mul_le_mul_of_nonneg_left c0 g0
    rw [Int.mul_one] at this
    exact this
  refine ⟨by omega, by omega, ?_, by rw [e, Int.toNat_of_nonneg g0]⟩
  unfold Builtin.Range.small
  rw [e]
  simp only [Builtin.Range.rangeFitsLong, Bool.and_eq_true, Bool.or_eq_true, decide_eq_true_eq, beq_iff_eq, show c > 0 by omega, if_true]
  refine ⟨⟨⟨⟨by decide, by omega, by omega⟩, by omega, by omega⟩, by omega, by omega⟩, .inr ⟨by omega, by omega⟩⟩
/-! ### where ways join -/
section
variable {ts tu : TS} {R bk ct : L2.St → Hp → Prop} {rt : VK} {σ : L2.St} {H : Hp} {D : Ends}
theorem ifJ {c : Prop} [Decidable c] (J : L2.St → Hp → Prop) (h1 : ∀ R' : L2.St → Hp → Prop, (∀ σ H, J σ H → R' σ H) → c → ts ⟨R', rt, bk, ct⟩ σ H) (h2 : ∀ R' : L2.St → Hp → Prop, (∀ σ H, J σ H → R' σ H) → ¬ c → tu ⟨R', rt, bk, ct⟩ σ H) (hR : ∀ σ H, J σ H → R σ H) :
    if decide c = true then ts ⟨R, rt, bk, ct⟩ σ H else tu ⟨R, rt, bk, ct⟩ σ H := ifD (h1 R hR) (h2 R hR)
theorem seqJ (J : L2.St → Hp → Prop) (h1 : ∀ R' : L2.St → Hp → Prop, (∀ σ H, J σ H → R' σ H) → ts ⟨R', D.rt, D.bk, D.ct⟩ σ H) (hR : ∀ σ H, J σ H → tu D σ H) : tSeq ts tu D σ H := h1 _ hR
end
theorem r_ixLT {K : PySem.W.Frag} {H : Hp} {Q : VK} {v : V} {p : Addr} {xs : List V} {a : Int} (h : Sq H p xs) (e : atI xs a = some v) (q : Q v H) : oOr (rIxL K) (rIxT K) (.ref p) (.int a) H Q :=
  h.elim (fun h => .inl (r_ixL (lst_of h) e q)) fun h => .inr (r_ixT (tup_of h) e q)
/-! ### the same data, its lists and tuples dressed anew -/
mutual
inductive Drs : PyData → PyData → Prop
  | non : Drs .none .none
  | bl (b : Bool) : Drs (.bool b) (.bool b)
  | int (i : Int) : Drs (.int i) (.int i)
  | str (x : Str) : Drs (.str x) (.str x)
  | ll {ds es : List PyData} : DrsAll ds es → Drs (.list ds) (.list es)
  | lt {ds es : List PyData} : DrsAll ds es → Drs (.list ds) (.tuple es)
  | tl {ds es : List PyData} : DrsAll ds es → Drs (.tuple ds) (.list es)
  | tt {ds es : List PyData} : DrsAll ds es → Drs (.tuple ds) (.tuple es)
inductive DrsAll : List PyData → List PyData → Prop
  | nil : DrsAll [] []
  | cons {d e : PyData} {ds es : List PyData} : Drs d e → DrsAll ds es → DrsAll (d :: ds) (e :: es)
end
theorem DrsAll.snoc : ∀ {ds es : List PyData} {d e : PyData}, DrsAll ds es → Drs d e → DrsAll (ds ++ [d]) (es ++ [e])
  | _, _, _, _, .nil, h => .cons h .nil
  | _, _, _, _, .cons g t, h => .cons g (t.snoc h)
theorem DrsAll.len : ∀ {ds es : List PyData}, DrsAll ds es → ds.length = es.length
  | _, _, .nil => rfl
  | _, _, .cons _ t => congrArg Nat.succ t.len
theorem DrsAll.ints : ∀ {ns : List Int} {es : List PyData}, DrsAll (dI ns) es → es = dI ns
  | [], _, .nil => rfl
  | n :: ns, _, .cons h t => by
    cases h
    rw [t.ints]
    rfl
theorem Drs.ints {ns : List Int} {e : PyData} (h : Drs (.list (dI ns)) e) : e = .list (dI ns) ∨ e = .tuple (dI ns) := by
  cases h with
  | ll h => exact .inl (by rw [h.ints])
  | lt h => exact .inr (by rw [h.ints])
theorem TrAll.snoc {G : Addr → Prop} {H : Hp} : ∀ {vs : List V} {ds : List PyData} {v : V} {d : PyData}, TrAll G H vs ds → Tr G H v d → TrAll G H (vs ++ [v]) (ds ++ [d])
  | _, _, _, _, .nil, h => .cons h .nil
  | _, _, _, _, .cons g t, h => .cons g (t.snoc h)
theorem TrAll.val {G : Addr → Prop} {H : Hp} : ∀ {vs : List V} {ns : List Int}, TrAll G H vs (dI ns) → vs = vI ns
  | _, [], .nil => rfl
  | _, n :: ns, .cons h t => by
    cases h
    rw [t.val]
    rfl
theorem Tr.sq {G : Addr → Prop} {H : Hp} {v : V} {ns : List Int} {e : PyData} (h : Tr G H v e) (he : e = .list (dI ns) ∨ e = .tuple (dI ns)) : ∃ a, v = .ref a ∧ G a ∧ Sq H a (vI ns) := by
  rcases he with rfl | rfl
  · cases h with
    | lst h g _ t => rw [t.val] at h; exact ⟨_, rfl, g, .inl h⟩
  · cases h with
    | tup h g _ t => rw [t.val] at h; exact ⟨_, rfl, g, .inr h⟩
/-! ### texts -/
def rAddS : R2 := fun x y H Q => ∃ i j, x = .str i ∧ y = .str j ∧ i.length + j.length ≤ sizeLine ∧ Q (.str (i ++ j)) H
theorem op_addS {X : Cx} : OpR X (binaryOp .Add) rAddS := op_add_str
theorem r_addS {H : Hp} {Q : VK} {a b : Str} (h : a.length + b.length ≤ sizeLine) (q : Q (.str (a ++ b)) H) : rAddS (.str a) (.str b) H Q := ⟨a, b, rfl, rfl, h, q⟩
def rCountS : V → List V → Hp → VK → Prop := fun x xs H Q => ∃ a b, x = .str a ∧ xs = [.str b] ∧ Q (.int (Txt.count a b)) H
theorem mt_countS {X : Cx} : MtR X "str.count" rCountS := mt_count
theorem r_countS {H : Hp} {Q : VK} {a b : Str} (q : Q (.int (Txt.count a b)) H) : rCountS (.str a) [.str b] H Q := ⟨a, b, rfl, rfl, q⟩
theorem r_sortI {K : PySem.W.Frag} {H : Hp} {Q : VK} {a : Addr} {ns : List Int} (h : SqL K H a (vI ns)) (q : ∀ (ns' : List Int) (p : Addr), ns'.Perm ns → ns'.Pairwise (· ≤ ·) → H p = none → Q (.ref p) (upd H p (.lst (vI ns')))) : rSortedI K [.ref a] H Q := ⟨a, ns, rfl, h, q⟩
theorem r_popAt {H : Hp} {Q : VK} {l : Addr} {xs : List V} {i : Int} {y : V} (h : H l = some (.lst xs)) (i0 : 0 ≤ i) (i1 : i < xs.length) (hz : xs.length ≤ 100000) (hy : xs[i.toNat]? = some y) (q : Q y (upd H l (.lst (xs.eraseIdx i.toNat)))) : rPopAt (.ref l) [.int i] H Q :=
  ⟨l, xs, i, i.toNat, y, rfl, rfl, h, by omega, by omega, seq_ix i0 i1, hy, q⟩
theorem r_rev {H : Hp} {Q : VK} {l : Addr} {xs : List V} (h : H l = some (.lst xs)) (q : Q .non (upd H l (.lst xs.reverse))) : rReverse (.ref l) [] H Q := ⟨l, xs, rfl, rfl, h, q⟩
theorem r_in {K : PySem.W.Frag} {H : Hp} {Q : VK} {p : Addr} {x : V} {xs : List V} (h : SqL K H p xs ∨ SqT K H p xs) (f : flatV x = true) (g : xs.all flatV = true) (q : Q (.bl (inV x xs)) H) : rIn K false x (.ref p) H Q := ⟨p, xs, rfl, h, f, g, q⟩
theorem r_notIn {K : PySem.W.Frag} {H : Hp} {Q : VK} {p : Addr} {x : V} {xs : List V} (h : SqL K H p xs ∨ SqT K H p xs) (f : flatV x = true) (g : xs.all flatV = true) (q : Q (.bl (!inV x xs)) H) : rIn K true x (.ref p) H Q := ⟨p, xs, rfl, h, f, g, q⟩
/-! ### the least of ints -/
def minI : List Int → Int
  | [] => 0
  | a :: r => if r = [] then a else if a ≤ minI r then a else minI r
theorem minI_mem : ∀ {ns : List Int}, ns ≠ [] → minI ns ∈ ns
  | [], h => absurd rfl h
  | a :: r, _ => by
    unfold minI
    split
    · exact List.mem_cons_self
    · rename_i hr
      split
      · exact List.mem_cons_self
      · exact List.mem_cons_of_mem _ (minI_mem hr)
theorem minI_le : ∀ {ns : List Int} {y : Int}, y ∈ ns → minI ns ≤ y
  | a :: r, y, h => by
    unfold minI
    split
    · rename_i hr
      subst hr
      rw [List.mem_singleton] at h
      omega
    · rename_i hr
      rcases List.mem_cons.mp h with e | h
      · split <;> omega
      · have ih := minI_le h
        split <;> omega
theorem minI_eq {ns : List Int} {m : Int} (h : m ∈ ns) (l : ∀ y ∈ ns, m ≤ y) : m = minI ns := by
  have h1 := minI_le h
  have h2 := l _ (minI_mem fun e => by rw [e] at h; cases h)
  omega
theorem minI_perm {a b : List Int} (h : a.Perm b) : minI a = minI b := by
  by_cases e : a = []
  · rw [e] at h ⊢
    rw [h.symm.eq_nil]
  · exact minI_eq (h.mem_iff.mp (minI_mem e)) fun y hy => minI_le (h.mem_iff.mpr hy)
theorem r_min {K : PySem.W.Frag} {H : Hp} {Q : VK} {a : Addr} {ns : List Int} (h : SqL K H a (vI ns)) (hn : 0 < ns.length) (q : Q (.int (minI ns)) H) : rMin K [.ref a] H Q :=
  ⟨a, ns, rfl, h, hn, fun m hm hl => by rw [minI_eq hm hl]; exact q⟩
theorem erase_at : ∀ {ns : List Int} {k : Int}, k ∈ ns → ∃ j : Nat, ns[j]? = some k ∧ (∀ m : Nat, m < j → ns[m]? ≠ some k) ∧ ns.eraseIdx j = ns.erase k
  | a :: r, k, h => by
    by_cases e : a = k
    · subst e
      exact ⟨0, rfl, fun m hm => absurd hm (Nat.not_lt_zero _), by rw [List.erase_cons_head]; rfl⟩
    · have hr : k ∈ r := (List.mem_cons.mp h).resolve_left fun z => e z.symm
      obtain ⟨j, h1, h2, h3⟩ := erase_at hr
      refine ⟨j + 1, h1, fun m hm => ?_, ?_⟩
      · cases m with
        | zero => intro z; exact e (Option.some.inj z)
        | succ m => exact h2 m (by omega)
      · rw [List.erase_cons_tail (by simpa using e), List.eraseIdx_cons_succ, h3]
theorem r_remove {H : Hp} {Q : VK} {l : Addr} {ns : List Int} {k : Int} (h : H l = some (.lst (vI ns))) (hk : k ∈ ns) (q : Q .non (upd H l (.lst (vI (ns.erase k))))) : rRemI (.ref l) [.int k] H Q := by
  obtain ⟨j, h1, h2, h3⟩ := erase_at hk
  refine ⟨l, ns, k, j, rfl, rfl, h, h1, h2, ?_⟩
  rw [h3]
  exact q
end Lx

namespace Lx
open PySem PySem.Spec PyProof.Rows L2
/-! ### len(set(xs)) of a list or a tuple of ints, each once -/
theorem nodup_same_len : ∀ {a b : List Int}, a.Nodup → b.Nodup → (∀ x, x ∈ a ↔ x ∈ b) → a.length = b.length
  | [], [], _, _, _ => rfl
  | [], y :: b, _, _, h => absurd ((h y).mpr List.mem_cons_self) (by simp)
  | x :: a, b, ha, hb, h => by
    have hx : x ∈ b := (h x).mp List.mem_cons_self
    rw [List.nodup_cons] at ha
    have ih := nodup_same_len ha.2 (hb.erase x) fun y => by
      rw [hb.mem_erase_iff]
      constructor
      · intro hy
        exact ⟨fun e => ha.1 (e ▸ hy), (h y).mp (List.mem_cons_of_mem _ hy)⟩
      · rintro ⟨hne, hy⟩
        rcases List.mem_cons.mp ((h y).mpr hy) with e | hy
        · exact absurd e hne
        · exact hy
    rw [List.length_erase_of_mem hx] at ih
    have : 0 < b.length := List.length_pos_of_mem hx
    rw [List.length_cons]
    omega
def tLenSet (K : PySem.W.Frag) (ta : TE) : TE := fun σ H Q => ta σ H fun x H1 => ∃ (l : Addr) (ns : List Int), x = .ref l ∧ (SqL K H1 l (vI ns) ∨ SqT K H1 l (vI ns)) ∧ ns.Nodup ∧ ns.length ≤ 4000 ∧ Q (.int (ns.length : Nat)) H1
theorem pe_lenSet (K : PySem.W.Frag) {X : Cx} {a : Expr} {ta : TE} {p p2 q pos : Pos} (hg : Gl X "len") (hm : X.mg "len" = none) (hg2 : Gl X "set") (hm2 : X.mg "set" = none) (ha : PE X a ta) (hc : X.calm = true := by rfl) (hK : X.K = K := by rfl)
    (na : starEach [a] X.env = (false, eval a X.env) :: starEach [] X.env := by rfl) : PE X (.Call (.Name "len" p) [.Call (.Name "set" p2) [a] [] q] [] pos) (tLenSet K ta) := by
  subst hK
  refine ⟨fun pins s σ H Q I h => ?_⟩
  refine Call_ (ld_blt I hg hm boot_len ?_)
  refine PyProof.Rows.callWith_builtin1 (PyProof.Rows.args_cons ?_ rfl) rfl rfl
  refine Call_ (ld_blt I hg2 hm2 boot_set ?_)
  refine PyProof.Rows.callWith_type1 (PyProof.Rows.args_cons (thn (ha.run pins s σ H _ I h) fun v s1 ⟨x, H1, I1, r1, q1⟩ => PyProof.Rows.args_nil ?_) na) na rfl
  obtain ⟨l, ns, rfl, hq, hnd, hl, q1⟩ := q1
  cases r1
  rcases hq with hq | hq
  · obtain ⟨its, r, pl, hz⟩ := I1.list hq
    have hlen : its.toArray.size = ns.length := by rw [List.size_toArray, ← r.length, vI_len]
    refine call_set_list (I1.ok.hd hc) pl.isList (by simpa using RZ.intsAre_vals r) (by rw [hlen]; unfold scanBound; omega) fun h' tk hS hk => ?_
    refine PyProof.Rows.args_nil ?_
    rw [hlen, RZ.firstMet_nodup hnd ns.length (Nat.le_refl _), List.take_length] at hS
    obtain ⟨o, es, ep, t, ho, hex, hd, _, _, _, hf, hn⟩ := hS
    have I2 : Inv X pins σ H1 { s1 with heap := h', toks := tk } := I1.kept fun b o e => hk b o (Heap.lt_size e) e
    exact call_len_set ho hex hd hf (by rw [hn] <;> omega) ⟨.int ns.length, H1, I2.tok _, ⟨_, by rw [hn]⟩, q1⟩
  · obtain ⟨its, r, pl, hz⟩ := I1.tuple hq
    refine call_set_tupI ns (I1.ok.hd hc) pl (by simpa using RZ.intsAre_vals r) (by unfold scanBound; omega) fun h' tk c hS _ hk => ?_
    refine PyProof.Rows.args_nil ?_
    obtain ⟨o, es, ep, t, ho, hex, hd, _, hnd2, hmem, _, hf, hn, _⟩ := hS
    have hn2 : es.size = ns.length := by
      have z := nodup_same_len hnd hnd2 fun x => by rw [← hmem x]; simp
      rw [z, List.length_map, Array.length_toList]
    have I2 : Inv X pins σ H1 { s1 with heap := h', toks := tk } := I1.kept fun b o e => hk b o e
    exact call_len_set ho hex hd hf (by rw [hn2] <;> omega) ⟨.int ns.length, H1, I2.tok _, ⟨_, by rw [hn2]⟩, q1⟩
theorem r_lenSet {K : PySem.W.Frag} {σ : L2.St} {H : Hp} {Q : VK} {ta : TE} (h : ta σ H fun x H1 => ∃ (l : Addr) (ns : List Int), x = .ref l ∧ (SqL K H1 l (vI ns) ∨ SqT K H1 l (vI ns)) ∧ ns.Nodup ∧ ns.length ≤ 4000 ∧ Q (.int (ns.length : Nat)) H1) : tLenSet K ta σ H Q := h
end Lx

namespace Lx
open PySem PySem.Spec PyProof.Rows L2
/-! ### methods, makings, properties where no repr runs around -/
/-- a method as callers see it -/
structure Mt (P : Program) (w : World) (K : PySem.W.Frag) (mg : Str → Option Value) (base : Heap) (k : Nat) (C : Addr) (m : Str) (dvs : List V) (sp : Sp) : Prop where
  ex : ∃ (f : Addr) (fd : FuncData) (ps : List Str) (ds : List Value), FnG P w K mg base k f fd ps sp ∧ Cls K C ∧ Meth K C m f ∧ Binds K fd ps ds ∧ Vals dvs ds
/-- a class as its makers see it -/
structure Cn (P : Program) (w : World) (K : PySem.W.Frag) (mg : Str → Option Value) (base : Heap) (k : Nat) (x : Str) (C : Addr) (dvs : List V) (sp : Sp) : Prop where
  ex : ∃ (f : Addr) (fd : FuncData) (ps : List Str) (ds : List Value), FnG P w K mg base k f fd ps sp ∧ mg x = some (.ref C) ∧ Mk K C f ∧ Binds K fd ps ds ∧ Vals dvs ds
/-- a property as its readers see it -/
structure Pr (P : Program) (w : World) (K : PySem.W.Frag) (mg : Str → Option Value) (base : Heap) (k : Nat) (C : Addr) (m : Str) (sp : Sp) : Prop where
  ex : ∃ (p g : Addr) (fd : FuncData) (ps : List Str), FnG P w K mg base k g fd ps sp ∧ Cls K C ∧ PropOf K C m p g ∧ Binds K fd ps []
section
variable {X : Cx} {k : Nat} {f C : Addr} {fd : FuncData} {ps : List Str} {sp : Sp} {dvs : List V} {ds : List Value} {E : XK} {x m : Str} {p pos apos : Pos} {e o : Expr} {es : List Expr} {ta : TE} {t : TA}
theorem pe_mt {pl : Sem Bool} (M : Mt X.prog X.w X.K X.mg X.base k C m dvs sp) (hG : X.A.guards = some []) (hr : Room k X.A) (hx : Passes (L2.CX X.prog X.w) X E) (he : PE X o ta) (ha : PA X (e :: es) t)
    (hst : starEach (e :: es) X.env = (false, eval e X.env) :: starEach es X.env := by rfl) (hpl : (backTo pos (starEach es X.env)).any (·.1) = false := by rfl)
    (ht : eval (.Call (.Attribute o m apos) (e :: es) [] pos) X.env = (do
      let ov ← eval o X.env
      standAt apos.atName
      let (f, first) ← holding [ov] (getMethod ov m pl)
      callWith pos f first (backTo pos (starEach (e :: es) X.env)) (backToKw pos (keywordEach [] X.env))) := by rfl) :
    PE X (.Call (.Attribute o m apos) (e :: es) [] pos) (tMeth C m sp dvs E ta t) := by
  obtain ⟨f, fd, ps, ds, F, c, hm, hb, hd⟩ := M.ex
  refine ⟨fun pins s σ H Q I h => ?_⟩
  refine PySem.W.methodCall_KW (pl := pl) (thn (he.run pins s σ H _ I h) fun u s1 ⟨x, H1, I1, rx, a, dx, fs, ex, ea, l, q⟩ => ?_) ht
  subst ex
  obtain rfl : u = Value.ref a := rx
  refine getmeth_ok I1 ea c hm l ?_
  refine PySem.W.callWith_K (first := [.ref a]) (h₀ := X.base) I.ok.mod.kin hm.kp (thn (ha.run pos pins s1 σ H1 _ I1 q) fun us s2 ⟨vs, H2, I2, r, q2⟩ => ⟨I2.kIn, ?_⟩) hst hpl
  exact grun (us := .ref a :: us) (vs := .ref a :: vs) F hG hr hb hd hx I2 (.cons rfl r) q2
theorem pe_mt0 {pl : Sem Bool} (M : Mt X.prog X.w X.K X.mg X.base k C m dvs sp) (hG : X.A.guards = some []) (hr : Room k X.A) (hx : Passes (L2.CX X.prog X.w) X E) (he : PE X o ta)
    (ht : eval (.Call (.Attribute o m apos) [] [] pos) X.env = (do
      let ov ← eval o X.env
      standAt apos.atName
      let (f, first) ← holding [ov] (getMethod ov m pl)
      callWith pos f first (backTo pos (starEach [] X.env)) (backToKw pos (keywordEach [] X.env))) := by rfl) :
    PE X (.Call (.Attribute o m apos) [] [] pos) (tMeth C m sp dvs E ta tNil) := by
  obtain ⟨f, fd, ps, ds, F, c, hm, hb, hd⟩ := M.ex
  refine ⟨fun pins s σ H Q I h => ?_⟩
  refine PySem.W.methodCall_KW (pl := pl) (thn (he.run pins s σ H _ I h) fun u s1 ⟨x, H1, I1, rx, a, dx, fs, ex, ea, l, q⟩ => ?_) ht
  subst ex
  obtain rfl : u = Value.ref a := rx
  refine getmeth_ok I1 ea c hm l ?_
  exact PySem.W.callWith_K0 (first := [.ref a]) I1.kIn hm.kp (grun (us := [.ref a]) (vs := [.ref a]) F hG hr hb hd hx I1 (.cons rfl .nil) q)
theorem gmakes {pins : List (Addr × Obj)} {σ : L2.St} {H : Hp} {s : Shared} {Q : VK} {us : List Value} {vs : List V} (M : Mk X.K C f) (F : FnG X.prog X.w X.K X.mg X.base k f fd ps sp) (hG : X.A.guards = some []) (hr : Room (k + 1) X.A) (hb : Binds X.K fd ps ds) (hd : Vals dvs ds)
    (hx : Passes (L2.CX X.prog X.w) X E) (I : Inv X pins σ H s) (r : Vals vs us)
    (h : ∀ x dx, H x = none → H dx = none → dx ≠ x → sp (.ref x :: (vs ++ dvs)) (upd (upd H dx (.own x)) x (.ins C dx [])) (fun v H2 => v = .non ∧ Q (.ref x) H2) E) :
    wpAny (model X.prog X.w) X.A (call (.ref C) us) (EP X pins σ Q) X.xe s := by
  have hq := h (s.heap.objs.size + 1) s.heap.objs.size (I.hok.fresh (Nat.le_succ _)) (I.hok.fresh (Nat.le_refl _)) (Nat.ne_of_lt (Nat.lt_succ_self _))
  have I2 := Inv.made (C := C) I
  have r2 : Vals (V.ref (s.heap.objs.size + 1) :: (vs ++ dvs)) (Value.ref (s.heap.objs.size + 1) :: (us ++ ds)) := .cons rfl (r.append hd)
  have hl : (Value.ref (s.heap.objs.size + 1) :: us ++ ds).length = ps.length := r2.length.symm.trans (F.ln _ _ _ _ hq)
  refine wpAny_call (make_map (f := f) I.kIn M.makes M.init (beq_iff_eq.mp M.fn) (codeAny_mono (F.go _ X.stack _ _ ⟨Value.ref (s.heap.objs.size + 1) :: us, []⟩ (Value.ref (s.heap.objs.size + 1) :: (us ++ ds)) _ _ E hG (hr.make C us [])
    (I2.env0.make C us []) (hb _ (Value.ref (s.heap.objs.size + 1) :: us) I2.kIn hl) r2 hq) fun r s' hq' => ?_))
  cases r with
  | error e => exact hx pins σ _ _ e s' I2 hq'
  | ok fl => cases fl with
    | ret u =>
      obtain ⟨v, H', I3, rv, ev, q3⟩ := I2.after hq'
      subst ev
      exact ⟨rv, ⟨V.ref (s.heap.objs.size + 1), H', I3, rfl, q3⟩⟩
    | next => exact hq'.elim
    | brk => exact hq'.elim
    | cont => exact hq'.elim
theorem pe_cn (D : Cn X.prog X.w X.K X.mg X.base k x C dvs sp) (hG : X.A.guards = some []) (hr : Room (k + 1) X.A) (hx : Passes (L2.CX X.prog X.w) X E) (hg : Gl X x) (ha : PA X (e :: es) t)
    (hdb : (x == ("__debug__" : Str)) = false := by decide) (he : starEach (e :: es) X.env = (false, eval e X.env) :: starEach es X.env := by rfl) (hpl : (backTo pos (starEach es X.env)).any (·.1) = false := by rfl) :
    PE X (.Call (.Name x p) (e :: es) [] pos) (tMake C sp dvs E t) := by
  obtain ⟨f, fd, ps, ds, F, hm, M, hb, hd⟩ := D.ex
  refine ⟨fun pins s σ H Q I h => ?_⟩
  refine wpAny_Call_Name_kw (ld_glob I hg hm ?_ hdb)
  refine PySem.W.callWith_K (h₀ := X.base) I.ok.mod.kin M.kp (thn (ha.run pos pins s σ H _ I h) fun us s1 ⟨vs, H1, I1, r, q⟩ => ⟨I1.kIn, ?_⟩) he hpl
  exact gmakes M F hG hr hb hd hx I1 r q
theorem pe_pr (M : Pr X.prog X.w X.K X.mg X.base k C m sp) (hG : X.A.guards = some []) (hr : Room (k + 1) X.A) (hx : Passes (L2.CX X.prog X.w) X.nox E) (he : PE X e ta)
    (hab : attributeBase e m X.env (eval e X.env) = eval e X.env := by rfl) : PE X (.Attribute e m pos) (tProp C sp [] E ta) := by
  obtain ⟨pa, g, fd, ps, F, c, hp, hb⟩ := M.ex
  refine ⟨fun pins s σ H Q I h => ?_⟩
  refine attr_of hab (thn (he.run pins s σ H _ I h) fun u s1 ⟨x, H1, I1, rx, a, dx, fs, ex, ea, q⟩ => ?_)
  subst ex
  obtain rfl : u = Value.ref a := rx
  obtain ⟨mA, O, _, _, _, _⟩ := ins_get I1.hok ea
  obtain ⟨od, J, _⟩ := O.look
  obtain ⟨rest, hrec⟩ := hp.rec_
  have I2 := I1.tok (s1.toks + 1)
  have hl : ([Value.ref a] ++ []).length = ps.length := (F.ln _ _ _ _ q)
  have hc : (PySem.W.clsIn X.K C).isSome = true := by
    obtain ⟨cd, hc, _⟩ := PySem.W.any_some c.hd
    rw [hc]
    rfl
  refine PySem.W.get_bind I1.kIn J (PySem.W.plainGet_of (c.get m)).1 (PySem.W.findObj_data hc hp.at_ hp.get hp.tak) (PySem.W.plainGet_of (c.get m)).2 (wpAny_call (PySem.W.prop_get (s := { s1 with toks := s1.toks + 1 }) I1.kIn hrec ?_))
  refine codeAny_mono (F.go X.A.in1 X.stack { s1 with toks := s1.toks + 1 } H1 ⟨[.ref a], []⟩ [.ref a] [.ref a] Q E hG hr.in1 I2.env0.in1 (hb _ [.ref a] I2.kIn hl) (.cons rfl .nil) q) fun r s' hq => ?_
  cases r with
  | error er => exact False.elim (hx pins σ H1 { s1 with toks := s1.toks + 1 } er s' (I2.wish _) hq)
  | ok fl => cases fl with
    | ret u =>
      obtain ⟨v, H', I3, rv, q3⟩ := I2.after hq
      show wpAny _ _ (handedOut u) _ _ _
      rw [PySem.W.handedOut_of (handed_of rv)]
      exact wpAny_pure ⟨v, H', I3, rv, q3⟩
    | next => exact hq.elim
    | brk => exact hq.elim
    | cont => exact hq.elim
end
/-- len of an object whose class has its own __len__ -/
structure Ln (P : Program) (w : World) (K : PySem.W.Frag) (mg : Str → Option Value) (base : Heap) (k : Nat) (C : Addr) (sp : Sp) : Prop where
  ex : ∃ (f : Addr) (fd : FuncData) (ps : List Str), FnG P w K mg base k f fd ps sp ∧ PySem.W.findIn K (.ref C) "__len__" = some (some (.ref f)) ∧ PySem.W.isFn K (.ref f) = true ∧ Binds K fd ps []
def rLenOwn (C : Addr) (sp : Sp) (E : XK) : List V → Hp → VK → Prop := fun xs H Q => ∃ a dx fs, xs = [V.ref a] ∧ H a = some (.ins C dx fs) ∧ sp [.ref a] H (fun z H' => ∃ n : Nat, z = .int (n : Int) ∧ n < 2 ^ 62 ∧ Q (.int (n : Int)) H') E
theorem call_lenOwn {X : Cx} {k : Nat} {C : Addr} {sp : Sp} {E : XK} (L : Ln X.prog X.w X.K X.mg X.base k C sp) (hG : X.A.guards = some []) (hr : Room (k + 1) X.A) (hx : Passes (L2.CX X.prog X.w) X E) : CallR X (.builtin "len") (rLenOwn C sp E) := by
  obtain ⟨f, fd, ps, F, hs, hf, hb⟩ := L.ex
  intro pins s σ H xs us Q I r h
  obtain ⟨a, dx, fs, rfl, ea, q⟩ := h
  obtain ⟨u, rfl, ru⟩ := r.one
  cases (show u = Value.ref a from ru)
  obtain ⟨mA, O, _, _, _, _⟩ := ins_get I.hok ea
  obtain ⟨od, J, _⟩ := O.look
  obtain ⟨m, hF⟩ := I.fr
  have hl : ([Value.ref a] ++ []).length = ps.length := (F.ln _ _ _ _ q)
  refine PySem.W.len_K hF I.ok.mod.kin J hs hf (wpAny_call (codeAny_mono (F.go X.A.in1 X.stack s H ⟨[.ref a], []⟩ [.ref a] [.ref a] _ E hG hr.in1 I.env0.in1 (hb _ [.ref a] I.kIn hl) (.cons rfl .nil) q) fun r s' hq => ?_))
  cases r with
  | error er => exact hx pins σ H s er s' I hq
  | ok fl => cases fl with
    | ret u =>
      obtain ⟨v, H', I3, rv, n, rfl, hn, q3⟩ := I.after hq
      obtain ⟨t, rfl⟩ := (show ∃ t, u = Value.int (n : Int) t from rv)
      exact ⟨⟨Int.natCast_nonneg _, by omega⟩, ⟨.int (n : Int), H', I3.tok _, ⟨_, rfl⟩, q3⟩⟩
    | next => exact hq.elim
    | brk => exact hq.elim
    | cont => exact hq.elim
/-! ### readings -/
section
variable {K : PySem.W.Frag} {σ : L2.St} {H : Hp} {Q : VK} {D : Ends} {te ta tv : TE} {tA : TA} {C a dx : Addr} {fs : List (Str × V)} {m f : Str} {v y : V} {sp : Sp} {dvs : List V} {E : XK}
theorem r_fld (h : te σ H fun x H1 => ∃ a C dx fs v, x = .ref a ∧ H1 a = some (.ins C dx fs) ∧ Cls K C ∧ NoAttr K C f ∧ fs.lookup f = some v ∧ Q v H1) : tFld K te f σ H Q := h
theorem r_fldAt {R : V → Prop} (h : H a = some (.ins C dx fs)) (c : Cls K C) (n : NoAttr K C f) (l : fs.lookup f = some v) (q : R v) : ∃ a' C dx fs v, V.ref a = .ref a' ∧ H a' = some (.ins C dx fs) ∧ Cls K C ∧ NoAttr K C f ∧ fs.lookup f = some v ∧ R v := ⟨a, C, dx, fs, v, rfl, h, c, n, l, q⟩
theorem r_sfld (h : tv σ H fun y H1 => te σ H1 fun x H2 => ∃ a C dx fs, x = .ref a ∧ H2 a = some (.ins C dx fs) ∧ Cls K C ∧ NoAttr K C f ∧ fs.length < 1000 ∧ D.nx σ (upd H2 a (.ins C dx (putF f y fs)))) : sFld K te tv f D σ H := h
theorem r_sfldAt {R : Addr → Addr → Addr → List (Str × V) → Prop} (h : H a = some (.ins C dx fs)) (c : Cls K C) (n : NoAttr K C f) (l : fs.length < 1000) (q : R a C dx fs) : ∃ a' C dx fs, V.ref a = .ref a' ∧ H a' = some (.ins C dx fs) ∧ Cls K C ∧ NoAttr K C f ∧ fs.length < 1000 ∧ R a' C dx fs := ⟨a, C, dx, fs, rfl, h, c, n, l, q⟩
theorem r_meth (h : te σ H fun x H1 => ∃ a dx fs, x = .ref a ∧ H1 a = some (.ins C dx fs) ∧ fs.lookup m = none ∧ tA σ H1 fun vs H2 => sp (x :: (vs ++ dvs)) H2 Q E) : tMeth C m sp dvs E te tA σ H Q := h
theorem r_methAt {R : Prop} (h : H a = some (.ins C dx fs)) (l : fs.lookup m = none) (q : R) : ∃ a' dx fs, V.ref a = .ref a' ∧ H a' = some (.ins C dx fs) ∧ fs.lookup m = none ∧ R := ⟨a, dx, fs, rfl, h, l, q⟩
theorem r_make (h : tA σ H fun vs H1 => ∀ x dx, H1 x = none → H1 dx = none → dx ≠ x → sp (.ref x :: (vs ++ dvs)) (upd (upd H1 dx (.own x)) x (.ins C dx [])) (fun v H2 => v = .non ∧ Q (.ref x) H2) E) : tMake C sp dvs E tA σ H Q := h
theorem r_prop (h : te σ H fun x H1 => ∃ a dx fs, x = .ref a ∧ H1 a = some (.ins C dx fs) ∧ sp (.ref a :: dvs) H1 Q E) : tProp C sp dvs E te σ H Q := h
end
/-! ### all kept but what stands at some places -/
def KpL (L : List Addr) (H H' : Hp) : Prop := ∀ b o, b ∉ L → H b = some o → H' b = some o
theorem KpL.refl (L : List Addr) (H : Hp) : KpL L H H := fun _ _ _ h => h
theorem KpL.of {L : List Addr} {H H' : Hp} (s : Same H H') : KpL L H H' := fun b o _ h => s b o h
theorem KpL.same {H H' : Hp} (k : KpL [] H H') : Same H H' := fun b o h => k b o (by simp) h
theorem KpL.trans {L : List Addr} {H H1 H2 : Hp} (a : KpL L H H1) (b : KpL L H1 H2) : KpL L H H2 := fun c o n h => b c o n (a c o n h)
theorem KpL.more {L L' : List Addr} {H H' : Hp} (a : KpL L H H') (s : ∀ x ∈ L, x ∈ L') : KpL L' H H' := fun c o n h => a c o (fun z => n (s _ z)) h
theorem KpL.set {L : List Addr} {p : Addr} {H H' : Hp} {o : HO} (k : KpL L H H') (hp : p ∈ L) : KpL L H (upd H' p o) := fun b u n e => by
  rw [upd_ne (fun z : b = p => n (by rw [z]; exact hp))]
  exact k b u n e
theorem KpL.put {L : List Addr} {p : Addr} {H H' : Hp} {o : HO} (k : KpL L H H') (n : H' p = none) : KpL L H (upd H' p o) := fun b u m e => by
  have := k b u m e
  rw [upd_ne (ne_of_none this n)]
  exact this
theorem KpL.free {L : List Addr} {p : Addr} {H H' : Hp} (k : KpL L H H') (n : H' p = none) (m : p ∉ L) : H p = none := by
  cases q : H p with
  | none => rfl
  | some o =>
    have := k p o m q
    rw [n] at this
    cases this
theorem KpL.kp {r : Addr} {H H' : Hp} (k : KpL [r] H H') : Kp r H H' := fun b o n h => k b o (by simpa using n) h
theorem Kp.kpl {r : Addr} {L : List Addr} {H H' : Hp} (k : Kp r H H') (h : r ∈ L) : KpL L H H' := fun b o n e => k b o (fun z : b = r => n (by rw [z]; exact h)) e
theorem KpL.drop {p : Addr} {L : List Addr} {H H' : Hp} (k : KpL (p :: L) H H') (h : H p = none) : KpL L H H' := fun b o n e => k b o (fun z => by
  rcases List.mem_cons.mp z with z | z
  · rw [z, h] at e; cases e
  · exact n z) e
/-! ### two and three fields -/
theorem lk2_1 {a b : Str} {x y : V} : ([(a, x), (b, y)] : List (Str × V)).lookup a = some x := by simp [List.lookup]
theorem lk2_2 {a b : Str} {x y : V} (h : ¬ b = a) : ([(a, x), (b, y)] : List (Str × V)).lookup b = some y := by
  have : (b == a) = false := by simpa using h
  simp [List.lookup, this]
theorem lk2_0 {a b m : Str} {x y : V} (h1 : ¬ m = a) (h2 : ¬ m = b) : ([(a, x), (b, y)] : List (Str × V)).lookup m = none := by
  have e1 : (m == a) = false := by simpa using h1
  have e2 : (m == b) = false := by simpa using h2
  simp [List.lookup, e1, e2]
theorem lk3_1 {a b c : Str} {x y z : V} : ([(a, x), (b, y), (c, z)] : List (Str × V)).lookup a = some x := by simp [List.lookup]
theorem lk3_2 {a b c : Str} {x y z : V} (h : ¬ b = a) : ([(a, x), (b, y), (c, z)] : List (Str × V)).lookup b = some y := by
  have : (b == a) = false := by simpa using h
  simp [List.lookup, this]
theorem lk3_3 {a b c : Str} {x y z : V} (h : ¬ c = a) (h2 : ¬ c = b) : ([(a, x), (b, y), (c, z)] : List (Str × V)).lookup c = some z := by
  have e1 : (c == a) = false := by simpa using h
  have e2 : (c == b) = false := by simpa using h2
  simp [List.lookup, e1, e2]
theorem lk3_0 {a b c m : Str} {x y z : V} (h1 : ¬ m = a) (h2 : ¬ m = b) (h3 : ¬ m = c) : ([(a, x), (b, y), (c, z)] : List (Str × V)).lookup m = none := by
  have e1 : (m == a) = false := by simpa using h1
  have e2 : (m == b) = false := by simpa using h2
  have e3 : (m == c) = false := by simpa using h3
  simp [List.lookup, e1, e2, e3]
theorem put1 {a : Str} {x : V} : putF a x [] = [(a, x)] := rfl
theorem put2 {a b : Str} {x y : V} (h : ¬ a = b) : putF b y [(a, x)] = [(a, x), (b, y)] := by
  show (if a = b then [(a, y)] else (a, x) :: putF b y []) = _
  rw [if_neg h]
  rfl
theorem put3 {a b c : Str} {x y z : V} (h : ¬ a = c) (h2 : ¬ b = c) : putF c z [(a, x), (b, y)] = [(a, x), (b, y), (c, z)] := by
  show (if a = c then [(a, z), (b, y)] else (a, x) :: putF c z [(b, y)]) = _
  rw [if_neg h, put2 h2]
theorem k_index (K : PySem.W.Frag) {X : Cx} (h : X.K = K := by rfl) : MtR X "list.index" (rIndex K) := h ▸ mt_index
theorem r_index {K : PySem.W.Frag} {H : Hp} {Q : VK} {a : Addr} {ys : List V} {y z : V} {j : Nat} (h : SqL K H a ys) (f : flatV y = true) (g : ys.all flatV = true) (e : ys[j]? = some z) (e2 : eqV z y = true) (no : ∀ (m : Nat) (z' : V), m < j → ys[m]? = some z' → eqV z' y = false) (q : Q (.int (j : Nat)) H) : rIndex K (.ref a) [y] H Q :=
  ⟨a, ys, y, j, z, rfl, rfl, h, f, g, e, e2, no, q⟩
theorem put2_1 {a b : Str} {x y z : V} : putF a y [(a, x), (b, z)] = [(a, y), (b, z)] := by
  show (if a = a then _ else _) = _
  rw [if_pos rfl]
theorem put2_2 {a b : Str} {x y z : V} (h : ¬ a = b) : putF b y [(a, x), (b, z)] = [(a, x), (b, y)] := by
  show (if a = b then _ else (a, x) :: (if b = b then _ else _)) = _
  rw [if_neg h, if_pos rfl]
theorem put3_3 {a b c : Str} {x y z u : V} (h : ¬ a = c) (h2 : ¬ b = c) : putF c u [(a, x), (b, y), (c, z)] = [(a, x), (b, y), (c, u)] := by
  show (if a = c then _ else (a, x) :: (if b = c then _ else (b, y) :: (if c = c then _ else _))) = _
  rw [if_neg h, if_neg h2, if_pos rfl]
def rInsertV : V → List V → Hp → VK → Prop := fun x vs H Q => ∃ (l : Addr) (xs : List V) (i : Int) (y : V), x = .ref l ∧ vs = [.int i, y] ∧ H l = some (.lst xs) ∧ xs.length < sizeLine ∧ 0 ≤ i ∧ i < 2 ^ 63 ∧ Q .non (upd H l (.lst (xs.take i.toNat ++ [y] ++ xs.drop i.toNat)))
theorem mt_insertV {X : Cx} : MtR X "list.insert" rInsertV := mt_insert
theorem r_insert {H : Hp} {Q : VK} {l : Addr} {xs : List V} {i : Nat} {y : V} (h : H l = some (.lst xs)) (z : xs.length ≤ 100000) (iz : i ≤ 100000) (q : Q .non (upd H l (.lst (xs.take i ++ [y] ++ xs.drop i)))) : rInsertV (.ref l) [.int ((i : Nat) : Int), y] H Q :=
  ⟨l, xs, _, y, rfl, rfl, h, szl z, by omega, by omega, by rw [Int.toNat_natCast]; exact q⟩
theorem r_pop {H : Hp} {Q : VK} {l : Addr} {xs : List V} {y : V} (h : H l = some (.lst (xs ++ [y]))) (q : Q y (upd H l (.lst xs))) : rPop (.ref l) [] H Q := by
  refine ⟨l, xs ++ [y], y, rfl, rfl, h, ?_, ?_⟩
  · rw [List.length_append, List.length_singleton, Nat.add_sub_cancel, List.getElem?_append_right (Nat.le_refl _), Nat.sub_self]; rfl
  · rw [List.dropLast_concat]; exact q
end Lx

namespace Lz
open PySem PySem.Spec PyProof.Rows PySem.Calls
theorem gne {a lo b : Nat} (h : a < lo) (h2 : lo ≤ b) : b ≠ a := by omega
/-! ### the iterator of reversed(list), drawn by zip -/
section
variable {prog : Program} {w : World} {A : Around} {E : Value → Shared → Prop} {s : Shared}
theorem nextOf_rev_item {it l : Addr} {i : Nat} {items : Array Value} {x : Value} {Q : Value → Shared → Prop} (hit : s.heap.IsRevIter it l (i : Int)) (hl : s.heap.IsList l items) (hx : items[i]? = some x)
    (hQ : ∀ h', h'.IsRevIter it l ((i : Int) - 1) → Heap.SameBut it s.heap h' → Q x { s with heap := h' }) : wpAny (model prog w) A (Builtin.SmallTypes.nextOf (.ref it)) Q E s := by
  obtain ⟨o, ho, hc, hd⟩ := id hit
  obtain ⟨ol, hol, _, nl, hdl⟩ := hl
  unfold Builtin.SmallTypes.nextOf
  refine wpAny_bind (wpAny_callSpecial?_slot (name := Str.ofString "__next__") hit.typeIs F.slot_lri_next
    (wpAny_call_entry F.slot_lri_next hit.typeIs F.entry_lri_next ?_ (F.args_lri_next_1 _)))
  unfold Builtin.«list_reverseiterator.__next__»
  refine wpAny_bind (wpAny_of_eq (a := (Value.ref it, [])) rfl ?_)
  try dsimp only
  refine wpAny_bind (wpAny_field ho hd (x := rawInt (i : Int)) rfl ?_)
  show wpAny _ _ (if (i : Int) < 0 then _ else _) _ _ s
  rw [if_neg (by omega)]
  show wpAny _ _ (field (.ref it) 0 >>= _) _ _ s
  refine wpAny_bind (wpAny_field ho hd (x := .ref l) rfl ?_)
  show wpAny _ _ (seqItems? (.ref l) >>= _) _ _ s
  refine wpAny_bind (wpAny_seqItems hol hdl ?_)
  simp only [Int.toNat_natCast, hx]
  refine wpAny_bind (wpAny_setField ho hd (by simp) ?_)
  first
  | refine wpAny_pure ⟨x, rfl, wpAny_pure (hQ _ ?_ (Heap.SameBut.update ..))⟩
  | refine wpAny_bind (wpAny_pure (wpAny_pure ⟨x, rfl, wpAny_pure (hQ _ ?_ (Heap.SameBut.update ..))⟩))
  exact ⟨_, Heap.get?_update_self _ ho (Obj.isFreed_of_fields (Obj.data_mapFields hd _)), (Obj.cls_mapFields ..).trans hc, by
    rw [Obj.data_mapFields hd]; simp⟩
theorem nextOf_rev_end {it l : Addr} {Q : Value → Shared → Prop} (hh : A.handled = none) (hit : s.heap.IsRevIter it l (-1))
    (hE : ∀ h' e, Heap.ExtBut it s.heap h' → (∃ o, h'.get? e = some o ∧ o.cls = .type "StopIteration") → E (.ref e) { s with heap := h' }) : wpAny (model prog w) A (Builtin.SmallTypes.nextOf (.ref it)) Q E s := by
  obtain ⟨o, ho, hc, hd⟩ := id hit
  unfold Builtin.SmallTypes.nextOf
  refine wpAny_bind (wpAny_callSpecial?_slot (name := Str.ofString "__next__") hit.typeIs F.slot_lri_next
    (wpAny_call_entry F.slot_lri_next hit.typeIs F.entry_lri_next ?_ (F.args_lri_next_1 _)))
  unfold Builtin.«list_reverseiterator.__next__»
  refine wpAny_bind (wpAny_of_eq (a := (Value.ref it, [])) rfl ?_)
  try dsimp only
  refine wpAny_bind (wpAny_field ho hd (x := rawInt (-1)) rfl ?_)
  show wpAny _ _ (if (-1 : Int) < 0 then _ else _) _ _ s
  rw [if_pos (by decide)]
  refine wpAny_bind (wpAny_rule ?_)
  first
  | show wpAny _ _ (newExc (.type "StopIteration") [] >>= _) _ _ _
  | (refine wpAny_bind ?_; show wpAny _ _ (newExc (.type "StopIteration") [] >>= _) _ _ _)
  refine wpAny_bind ?_
  simp only [newExc, newTuple]
  refine wpAny_bind (wpAny_newObj_type ?_ (by size_fits))
  refine wpAny_bind (m := firstArgMember _ _) (wpAny_of_eq (a := Value.none) (by first | rfl | (simp only [firstArgMember]; rfl)) ?_)
  refine wpAny_newObj_type ?_ (by size_fits)
  simp only [raiseNew]
  refine wpAny_bind (wpAny_handled ?_)
  first | rw [show A.in1.handled = none from hh] | rw [hh]
  refine wpAny_bind (wpAny_pure (wpAny_throw ?_))
  exact hE _ _ (((Heap.ExtBut.refl _ _).push _).push _) ⟨_, Heap.get?_push_size _ rfl, rfl⟩
end
theorem drawsRev {prog : Program} {w : World} {A : Around} (hh : A.handled = none) (it l : Addr) (hne : l ≠ it) (items : Array Value) :
    Draws prog w A it [it, l] items.size (fun i v => items[items.size - 1 - i]? = some v) (fun i h => i ≤ items.size ∧ h.IsRevIter it l ((items.size : Int) - 1 - (i : Int)) ∧ h.IsList l items) where
  live := fun _ _ st => let ⟨o, ho, _⟩ := st.2.1; ⟨o, ho⟩
  frame := fun _ _ _ st hk => ⟨st.1, st.2.1.at fun o e => hk it (by simp) o e, st.2.2.at fun o e => hk l (by simp) o e⟩
  item := fun i s Q E hi x hQ => by
    have e : (items.size : Int) - 1 - (i : Int) = ((items.size - 1 - i : Nat) : Int) := by omega
    have hit := x.2.1
    rw [e] at hit
    have hx : items[items.size - 1 - i]? = some (items[items.size - 1 - i]'(by omega)) := Array.getElem?_eq_getElem (by omega)
    refine nextOf_rev_item hit x.2.2 hx fun h' hit' hs' => ?_
    have e2 : ((items.size - 1 - i : Nat) : Int) - 1 = (items.size : Int) - 1 - ((i + 1 : Nat) : Int) := by omega
    rw [e2] at hit'
    exact hQ _ h' s.toks hx ⟨hi, hit', x.2.2.at fun o eo => (hs'.2 l hne).trans eo⟩ hs'
  done := fun s Q E x hE => by
    have e : (items.size : Int) - 1 - (items.size : Int) = -1 := by omega
    have hit := x.2.1
    rw [e] at hit
    exact nextOf_rev_end hh hit hE
/-! ### zip's next while its last tuple is held -/
section
variable {prog : Program} {w : World} {A : Around} {E : Value → Shared → Prop} {s : Shared} {z TI TO T i1 i2 : Addr} {fp1 fp2 : List Addr} {n1 n2 i : Nat} {P1 P2 : Nat → Value → Prop} {St1 St2 : Nat → Heap → Prop} {f : Bool} {oT : Obj}
theorem heldD_item {Q : Value → Shared → Prop} (S : ZipSep2 z TI TO i1 i2 fp1 fp2) (D1 : Draws prog w A i1 fp1 n1 P1 St1) (D2 : Draws prog w A i2 fp2 n2 P2 St2)
    (hz : IsZipHeld s.heap z TI TO T f) (hT : s.heap.get? T = some oT) (hTI : IsTupOf2 s.heap TI (.ref i1) (.ref i2)) (st1 : St1 i s.heap) (st2 : St2 i s.heap) (hlt1 : i < n1) (hlt2 : i < n2)
    (hQ : ∀ x1 x2 h' tk, P1 i x1 → P2 i x2 → IsZipHeld h' z TI TO T true → St1 (i + 1) h' → St2 (i + 1) h' → IsTupOf2 h' s.heap.objs.size x1 x2 → h'.objs.size = s.heap.objs.size + 1 →
      (∀ c o, c ≠ z → c ≠ i1 → c ≠ i2 → s.heap.get? c = some o → h'.get? c = some o) → Q (.ref s.heap.objs.size) { s with heap := h', toks := tk }) :
    wpAny (model prog w) A (Builtin.«zip.__next__» ⟨[.ref z], []⟩) (fun fin s' => ∃ v, fin = .done (.ret v) ∧ Q v s') E s := by
  obtain ⟨hp, g, d, tk0, os⟩ := s
  show wpAny _ _ (field (.ref z) 2 >>= _) _ _ _
  refine wpAny_bind (wpAny_field hz rfl (x := .bool false) rfl ?_)
  show wpAny _ _ (field (.ref z) 3 >>= _) _ _ _
  refine wpAny_bind (wpAny_field hz rfl (x := .ref TI) rfl ?_)
  refine wpAny_bind (wpAny_seqItems hTI rfl ?_)
  show wpAny _ _ (Builtin.SmallTypes.ownedTupleIsFree (.ref z) >>= _) _ _ _
  refine wpAny_bind (wpAny_tupleHeld_zip hz hT fun g0 hz0 hs0 => ?_)
  replace hs0 : Heap.SameBut z hp g0 := hs0
  simp only [Bool.false_eq_true, if_false]
  refine wpAny_bind ?_
  rw [← Array.forIn_toList]
  simp only [List.forIn_cons, List.forIn_nil]
  refine wpAny_bind (wpAny_bind (wpAny_holding ?_))
  show wpAny _ _ (Builtin.SmallTypes.nextOf (.ref i1) >>= _) _ _ ⟨g0, g, d, tk0, os⟩
  refine wpAny_bind (D1.item i _ _ _ hlt1 (D1.over st1 hs0 S.zf1) fun x1 p1 tk1 hx1 sn1 hp1 => wpAny_pure ?_)
  replace hp1 : Heap.SameBut i1 g0 p1 := hp1
  refine wpAny_pure ?_
  refine wpAny_bind (wpAny_bind (wpAny_holding ?_))
  show wpAny _ _ (Builtin.SmallTypes.nextOf (.ref i2) >>= _) _ _ ⟨p1, g, d, tk1, os⟩
  refine wpAny_bind (D2.item i _ _ _ hlt2 (D2.over (D2.over st2 hs0 S.zf2) hp1 S.sep1_2) fun x2 p2 tk2 hx2 sn2 hp2 => wpAny_pure ?_)
  replace hp2 : Heap.SameBut i2 p1 p2 := hp2
  refine wpAny_pure (wpAny_pure ?_)
  show wpAny _ _ (newTuple [x1, x2] >>= _) _ _ _
  refine wpAny_bind (wpAny_newTuple ?_)
  have hsz : p2.objs.size = hp.objs.size := by rw [hp2.1, hp1.1, hs0.1]
  have hz3 : IsZipHeld p2 z TI TO T true := hp2.extBut _ _ S.zi2 (hp1.extBut _ _ S.zi1 hz0)
  have hk : ∀ c o, c ≠ z → c ≠ i1 → c ≠ i2 → hp.get? c = some o → p2.get? c = some o := fun c o c1 c2 c3 e => hp2.extBut _ _ c3 (hp1.extBut _ _ c2 (hs0.extBut _ _ c1 e))
  have j1 : St1 (i + 1) p2 := D1.over sn1 hp2 S.sep2_1
  have up : ∀ c o, p2.get? c = some o → (p2.push { cls := .type "tuple", data := .seq #[x1, x2] }).get? c = some o := fun c o e => Heap.get?_push_of_some _ e
  refine wpAny_pure ⟨_, rfl, ?_⟩
  show Q (.ref p2.objs.size) _
  have hp4 : IsTupOf2 (p2.push { cls := .type "tuple", data := .seq #[x1, x2] }) p2.objs.size x1 x2 := Heap.get?_push_size _ rfl
  have hz4 : (p2.push { cls := .type "tuple", data := .seq #[x1, x2] }).objs.size = p2.objs.size + 1 := Heap.size_push ..
  rw [hsz] at hp4 hz4 ⊢
  exact hQ x1 x2 _ tk2 hx1 hx2 (up _ _ hz3) (D1.frame _ _ _ j1 fun b _ o e => up b o e) (D2.frame _ _ _ sn2 fun b _ o e => up b o e) hp4 hz4 fun c o c1 c2 c3 e => up c o (hk c o c1 c2 c3 e)
theorem heldD_end {Q : Fin → Shared → Prop} (S : ZipSep2 z TI TO i1 i2 fp1 fp2) (D1 : Draws prog w A i1 fp1 n1 P1 St1)
    (hz : IsZipHeld s.heap z TI TO T f) (hT : s.heap.get? T = some oT) (hTI : IsTupOf2 s.heap TI (.ref i1) (.ref i2)) (st1 : St1 n1 s.heap)
    (hE : ∀ h' e, (∀ c o, c ≠ z → c ≠ i1 → s.heap.get? c = some o → h'.get? c = some o) → (∃ o, h'.get? e = some o ∧ o.cls = .type "StopIteration") → E (.ref e) { s with heap := h' }) :
    wpAny (model prog w) A (Builtin.«zip.__next__» ⟨[.ref z], []⟩) Q E s := by
  obtain ⟨hp, g, d, tk0, os⟩ := s
  show wpAny _ _ (field (.ref z) 2 >>= _) _ _ _
  refine wpAny_bind (wpAny_field hz rfl (x := .bool false) rfl ?_)
  show wpAny _ _ (field (.ref z) 3 >>= _) _ _ _
  refine wpAny_bind (wpAny_field hz rfl (x := .ref TI) rfl ?_)
  refine wpAny_bind (wpAny_seqItems hTI rfl ?_)
  show wpAny _ _ (Builtin.SmallTypes.ownedTupleIsFree (.ref z) >>= _) _ _ _
  refine wpAny_bind (wpAny_tupleHeld_zip hz hT fun g0 hz0 hs0 => ?_)
  replace hs0 : Heap.SameBut z hp g0 := hs0
  simp only [Bool.false_eq_true, if_false]
  refine wpAny_bind ?_
  rw [← Array.forIn_toList]
  simp only [List.forIn_cons, List.forIn_nil]
  refine wpAny_bind (wpAny_bind (wpAny_holding ?_))
  show wpAny _ _ (Builtin.SmallTypes.nextOf (.ref i1) >>= _) _ _ ⟨g0, g, d, tk0, os⟩
  refine wpAny_bind (D1.done _ _ _ (D1.over st1 hs0 S.zf1) fun h' e he hx => ?_)
  exact hE h' e (fun c o c1 c2 x => he c o c2 (hs0.extBut _ _ c1 x)) hx
end
/-! ### the walk of list(zip(..)) -/
/-- zip's state at turn i: free at first, later holding its last tuple; S lies apart -/
def ZSt (z TI TO i1 i2 S : Addr) (St1 St2 : Nat → Heap → Prop) (i : Nat) (h : Heap) : Prop :=
  IsTupOf2 h TI (.ref i1) (.ref i2) ∧ St1 i h ∧ St2 i h ∧ ((IsZip h z TI TO .none ∧ ∃ a b, IsTupOf2 h TO a b) ∨ ∃ T f oT, IsZipHeld h z TI TO T f ∧ h.get? T = some oT ∧ T ≠ z ∧ T ≠ i1 ∧ T ≠ i2 ∧ T ≠ S)
section
variable {prog : Program} {w : World} {A : Around} {E : Value → Shared → Prop} {s : Shared} {z TI TO i1 i2 S : Addr} {fp1 fp2 : List Addr} {n i : Nat} {P1 P2 : Nat → Value → Prop} {St1 St2 : Nat → Heap → Prop}
theorem ZSt.keep {h h' : Heap} (x : ZSt z TI TO i1 i2 S St1 St2 i h) (D1 : Draws prog w A i1 fp1 n P1 St1) (D2 : Draws prog w A i2 fp2 n P2 St2) (k : ∀ b o, b ≠ S → h.get? b = some o → h'.get? b = some o)
    (a0 : S ≠ z) (a1 : S ≠ TI) (a2 : S ≠ TO) (a3 : S ∉ fp1) (a4 : S ∉ fp2) : ZSt z TI TO i1 i2 S St1 St2 i h' := by
  obtain ⟨h1, h2, h3, h4⟩ := x
  refine ⟨k _ _ a1.symm h1, D1.frame _ _ _ h2 fun b hb o e => k b o (fun q => a3 (q ▸ hb)) e, D2.frame _ _ _ h3 fun b hb o e => k b o (fun q => a4 (q ▸ hb)) e, ?_⟩
  rcases h4 with ⟨hz, a, b, hTO⟩ | ⟨T, f, oT, hz, hT, r1, r2, r3, r4⟩
  · exact .inl ⟨k _ _ a0.symm hz, a, b, k _ _ a2.symm hTO⟩
  · exact .inr ⟨T, f, oT, k _ _ a0.symm hz, k _ _ r4 hT, r1, r2, r3, r4⟩
theorem zst_item {Q : Option Value → Shared → Prop} (Z : ZipSep2 z TI TO i1 i2 fp1 fp2) (D1 : Draws prog w A.in1 i1 fp1 n P1 St1) (D2 : Draws prog w A.in1 i2 fp2 n P2 St2) (hst : ZSt z TI TO i1 i2 S St1 St2 i s.heap) (hS : S < s.heap.objs.size) (hi : i < n)
    (lt1 : i1 < s.heap.objs.size) (lt2 : i2 < s.heap.objs.size)
    (hQ : ∀ x1 x2 h' tk, P1 i x1 → P2 i x2 → ZSt z TI TO i1 i2 S St1 St2 (i + 1) h' → IsTupOf2 h' s.heap.objs.size x1 x2 → h'.objs.size = s.heap.objs.size + 1 →
      (∀ c o, c ≠ z → c ≠ TO → c ≠ i1 → c ≠ i2 → s.heap.get? c = some o → h'.get? c = some o) → Q (some (.ref s.heap.objs.size)) { s with heap := h', toks := tk }) :
    wpAny (model prog w) A (pyNext (.ref z)) Q E s := by
  obtain ⟨hTI, h1, h2, hz⟩ := hst
  rcases hz with ⟨hz, a, b, hTO⟩ | ⟨T, f, oT, hz, hT, r1, r2, r3, r4⟩
  · have hTy : s.TypeIs (.ref z) "zip" := ⟨_, hz, rfl⟩
    have hzl : z < s.heap.objs.size := Heap.lt_size hz
    unfold pyNext
    refine wpAny_bind (wpAny_attempt (wpAny_callSpecial?_slot (name := Str.ofString "__next__") hTy F.slot_zip_next
      (wpAny_call_entry F.slot_zip_next hTy F.entry_zip_next (wpAny_mono (zipD2_next_item (Q := fun v s' => wpAny (model prog w) A (pure (some v)) Q E s') Z D1 D2 hz hTI hTO h1 h2 hi hi fun x1 x2 h' tk a1 a2 a3 a4 a5 a6 a7 a8 a9 => ?_) (fun fin s' h => h) fun e s' h => h) (F.args_zip_next_1 _))))
    refine wpAny_pure (hQ x1 x2 h' tk a1 a2 ⟨a9 _ _ Z.TIz Z.TITO Z.TIi1 Z.TIi2 hTI, a5, a6, .inr ⟨s.heap.objs.size, false, _, a3, a7, Nat.ne_of_gt hzl, Nat.ne_of_gt lt1, Nat.ne_of_gt lt2, Nat.ne_of_gt hS⟩⟩ a7 a8 a9)
  · have hTy : s.TypeIs (.ref z) "zip" := ⟨_, hz, rfl⟩
    unfold pyNext
    refine wpAny_bind (wpAny_attempt (wpAny_callSpecial?_slot (name := Str.ofString "__next__") hTy F.slot_zip_next
      (wpAny_call_entry F.slot_zip_next hTy F.entry_zip_next (wpAny_mono (heldD_item (Q := fun v s' => wpAny (model prog w) A (pure (some v)) Q E s') Z D1 D2 hz hT hTI h1 h2 hi hi fun x1 x2 h' tk a1 a2 a3 a5 a6 a7 a8 a9 => ?_) (fun fin s' h => h) fun e s' h => h) (F.args_zip_next_1 _))))
    refine wpAny_pure (hQ x1 x2 h' tk a1 a2 ⟨a9 _ _ Z.TIz Z.TIi1 Z.TIi2 hTI, a5, a6, .inr ⟨T, true, oT, a3, a9 _ _ r1 r2 r3 hT, r1, r2, r3, r4⟩⟩ a7 a8 fun c o c1 _ c2 c3 e => a9 c o c1 c2 c3 e)
theorem zst_done {Q : Option Value → Shared → Prop} (Z : ZipSep2 z TI TO i1 i2 fp1 fp2) (D1 : Draws prog w A.in1 i1 fp1 n P1 St1) (D2 : Draws prog w A.in1 i2 fp2 n P2 St2) (hst : ZSt z TI TO i1 i2 S St1 St2 n s.heap)
    (hQ : ∀ h' tk, (∀ c o, c ≠ z → c ≠ TO → c ≠ i1 → c ≠ i2 → s.heap.get? c = some o → h'.get? c = some o) → Q none { s with heap := h', toks := tk }) :
    wpAny (model prog w) A (pyNext (.ref z)) Q E s := by
  obtain ⟨hTI, h1, h2, hz⟩ := hst
  rcases hz with ⟨hz, a, b, hTO⟩ | ⟨T, f, oT, hz, hT, r1, r2, r3, r4⟩
  · have hTy : s.TypeIs (.ref z) "zip" := ⟨_, hz, rfl⟩
    unfold pyNext
    refine wpAny_bind (wpAny_attempt (wpAny_callSpecial?_slot (name := Str.ofString "__next__") hTy F.slot_zip_next
      (wpAny_call_entry F.slot_zip_next hTy F.entry_zip_next (zipD2_next_end Z D1 D2 hz hTI hTO h1 h2 (Nat.le_refl _) (Nat.le_refl _) (.inl rfl) fun h' tk e hk he => ?_) (F.args_zip_next_1 _))))
    obtain ⟨o, ho, hc⟩ := he
    refine wpAny_bind (wpAny_isInstance (T := "StopIteration") (b := true) ⟨o, ho, hc⟩ isSubtype_stop ?_)
    exact wpAny_pure (hQ _ _ hk)
  · have hTy : s.TypeIs (.ref z) "zip" := ⟨_, hz, rfl⟩
    unfold pyNext
    refine wpAny_bind (wpAny_attempt (wpAny_callSpecial?_slot (name := Str.ofString "__next__") hTy F.slot_zip_next
      (wpAny_call_entry F.slot_zip_next hTy F.entry_zip_next (heldD_end Z D1 hz hT hTI h1 fun h' e hk he => ?_) (F.args_zip_next_1 _))))
    obtain ⟨o, ho, hc⟩ := he
    refine wpAny_bind (wpAny_isInstance (T := "StopIteration") (b := true) ⟨o, ho, hc⟩ isSubtype_stop ?_)
    exact wpAny_pure (hQ _ _ fun c o c1 _ c2 _ e => hk c o c1 c2 e)
end
/-- the tuples made so far -/
structure ZG (P1 P2 : Nat → Value → Prop) (lo : Addr) (h : Heap) (as : List Addr) : Prop where
  rise : as.Pairwise (· < ·)
  above : ∀ a ∈ as, lo ≤ a
  pairs : ∀ (j : Nat) (a : Addr), as[j]? = some a → ∃ x y, P1 j x ∧ P2 j y ∧ IsTupOf2 h a x y
theorem ZG.there {P1 P2 : Nat → Value → Prop} {lo : Addr} {h : Heap} {as : List Addr} (g : ZG P1 P2 lo h as) {a : Addr} (ha : a ∈ as) : a < h.objs.size := by
  obtain ⟨j, hj⟩ := List.mem_iff_getElem?.mp ha
  obtain ⟨_, _, _, _, e⟩ := g.pairs j a hj
  exact Heap.lt_size e
section
variable {prog : Program} {w : World} {A : Around} {s : Shared} {R : Result → Shared → Prop} {z TI TO i1 i2 S lo : Addr} {fp1 fp2 : List Addr} {n : Nat} {P1 P2 : Nat → Value → Prop} {St1 St2 : Nat → Heap → Prop}
theorem zloop (Z : ZipSep2 z TI TO i1 i2 fp1 fp2) (D1 : Draws prog w A.in1.in1 i1 fp1 n P1 St1) (D2 : Draws prog w A.in1.in1 i2 fp2 n P2 St2) (hlo : z < lo ∧ TO < lo ∧ i1 < lo ∧ i2 < lo ∧ S < lo)
    (a0 : S ≠ z) (a1 : S ≠ TI) (a2 : S ≠ TO) (a3 : S ∉ fp1) (a4 : S ∉ fp2) (hn : n ≤ sizeLine) (res : Value) {h₁ : Heap}
    (hR : ∀ h' tk acc c as, (∀ b o, b ≠ S → b ≠ z → b ≠ TO → b ≠ i1 → b ≠ i2 → h₁.get? b = some o → h'.get? b = some o) → h'.get? S = some { cls := .type "list", dict := none, data := .seq acc c, slots := #[] } → as.length = n → ZG P1 P2 lo h' as →
      acc.toList = as.map Value.ref → R (.ok (.ret res)) { s with heap := h', toks := tk }) :
    ∀ (k i : Nat) (h : Heap) (tk c : Nat) (acc : Array Value) (as : List Addr), n - i = k → i ≤ n → ZSt z TI TO i1 i2 S St1 St2 i h → (∀ b o, b ≠ S → b ≠ z → b ≠ TO → b ≠ i1 → b ≠ i2 → h₁.get? b = some o → h.get? b = some o) →
      h.get? S = some { cls := .type "list", dict := none, data := .seq acc c, slots := #[] } → acc.toList = as.map Value.ref → as.length = i → ZG P1 P2 lo h as → lo ≤ h.objs.size →
      codeAny (model prog w) A (.builtin "list.extend.loop" ⟨[.ref S, .ref z, res], []⟩) R { s with heap := h, toks := tk } := by
  obtain ⟨l0, l1, l2, l3, l4⟩ := hlo
  have Si1 : S ≠ i1 := fun e => a3 (e ▸ Z.mem1)
  have Si2 : S ≠ i2 := fun e => a4 (e ▸ Z.mem2)
  intro k
  induction k with
  | zero =>
    intro i h tk c acc as hk hi hst hkeep hS hacc hal hG hIs
    have hin : i = n := by omega
    subst hin
    refine codeAny_builtin PySem.F.entry_extend_loop ?_
    rw [Around.under_plainId PySem.F.plain_extend_loop _]
    show wpAny _ A.in1 (pyNext (.ref z) >>= _) _ _ _
    refine wpAny_bind (zst_done (s := { s with heap := h, toks := tk }) (A := A.in1) Z D1 D2 hst fun h' tk' he => ?_)
    refine wpAny_pure (hR h' tk' acc c as (fun b o h0 h1 h2 h3 h4 e => he b o h1 h2 h3 h4 (hkeep b o h0 h1 h2 h3 h4 e)) (he S _ a0 a2 Si1 Si2 hS) (by omega) ⟨hG.rise, hG.above, fun j a hj => ?_⟩ hacc)
    obtain ⟨x, y, e1, e2, e3⟩ := hG.pairs j a hj
    have la := hG.above a (List.mem_of_getElem? hj)
    exact ⟨x, y, e1, e2, he a _ (gne l0 la) (gne l1 la) (gne l2 la) (gne l3 la) e3⟩
  | succ k ih =>
    intro i h tk c acc as hk hi hst hkeep hS hacc hal hG hIs
    have hlt : i < n := by omega
    have hsz : acc.size = i := by rw [← Array.length_toList, hacc, List.length_map, hal]
    refine codeAny_builtin PySem.F.entry_extend_loop ?_
    rw [Around.under_plainId PySem.F.plain_extend_loop _]
    show wpAny _ A.in1 (pyNext (.ref z) >>= _) _ _ _
    have hSl : S < h.objs.size := Heap.lt_size hS
    refine wpAny_bind (zst_item (s := { s with heap := h, toks := tk }) (S := S) (A := A.in1) Z D1 D2 hst hSl hlt (Nat.lt_of_lt_of_le l2 hIs) (Nat.lt_of_lt_of_le l3 hIs) fun x1 x2 h' tk' p1 p2 hst' ht hz hkp => ?_)
    dsimp only at ht hz hkp ⊢
    have hS' := hkp S _ a0 a2 Si1 Si2 hS
    have up : ∀ b o, b ≠ S → h'.get? b = some o → (h'.update S (Obj.mapSeq (·.push (Value.ref h.objs.size)))).get? b = some o := fun b o hb e => (Heap.get?_update_other _ _ (Ne.symm hb)).trans e
    show wpAny _ A.in1 (updateSeq S (·.push (Value.ref h.objs.size)) >>= _) _ _ _
    refine wpAny_bind ?_
    refine wpAny_updateSeq hS' rfl (wpAny_pure ⟨plainId_quiet PySem.F.plain_extend_loop _, ih (i + 1) _ tk' _ (acc.push (Value.ref h.objs.size)) (as ++ [h.objs.size]) (by omega) hlt (hst'.keep D1 D2 up a0 a1 a2 a3 a4)
      (fun b o h0 h1 h2 h3 h4 e => up b o h0 (hkp b o h1 h2 h3 h4 (hkeep b o h0 h1 h2 h3 h4 e))) (Heap.get?_update_self _ hS' rfl) (by rw [Array.toList_push, hacc, List.map_append]; rfl) (by rw [List.length_append, hal]; rfl) ⟨?_, ?_, ?_⟩ ?_⟩) (by rw [hsz]; omega) (by show (acc.push (Value.ref h.objs.size)).size ≤ sizeLine + 1; rw [Array.size_push, hsz]; omega)
    · refine List.pairwise_append.mpr ⟨hG.rise, List.pairwise_singleton _ _, fun a ha b hb => ?_⟩
      rw [List.mem_singleton.mp hb]
      exact hG.there ha
    · intro a ha
      rcases List.mem_append.mp ha with ha | ha
      · exact hG.above a ha
      · rw [List.mem_singleton.mp ha]; exact hIs
    · intro j b hj
      rcases Nat.lt_trichotomy j as.length with h1 | h1 | h1
      · rw [List.getElem?_append_left h1] at hj
        obtain ⟨x, y, e1, e2, e3⟩ := hG.pairs j b hj
        have hb := hG.above b (List.mem_of_getElem? hj)
        exact ⟨x, y, e1, e2, up b _ (gne l4 hb) (hkp b _ (gne l0 hb) (gne l1 hb) (gne l2 hb) (gne l3 hb) e3)⟩
      · subst h1
        have hb : h.objs.size = b := by simpa using hj
        subst hb
        exact ⟨x1, x2, by rw [hal]; exact p1, by rw [hal]; exact p2, up _ _ (Nat.ne_of_gt hSl) ht⟩
      · have hnone : (as ++ [h.objs.size])[j]? = none := List.getElem?_eq_none (by rw [List.length_append, List.length_singleton]; omega)
        rw [hnone] at hj; cases hj
    · have e : (h'.update S (Obj.mapSeq (·.push (Value.ref h.objs.size)))).get? h.objs.size = _ := up _ _ (Nat.ne_of_gt hSl) ht
      exact Nat.le_trans hIs (Nat.le_of_lt (Heap.lt_size e))
theorem zip_no_len : typeLookup (.type "zip") "__len__" = pure none := am_miss_of_fast (by decide +kernel)
theorem zip_no_hint : typeLookup (.type "zip") "__length_hint__" = pure none := am_miss_of_fast (by decide +kernel)
theorem zextend (Z : ZipSep2 z TI TO i1 i2 fp1 fp2) (D1 : Draws prog w A.in1.in1 i1 fp1 n P1 St1) (D2 : Draws prog w A.in1.in1 i2 fp2 n P2 St2) (hlo : z < lo ∧ TO < lo ∧ i1 < lo ∧ i2 < lo ∧ S < lo)
    (a0 : S ≠ z) (a1 : S ≠ TI) (a2 : S ≠ TO) (a3 : S ∉ fp1) (a4 : S ∉ fp2) (hn : n ≤ sizeLine) (res : Value) (hst : ZSt z TI TO i1 i2 S St1 St2 0 s.heap) (hz : IsZip s.heap z TI TO .none) (c₀ : Nat) (hS : s.heap.get? S = some { cls := .type "list", data := .seq #[] c₀ }) (hlo2 : lo ≤ s.heap.objs.size)
    (hR : ∀ h' tk acc c as, (∀ b o, b ≠ S → b ≠ z → b ≠ TO → b ≠ i1 → b ≠ i2 → s.heap.get? b = some o → h'.get? b = some o) → h'.get? S = some { cls := .type "list", dict := none, data := .seq acc c, slots := #[] } → as.length = n → ZG P1 P2 lo h' as →
      acc.toList = as.map Value.ref → R (.ok (.ret res)) { s with heap := h', toks := tk }) :
    wpAny (model prog w) A.in1 (Builtin.List.listExtendWith (.ref S) (.ref z) res)
      (fun fin s' => match fin with | .done f => R (.ok f) s' | .again c' => c'.quiet = true ∧ codeAny (model prog w) A c' R s') (fun e s' => R (.error e) s') s := by
  have hT : s.TypeIs (.ref z) "zip" := ⟨_, hz, rfl⟩
  unfold Builtin.List.listExtendWith
  refine wpAny_bind (wpAny_typeOf (T := "zip") hT ?_)
  have h1 : Builtin.List.listSameRef (.ref S) (.ref z) = false := by simp [Builtin.List.listSameRef, a0]
  have h2 : (Value.type "zip" == Value.type "list") = false := by decide
  have h3 : (Value.type "zip" == Value.type "tuple") = false := by decide
  simp only [h1, h2, h3, Bool.or_false, Bool.false_eq_true, if_false]
  refine wpAny_bind (wpAny_pyIter_zip hz ?_)
  refine wpAny_bind (wpAny_holding ?_)
  unfold Builtin.List.listLengthHint
  refine wpAny_bind (wpAny_specialOf hT zip_no_len ?_)
  show wpAny _ A.in1 (specialOf (Value.ref z) (Str.ofString "__length_hint__") >>= _) _ _ _
  refine wpAny_bind (wpAny_specialOf hT zip_no_hint ?_)
  refine wpAny_pure ?_
  show wpAny _ A.in1 (rule "list.extend.makes-room" >>= fun _ => Builtin.List.listTouch (.ref S) >>= fun _ =>
    again (.builtin "list.extend.loop" ⟨[.ref S, .ref z, res], []⟩)) _ _ _
  refine wpAny_bind (wpAny_rule ?_)
  refine wpAny_bind ?_
  show wpAny _ _ (updateSeq S (·.push .none) >>= fun _ => updateSeq S (·.pop)) _ _ _
  refine wpAny_bind (wpAny_updateSeq hS rfl ?_)
  have hS₂ := Heap.get?_update_self (Obj.mapSeq (·.push Value.none)) hS rfl
  refine wpAny_updateSeq (hz := by seq_fits) hS₂ rfl ?_
  have hS₃ := Heap.get?_update_self (Obj.mapSeq (·.pop)) hS₂ rfl
  have oth : ∀ b o, b ≠ S → s.heap.get? b = some o → ((s.heap.update S (Obj.mapSeq (·.push Value.none))).update S (Obj.mapSeq (·.pop))).get? b = some o := fun b o hb e => (Heap.get?_update_other _ _ (Ne.symm hb)).trans ((Heap.get?_update_other _ _ (Ne.symm hb)).trans e)
  refine wpAny_pure ⟨plainId_quiet PySem.F.plain_extend_loop _, ?_⟩
  refine zloop (s := s) (h₁ := s.heap) Z D1 D2 hlo a0 a1 a2 a3 a4 hn res hR n 0 _ s.toks _ #[] [] rfl (Nat.zero_le _) (hst.keep D1 D2 oth a0 a1 a2 a3 a4) (fun b o hb _ _ _ _ e => oth b o hb e) hS₃ rfl rfl ⟨List.Pairwise.nil, (fun _ ha => nomatch ha), (fun j a hj => by simp at hj)⟩ ?_
  rw [Heap.size_update, Heap.size_update]
  exact hlo2
theorem zinit (Z : ZipSep2 z TI TO i1 i2 fp1 fp2) (D1 : Draws prog w A.in1.in1 i1 fp1 n P1 St1) (D2 : Draws prog w A.in1.in1 i2 fp2 n P2 St2) (hlo : z < lo ∧ TO < lo ∧ i1 < lo ∧ i2 < lo ∧ S < lo)
    (a0 : S ≠ z) (a1 : S ≠ TI) (a2 : S ≠ TO) (a3 : S ∉ fp1) (a4 : S ∉ fp2) (hn : n ≤ sizeLine) (hst : ZSt z TI TO i1 i2 S St1 St2 0 s.heap) (hz : IsZip s.heap z TI TO .none) (hS : s.heap.get? S = some { cls := .type "list", data := .seq #[] }) (hlo2 : lo ≤ s.heap.objs.size)
    (hR : ∀ h' tk acc c as, (∀ b o, b ≠ S → b ≠ z → b ≠ TO → b ≠ i1 → b ≠ i2 → s.heap.get? b = some o → h'.get? b = some o) → h'.get? S = some { cls := .type "list", dict := none, data := .seq acc c, slots := #[] } → as.length = n → ZG P1 P2 lo h' as →
      acc.toList = as.map Value.ref → R (.ok (.ret .none)) { s with heap := h', toks := tk }) :
    wpAny (model prog w) A.in1 (Builtin.«list.__init__» ⟨[.ref S, .ref z], []⟩)
      (fun fin s' => match fin with | .done f => R (.ok f) s' | .again c' => c'.quiet = true ∧ codeAny (model prog w) A c' R s') (fun e s' => R (.error e) s') s := by
  show wpAny _ _ (do let old ← Builtin.List.listItems (.ref S); Builtin.List.listUpdate (.ref S) (fun _ => #[]); letGo old.toList.reverse; Builtin.List.listExtendWith (.ref S) (.ref z) .none) _ _ s
  refine wpAny_bind ?_
  unfold Builtin.List.listItems
  refine wpAny_bind (wpAny_seqItems hS rfl (wpAny_pure ?_))
  show wpAny _ _ (updateSeq S (fun _ => #[]) >>= fun _ => letGo (#[] : Array Value).toList.reverse >>= fun _ => Builtin.List.listExtendWith (.ref S) (.ref z) .none) _ _ s
  refine wpAny_bind (wpAny_updateSeq hS rfl ?_)
  have hS₂ := Heap.get?_update_self (Obj.mapSeq (fun _ => (#[] : Array Value))) hS rfl
  have oth : ∀ b o, b ≠ S → s.heap.get? b = some o → (s.heap.update S (Obj.mapSeq (fun _ => (#[] : Array Value)))).get? b = some o :=
    fun b o hb e => (Heap.get?_update_other _ _ (Ne.symm hb)).trans e
  refine wpAny_bind (wpAny_letGo ?_)
  refine zextend (s := { s with heap := s.heap.update S (Obj.mapSeq (fun _ => (#[] : Array Value))) }) Z D1 D2 hlo a0 a1 a2 a3 a4 hn .none (hst.keep D1 D2 oth a0 a1 a2 a3 a4) (oth _ _ a0.symm hz) _ hS₂ (by show lo ≤ (s.heap.update S _).objs.size; rw [Heap.size_update]; exact hlo2) fun h' tk acc c as hk hS' hl hG hacc => ?_
  exact hR h' tk acc c as (fun b o h0 h1 h2 h3 h4 e => hk b o h0 h1 h2 h3 h4 (oth b o h0 e)) hS' hl hG hacc
end
section
variable {prog : Program} {w : World} {A : Around} {E : Value → Shared → Prop} {s : Shared} {z TI TO i1 i2 : Addr} {fp1 fp2 : List Addr} {n : Nat} {P1 P2 : Nat → Value → Prop} {St1 St2 : Nat → Heap → Prop}
/-- list(z), z a new zip object over two iterators with n items each -/
theorem zcall {Q : Value → Shared → Prop} (Z : ZipSep2 z TI TO i1 i2 fp1 fp2) (D1 : Draws prog w A.in1.in1.in1 i1 fp1 n P1 St1) (D2 : Draws prog w A.in1.in1.in1 i2 fp2 n P2 St2) (lt : z < s.heap.objs.size ∧ TO < s.heap.objs.size ∧ i1 < s.heap.objs.size ∧ i2 < s.heap.objs.size ∧ TI < s.heap.objs.size)
    (hf1 : ∀ b ∈ fp1, b < s.heap.objs.size) (hf2 : ∀ b ∈ fp2, b < s.heap.objs.size) (hn : n ≤ sizeLine) (hTI : IsTupOf2 s.heap TI (.ref i1) (.ref i2)) (st1 : St1 0 s.heap) (st2 : St2 0 s.heap) (hz : IsZip s.heap z TI TO .none) (hTO : ∃ a b, IsTupOf2 s.heap TO a b)
    (hQ : ∀ h' tk acc c as, (∀ b o, b ≠ z → b ≠ TO → b ≠ i1 → b ≠ i2 → s.heap.get? b = some o → h'.get? b = some o) → h'.get? s.heap.objs.size = some { cls := .type "list", dict := none, data := .seq acc c, slots := #[] } → as.length = n → ZG P1 P2 (s.heap.objs.size + 1) h' as →
      acc.toList = as.map Value.ref → Q (.ref s.heap.objs.size) { s with heap := h', toks := tk }) :
    wpAny (model prog w) A (call (.type "list") [.ref z]) Q E s := by
  obtain ⟨l0, l1, l2, l3, l4⟩ := lt
  refine callType_codes (Q₁ := fun obj s₁ => obj = .ref s.heap.objs.size ∧ s₁ = { s with heap := s.heap.push { cls := .type "list", data := .seq #[] } }) PySem.F.called_list (PySem.F.typeCall_list_1 _) PySem.F.entry_list_init
    (code_list_new _ ⟨rfl, rfl⟩) fun obj s₁ h₁ => ?_
  obtain ⟨rfl, rfl⟩ := h₁
  have hS : (s.heap.push { cls := .type "list", data := .seq #[] }).get? s.heap.objs.size = some { cls := .type "list", data := .seq #[] } := Heap.get?_push_size _ rfl
  have up : ∀ b o, s.heap.get? b = some o → (s.heap.push { cls := .type "list", data := .seq #[] }).get? b = some o := fun b o e => Heap.get?_push_of_some _ e
  obtain ⟨a, b, hTO⟩ := hTO
  refine ⟨⟨_, hS, rfl⟩, PySem.F.args_list_init_2 _ _, zinit (A := A.in1) (lo := s.heap.objs.size + 1) Z D1 D2 ⟨Nat.lt_succ_of_lt l0, Nat.lt_succ_of_lt l1, Nat.lt_succ_of_lt l2, Nat.lt_succ_of_lt l3, Nat.lt_succ_self _⟩ (Nat.ne_of_gt l0) (Nat.ne_of_gt l4) (Nat.ne_of_gt l1) (fun h => Nat.lt_irrefl _ (hf1 _ h)) (fun h => Nat.lt_irrefl _ (hf2 _ h)) hn
    ⟨up _ _ hTI, D1.frame _ _ _ st1 fun b _ o e => up b o e, D2.frame _ _ _ st2 fun b _ o e => up b o e, .inl ⟨up _ _ hz, a, b, up _ _ hTO⟩⟩ (up _ _ hz) hS (by show s.heap.objs.size + 1 ≤ (s.heap.push _).objs.size; rw [Heap.size_push]; exact Nat.le_refl _) fun h' tk acc c as hk hS' hl hG hacc => ?_⟩
  exact ⟨rfl, hQ h' tk acc c as (fun b o h1 h2 h3 h4 e => hk b o (Nat.ne_of_lt (Heap.lt_size e)) h1 h2 h3 h4 (up b o e)) hS' hl hG hacc⟩
end
end Lz

namespace PySem
open PySem.Spec PyProof.Rows PySem.Calls
abbrev rzT (h : Heap) (o1 : Obj) (r : Addr) : Heap := (h.push o1).push { cls := .type "tuple", data := .seq #[.ref h.objs.size, .ref r] }
abbrev rzO (h : Heap) (o1 : Obj) (r : Addr) : Heap := (rzT h o1 r).push { cls := .type "tuple", data := .seq #[.none, .none] }
abbrev rzZ (h : Heap) (o1 : Obj) (r : Addr) : Heap := (rzO h o1 r).push { cls := .type "zip", data := .fields #[.none, .bool false, .bool false, .ref (h.push o1).objs.size, .ref (rzT h o1 r).objs.size] }
theorem meets_zip_newR {v1 : Value} {r l2 : Addr} {k : Int} {o1 : Obj} {H1 : Heap → Prop} (B1 : Begins v1 o1 H1) :
    Meets (Builtin.«zip.__new__» ⟨[.type "zip", v1, .ref r], []⟩) (fun _ R s => (H1 s.heap ∧ s.heap.IsRevIter r l2 k) ∧
      R (.ok (.ret (.ref (rzO s.heap o1 r).objs.size))) { s with heap := rzZ s.heap o1 r }) :=
  .of_wp fun prog w A R s h => by
    obtain ⟨hp, g, d, tk, os⟩ := s; obtain ⟨⟨h1, h2⟩, h⟩ := h
    have hsub := sub_zip
    have q1 : ∀ {A' : Around} {E : Value → Shared → Prop} {Q : Value → Shared → Prop}, Q (.ref hp.objs.size) ⟨(hp.push o1), g, d, tk, os⟩ → wpAny (model prog w) A' (pyIter v1) Q E ⟨hp, g, d, tk, os⟩ :=
      fun q => B1.iter prog w _ _ ⟨hp, g, d, tk, os⟩ _ (B1.keeps _ _ h1 fun b o' e => e) q
    have q2 : ∀ {A' : Around} {E : Value → Shared → Prop} {Q : Value → Shared → Prop}, Q (.ref r) ⟨(hp.push o1), g, d, tk, os⟩ → wpAny (model prog w) A' (pyIter (.ref r)) Q E ⟨(hp.push o1), g, d, tk, os⟩ :=
      fun q => wpAny_pyIter_revIter (s := ⟨(hp.push o1), g, d, tk, os⟩) (l := l2) (i := k) (h2.at fun o e => Heap.get?_push_of_some _ e) q
    wp_walk using q1, q2
    exact ⟨_, rfl, h⟩
section
variable {prog : Program} {w : World} {A : Around} {E : Value → Shared → Prop} {s : Shared}
theorem zip_beginsR {v1 : Value} {r l2 : Addr} {k : Int} {o1 : Obj} {H1 : Heap → Prop} {Q : Value → Shared → Prop} (B1 : Begins v1 o1 H1) (h1 : H1 s.heap) (h2 : s.heap.IsRevIter r l2 k)
    (h : ∀ h', IsZip h' (s.heap.objs.size + 3) (s.heap.objs.size + 1) (s.heap.objs.size + 2) .none → IsTupOf2 h' (s.heap.objs.size + 1) (.ref s.heap.objs.size) (.ref r) →
      IsTupOf2 h' (s.heap.objs.size + 2) .none .none → h'.get? s.heap.objs.size = some o1 → h'.objs.size = s.heap.objs.size + 4 →
      (∀ c o, s.heap.get? c = some o → h'.get? c = some o) → Q (.ref (s.heap.objs.size + 3)) { s with heap := h' }) :
    wpAny (model prog w) A (call (.type "zip") [v1, .ref r]) Q E s := by
  refine callType_new F.called_zip (by decide) (F.typeCall_zip_2 _ _) (F.newCall_zip_2 _ _) (fun obj => F.args_object_init_3 obj _ _) F.entry_zip_new
    (meets_zip_newR (k := k) B1) ⟨⟨h1, h2⟩, ?_⟩
  have z1 : (s.heap.push o1).objs.size = s.heap.objs.size + 1 := by rw [Heap.size_push]
  have zT : (rzT s.heap o1 r).objs.size = s.heap.objs.size + 2 := by rw [Heap.size_push, z1]
  have zO : (rzO s.heap o1 r).objs.size = s.heap.objs.size + 3 := by rw [Heap.size_push, zT]
  have zZ : (rzZ s.heap o1 r).objs.size = s.heap.objs.size + 4 := by rw [Heap.size_push, zO]
  have gZ : (rzZ s.heap o1 r).get? (rzO s.heap o1 r).objs.size = some { cls := .type "zip", data := .fields #[.none, .bool false, .bool false, .ref (s.heap.push o1).objs.size, .ref (rzT s.heap o1 r).objs.size] } := Heap.get?_push_size _ rfl
  have gO : (rzZ s.heap o1 r).get? (rzT s.heap o1 r).objs.size = some { cls := .type "tuple", data := .seq #[.none, .none] } := Heap.get?_push_of_some _ (Heap.get?_push_size _ rfl)
  have gT : (rzZ s.heap o1 r).get? (s.heap.push o1).objs.size = some { cls := .type "tuple", data := .seq #[.ref s.heap.objs.size, .ref r] } := Heap.get?_push_of_some _ (Heap.get?_push_of_some _ (Heap.get?_push_size _ rfl))
  have g1 : (rzZ s.heap o1 r).get? s.heap.objs.size = some o1 := Heap.get?_push_of_some _ (Heap.get?_push_of_some _ (Heap.get?_push_of_some _ (Heap.get?_push_size _ B1.free)))
  rw [zO, zT, z1] at gZ
  rw [zT] at gO
  rw [z1] at gT
  show _ ∧ _
  rw [zO]
  exact ⟨⟨_, gZ, rfl⟩, h _ gZ gT gO g1 zZ fun c o e => Heap.get?_push_of_some _ (Heap.get?_push_of_some _ (Heap.get?_push_of_some _ (Heap.get?_push_of_some _ e)))⟩
end
end PySem
namespace Lx
open PySem PySem.Spec PyProof.Rows L2
/-- the tuples tracked at their addresses -/
def putP : Hp → List Addr → List (V × V) → Hp
  | H, a :: as, p :: ps => putP (upd H a (.tup [p.1, p.2])) as ps
  | H, _, _ => H
theorem putP_off {b : Addr} : ∀ (as : List Addr) (ps : List (V × V)) (H : Hp), b ∉ as → putP H as ps b = H b
  | [], _, _, _ => rfl
  | _ :: _, [], _, _ => rfl
  | a :: as, p :: ps, H, h => by
    show putP (upd H a (.tup [p.1, p.2])) as ps b = H b
    rw [putP_off as ps _ (fun z => h (List.mem_cons_of_mem _ z)), upd_ne (fun z => h (by rw [z]; exact List.mem_cons_self))]
theorem putP_at : ∀ (as : List Addr) (ps : List (V × V)) (H : Hp), as.length = ps.length → as.Nodup → ∀ (i : Nat) (t : Addr) (p : V × V), as[i]? = some t → ps[i]? = some p → putP H as ps t = some (.tup [p.1, p.2])
  | [], _, _, _, _, i, t, p, h, _ => by simp at h
  | _ :: _, [], _, h, _, _, _, _, _, _ => by cases h
  | a :: as, q :: ps, H, h, hn, i, t, p, h1, h2 => by
    have hn' := List.nodup_cons.mp hn
    cases i with
    | zero =>
      cases h1; cases h2
      show putP (upd H a (.tup [q.1, q.2])) as ps a = _
      rw [putP_off as ps _ hn'.1, upd_same]
    | succ i => exact putP_at as ps (upd H a (.tup [q.1, q.2])) (Nat.succ.inj h) hn'.2 i t p h1 h2
def tListZip (K : PySem.W.Frag) (rv : Bool) (ta : TA) : TE := fun σ H Q => ta σ H fun vs H1 => ∃ (a b : Addr) (xs ys : List V), vs = [.ref a, .ref b] ∧ SqL K H1 a xs ∧ SqL K H1 b ys ∧ xs.length = ys.length ∧
  ∀ (H' : Hp) (p : Addr) (ts : List Addr), Same H1 H' → H1 p = none → (∀ t ∈ ts, H1 t = none) → p ∉ ts → ts.Nodup → H' p = some (.lst (ts.map V.ref)) → ts.length = xs.length →
    (∀ (i : Nat) (t : Addr) (x y : V), ts[i]? = some t → xs[i]? = some x → (if rv then ys.reverse else ys)[i]? = some y → H' t = some (.tup [x, y])) → Q (.ref p) H'
section
variable {X : Cx}
theorem zip_laid {pins : List (Addr × Obj)} {σ : L2.St} {H : Hp} {s : Shared} {h' : Heap} {tk : Nat} {xs ys : List V} {us ws : List Value} {acc : Array Value} {c : Nat} {as : List Addr} {N : Addr} (I : Inv X pins σ H s) (hz : xs.length ≤ sizeLine) (r1 : Vals xs us) (r2 : Vals ys ws) (hxy : xs.length = ys.length)
    (hk : ∀ b o, s.heap.get? b = some o → h'.get? b = some o) (hN : s.heap.objs.size ≤ N) (hS : h'.get? N = some { cls := .type "list", dict := none, data := .seq acc c, slots := #[] }) (hG : Lz.ZG (fun i v => us[i]? = some v) (fun i v => ws[i]? = some v) (N + 1) h' as) (hl : as.length = xs.length) (hacc : acc.toList = as.map Value.ref) :
    ∃ H' : Hp, Same H H' ∧ H N = none ∧ (∀ t ∈ as, H t = none) ∧ N ∉ as ∧ as.Nodup ∧ H' N = some (.lst (as.map V.ref)) ∧ (∀ (i : Nat) (t : Addr) (x y : V), as[i]? = some t → xs[i]? = some x → ys[i]? = some y → H' t = some (.tup [x, y])) ∧ Inv X pins σ H' { s with heap := h', toks := tk } := by
  have hSn : N ∉ as := fun z => Nat.lt_irrefl _ (hG.above _ z)
  have nd : as.Nodup := List.Pairwise.imp (fun {a b} (h : a < b) => Nat.ne_of_lt h) hG.rise
  have new : ∀ t ∈ as, H t = none := fun t ht => I.hok.fresh (Nat.le_trans hN (Nat.le_of_lt (hG.above t ht)))
  have newS : H N = none := I.hok.fresh hN
  have lz : (xs.zip ys).length = xs.length := by rw [List.length_zip, ← hxy, Nat.min_self]
  have atP := putP_at as (xs.zip ys) (upd H N (.lst (as.map V.ref))) (by rw [lz]; exact hl) nd
  have off : ∀ b, b ∉ as → b ≠ N → putP (upd H N (.lst (as.map V.ref))) as (xs.zip ys) b = H b := fun b h1 h2 => by rw [putP_off as _ _ h1, upd_ne h2]
  have low : ∀ b o, s.heap.get? b = some o → b ∉ as ∧ b ≠ N := fun b o e => ⟨fun z => absurd (Heap.lt_size e) (Nat.not_lt.mpr (Nat.le_trans hN (Nat.le_of_lt (hG.above b z)))), Nat.ne_of_lt (Nat.lt_of_lt_of_le (Heap.lt_size e) hN)⟩
  have kp : ∀ b u, H b = some u → (putP (upd H N (.lst (as.map V.ref))) as (xs.zip ys)) b = some u := fun b u e => by
    rw [off b (fun z => by rw [new b z] at e; cases e) (fun z => by rw [z, newS] at e; cases e)]
    exact e
  have eS : putP (upd H N (.lst (as.map V.ref))) as (xs.zip ys) N = some (.lst (as.map V.ref)) := by rw [putP_off as _ _ hSn, upd_same]
  have zget : ∀ (i : Nat) (x y : V), xs[i]? = some x → ys[i]? = some y → (xs.zip ys)[i]? = some (x, y) := fun i x y e1 e2 => by
    rw [List.getElem?_zip_eq_some]
    exact ⟨e1, e2⟩
  refine ⟨putP (upd H N (.lst (as.map V.ref))) as (xs.zip ys), kp, newS, new, hSn, nd, eS, fun i t x y e1 e2 e3 => atP i t (x, y) e1 (zget i x y e2 e3), ?_⟩
  refine I.call' (ch := []) rfl ⟨fun b o q _ _ _ => hk b o q, fun b o q _ _ _ => ⟨o.slots, hk b o q⟩, fun b o q n _ => ?_, fun b o q _ => ⟨o, hk b o q⟩, fun b xs q => kp b _ q, fun b o u q => kp b _ q, fun b ps q => ⟨#[], by rw [kp b _ q]; simp⟩⟩ (fun b u q => ?_) I.bare fun b z => by simp at z
  · obtain ⟨z1, z2⟩ := low b o q
    rw [off b z1 z2]
    exact n
  · by_cases hb : b ∈ as
    · obtain ⟨j, e1⟩ := List.mem_iff_getElem?.mp hb
      have hj : j < xs.length := by rw [← hl]; exact (List.getElem?_eq_some_iff.mp e1).1
      have ex := List.getElem?_eq_getElem hj
      have ey := List.getElem?_eq_getElem (show j < ys.length by omega)
      have e3 := atP j b _ e1 (zget j _ _ ex ey)
      rw [e3] at q
      cases q
      obtain ⟨u1, u2, f1, f2, f3⟩ := hG.pairs j b e1
      obtain ⟨v1, g1, rv1⟩ := r1.get ex
      obtain ⟨v2, g2, rv2⟩ := r2.get ey
      rw [f1] at g1; cases g1
      rw [f2] at g2; cases g2
      exact ⟨by show 2 ≤ sizeLine; decide, [u1, u2], .cons rv1 (.cons rv2 .nil), ⟨_, f3, rfl, _, rfl⟩⟩
    · by_cases hb2 : b = N
      · rw [hb2] at q ⊢
        rw [eS] at q
        cases q
        refine ⟨by rw [List.length_map]; omega, acc.toList, c, by rw [hacc]; exact LiI.vals_refs as, ?_⟩
        rw [Array.toArray_toList]
        exact hS
      · rw [off b hb hb2] at q
        exact (I.hok b u q).stay (fun d v _ y => hk d v y) (fun d y => kp d _ y) fun d xs y => kp d _ y
/-- list(zip(e, e2)) of two lists of one length -/
theorem pe_listZip (K : PySem.W.Frag) {e e2 : Expr} {ta : TA} {p p2 q pos : Pos} (hc : X.calm = true) (hg : Gl X "list") (hm : X.mg "list" = none) (hg2 : Gl X "zip") (hm2 : X.mg "zip" = none) (ha : PA X [e, e2] ta) (hK : X.K = K := by rfl)
    (hs : starEach [e, e2] X.env = (false, eval e X.env) :: starEach [e2] X.env := by rfl) (hpl : (backTo q (starEach [e2] X.env)).any (·.1) = false := by rfl)
    (na : starEach [.Call (.Name "zip" p2) [e, e2] [] q] X.env = (false, eval (.Call (.Name "zip" p2) [e, e2] [] q) X.env) :: starEach [] X.env := by rfl) : PE X (.Call (.Name "list" p) [.Call (.Name "zip" p2) [e, e2] [] q] [] pos) (tListZip K false ta) := by
  subst hK
  refine ⟨fun pins s σ H Q I h => ?_⟩
  refine Call_ (ld_blt I hg hm boot_list (PyProof.Rows.callWith_type1 (PyProof.Rows.args_cons (Call_ (ld_blt I hg2 hm2 PyProof.Rows.boot_zip (PyProof.Rows.callWith_type1 (thn (ha.run q pins s σ H _ I h) fun us s1 ⟨vs, H1, I1, r1, q1⟩ => ?_) hs hpl))) na) na rfl))
  obtain ⟨a, b, xs, ys, ex, hqx, hqy, hxy, q1⟩ := q1
  subst ex
  cases r1 with
  | cons r rr =>
    cases rr with
    | cons r' rr =>
      cases rr
      cases r
      cases r'
      obtain ⟨its, rv, p1, hz1⟩ := I1.list hqx
      obtain ⟨its2, rv2, p3, hz2⟩ := I1.list hqy
      refine call_zip_2 p1.isList p3.isList fun h' hz hTI hTO h1 h2 hsz hk => PyProof.Rows.args_nil ?_
      have la := p1.lt
      have lb := p3.lt
      have hn := rv.length
      have hn2 := rv2.length
      have hh := I1.ok.hd hc
      have e1 : its.toArray.size = xs.length := by rw [List.size_toArray]; exact hn.symm
      have e2 : its2.toArray.size = xs.length := by rw [List.size_toArray]; omega
      have D1 := Draws.list (prog := X.prog) (w := X.w) (A := X.A.in1.in1.in1) hh s1.heap.objs.size a (Nat.ne_of_lt la) its.toArray
      have D2 := Draws.list (prog := X.prog) (w := X.w) (A := X.A.in1.in1.in1) hh (s1.heap.objs.size + 1) b (Nat.ne_of_lt (Nat.lt_succ_of_lt lb)) its2.toArray
      rw [e1] at D1
      rw [e2] at D2
      have S := zip_sep2 (N := s1.heap.objs.size) (fp1 := [a]) (fp2 := [b]) (fun c hc => by rw [List.mem_singleton.mp hc]; exact la) (fun c hc => by rw [List.mem_singleton.mp hc]; exact lb)
      have up : ∀ m, m < 5 → s1.heap.objs.size + m < h'.objs.size := fun m hm => by rw [hsz]; exact Nat.add_lt_add_left hm _
      refine Lz.zcall (s := { s1 with heap := h' }) S D1 D2 ⟨up 4 (by decide), up 3 (by decide), up 0 (by decide), up 1 (by decide), up 2 (by decide)⟩ (fun c hc => ?_) (fun c hc => ?_) (by omega) hTI ⟨h1, p1.isList.at fun o e => hk _ o e⟩ ⟨h2, p3.isList.at fun o e => hk _ o e⟩ hz ⟨_, _, hTO⟩ fun h2' tk acc c as hk2 hS hl hG hacc => ?_
      · rcases List.mem_cons.mp hc with z | z
        · rw [z]; exact up 0 (by decide)
        · rw [List.mem_singleton.mp z]; exact Nat.lt_trans la (up 0 (by decide))
      · rcases List.mem_cons.mp hc with z | z
        · rw [z]; exact up 1 (by decide)
        · rw [List.mem_singleton.mp z]; exact Nat.lt_trans lb (up 0 (by decide))
      · have keep : ∀ b o, s1.heap.get? b = some o → h2'.get? b = some o := fun b o e => by
          have l := Heap.lt_size e
          exact hk2 b o (Nat.ne_of_lt (Nat.lt_add_right 4 l)) (Nat.ne_of_lt (Nat.lt_add_right 3 l)) (Nat.ne_of_lt l) (Nat.ne_of_lt (Nat.lt_add_right 1 l)) (hk b o e)
        have hG2 : Lz.ZG (fun i v => its[i]? = some v) (fun i v => its2[i]? = some v) (h'.objs.size + 1) h2' as := ⟨hG.rise, hG.above, fun j a hj => by
          obtain ⟨x, y, z1, z2, z3⟩ := hG.pairs j a hj
          exact ⟨x, y, by simpa using z1, by simpa using z2, z3⟩⟩
        obtain ⟨H', z1, z2, z3, z4, z5, z6, z7, J⟩ := zip_laid (tk := tk) I1 hz1 rv rv2 hxy keep (show s1.heap.objs.size ≤ h'.objs.size by rw [hsz]; exact Nat.le_add_right _ _) hS hG2 hl hacc
        exact ⟨.ref _, H', J, rfl, q1 H' _ as z1 z2 z3 z4 z5 z6 hl z7⟩
theorem apart {N a b : Nat} (h : a ≠ b) : N + a ≠ N + b := by omega
def tListZipR (K : PySem.W.Frag) (te tb : TE) : TE := fun σ H Q => te σ H fun x H1 => tb σ H1 fun y H2 => ∃ (a b : Addr) (xs ys : List V), x = .ref a ∧ y = .ref b ∧ SqL K H2 a xs ∧ SqL K H2 b ys ∧ xs.length = ys.length ∧
  ∀ (H' : Hp) (p : Addr) (ts : List Addr), Same H2 H' → H2 p = none → (∀ t ∈ ts, H2 t = none) → p ∉ ts → ts.Nodup → H' p = some (.lst (ts.map V.ref)) → ts.length = xs.length →
    (∀ (i : Nat) (t : Addr) (x y : V), ts[i]? = some t → xs[i]? = some x → ys.reverse[i]? = some y → H' t = some (.tup [x, y])) → Q (.ref p) H'
/-- list(zip(e, reversed(e2))) of two lists of one length -/
theorem pe_listZipR (K : PySem.W.Frag) {e e2 : Expr} {te tb : TE} {p p2 p3 q q2 pos : Pos} (hc : X.calm = true) (hg : Gl X "list") (hm : X.mg "list" = none) (hg2 : Gl X "zip") (hm2 : X.mg "zip" = none) (hg3 : Gl X "reversed") (hm3 : X.mg "reversed" = none) (he : PE X e te) (hb : PE X e2 tb) (hK : X.K = K := by rfl)
    (hs3 : starEach [e2] X.env = (false, eval e2 X.env) :: starEach [] X.env := by rfl)
    (hs2 : starEach [.Call (.Name "reversed" p3) [e2] [] q2] X.env = (false, eval (.Call (.Name "reversed" p3) [e2] [] q2) X.env) :: starEach [] X.env := by rfl)
    (hs : starEach [e, .Call (.Name "reversed" p3) [e2] [] q2] X.env = (false, eval e X.env) :: starEach [.Call (.Name "reversed" p3) [e2] [] q2] X.env := by rfl) (hpl : (backTo q (starEach [.Call (.Name "reversed" p3) [e2] [] q2] X.env)).any (·.1) = false := by rfl)
    (na : starEach [.Call (.Name "zip" p2) [e, .Call (.Name "reversed" p3) [e2] [] q2] [] q] X.env = (false, eval (.Call (.Name "zip" p2) [e, .Call (.Name "reversed" p3) [e2] [] q2] [] q) X.env) :: starEach [] X.env := by rfl) :
    PE X (.Call (.Name "list" p) [.Call (.Name "zip" p2) [e, .Call (.Name "reversed" p3) [e2] [] q2] [] q] [] pos) (tListZipR K te tb) := by
  subst hK
  refine ⟨fun pins s σ H Q I h => ?_⟩
  refine Call_ (ld_blt I hg hm boot_list (PyProof.Rows.callWith_type1 (PyProof.Rows.args_cons (Call_ (ld_blt I hg2 hm2 PyProof.Rows.boot_zip (PyProof.Rows.callWith_type1 (PyProof.Rows.args_cons (thn (he.run pins s σ H _ I h) fun u s0 ⟨x, H0, I0, r0, q0⟩ => ?_) hs) hs hpl))) na) na rfl))
  refine PyProof.Rows.args_cons (Call_ (ld_blt I0 hg3 hm3 PyProof.Rows.boot_reversed (PyProof.Rows.callWith_type1 (PyProof.Rows.args_cons (thn (hb.run pins s0 σ H0 _ I0 q0) fun u2 s1 ⟨y, H1, I1, r1, q1⟩ => PyProof.Rows.args_nil ?_) hs3) hs3 rfl))) hs2
  obtain ⟨a, b, xs, ys, ex, ey, hqx, hqy, hxy, q1⟩ := q1
  subst ex; subst ey
  obtain rfl : u = Value.ref a := r0
  obtain rfl : u2 = Value.ref b := r1
  obtain ⟨its, rv, p1, hz1⟩ := I1.list hqx
  obtain ⟨its2, rv2, p3, hz2⟩ := I1.list hqy
  refine call_reversed_list p3.isList (PyProof.Rows.args_nil ?_)
  have k0 : ∀ b' o, s1.heap.get? b' = some o → (s1.heap.push (revObj b ((its2.toArray.size : Int) - 1))).get? b' = some o := fun b' o e => Heap.get?_push_of_some _ e
  have la := p1.lt
  have lb := p3.lt
  have hrev : (s1.heap.push (revObj b ((its2.toArray.size : Int) - 1))).IsRevIter s1.heap.objs.size b ((its2.toArray.size : Int) - 1) := ⟨_, Heap.get?_push_size _ rfl, rfl, rfl⟩
  refine zip_beginsR (s := { s1 with heap := s1.heap.push (revObj b ((its2.toArray.size : Int) - 1)) }) (begins_list a its.toArray) (p1.isList.at fun o e => k0 _ o e) hrev fun h' hz hTI hTO h1 hsz hk => PyProof.Rows.args_nil ?_
  have zs : (s1.heap.push (revObj b ((its2.toArray.size : Int) - 1))).objs.size = s1.heap.objs.size + 1 := by rw [Heap.size_push]
  dsimp only at hz hTI hTO h1 hsz hk ⊢
  rw [zs] at hz hTI hTO h1 hsz ⊢
  have hn := rv.length
  have hn2 := rv2.length
  have hh := I1.ok.hd hc
  have e1 : its.toArray.size = xs.length := by rw [List.size_toArray]; exact hn.symm
  have e2 : its2.toArray.size = xs.length := by rw [List.size_toArray]; omega
  have hk0 : ∀ c o, s1.heap.get? c = some o → h'.get? c = some o := fun c o e => hk c o (k0 c o e)
  have D1 := Draws.list (prog := X.prog) (w := X.w) (A := X.A.in1.in1.in1) hh (s1.heap.objs.size + 1) a (Nat.ne_of_lt (Nat.lt_succ_of_lt la)) its.toArray
  have D2 := Lz.drawsRev (prog := X.prog) (w := X.w) (A := X.A.in1.in1.in1) hh s1.heap.objs.size b (Nat.ne_of_lt lb) its2.toArray
  have st2 : (0 : Nat) ≤ its2.toArray.size ∧ h'.IsRevIter s1.heap.objs.size b ((its2.toArray.size : Int) - 1 - ((0 : Nat) : Int)) ∧ h'.IsList b its2.toArray := ⟨Nat.zero_le _, by rw [show (its2.toArray.size : Int) - 1 - ((0 : Nat) : Int) = (its2.toArray.size : Int) - 1 by omega]; exact hrev.at fun o e => hk _ o e, p3.isList.at fun o e => hk0 _ o e⟩
  rw [e1] at D1
  rw [e2] at D2 st2
  have ltN : ∀ {c m : Nat}, c < s1.heap.objs.size → c ≠ s1.heap.objs.size + m := fun h => Nat.ne_of_lt (Nat.lt_add_right _ h)
  have S : ZipSep2 (s1.heap.objs.size + 1 + 3) (s1.heap.objs.size + 1 + 1) (s1.heap.objs.size + 1 + 2) (s1.heap.objs.size + 1) s1.heap.objs.size [s1.heap.objs.size + 1, a] [s1.heap.objs.size, b] := by
    have ka : ∀ m : Nat, s1.heap.objs.size + m ≠ a := fun m => Nat.ne_of_gt (Nat.lt_add_right m la)
    have kb : ∀ m : Nat, s1.heap.objs.size + m ≠ b := fun m => Nat.ne_of_gt (Nat.lt_add_right m lb)
    refine ⟨?_, ?_, ?_, ?_, by simp, ?_, ?_, ?_, by simp, ?_, ?_, ?_, ?_⟩
    · exact (apart (N := s1.heap.objs.size) (a := 2) (b := 4) (by decide))
    · exact (apart (N := s1.heap.objs.size) (a := 3) (b := 4) (by decide))
    · exact (apart (N := s1.heap.objs.size) (a := 2) (b := 3) (by decide))
    · exact (apart (N := s1.heap.objs.size) (a := 2) (b := 1) (by decide))
    · simp only [List.mem_cons, List.not_mem_nil, or_false, not_or]; exact ⟨(apart (N := s1.heap.objs.size) (a := 4) (b := 1) (by decide)), ka 4⟩
    · simp only [List.mem_cons, List.not_mem_nil, or_false, not_or]; exact ⟨(apart (N := s1.heap.objs.size) (a := 3) (b := 1) (by decide)), ka 3⟩
    · exact (apart (N := s1.heap.objs.size) (a := 2) (b := 0) (by decide))
    · simp only [List.mem_cons, List.not_mem_nil, or_false, not_or]; exact ⟨(apart (N := s1.heap.objs.size) (a := 4) (b := 0) (by decide)), kb 4⟩
    · simp only [List.mem_cons, List.not_mem_nil, or_false, not_or]; exact ⟨(apart (N := s1.heap.objs.size) (a := 3) (b := 0) (by decide)), kb 3⟩
    · simp only [List.mem_cons, List.not_mem_nil, or_false, not_or]; exact ⟨(apart (N := s1.heap.objs.size) (a := 1) (b := 0) (by decide)), kb 1⟩
    · simp only [List.mem_cons, List.not_mem_nil, or_false, not_or]; exact ⟨(apart (N := s1.heap.objs.size) (a := 0) (b := 1) (by decide)), ka 0⟩
  have up : ∀ m, m < 5 → s1.heap.objs.size + m < h'.objs.size := fun m hm => by rw [hsz]; show s1.heap.objs.size + m < s1.heap.objs.size + 1 + 4; omega
  refine Lz.zcall (s := { s1 with heap := h' }) S D1 D2 ⟨up 4 (by decide), up 3 (by decide), up 1 (by decide), up 0 (by decide), up 2 (by decide)⟩ (fun c hc => ?_) (fun c hc => ?_) (by omega) hTI ⟨⟨_, h1, rfl, rfl⟩, p1.isList.at fun o e => hk0 _ o e⟩ st2 hz ⟨_, _, hTO⟩ fun h2' tk acc c as hk2 hS hl hG hacc => ?_
  · rcases List.mem_cons.mp hc with z | z
    · rw [z]; exact up 1 (by decide)
    · rw [List.mem_singleton.mp z]; exact Nat.lt_trans la (up 0 (by decide))
  · rcases List.mem_cons.mp hc with z | z
    · rw [z]; exact up 0 (by decide)
    · rw [List.mem_singleton.mp z]; exact Nat.lt_trans lb (up 0 (by decide))
  · have keep : ∀ b o, s1.heap.get? b = some o → h2'.get? b = some o := fun b o e => by
      have l := Heap.lt_size e
      exact hk2 b o (ltN (m := 4) l) (ltN (m := 3) l) (ltN (m := 1) l) (Nat.ne_of_lt l) (hk0 b o e)
    have hG2 : Lz.ZG (fun i v => its[i]? = some v) (fun i v => its2.reverse[i]? = some v) (h'.objs.size + 1) h2' as := ⟨hG.rise, hG.above, fun j a hj => by
      obtain ⟨x, y, z1, z2, z3⟩ := hG.pairs j a hj
      have jl : j < its2.length := by
        have : j < as.length := (List.getElem?_eq_some_iff.mp hj).1
        omega
      refine ⟨x, y, by simpa using z1, ?_, z3⟩
      rw [List.getElem?_reverse jl]
      have z2' : its2.toArray[xs.length - 1 - j]? = some y := z2
      rw [show its2.length = xs.length by omega]
      simpa using z2'⟩
    obtain ⟨H', z1, z2, z3, z4, z5, z6, z7, J⟩ := zip_laid (tk := tk) I1 hz1 rv rv2.reverse (by rw [List.length_reverse]; exact hxy) keep (show s1.heap.objs.size ≤ h'.objs.size by rw [hsz]; omega) hS hG2 hl hacc
    exact ⟨.ref _, H', J, rfl, q1 H' _ as z1 z2 z3 z4 z5 z6 hl z7⟩
end
end Lx

namespace Lx
open PySem PySem.Spec PyProof.Rows L2
/-! ### dicts with ints for keys -/
theorem hu1 {n : Nat} (h : n + 64 < cLine) : n + 1 < cLine := by omega
section
variable {σ : L2.St} {H : Hp} {Q : VK} {td ty tk tv : TE} {a : Addr} {kvs : List (Key × V)} {i : Int} {v : V}
theorem r_dget (h : td σ H fun x H1 => ty σ H1 fun y H2 => ∃ a v, x = .ref a ∧ DGet H2 a y (some v) ∧ Q v H2) : tDGet td ty σ H Q := h
theorem r_dgetI {R : V → Prop} (h : H a = some (.dK kvs)) (e : valV kvs (.inl i) = some v) (q : R v) : ∃ a' v, V.ref a = .ref a' ∧ DGet H a' (.int i) (some v) ∧ R v := ⟨a, v, rfl, e ▸ DGet.k (k := .inl i) h, q⟩
theorem r_din {ta : TE} {Q : VK} (h : ty σ H fun y H1 => td σ H1 fun x H2 => ∃ a o, x = .ref a ∧ DGet H2 a y o ∧ Q (.bl o.isSome) H2) : tDIn ty td σ H Q := h
theorem r_dinI {R : Bool → Prop} (h : H a = some (.dK kvs)) (q : R (valV kvs (.inl i)).isSome) : ∃ a' o, V.ref a = .ref a' ∧ DGet H a' (.int i) o ∧ R o.isSome := ⟨a, _, rfl, DGet.k (k := .inl i) h, q⟩
theorem r_dc {wi : TI} {g : TG} {tt : TT} {vs : List Nat} (h : wi σ H fun J H1 => ∀ D, H1 D = none → ∃ W : Nat → Nat → Hp → Prop, (∃ m, W 0 m (upd H1 D (.dK []))) ∧ ∀ i m H, W i m H →
  (J.stop i H ∧ Q (.ref D) H) ∨ (J.go i H ∧ ∃ Nx : Hp → Prop, (∀ H', Nx H' → ∃ m', m' < m ∧ W (i + 1) m' H') ∧ ∀ x H', J.yld i H x H' → g x (wipe σ vs) H' fun σ2 H2 => wipe σ2 vs = wipe σ vs ∧ tt σ2 H2 fun b H3 =>
    if b = true then tk σ2 H3 fun y H4 => tv σ2 H4 fun z H5 => ∃ kvs k, y = kV k ∧ H5 D = some (.dK kvs) ∧ kvs.length < sizeLine ∧ Nx (upd H5 D (.dK (putK kvs k z))) else Nx H3)) : tDc wi g tt tk tv vs σ H Q := h
end
/-- a dict from places to ints -/
def IsD (H : Hp) (a : Addr) (f : Int → Option Int) : Prop := ∃ kvs, H a = some (.dK kvs) ∧ kvs.length ≤ 100000 ∧ ∀ i, valV kvs (.inl i) = (f i).map V.int
theorem IsD.same {H H' : Hp} {a : Addr} {f : Int → Option Int} (h : IsD H a f) (s : Same H H') : IsD H' a f := by
  obtain ⟨kvs, h1, h2⟩ := h
  exact ⟨kvs, s _ _ h1, h2⟩
theorem IsD.kp {r : Addr} {H H' : Hp} {a : Addr} {f : Int → Option Int} (h : IsD H a f) (s : Kp r H H') (n : a ≠ r) : IsD H' a f := by
  obtain ⟨kvs, h1, h2⟩ := h
  exact ⟨kvs, s _ _ n h1, h2⟩
theorem IsD.get {H : Hp} {a : Addr} {f : Int → Option Int} {i j : Int} (h : IsD H a f) (e : f i = some j) {R : V → Prop} (q : R (.int j)) : ∃ a' v, V.ref a = .ref a' ∧ DGet H a' (.int i) (some v) ∧ R v := by
  obtain ⟨kvs, h1, _, h2⟩ := h
  exact r_dgetI h1 (by rw [h2, e]; rfl) q
theorem IsD.has {H : Hp} {a : Addr} {f : Int → Option Int} {i : Int} (h : IsD H a f) {R : Bool → Prop} (q : R (f i).isSome) : ∃ a' o, V.ref a = .ref a' ∧ DGet H a' (.int i) o ∧ R o.isSome := by
  obtain ⟨kvs, h1, _, h2⟩ := h
  refine r_dinI h1 ?_
  rw [h2, Option.isSome_map]
  exact q
/-- the first n of them, and what they hold -/
def numTo (ns : List Int) (m : Nat) : List (Key × V) := (List.range m).map fun j => (.inl (ns.getD j 0), .int (j : Nat))
theorem valV_num (ns : List Int) (m : Nat) (x : Int) : valV (numTo ns m) (.inl x) = ((List.range m).find? fun j => decide (ns.getD j 0 = x)).map fun j => V.int (j : Nat) := by
  unfold valV numTo
  rw [List.find?_map, Option.map_map]
  have e : ((fun kv : Key × V => decide (kv.1 = .inl x)) ∘ fun j : Nat => ((.inl (ns.getD j 0) : Key), V.int (j : Nat))) = fun j => decide (ns.getD j 0 = x) := by
    funext j
    show decide ((Sum.inl (ns.getD j 0) : Key) = .inl x) = _
    by_cases h : ns.getD j 0 = x
    · rw [decide_eq_true h, h]; exact decide_eq_true rfl
    · rw [decide_eq_false h]; exact decide_eq_false fun z => h (Sum.inl.inj z)
  rw [e]
  rfl
theorem getD_inj {ns : List Int} (hn : ns.Nodup) {i j : Nat} (hi : i < ns.length) (hj : j < ns.length) (h : ns.getD i 0 = ns.getD j 0) : i = j := by
  rw [List.getD_eq_getElem?_getD, List.getD_eq_getElem?_getD, List.getElem?_eq_getElem hi, List.getElem?_eq_getElem hj] at h
  exact (List.getElem_inj hn).mp h
theorem valV_numNone {ns : List Int} (hn : ns.Nodup) {m : Nat} (hm : m < ns.length) : valV (numTo ns m) (.inl (ns.getD m 0)) = none := by
  rw [valV_num]
  have : ((List.range m).find? fun j => decide (ns.getD j 0 = ns.getD m 0)) = none := by
    rw [List.find?_eq_none]
    intro j hj hd
    have hj' := List.mem_range.mp hj
    have := getD_inj hn (by omega) hm (of_decide_eq_true hd)
    omega
  rw [this]
  rfl
theorem numTo_succ {ns : List Int} (hn : ns.Nodup) {m : Nat} (hm : m < ns.length) : putK (numTo ns m) (.inl (ns.getD m 0)) (.int (m : Nat)) = numTo ns (m + 1) := by
  rw [putK_new _ (valV_numNone hn hm)]
  unfold numTo
  rw [List.range_succ, List.map_append]
  rfl
theorem numTo_len (ns : List Int) (m : Nat) : (numTo ns m).length = m := by unfold numTo; rw [List.length_map, List.length_range]
/-- where a place stands in a list -/
def ixO (ns : List Int) (x : Int) : Option Int := if x ∈ ns then some ((ns.idxOf x : Nat) : Int) else none
theorem valV_all {ns : List Int} (hn : ns.Nodup) (x : Int) : valV (numTo ns ns.length) (.inl x) = (ixO ns x).map V.int := by
  rw [valV_num]
  unfold ixO
  by_cases h : x ∈ ns
  · rw [if_pos h]
    have hl := List.idxOf_lt_length_of_mem h
    have hg : ns.getD (ns.idxOf x) 0 = x := by
      rw [List.getD_eq_getElem?_getD, List.getElem?_eq_getElem hl]
      exact List.getElem_idxOf _
    cases e : (List.range ns.length).find? fun j => decide (ns.getD j 0 = x) with
    | none => exact absurd (decide_eq_true hg) (List.find?_eq_none.mp e _ (List.mem_range.mpr hl))
    | some j =>
      have h1 : ns.getD j 0 = x := by have z := List.find?_some e; simpa using z
      have h2 := List.mem_range.mp (List.mem_of_find?_eq_some e)
      rw [getD_inj hn h2 hl (h1.trans hg.symm)]
      rfl
  · rw [if_neg h]
    cases e : (List.range ns.length).find? fun j => decide (ns.getD j 0 = x) with
    | none => rfl
    | some j =>
      have h1 : ns.getD j 0 = x := by have z := List.find?_some e; simpa using z
      have h2 := List.mem_range.mp (List.mem_of_find?_eq_some e)
      rw [List.getD_eq_getElem?_getD, List.getElem?_eq_getElem h2] at h1
      exact absurd (h1 ▸ List.getElem_mem h2) h
/-! ### reversed lists walked; lists of pairs -/
theorem r_iRev {σ : L2.St} {H : Hp} {X : Cx} {ta : TA} {R : It → Hp → Prop} (h : ta σ H fun vs H1 => ∃ (a : Addr) (xs : List V), vs = [.ref a] ∧ SqL X.K H1 a xs ∧ R (Itv X.K a xs.length) H1) : iRev X.K ta σ H R := h
theorem r_listZipR {σ : L2.St} {H : Hp} {K : PySem.W.Frag} {te tb : TE} {Q : VK} (h : te σ H fun x H1 => tb σ H1 fun y H2 => ∃ (a b : Addr) (xs ys : List V), x = .ref a ∧ y = .ref b ∧ SqL K H2 a xs ∧ SqL K H2 b ys ∧ xs.length = ys.length ∧
  ∀ (H' : Hp) (p : Addr) (ts : List Addr), Same H2 H' → H2 p = none → (∀ t ∈ ts, H2 t = none) → p ∉ ts → ts.Nodup → H' p = some (.lst (ts.map V.ref)) → ts.length = xs.length →
    (∀ (i : Nat) (t : Addr) (x y : V), ts[i]? = some t → xs[i]? = some x → ys.reverse[i]? = some y → H' t = some (.tup [x, y])) → Q (.ref p) H') : tListZipR K te tb σ H Q := h
theorem r_listZip {σ : L2.St} {H : Hp} {K : PySem.W.Frag} {ta : TA} {Q : VK} (h : ta σ H fun vs H1 => ∃ (a b : Addr) (xs ys : List V), vs = [.ref a, .ref b] ∧ SqL K H1 a xs ∧ SqL K H1 b ys ∧ xs.length = ys.length ∧
  ∀ (H' : Hp) (p : Addr) (ts : List Addr), Same H1 H' → H1 p = none → (∀ t ∈ ts, H1 t = none) → p ∉ ts → ts.Nodup → H' p = some (.lst (ts.map V.ref)) → ts.length = xs.length →
    (∀ (i : Nat) (t : Addr) (x y : V), ts[i]? = some t → xs[i]? = some x → ys[i]? = some y → H' t = some (.tup [x, y])) → Q (.ref p) H') : tListZip K false ta σ H Q := h
def dP (q : Int × Int) : PyData := .tuple [.int q.1, .int q.2]
/-- a list of pairs of ints, the pairs where G holds -/
structure PairsAt (G : Addr → Prop) (H : Hp) (p : Addr) (as : List Addr) (qs : List (Int × Int)) : Prop where
  hp : H p = some (.lst (as.map V.ref))
  len : as.length = qs.length
  it : ∀ (i : Nat) (a : Addr) (q : Int × Int), as[i]? = some a → qs[i]? = some q → H a = some (.tup [.int q.1, .int q.2]) ∧ G a
theorem PairsAt.same {G : Addr → Prop} {H H' : Hp} {p : Addr} {as : List Addr} {qs : List (Int × Int)} (h : PairsAt G H p as qs) (s : Same H H') : PairsAt G H' p as qs :=
  ⟨s _ _ h.hp, h.len, fun i a q e1 e2 => ⟨s _ _ (h.it i a q e1 e2).1, (h.it i a q e1 e2).2⟩⟩
theorem PairsAt.weak {G G' : Addr → Prop} {H : Hp} {p : Addr} {as : List Addr} {qs : List (Int × Int)} (h : PairsAt G H p as qs) (g : ∀ a, G a → G' a) : PairsAt G' H p as qs :=
  ⟨h.hp, h.len, fun i a q e1 e2 => ⟨(h.it i a q e1 e2).1, g _ (h.it i a q e1 e2).2⟩⟩
theorem PairsAt.kpl {L : List Addr} {G : Addr → Prop} {H H' : Hp} {p : Addr} {as : List Addr} {qs : List (Int × Int)} (h : PairsAt G H p as qs) (k : KpL L H H') (np : p ∉ L) (hG : ∀ a, G a → a ∉ L) : PairsAt G H' p as qs :=
  ⟨k _ _ np h.hp, h.len, fun i a q e1 e2 => ⟨k _ _ (hG _ (h.it i a q e1 e2).2) (h.it i a q e1 e2).1, (h.it i a q e1 e2).2⟩⟩
theorem PairsAt.at {G : Addr → Prop} {H : Hp} {p : Addr} {as : List Addr} {qs : List (Int × Int)} (h : PairsAt G H p as qs) {i : Nat} (hi : i < qs.length) : ∃ t, (as.map V.ref)[i]? = some (.ref t) ∧ H t = some (.tup [.int (qs[i]).1, .int (qs[i]).2]) ∧ G t := by
  have hi' : i < as.length := by rw [h.len]; exact hi
  have e := List.getElem?_eq_getElem hi'
  have e2 := List.getElem?_eq_getElem hi
  refine ⟨as[i], by rw [List.getElem?_map, e]; rfl, (h.it i _ _ e e2).1, (h.it i _ _ e e2).2⟩
theorem PairsAt.tr {G : Addr → Prop} {H : Hp} {p : Addr} {as : List Addr} {qs : List (Int × Int)} (h : PairsAt G H p as qs) (gp : G p) (hl : qs.length ≤ 100000) : Tr G H (.ref p) (.list (qs.map dP)) := by
  refine .lst h.hp gp (by rw [List.length_map, h.len]; exact hl) (TrAll.of (by rw [List.length_map, List.length_map, h.len]) fun i v d e1 e2 => ?_)
  rw [List.getElem?_map] at e1 e2
  cases ea : as[i]? with
  | none => rw [ea] at e1; cases e1
  | some a =>
    cases eq : qs[i]? with
    | none => rw [eq] at e2; cases e2
    | some q =>
      rw [ea] at e1
      rw [eq] at e2
      cases e1; cases e2
      have z := h.it i a q ea eq
      exact .tup z.1 z.2 (by show 2 ≤ 100000; decide) (.cons (.int _) (.cons (.int _) .nil))
theorem shows_dP {q : Int × Int} {k : Nat} (hk : 0 < k) (hk2 : k ≤ 250) (h0 : 0 ≤ q.1) (h1 : q.1 < 10 ^ k) (h2 : 0 ≤ q.2) (h3 : q.2 < 10 ^ k) : Shows (dP q) 1 (2 * (k + 2) + 3) :=
  shows_tup (n := 2) (fun d hd => by
    simp only [List.mem_cons, List.not_mem_nil, or_false] at hd
    rcases hd with rfl | rfl
    · exact shows_int hk hk2 h0 h1
    · exact shows_int hk hk2 h2 h3) (Nat.le_refl _)
end Lx

namespace Lx
open PySem PySem.Spec PyProof.Rows L2
/-! ### a text repeated -/
def strRep (z : Str) (n : Nat) : Str := ⟨(List.replicate n z.cps.toList).flatten.toArray⟩
theorem foldl_reps (a : Array Nat) : ∀ (n : Nat) (acc : Array Nat), (List.replicate n a).foldl (· ++ ·) acc = acc ++ (List.replicate n a.toList).flatten.toArray
  | 0, acc => by simp
  | n + 1, acc => by
    rw [List.replicate_succ, List.foldl_cons, foldl_reps a n (acc ++ a), List.replicate_succ, List.flatten_cons]
    rw [Array.append_assoc]
    congr 1
    apply Array.ext'
    simp
def rMulS : R2 := fun x y H Q => ∃ z k, x = .str z ∧ y = .int k ∧ -100000 ≤ k ∧ k ≤ 100000 ∧ z.length * k.toNat ≤ 100000 ∧ Q (.str (strRep z k.toNat)) H
theorem op_mulS {X : Cx} : OpR X (binaryOp .Mult) rMulS := by
  intro pins s σ H x y v u Q I rx ry h
  obtain ⟨z, k, rfl, rfl, h1, h2, h3, q⟩ := h
  obtain ⟨t, rfl⟩ := rx
  obtain ⟨t', rfl⟩ := ry
  refine P.mul_str ?_ ?_ ?_ ?_
  · rw [decide_eq_false (by omega), decide_eq_false (by omega)]; rfl
  · intro k1 k2
    have hp : (0 : Int) < k := by omega
    have : (100000 : Int) ≤ (2 ^ 63 - 1) / k := by
      rw [Int.le_ediv_iff_mul_le hp]
      have : 100000 * k ≤ 100000 * 100000 := by omega
      exact Int.le_trans this (by decide)
    have hz : (z.length : Int) ≤ 100000 := by
      have e : 1 ≤ k.toNat := by omega
      have := Nat.mul_le_mul_left z.length e
      omega
    omega
  · intro k1 k2
    show Builtin.Str.tooLong _ = false
    unfold Builtin.Str.tooLong
    refine decide_eq_false ?_
    have : (100000 : Nat) ≤ sizeLine := by decide
    omega
  · by_cases k1 : k < 1
    · rw [if_pos k1]
      have e : k.toNat = 0 := by omega
      rw [e] at q
      exact ⟨by decide, ⟨.str Str.empty, H, I.tok _, ⟨_, rfl⟩, q⟩⟩
    · rw [if_neg k1]
      by_cases k2 : (k == 1 || z.length == 0) = true
      · rw [if_pos k2]
        have e : strRep z k.toNat = z := by
          rcases Bool.or_eq_true _ _ ▸ k2 with k3 | k3
          · have : k = 1 := by simpa using k3
            subst this
            unfold strRep
            cases z
            simp
          · have hz : z.cps.size = 0 := by
              have : z.length = 0 := by simpa using k3
              exact this
            have hz2 : z.cps = #[] := Array.size_eq_zero_iff.mp hz
            unfold strRep
            cases z
            simp at hz2
            subst hz2
            simp
        rw [e] at q
        exact ⟨.str z, H, I, ⟨_, rfl⟩, q⟩
      · rw [if_neg k2]
        have e : (⟨(List.replicate k.toNat z.cps).foldl (· ++ ·) #[]⟩ : Str) = strRep z k.toNat := by
          unfold strRep
          rw [foldl_reps]
          simp
        rw [e]
        refine ⟨?_, ⟨.str (strRep z k.toNat), H, I.tok _, ⟨_, rfl⟩, q⟩⟩
        have : (strRep z k.toNat).length = z.length * k.toNat := by
          unfold strRep
          show ((List.replicate k.toNat z.cps.toList).flatten.toArray).size = z.cps.size * k.toNat
          simp [Nat.mul_comm]
        rw [this]
        exact sz h3
theorem r_mulS {H : Hp} {Q : VK} {z : Str} {k : Int} (h1 : -100000 ≤ k) (h2 : k ≤ 100000) (h3 : z.length * k.toNat ≤ 100000) (q : Q (.str (strRep z k.toNat)) H) : rMulS (.str z) (.int k) H Q := ⟨z, k, rfl, rfl, h1, h2, h3, q⟩
end Lx

namespace Lx
open PySem PySem.Spec PyProof.Rows L2
/-! ### comprehensions over lists of ints, of pairs -/
theorem range_getD {α : Type} (xs : List α) (d : α) : (List.range xs.length).map (fun i => xs.getD i d) = xs := by
  apply List.ext_getElem?
  intro i
  rw [List.getElem?_map]
  by_cases h : i < xs.length
  · rw [List.getElem?_range h, List.getElem?_eq_getElem h]
    show some (xs.getD i d) = some xs[i]
    rw [List.getD_eq_getElem?_getD, List.getElem?_eq_getElem h]
    rfl
  · rw [List.getElem?_eq_none (by rw [List.length_range]; omega), List.getElem?_eq_none (by omega)]
    rfl
theorem giv_of {α : Type} (xs : List α) (d : α) (P : α → Bool) (F : α → V) : giv xs.length (fun i => P (xs.getD i d)) (fun i => F (xs.getD i d)) = (xs.filter P).map F := by
  unfold giv
  conv => rhs; rw [← range_getD xs d]
  rw [List.filter_map, List.map_map]
  rfl
theorem getD_el {α : Type} {xs : List α} {d : α} {i : Nat} (h : i < xs.length) : xs.getD i d = xs[i] := by
  rw [List.getD_eq_getElem?_getD, List.getElem?_eq_getElem h]; rfl
section
variable {K : PySem.W.Frag} {a : Addr} {g : TG} {tt : TT} {te : TE} {vs : List Nat} {σ : L2.St} {H1 : Hp} {Dl : Addr} {Qd : Hp → Prop}
/-- over a list of ints -/
theorem lc_ints {ns : List Int} (h : SqL K H1 a (vI ns)) (hl : ns.length ≤ 100000) (P : Int → Bool) (F : Int → V)
    (hs : ∀ (x : Int) (H' : Hp) (Yes : V → Hp → Prop) (No : Hp → Prop), Same H1 H' → x ∈ ns → (P x = true → ∀ H4, Same H' H4 → Yes (F x) H4) → (P x = false → ∀ H3, Same H' H3 → No H3) →
      g (.int x) (wipe σ vs) H' fun σ2 H2 => wipe σ2 vs = wipe σ vs ∧ tt σ2 H2 fun b H3 => if b = true then te σ2 H3 Yes else No H3)
    (hD : H1 Dl = none) (q : ∀ H', Same H1 H' → H' Dl = some (.lst ((ns.filter P).map F)) → Qd H') :
    ∃ W : Nat → Nat → Hp → Prop, (∃ m, W 0 m (upd H1 Dl (.lst []))) ∧ ∀ i m H, W i m H →
      ((Itl K a).stop i H ∧ Qd H) ∨ ((Itl K a).go i H ∧ ∃ Nx : Hp → Prop, (∀ H', Nx H' → ∃ m', m' < m ∧ W (i + 1) m' H') ∧ ∀ x H', (Itl K a).yld i H x H' → g x (wipe σ vs) H' fun σ2 H2 => wipe σ2 vs = wipe σ vs ∧ tt σ2 H2 fun b H3 =>
        if b = true then te σ2 H3 fun y H4 => ∃ acc, H4 Dl = some (.lst acc) ∧ acc.length < sizeLine ∧ Nx (upd H4 Dl (.lst (acc ++ [y]))) else Nx H3) := by
  refine lc_pure (src_list (xs := vI ns)) (fun i => P (ns.getD i 0)) (fun i => F (ns.getD i 0)) (by rw [vI_len]; exact hl) (fun H' s' => s'.seq h) ?_ hD fun H' s' hd => q H' s' ?_
  · rintro i x H' H'' Yes No hi s' ⟨rfl, hx⟩ hY hN
    rw [vI_len] at hi
    rw [vI_at hi] at hx
    cases hx
    rw [getD_el hi] at hY hN
    exact hs _ _ Yes No s' (List.getElem_mem hi) hY hN
  · rw [hd, vI_len, giv_of]
/-- over a tuple of ints -/
theorem lc_intsT {ns : List Int} (h : SqT K H1 a (vI ns)) (hl : ns.length ≤ 100000) (P : Int → Bool) (F : Int → V)
    (hs : ∀ (x : Int) (H' : Hp) (Yes : V → Hp → Prop) (No : Hp → Prop), Same H1 H' → x ∈ ns → (P x = true → ∀ H4, Same H' H4 → Yes (F x) H4) → (P x = false → ∀ H3, Same H' H3 → No H3) →
      g (.int x) (wipe σ vs) H' fun σ2 H2 => wipe σ2 vs = wipe σ vs ∧ tt σ2 H2 fun b H3 => if b = true then te σ2 H3 Yes else No H3)
    (hD : H1 Dl = none) (q : ∀ H', Same H1 H' → H' Dl = some (.lst ((ns.filter P).map F)) → Qd H') :
    ∃ W : Nat → Nat → Hp → Prop, (∃ m, W 0 m (upd H1 Dl (.lst []))) ∧ ∀ i m H, W i m H →
      ((Itt K a).stop i H ∧ Qd H) ∨ ((Itt K a).go i H ∧ ∃ Nx : Hp → Prop, (∀ H', Nx H' → ∃ m', m' < m ∧ W (i + 1) m' H') ∧ ∀ x H', (Itt K a).yld i H x H' → g x (wipe σ vs) H' fun σ2 H2 => wipe σ2 vs = wipe σ vs ∧ tt σ2 H2 fun b H3 =>
        if b = true then te σ2 H3 fun y H4 => ∃ acc, H4 Dl = some (.lst acc) ∧ acc.length < sizeLine ∧ Nx (upd H4 Dl (.lst (acc ++ [y]))) else Nx H3) := by
  refine lc_pure (src_tup (xs := vI ns)) (fun i => P (ns.getD i 0)) (fun i => F (ns.getD i 0)) (by rw [vI_len]; exact hl) (fun H' s' => s'.seqT h) ?_ hD fun H' s' hd => q H' s' ?_
  · rintro i x H' H'' Yes No hi s' ⟨rfl, hx⟩ hY hN
    rw [vI_len] at hi
    rw [vI_at hi] at hx
    cases hx
    rw [getD_el hi] at hY hN
    exact hs _ _ Yes No s' (List.getElem_mem hi) hY hN
  · rw [hd, vI_len, giv_of]
/-- over a list of pairs -/
theorem lc_pairs {G : Addr → Prop} {as : List Addr} {qs : List (Int × Int)} (h : PairsAt G H1 a as qs) (hl : qs.length ≤ 100000) (P : Int × Int → Bool) (F : Int × Int → V)
    (hs : ∀ (t : Addr) (x y : Int) (H' : Hp) (Yes : V → Hp → Prop) (No : Hp → Prop), Same H1 H' → (x, y) ∈ qs → H' t = some (.tup [.int x, .int y]) → (P (x, y) = true → ∀ H4, Same H' H4 → Yes (F (x, y)) H4) → (P (x, y) = false → ∀ H3, Same H' H3 → No H3) →
      g (.ref t) (wipe σ vs) H' fun σ2 H2 => wipe σ2 vs = wipe σ vs ∧ tt σ2 H2 fun b H3 => if b = true then te σ2 H3 Yes else No H3)
    (hD : H1 Dl = none) (q : ∀ H', Same H1 H' → H' Dl = some (.lst ((qs.filter P).map F)) → Qd H') :
    ∃ W : Nat → Nat → Hp → Prop, (∃ m, W 0 m (upd H1 Dl (.lst []))) ∧ ∀ i m H, W i m H →
      ((Itl K a).stop i H ∧ Qd H) ∨ ((Itl K a).go i H ∧ ∃ Nx : Hp → Prop, (∀ H', Nx H' → ∃ m', m' < m ∧ W (i + 1) m' H') ∧ ∀ x H', (Itl K a).yld i H x H' → g x (wipe σ vs) H' fun σ2 H2 => wipe σ2 vs = wipe σ vs ∧ tt σ2 H2 fun b H3 =>
        if b = true then te σ2 H3 fun y H4 => ∃ acc, H4 Dl = some (.lst acc) ∧ acc.length < sizeLine ∧ Nx (upd H4 Dl (.lst (acc ++ [y]))) else Nx H3) := by
  refine lc_pure (src_list (xs := as.map V.ref)) (fun i => P (qs.getD i (0, 0))) (fun i => F (qs.getD i (0, 0))) (by rw [List.length_map, h.len]; exact hl) (fun H' s' => lst_of (s' _ _ h.hp)) ?_ hD fun H' s' hd => q H' s' ?_
  · rintro i x H' H'' Yes No hi s' ⟨rfl, hx⟩ hY hN
    rw [List.length_map, h.len] at hi
    obtain ⟨t, e1, e2, _⟩ := h.at hi
    rw [e1] at hx
    cases hx
    rw [getD_el hi] at hY hN
    exact hs t _ _ _ Yes No s' (List.getElem_mem hi) (s' _ _ e2) hY hN
  · rw [hd, List.length_map, h.len, giv_of]
end
theorem PairsAt.app {G : Addr → Prop} {H : Hp} {p t : Addr} {as : List Addr} {qs : List (Int × Int)} {x y : Int} (h : PairsAt G H p as qs) (ht : H t = some (.tup [.int x, .int y])) (g : G t) : PairsAt G (upd H p (.lst (as.map V.ref ++ [.ref t]))) p (as ++ [t]) (qs ++ [(x, y)]) := by
  refine ⟨by rw [upd_same, List.map_append]; rfl, by rw [List.length_append, List.length_append, h.len]; rfl, fun i a q e1 e2 => ?_⟩
  have key : ∀ (b : Addr) (z : Int × Int), H b = some (.tup [.int z.1, .int z.2]) → upd H p (.lst (as.map V.ref ++ [.ref t])) b = some (.tup [.int z.1, .int z.2]) := by
    intro b z e
    have ne : b ≠ p := fun w => by rw [w, h.hp] at e; cases e
    exact (upd_ne ne).trans e
  by_cases hi : i < as.length
  · rw [List.getElem?_append_left hi] at e1
    rw [List.getElem?_append_left (by rw [← h.len]; exact hi)] at e2
    exact ⟨key a q (h.it i a q e1 e2).1, (h.it i a q e1 e2).2⟩
  · have hi' : i = as.length := by
      have := (List.getElem?_eq_some_iff.mp e1).1
      rw [List.length_append, List.length_singleton] at this
      omega
    subst hi'
    rw [List.getElem?_append_right (Nat.le_refl _), Nat.sub_self] at e1
    rw [List.getElem?_append_right (by rw [h.len]; exact Nat.le_refl _), h.len, Nat.sub_self] at e2
    cases e1; cases e2
    exact ⟨key t _ ht, g⟩
theorem PairsAt.upd {G : Addr → Prop} {H : Hp} {p x : Addr} {o : HO} {as : List Addr} {qs : List (Int × Int)} {ys : List V} (h : PairsAt G H p as qs) (n : p ≠ x) (hx : H x = some (.lst ys)) : PairsAt G (L2.upd H x o) p as qs :=
  ⟨(upd_ne n).trans h.hp, h.len, fun i a q e1 e2 => by
    obtain ⟨z, g⟩ := h.it i a q e1 e2
    have ne : a ≠ x := fun w => by rw [w, hx] at z; cases z
    exact ⟨(upd_ne ne).trans z, g⟩⟩
theorem PairsAt.take {G : Addr → Prop} {H H' : Hp} {p p' : Addr} {as : List Addr} {qs : List (Int × Int)} (h : PairsAt G H p as qs) (k : Nat) (s : Same H H') (hp' : H' p' = some (.lst ((as.map V.ref).take k))) : PairsAt G H' p' (as.take k) (qs.take k) :=
  ⟨by rw [hp', List.map_take], by rw [List.length_take, List.length_take, h.len], fun i a q e1 e2 => by
    rw [List.getElem?_take] at e1 e2
    split at e1
    · rename_i hk
      rw [if_pos hk] at e2
      exact ⟨s _ _ (h.it i a q e1 e2).1, (h.it i a q e1 e2).2⟩
    · cases e1⟩
theorem PairsAt.drop {G : Addr → Prop} {H H' : Hp} {p p' : Addr} {as : List Addr} {qs : List (Int × Int)} (h : PairsAt G H p as qs) (k : Nat) (s : Same H H') (hp' : H' p' = some (.lst ((as.map V.ref).drop k))) : PairsAt G H' p' (as.drop k) (qs.drop k) :=
  ⟨by rw [hp', List.map_drop], by rw [List.length_drop, List.length_drop, h.len], fun i a q e1 e2 => by
    rw [List.getElem?_drop] at e1 e2
    exact ⟨s _ _ (h.it (k + i) a q e1 e2).1, (h.it (k + i) a q e1 e2).2⟩⟩
theorem PairsAt.nil {G : Addr → Prop} {H : Hp} {p : Addr} (h : H p = some (.lst [])) : PairsAt G H p [] [] := ⟨h, rfl, fun i a q e _ => by simp at e⟩
/-! ### the greatest of ints -/
def maxI : List Int → Int
  | [] => 0
  | a :: r => if r = [] then a else if maxI r ≤ a then a else maxI r
theorem maxI_mem : ∀ {ns : List Int}, ns ≠ [] → maxI ns ∈ ns
  | [], h => absurd rfl h
  | a :: r, _ => by
    unfold maxI
    split
    · exact List.mem_cons_self
    · rename_i hr
      split
      · exact List.mem_cons_self
      · exact List.mem_cons_of_mem _ (maxI_mem hr)
theorem le_maxI : ∀ {ns : List Int} {y : Int}, y ∈ ns → y ≤ maxI ns
  | a :: r, y, h => by
    unfold maxI
    split
    · rename_i hr
      subst hr
      rw [List.mem_singleton] at h
      omega
    · rename_i hr
      rcases List.mem_cons.mp h with e | h
      · split <;> omega
      · have ih := le_maxI h
        split <;> omega
theorem maxI_eq {ns : List Int} {m : Int} (h : m ∈ ns) (l : ∀ y ∈ ns, y ≤ m) : m = maxI ns := by
  have h1 := le_maxI h
  have h2 := l _ (maxI_mem fun e => by rw [e] at h; cases h)
  omega
theorem r_max {K : PySem.W.Frag} {H : Hp} {Q : VK} {a : Addr} {ns : List Int} (h : SqL K H a (vI ns)) (hn : 0 < ns.length) (q : Q (.int (maxI ns)) H) : rMax K [.ref a] H Q :=
  ⟨a, ns, rfl, h, hn, fun m hm hl => by rw [maxI_eq hm hl]; exact q⟩
theorem src_zipM {K : PySem.W.Frag} {a b : Addr} {xs ys : List V} : Src (Itz K a b) (min xs.length ys.length) (fun H => SqL K H a xs ∧ SqL K H b ys) (fun i v H H' => ∃ T x y, v = .ref T ∧ H T = none ∧ H' = upd H T (.tup [x, y]) ∧ xs[i]? = some x ∧ ys[i]? = some y) where
  go := fun i H h hi => ⟨xs, ys, xs[i]'(by omega), ys[i]'(by omega), h.1, h.2, List.getElem?_eq_getElem (by omega), List.getElem?_eq_getElem (by omega)⟩
  stop := fun H h => ⟨xs, ys, h.1, h.2, by omega⟩
  yld := fun i H v H' h _ y => by
    obtain ⟨T, x, z, e, n, u, f, g⟩ := y
    exact ⟨T, x, z, e, n, u, f xs h.1, g ys h.2⟩
theorem cut_neg1 (xs : List V) : cutV xs (some (-1)) none = xs.drop (xs.length - 1) := by
  unfold cutV
  rw [HT.sIx_none]
  have e : HT.sIx xs.length 0 (some (-1)) = xs.length - 1 := by
    show (if (-1 : Int) < 0 then ((-1 : Int) + (xs.length : Int)).toNat else min (-1 : Int).toNat xs.length) = _
    rw [if_pos (by decide)]
    omega
  rw [e]
  exact List.take_of_length_le (by rw [List.length_drop]; exact Nat.le_refl _)
/-! ### dict(pairs) -/
def rDictP (K : PySem.W.Frag) : List V → Hp → VK → Prop := fun xs H Q => ∃ (a : Addr) (ps : List Addr) (kvs : List (Key × V)), xs = [.ref a] ∧ SqL K H a (ps.map V.ref) ∧ Paired (fun p kv => SqT K H p [kV kv.1, kv.2]) ps kvs ∧
    ∀ p, H p = none → Q (.ref p) (upd H p (.dK (mergeK [] kvs)))
theorem k_dictP (K : PySem.W.Frag) {X : Cx} (h : X.K = K := by rfl) (hc : X.calm = true := by rfl) : CallR X (.type "dict") (rDictP K) := h ▸ call_dictP hc
theorem merge_num {ns : List Int} (hn : ns.Nodup) : ∀ m, m ≤ ns.length → mergeK [] (numTo ns m) = numTo ns m
  | 0, _ => rfl
  | m + 1, h => by
    have e : numTo ns (m + 1) = numTo ns m ++ [(.inl (ns.getD m 0), .int (m : Nat))] := by unfold numTo; rw [List.range_succ, List.map_append]; rfl
    have ih := merge_num hn m (by omega)
    conv => lhs; rw [e]
    unfold mergeK at ih ⊢
    rw [List.foldl_append, ih]
    exact numTo_succ hn (by omega)
theorem paired_of {α β : Type} {F : α → β → Prop} : ∀ {xs : List α} {ys : List β}, xs.length = ys.length → (∀ (i : Nat) (x : α) (y : β), xs[i]? = some x → ys[i]? = some y → F x y) → Paired F xs ys
  | [], [], _, _ => .nil
  | x :: xs, y :: ys, e, h => .cons (h 0 x y rfl rfl) (paired_of (Nat.succ.inj e) fun i x y a b => h (i + 1) x y (by simpa using a) (by simpa using b))
  | [], _ :: _, e, _ => by cases e
  | _ :: _, [], e, _ => by cases e
/-- dict of pairs (place, number) -/
theorem r_dictN {K : PySem.W.Frag} {G : Addr → Prop} {H : Hp} {Q : VK} {a : Addr} {as : List Addr} {ns : List Int} (hn : ns.Nodup) (hl : ns.length ≤ 100000) (h : PairsAt G H a as ((List.range ns.length).map fun j => (ns.getD j 0, ((j : Nat) : Int)))) (q : ∀ p, H p = none → ∀ H', H' = upd H p (.dK (numTo ns ns.length)) → IsD H' p (ixO ns) → Q (.ref p) H') : rDictP K [.ref a] H Q := by
  refine ⟨a, as, numTo ns ns.length, rfl, lst_of h.hp, paired_of (by rw [h.len, numTo_len, List.length_map, List.length_range]) fun i x y e1 e2 => ?_, fun p np => ?_⟩
  · have hi := (List.getElem?_eq_some_iff.mp e1).1
    rw [h.len, List.length_map, List.length_range] at hi
    unfold numTo at e2
    rw [List.getElem?_map, List.getElem?_range hi] at e2
    cases e2
    have := (h.it i x (ns.getD i 0, ((i : Nat) : Int)) e1 (by rw [List.getElem?_map, List.getElem?_range hi]; rfl)).1
    exact tup_of this
  · rw [merge_num hn _ (Nat.le_refl _)]
    exact q p np _ rfl ⟨_, upd_same, by rw [numTo_len]; exact hl, valV_all hn⟩
end Lx

namespace Lx
open PySem PySem.Spec PyProof.Rows L2
/-! ### one of two targets -/
def gOr (g1 g2 : TG) : TG := fun v σ H Q => g1 v σ H Q ∨ g2 v σ H Q
theorem pg_or {X : Cx} {t : Expr} {g1 g2 : TG} (h1 : PG X t g1) (h2 : PG X t g2) : PG X t (gOr g1 g2) :=
  ⟨fun pins s σ H v u Q I r h => h.elim (h1.run pins s σ H v u Q I r) (h2.run pins s σ H v u Q I r)⟩
theorem r_gOr {K : PySem.W.Frag} {σ : L2.St} {H : Hp} {R : L2.St → Hp → Prop} {n : Nat} {g1 g2 : TGs} {a : Addr} {xs : List V} (h : Sq H a xs) (e : xs.length = n) (q1 : g1 xs σ H R) (q2 : g2 xs σ H R) : gOr (gTup K n g1) (gUnl K n g2) (.ref a) σ H R :=
  h.elim (fun h => .inr ⟨a, xs, rfl, lst_of h, e, q2⟩) fun h => .inl ⟨a, xs, rfl, tup_of h, e, q1⟩
theorem r_gOr1 {K : PySem.W.Frag} {σ : L2.St} {H : Hp} {R : L2.St → Hp → Prop} {n : Nat} {g : TGs} {a : Addr} {xs : List V} (h : Sq H a xs) (e : xs.length = n) (q : g xs σ H R) : gOr (gTup K n g) (gUnl K n g) (.ref a) σ H R := r_gOr h e q q
theorem r_iOr {wi1 wi2 : TI} {σ : L2.St} {H : Hp} {R : It → Hp → Prop} (h : wi1 σ H R ∨ wi2 σ H R) : iOr wi1 wi2 σ H R := h
/-- a walk over a list or a tuple -/
theorem r_iSqV {K : PySem.W.Frag} {σ : L2.St} {H : Hp} {R : It → Hp → Prop} {i : Nat} {a : Addr} {xs : List V} (e : σ[i]? = some (some (.ref a))) (h : Sq H a xs)
    (q : ∀ (J : It) (OK : Hp → Prop), (∀ H', Same H H' → OK H') → Src J xs.length OK (fun i v H H' => H' = H ∧ xs[i]? = some v) → R J H) : iOr (iList K (tVar i)) (iTup K (tVar i)) σ H R :=
  h.elim (fun h => .inl ⟨.ref a, e, a, rfl, ⟨xs, lst_of h⟩, q _ (fun H' => SqL K H' a xs) (fun H' s => lst_of (s _ _ h)) src_list⟩) fun h => .inr ⟨.ref a, e, a, rfl, ⟨xs, tup_of h⟩, q _ (fun H' => SqT K H' a xs) (fun H' s => tup_of (s _ _ h)) src_tup⟩
/-! ### a list of tuples -/
structure TupsAt {α : Type} (f : α → List V) (G : Addr → Prop) (H : Hp) (p : Addr) (as : List Addr) (qs : List α) : Prop where
  hp : H p = some (.lst (as.map V.ref))
  len : as.length = qs.length
  it : ∀ (i : Nat) (a : Addr) (q : α), as[i]? = some a → qs[i]? = some q → H a = some (.tup (f q)) ∧ G a
section
variable {α : Type} {f : α → List V} {G G' : Addr → Prop} {H H' : Hp} {p : Addr} {as : List Addr} {qs : List α}
theorem TupsAt.same (h : TupsAt f G H p as qs) (s : Same H H') : TupsAt f G H' p as qs :=
  ⟨s _ _ h.hp, h.len, fun i a q e1 e2 => ⟨s _ _ (h.it i a q e1 e2).1, (h.it i a q e1 e2).2⟩⟩
theorem TupsAt.weak (h : TupsAt f G H p as qs) (g : ∀ a, G a → G' a) : TupsAt f G' H p as qs :=
  ⟨h.hp, h.len, fun i a q e1 e2 => ⟨(h.it i a q e1 e2).1, g _ (h.it i a q e1 e2).2⟩⟩
theorem TupsAt.kpl {L : List Addr} (h : TupsAt f G H p as qs) (k : KpL L H H') (np : p ∉ L) (hG : ∀ a, G a → a ∉ L) : TupsAt f G H' p as qs :=
  ⟨k _ _ np h.hp, h.len, fun i a q e1 e2 => ⟨k _ _ (hG _ (h.it i a q e1 e2).2) (h.it i a q e1 e2).1, (h.it i a q e1 e2).2⟩⟩
theorem TupsAt.kp {r : Addr} {ys : List V} (h : TupsAt f G H p as qs) (k : Kp r H H') (hr : H r = some (.lst ys)) (np : p ≠ r) : TupsAt f G H' p as qs :=
  ⟨k _ _ np h.hp, h.len, fun i a q e1 e2 => by
    obtain ⟨z, g⟩ := h.it i a q e1 e2
    exact ⟨k _ _ (fun w => by rw [w, hr] at z; cases z) z, g⟩⟩
theorem TupsAt.any (h : TupsAt f G H p as qs) : TupsAt f (fun _ => True) H p as qs := h.weak fun _ _ => trivial
theorem TupsAt.at (h : TupsAt f G H p as qs) {i : Nat} (hi : i < qs.length) : ∃ t, (as.map V.ref)[i]? = some (.ref t) ∧ H t = some (.tup (f qs[i])) ∧ G t := by
  have hi' : i < as.length := by rw [h.len]; exact hi
  have e := List.getElem?_eq_getElem hi'
  have e2 := List.getElem?_eq_getElem hi
  exact ⟨as[i], by rw [List.getElem?_map, e]; rfl, (h.it i _ _ e e2).1, (h.it i _ _ e e2).2⟩
theorem TupsAt.nil (h : H p = some (.lst [])) : TupsAt f G H p [] ([] : List α) := ⟨h, rfl, fun i a q e _ => by simp at e⟩
theorem TupsAt.app {t : Addr} {q : α} (h : TupsAt f G H p as qs) (ht : H t = some (.tup (f q))) (g : G t) : TupsAt f G (upd H p (.lst (as.map V.ref ++ [.ref t]))) p (as ++ [t]) (qs ++ [q]) := by
  refine ⟨by rw [upd_same, List.map_append]; rfl, by rw [List.length_append, List.length_append, h.len]; rfl, fun i a r e1 e2 => ?_⟩
  have key : ∀ (b : Addr) (z : α), H b = some (.tup (f z)) → upd H p (.lst (as.map V.ref ++ [.ref t])) b = some (.tup (f z)) := by
    intro b z e
    have ne : b ≠ p := fun w => by rw [w, h.hp] at e; cases e
    exact (upd_ne ne).trans e
  by_cases hi : i < as.length
  · rw [List.getElem?_append_left hi] at e1
    rw [List.getElem?_append_left (by rw [← h.len]; exact hi)] at e2
    exact ⟨key a r (h.it i a r e1 e2).1, (h.it i a r e1 e2).2⟩
  · have hi' : i = as.length := by
      have := (List.getElem?_eq_some_iff.mp e1).1
      rw [List.length_append, List.length_singleton] at this
      omega
    subst hi'
    rw [List.getElem?_append_right (Nat.le_refl _), Nat.sub_self] at e1
    rw [List.getElem?_append_right (by rw [h.len]; exact Nat.le_refl _), h.len, Nat.sub_self] at e2
    cases e1; cases e2
    exact ⟨key t _ ht, g⟩
theorem TupsAt.upd {x : Addr} {o : HO} {ys : List V} (h : TupsAt f G H p as qs) (n : p ≠ x) (hx : H x = some (.lst ys)) : TupsAt f G (L2.upd H x o) p as qs :=
  ⟨(upd_ne n).trans h.hp, h.len, fun i a q e1 e2 => by
    obtain ⟨z, g⟩ := h.it i a q e1 e2
    have ne : a ≠ x := fun w => by rw [w, hx] at z; cases z
    exact ⟨(upd_ne ne).trans z, g⟩⟩
theorem TupsAt.single {t : Addr} {q : α} (hp : H p = some (.lst [.ref t])) (ht : H t = some (.tup (f q))) (g : G t) : TupsAt f G H p [t] [q] := by
  refine ⟨hp, rfl, fun i a r e1 e2 => ?_⟩
  match i, e1, e2 with
  | 0, e1, e2 => cases e1; cases e2; exact ⟨ht, g⟩
  | i + 1, e1, e2 => simp at e1
theorem TupsAt.cat {p2 : Addr} {as2 : List Addr} {qs2 : List α} {u : Addr} (h : TupsAt f G H p as qs) (h2 : TupsAt f G H p2 as2 qs2) (s : Same H H') (hu : H' u = some (.lst (as.map V.ref ++ as2.map V.ref))) : TupsAt f G H' u (as ++ as2) (qs ++ qs2) := by
  refine ⟨by rw [hu, List.map_append], by rw [List.length_append, List.length_append, h.len, h2.len], fun i a q e1 e2 => ?_⟩
  by_cases hi : i < as.length
  · rw [List.getElem?_append_left hi] at e1
    rw [List.getElem?_append_left (by rw [← h.len]; exact hi)] at e2
    exact ⟨s _ _ (h.it i a q e1 e2).1, (h.it i a q e1 e2).2⟩
  · rw [List.getElem?_append_right (by omega)] at e1
    rw [List.getElem?_append_right (by rw [← h.len]; omega), ← h.len] at e2
    exact ⟨s _ _ (h2.it _ a q e1 e2).1, (h2.it _ a q e1 e2).2⟩
end
section
variable {α : Type} {K : PySem.W.Frag} {a : Addr} {g : TG} {tt : TT} {te : TE} {vs : List Nat} {σ : L2.St} {H1 : Hp} {Dl : Addr} {Qd : Hp → Prop}
/-- a comprehension over a list of tuples -/
theorem lc_tups {f : α → List V} {G : Addr → Prop} {as : List Addr} {qs : List α} (h : TupsAt f G H1 a as qs) (hl : qs.length ≤ 100000) (P : α → Bool) (F : α → V)
    (hs : ∀ (t : Addr) (q : α) (H' : Hp) (Yes : V → Hp → Prop) (No : Hp → Prop), Same H1 H' → q ∈ qs → H' t = some (.tup (f q)) → (P q = true → ∀ H4, Same H' H4 → Yes (F q) H4) → (P q = false → ∀ H3, Same H' H3 → No H3) →
      g (.ref t) (wipe σ vs) H' fun σ2 H2 => wipe σ2 vs = wipe σ vs ∧ tt σ2 H2 fun b H3 => if b = true then te σ2 H3 Yes else No H3)
    (hD : H1 Dl = none) (q : ∀ H', Same H1 H' → H' Dl = some (.lst ((qs.filter P).map F)) → Qd H') :
    ∃ W : Nat → Nat → Hp → Prop, (∃ m, W 0 m (upd H1 Dl (.lst []))) ∧ ∀ i m H, W i m H →
      ((Itl K a).stop i H ∧ Qd H) ∨ ((Itl K a).go i H ∧ ∃ Nx : Hp → Prop, (∀ H', Nx H' → ∃ m', m' < m ∧ W (i + 1) m' H') ∧ ∀ x H', (Itl K a).yld i H x H' → g x (wipe σ vs) H' fun σ2 H2 => wipe σ2 vs = wipe σ vs ∧ tt σ2 H2 fun b H3 =>
        if b = true then te σ2 H3 fun y H4 => ∃ acc, H4 Dl = some (.lst acc) ∧ acc.length < sizeLine ∧ Nx (upd H4 Dl (.lst (acc ++ [y]))) else Nx H3) := by
  by_cases he : qs = []
  · subst he
    have ea : as = [] := List.length_eq_zero_iff.mp h.len
    subst ea
    refine lc_src (src_list (xs := ([] : List V))) (fun i H' => Same H1 H' ∧ H' Dl = some (.lst [])) (fun i H' h' => lst_of (h'.1 _ _ h.hp)) ⟨same_new hD, upd_same⟩ (fun i v H H' hi => absurd hi (Nat.not_lt_zero _)) (fun H' h' => q H' h'.1 h'.2)
  · have d : α := qs.head he
    refine lc_pure (src_list (xs := as.map V.ref)) (fun i => P (qs.getD i d)) (fun i => F (qs.getD i d)) (by rw [List.length_map, h.len]; exact hl) (fun H' s' => lst_of (s' _ _ h.hp)) ?_ hD fun H' s' hd => q H' s' ?_
    · rintro i x H' H'' Yes No hi s' ⟨rfl, hx⟩ hY hN
      rw [List.length_map, h.len] at hi
      obtain ⟨t, e1, e2, _⟩ := h.at hi
      rw [e1] at hx
      cases hx
      rw [getD_el hi] at hY hN
      exact hs t _ _ Yes No s' (List.getElem_mem hi) (s' _ _ e2) hY hN
    · rw [hd, List.length_map, h.len, giv_of]
end
/-! ### two clauses -/
section
variable {J : It} {n : Nat} {OK : Hp → Prop} {item : Nat → V → Hp → Hp → Prop} {g g1 : TG} {tt tt1 : TT} {wi1 : TI} {te : TE} {vs vs1 : List Nat} {σ : L2.St} {H1 : Hp} {Dl : Addr} {Qd : Hp → Prop}
theorem r_lc2 {wi : TI} {Q : VK} {H : Hp} (h : wi σ H fun J H1 => ∀ D, H1 D = none → ∃ W : Nat → Nat → Hp → Prop, (∃ m, W 0 m (upd H1 D (.lst []))) ∧ ∀ i m H, W i m H →
  (J.stop i H ∧ Q (.ref D) H) ∨ (J.go i H ∧ ∃ Nx : Hp → Prop, (∀ H', Nx H' → ∃ m', m' < m ∧ W (i + 1) m' H') ∧ ∀ x H', J.yld i H x H' → g x (wipe σ vs) H' fun σ2 H2 => wipe σ2 vs = wipe σ vs ∧ tt σ2 H2 fun b H3 =>
    if b = true then wi1 σ2 H3 fun J1 H4 => ∃ W1 : Nat → Nat → Hp → Prop, (∃ m, W1 0 m H4) ∧ ∀ j k H, W1 j k H →
      (J1.stop j H ∧ Nx H) ∨ (J1.go j H ∧ ∃ Nx1 : Hp → Prop, (∀ H', Nx1 H' → ∃ k', k' < k ∧ W1 (j + 1) k' H') ∧ ∀ x H', J1.yld j H x H' → g1 x (wipe σ2 vs1) H' fun σ3 H5 => wipe σ3 vs1 = wipe σ2 vs1 ∧ tt1 σ3 H5 fun b H6 =>
        if b = true then te σ3 H6 fun y H7 => ∃ acc, H7 D = some (.lst acc) ∧ acc.length < sizeLine ∧ Nx1 (upd H7 D (.lst (acc ++ [y]))) else Nx1 H6)
    else Nx H3)) : tLc2 wi g tt wi1 g1 tt1 te vs vs1 σ H Q := h
/-- the outer clause, by a word over the turn and the heap -/
theorem lc2_out (S : Src J n OK item) (Pv : Nat → Hp → Prop) (ok : ∀ i H, Pv i H → OK H) (h0 : Pv 0 (upd H1 Dl (.lst [])))
    (hs : ∀ i v H H', i < n → Pv i H → item i v H H' → g v (wipe σ vs) H' fun σ2 H2 => wipe σ2 vs = wipe σ vs ∧ tt σ2 H2 fun b H3 =>
      if b = true then wi1 σ2 H3 fun J1 H4 => ∃ W1 : Nat → Nat → Hp → Prop, (∃ m, W1 0 m H4) ∧ ∀ j k H, W1 j k H →
        (J1.stop j H ∧ Pv (i + 1) H) ∨ (J1.go j H ∧ ∃ Nx1 : Hp → Prop, (∀ H', Nx1 H' → ∃ k', k' < k ∧ W1 (j + 1) k' H') ∧ ∀ x H', J1.yld j H x H' → g1 x (wipe σ2 vs1) H' fun σ3 H5 => wipe σ3 vs1 = wipe σ2 vs1 ∧ tt1 σ3 H5 fun b H6 =>
          if b = true then te σ3 H6 fun y H7 => ∃ acc, H7 Dl = some (.lst acc) ∧ acc.length < sizeLine ∧ Nx1 (upd H7 Dl (.lst (acc ++ [y]))) else Nx1 H6)
      else Pv (i + 1) H3) (hd : ∀ H, Pv n H → Qd H) :
    ∃ W : Nat → Nat → Hp → Prop, (∃ m, W 0 m (upd H1 Dl (.lst []))) ∧ ∀ i m H, W i m H →
      (J.stop i H ∧ Qd H) ∨ (J.go i H ∧ ∃ Nx : Hp → Prop, (∀ H', Nx H' → ∃ m', m' < m ∧ W (i + 1) m' H') ∧ ∀ x H', J.yld i H x H' → g x (wipe σ vs) H' fun σ2 H2 => wipe σ2 vs = wipe σ vs ∧ tt σ2 H2 fun b H3 =>
        if b = true then wi1 σ2 H3 fun J1 H4 => ∃ W1 : Nat → Nat → Hp → Prop, (∃ m, W1 0 m H4) ∧ ∀ j k H, W1 j k H →
          (J1.stop j H ∧ Nx H) ∨ (J1.go j H ∧ ∃ Nx1 : Hp → Prop, (∀ H', Nx1 H' → ∃ k', k' < k ∧ W1 (j + 1) k' H') ∧ ∀ x H', J1.yld j H x H' → g1 x (wipe σ2 vs1) H' fun σ3 H5 => wipe σ3 vs1 = wipe σ2 vs1 ∧ tt1 σ3 H5 fun b H6 =>
            if b = true then te σ3 H6 fun y H7 => ∃ acc, H7 Dl = some (.lst acc) ∧ acc.length < sizeLine ∧ Nx1 (upd H7 Dl (.lst (acc ++ [y]))) else Nx1 H6)
        else Nx H3) := by
  refine ⟨fun i m H => i + m = n ∧ Pv i H, ⟨n, Nat.zero_add n, h0⟩, ?_⟩
  rintro i m H ⟨e, p⟩
  have o := ok i H p
  by_cases hi : i < n
  · refine .inr ⟨S.go i H o hi, Pv (i + 1), ?_, ?_⟩
    · intro H' p'
      exact ⟨m - 1, by omega, by omega, p'⟩
    · intro x H' y
      exact hs i x H H' hi p (S.yld i H x H' o hi y)
  · have ei : i = n := by omega
    subst ei
    exact .inl ⟨S.stop H o, hd H p⟩
/-- the inner clause -/
theorem lc2_in {Q1 : Hp → Prop} {σ2 : L2.St} {H4 : Hp} (S : Src J n OK item) (Pv : Nat → Hp → Prop) (ok : ∀ i H, Pv i H → OK H) (h0 : Pv 0 H4)
    (hs : ∀ i v H H', i < n → Pv i H → item i v H H' → g1 v (wipe σ2 vs1) H' fun σ3 H5 => wipe σ3 vs1 = wipe σ2 vs1 ∧ tt1 σ3 H5 fun b H6 =>
      if b = true then te σ3 H6 fun y H7 => ∃ acc, H7 Dl = some (.lst acc) ∧ acc.length < sizeLine ∧ Pv (i + 1) (upd H7 Dl (.lst (acc ++ [y]))) else Pv (i + 1) H6) (hd : ∀ H, Pv n H → Q1 H) :
    ∃ W1 : Nat → Nat → Hp → Prop, (∃ m, W1 0 m H4) ∧ ∀ j k H, W1 j k H →
      (J.stop j H ∧ Q1 H) ∨ (J.go j H ∧ ∃ Nx1 : Hp → Prop, (∀ H', Nx1 H' → ∃ k', k' < k ∧ W1 (j + 1) k' H') ∧ ∀ x H', J.yld j H x H' → g1 x (wipe σ2 vs1) H' fun σ3 H5 => wipe σ3 vs1 = wipe σ2 vs1 ∧ tt1 σ3 H5 fun b H6 =>
        if b = true then te σ3 H6 fun y H7 => ∃ acc, H7 Dl = some (.lst acc) ∧ acc.length < sizeLine ∧ Nx1 (upd H7 Dl (.lst (acc ++ [y]))) else Nx1 H6) := by
  refine ⟨fun i m H => i + m = n ∧ Pv i H, ⟨n, Nat.zero_add n, h0⟩, ?_⟩
  rintro i m H ⟨e, p⟩
  have o := ok i H p
  by_cases hi : i < n
  · refine .inr ⟨S.go i H o hi, Pv (i + 1), ?_, ?_⟩
    · intro H' p'
      exact ⟨m - 1, by omega, by omega, p'⟩
    · intro x H' y
      exact hs i x H H' hi p (S.yld i H x H' o hi y)
  · have ei : i = n := by omega
    subst ei
    exact .inl ⟨S.stop H o, hd H p⟩
end
end Lx

namespace Lx
open PySem PySem.Spec PyProof.Rows PySem.Calls L2
/-! ### enumerate(text) -/
def Ites (x : Str) : It :=
  ⟨fun i _ => i < x.cps.size, fun i H v H' => ∃ T c, v = .ref T ∧ H T = none ∧ H' = upd H T (.tup [.int (i : Nat), .str ⟨#[c]⟩]) ∧ x.cps[i]? = some c, fun i _ => i = x.cps.size⟩
theorem turn_enumS {P : Program} {w : World} {K : PySem.W.Frag} {elts : List Expr} {kk : Nat} {tpos : Pos} (x : Str) (t : Tok) (e it : Addr) :
    Turn P w K (.Tuple elts kk tpos) (Ites x) [e, it] e (fun i h => (∃ old, IsEnum h e it ((i : Nat) : Int) old) ∧ h.IsStrIter it (strIterType x) x t i ∧ e ≠ it) where
  mem := by simp
  obj := fun i h st b hb => by
    obtain ⟨⟨old, he⟩, ⟨o, ho, hc, hd⟩, _⟩ := st
    have e' : b = e ∨ b = it := by simpa using hb
    rcases e' with z | z
    · rw [z]; exact ⟨_, he, fun v q => nomatch q⟩
    · rw [z]; exact ⟨o, ho, fun v q => by rw [hd] at q; cases q⟩
  keep := fun i h h' st k => let ⟨⟨old, he⟩, ⟨o, ho, r⟩, hne⟩ := st; ⟨⟨old, k e (by simp) _ he⟩, ⟨o, k it (by simp) o ho, r⟩, hne⟩
  item := by
    intro X hP hw hK hc i pins s σ H E I hf st hg
    subst hP hw hK
    obtain ⟨⟨old, he⟩, hit, hne⟩ := st
    have hel : e < s.heap.objs.size := Heap.lt_size he
    have hil : it < s.heap.objs.size := by obtain ⟨_, q, _⟩ := hit; exact Heap.lt_size q
    have D := Draws.text (prog := X.prog) (w := X.w) (A := X.A.in1) (show X.A.in1.handled = none from I.ok.hd hc) it x t
    refine wpAny_pyNext_enum_itemD D he hit hg hne (fun z => hne (by simpa using z)) fun u h' tk hu ho hit' hT hsz hk => ?_
    obtain ⟨c, tt, hcx, rfl⟩ := hu
    refine ⟨_, rfl, wpAny_letOwnedTupleGo_enum (s := { s with heap := h', toks := tk + 1 }) ho fun h'' he' sb => ?_⟩
    have hT2 : h''.get? s.heap.objs.size = some { cls := .type "tuple", data := .seq #[.int i tk, .str ⟨#[c]⟩ tt] } := (sb.2 _ (Nat.ne_of_gt hel)).trans hT
    have new : ObjOk X.prog X.w (upd H s.heap.objs.size (.tup [.int (i : Nat), .str ⟨#[c]⟩])) h'' s.heap.objs.size (.tup [.int (i : Nat), .str ⟨#[c]⟩]) :=
      ⟨by show 2 ≤ sizeLine; decide, [.int i tk, .str ⟨#[c]⟩ tt], .cons ⟨_, rfl⟩ (.cons ⟨_, rfl⟩ .nil), ⟨_, hT2, rfl, _, rfl⟩⟩
    have I1 : Inv X pins σ (upd H s.heap.objs.size (.tup [.int (i : Nat), .str ⟨#[c]⟩])) { s with heap := h'', toks := tk + 1 } :=
      I.turnedNew (ch := [e, it]) (fun b ob hb q => (sb.2 b (fun z => hb (by simp [z]))).trans (hk b ob (fun z => hb (by simp [z])) (fun z => hb (by simp [z])) q)) hf (Nat.le_refl _) new
    refine ⟨.ref s.heap.objs.size, _, I1, rfl, ⟨_, c, rfl, I.hok.fresh (Nat.le_refl _), rfl, hcx⟩, ⟨⟨.str ⟨#[c]⟩ tt, ?_⟩, ?_, hne⟩, fun b hb => ?_⟩
    · have e1 : ((i + 1 : Nat) : Int) = (i : Int) + 1 := by omega
      rw [e1]; exact he'
    · obtain ⟨o, ho2, r⟩ := hit'
      exact ⟨o, (sb.2 it (Ne.symm hne)).trans ho2, r⟩
    · have hb' : b < s.heap.objs.size := by
        have e' : b = e ∨ b = it := by simpa using hb
        rcases e' with z | z
        · rw [z]; exact hel
        · rw [z]; exact hil
      rw [upd_ne (Nat.ne_of_lt hb')]
      exact (hf b hb).1
  done := by
    intro X hP hw hK hc i pins s σ H E I hf st hg
    subst hP hw hK
    obtain ⟨⟨old, he⟩, hit, hne⟩ := st
    obtain ⟨f0, f1, f2, f3, f4, f5⟩ := hf it (by simp)
    have hg : i = x.cps.size := hg
    subst hg
    have D := Draws.text (prog := X.prog) (w := X.w) (A := X.A.in1) (show X.A.in1.handled = none from I.ok.hd hc) it x t
    exact wpAny_pyNext_enum_endD D he hit fun h' eb => ⟨rfl, I.turned (t' := s.toks) (fun b o hb q => eb b o hb q) f0 f1 f3 f4 f5⟩
  self := fun A i s Q E st h => let ⟨⟨_, he⟩, _⟩ := st; wpAny_pyIter_enum he h
def iEnumS (ta : TA) : TI := fun σ H R => ta σ H fun vs H1 => ∃ x, vs = [.str x] ∧ R (Ites x) H1
theorem pi_enumS {X : Cx} {e : Expr} {ta : TA} {p pos tpos : Pos} {elts : List Expr} {kk : Nat} (hg : Gl X "enumerate") (hm : X.mg "enumerate" = none) (ha : PA X [e] ta) (hs : starEach [e] X.env = [(false, eval e X.env)] := by rfl) :
    PI X (.Tuple elts kk tpos) (.Call (.Name "enumerate" p) [e] [] pos) (iEnumS ta) := by
  refine ⟨fun pins s σ H R I h => ?_⟩
  refine Call_ (ld_blt I hg hm boot_enumerate (PyProof.Rows.callWith_type1 (thn (ha.run pos pins s σ H _ I h) fun us s1 ⟨vs, H1, I1, r1, q1⟩ => ?_) hs rfl))
  obtain ⟨x, ex, q⟩ := q1
  subst ex
  cases r1 with
  | cons r rr =>
    cases rr
    obtain ⟨t, rfl⟩ := r
    refine call_enumerate_str fun h' he hit hsz hk => wpAny_pyIter_enum he ?_
    have I2 : Inv X pins σ H1 { s1 with heap := h' } := I1.kept (t' := s1.toks) hk
    refine ⟨s1.heap.objs.size + 1, [s1.heap.objs.size + 1, s1.heap.objs.size], _, _, H1, rfl, I2, turn_enumS x t (s1.heap.objs.size + 1) s1.heap.objs.size, ⟨⟨.none, he⟩, hit, Nat.succ_ne_self _⟩, fun b hb => ?_, q⟩
    have e' : b = s1.heap.objs.size + 1 ∨ b = s1.heap.objs.size := by simpa using hb
    have hle : s1.heap.objs.size ≤ b := by
      rcases e' with z | z
      · rw [z]; exact Nat.le_add_right _ _
      · rw [z]; exact Nat.le_refl _
    exact I1.fpOk hle (I1.hok.fresh hle)
theorem r_iEnumS {ta : TA} {σ : L2.St} {H : Hp} {R : It → Hp → Prop} (h : ta σ H fun vs H1 => ∃ x, vs = [.str x] ∧ R (Ites x) H1) : iEnumS ta σ H R := h
theorem src_enumS {x : Str} : Src (Ites x) x.cps.size (fun _ => True) (fun i v H H' => ∃ T c, v = .ref T ∧ H T = none ∧ H' = upd H T (.tup [.int (i : Nat), .str ⟨#[c]⟩]) ∧ x.cps[i]? = some c) where
  go := fun i H h hi => hi
  stop := fun H h => rfl
  yld := fun i H v H' h _ y => y
/-! ### is True, is False -/
def rIsB : R2 := fun x y H Q => ∃ a b, x = .bl a ∧ y = .bl b ∧ Q (.bl (decide (a = b))) H
def rNotB : R2 := fun x y H Q => ∃ a b, x = .bl a ∧ y = .bl b ∧ Q (.bl (!decide (a = b))) H
theorem op_isB {X : Cx} : OpR X (compareOp .Is) rIsB := by
  intro pins s σ H x y v u Q I rx ry h
  obtain ⟨a, b, rfl, rfl, q⟩ := h
  cases rx
  cases ry
  refine wpAny_is_plain rfl (fin_bl I q ?_)
  cases a <;> cases b <;> rfl
theorem op_notB {X : Cx} : OpR X (compareOp .IsNot) rNotB := by
  intro pins s σ H x y v u Q I rx ry h
  obtain ⟨a, b, rfl, rfl, q⟩ := h
  cases rx
  cases ry
  refine wpAny_isNot_plain rfl (fin_bl I q ?_)
  cases a <;> cases b <;> rfl
theorem r_isB {H : Hp} {Q : VK} {a b : Bool} (q : Q (.bl (decide (a = b))) H) : rIsB (.bl a) (.bl b) H Q := ⟨a, b, rfl, rfl, q⟩
theorem r_notB {H : Hp} {Q : VK} {a b : Bool} (q : Q (.bl (!decide (a = b))) H) : rNotB (.bl a) (.bl b) H Q := ⟨a, b, rfl, rfl, q⟩
end Lx

namespace Lx
open PySem PySem.Spec PyProof.Rows L2
/-! ### equality of data without bools -/
mutual
def plainD : PyData → Bool
  | .none => true
  | .bool _ => false
  | .int _ => true
  | .str _ => true
  | .list xs => plainAll xs
  | .tuple xs => plainAll xs
  | .dict _ => false
def plainAll : List PyData → Bool
  | [] => true
  | x :: xs => plainD x && plainAll xs
end
mutual
theorem eqv_iff : ∀ {d e : PyData}, plainD d = true → plainD e = true → (PyData.eqv d e = true ↔ d = e)
  | .none, e, _, he => by cases e <;> simp [PyData.eqv] <;> simp [plainD] at he
  | .bool b, _, h, _ => by simp [plainD] at h
  | .dict b, _, h, _ => by simp [plainD] at h
  | .int i, e, _, he => by cases e <;> simp [PyData.eqv] <;> simp [plainD] at he
  | .str i, e, _, he => by cases e <;> simp [PyData.eqv] <;> simp [plainD] at he
  | .list xs, e, h, he => by
    cases e with
    | list ys =>
      have := eqvAll_iff (xs := xs) (ys := ys) (by simpa [plainD] using h) (by simpa [plainD] using he)
      simp only [PyData.eqv, PyData.list.injEq]
      exact this
    | _ => simp [PyData.eqv]
  | .tuple xs, e, h, he => by
    cases e with
    | tuple ys =>
      have := eqvAll_iff (xs := xs) (ys := ys) (by simpa [plainD] using h) (by simpa [plainD] using he)
      simp only [PyData.eqv, PyData.tuple.injEq]
      exact this
    | _ => simp [PyData.eqv]
theorem eqvAll_iff : ∀ {xs ys : List PyData}, plainAll xs = true → plainAll ys = true → (PyData.eqvAll xs ys = true ↔ xs = ys)
  | [], [], _, _ => by simp [PyData.eqvAll]
  | [], _ :: _, _, _ => by simp [PyData.eqvAll]
  | _ :: _, [], _, _ => by simp [PyData.eqvAll]
  | x :: xs, y :: ys, h, h' => by
    simp only [plainAll, Bool.and_eq_true] at h h'
    have h1 := eqv_iff (d := x) (e := y) h.1 h'.1
    have h2 := eqvAll_iff (xs := xs) (ys := ys) h.2 h'.2
    simp only [PyData.eqvAll, Bool.and_eq_true, List.cons.injEq]
    rw [h1, h2]
end
theorem plainAll_of {ds : List PyData} (h : ∀ d ∈ ds, plainD d = true) : plainAll ds = true := by
  induction ds with
  | nil => rfl
  | cons d ds ih =>
    show (plainD d && plainAll ds) = true
    rw [h d List.mem_cons_self, ih fun x hx => h x (List.mem_cons_of_mem _ hx)]
    rfl
theorem canLayAll_of {ds : List PyData} (h : ∀ d ∈ ds, d.canLay0 = true) : PyData.canLayAll0 ds = true := by
  induction ds with
  | nil => rfl
  | cons d ds ih =>
    show (d.canLay0 && PyData.canLayAll0 ds) = true
    rw [h d List.mem_cons_self, ih fun x hx => h x (List.mem_cons_of_mem _ hx)]
    rfl
/-- data that == may look at, without bools, of depth at most k -/
structure Eqs (d : PyData) (k : Nat) : Prop where
  p : plainD d = true
  c : d.canLay0 = true
  k : d.depth ≤ k
theorem Eqs.int (i : Int) : Eqs (.int i) 0 := ⟨rfl, rfl, Nat.le_refl _⟩
theorem Eqs.none : Eqs .none 0 := ⟨rfl, rfl, Nat.le_refl _⟩
theorem Eqs.list {ds : List PyData} {k : Nat} (h : ∀ d ∈ ds, Eqs d k) : Eqs (.list ds) (k + 1) :=
  ⟨by show plainAll ds = true; exact plainAll_of fun d hd => (h d hd).p, by unfold PyData.canLay0; exact canLayAll_of fun d hd => (h d hd).c, Nat.succ_le_succ (depthAll_le fun d hd => (h d hd).k)⟩
theorem Eqs.tup {ds : List PyData} {k : Nat} (h : ∀ d ∈ ds, Eqs d k) : Eqs (.tuple ds) (k + 1) :=
  ⟨by show plainAll ds = true; exact plainAll_of fun d hd => (h d hd).p, by unfold PyData.canLay0; exact canLayAll_of fun d hd => (h d hd).c, Nat.succ_le_succ (depthAll_le fun d hd => (h d hd).k)⟩
theorem Eqs.mono {d : PyData} {k m : Nat} (h : Eqs d k) (l : k ≤ m) : Eqs d m := ⟨h.p, h.c, Nat.le_trans h.k l⟩
theorem Eqs.shaped {d : PyData} {k : Nat} (h : Eqs d k) (l : k ≤ 64) : SeqAt.shaped d = true := by
  unfold SeqAt.shaped
  rw [h.c, decide_eq_true (Nat.le_trans h.k l)]
  rfl
theorem r_eqDD {K : PySem.W.Frag} {H : Hp} {Q : VK} {x y : V} {d e : PyData} {k m : Nat} (hx : Dp K H x d) (hy : Dp K H y e) (hd : Eqs d k) (he : Eqs e m) (lk : k ≤ 64) (lm : m ≤ 64) (q : ∀ b : Bool, (b = true ↔ d = e) → Q (.bl b) H) : rEqD K x y H Q :=
  ⟨d, e, hx, hy, hd.shaped lk, he.shaped lm, q _ (eqv_iff hd.p he.p)⟩
theorem r_neDD {K : PySem.W.Frag} {H : Hp} {Q : VK} {x y : V} {d e : PyData} {k m : Nat} (hx : Dp K H x d) (hy : Dp K H y e) (hd : Eqs d k) (he : Eqs e m) (lk : k ≤ 64) (lm : m ≤ 64) (q : ∀ b : Bool, (b = true ↔ d ≠ e) → Q (.bl b) H) : rNeD K x y H Q := by
  refine ⟨d, e, hx, hy, hd.shaped lk, he.shaped lm, q _ ?_⟩
  have := eqv_iff hd.p he.p
  cases h : PyData.eqv d e with
  | true => rw [h] at this; exact ⟨fun z => (by cases z), fun z => absurd (this.mp rfl) z⟩
  | false => rw [h] at this; exact ⟨fun _ z => (by cases this.mpr z), fun _ => rfl⟩
/-- a comprehension over a list of tuples that keeps the tuples -/
theorem lc_tupsR {K : PySem.W.Frag} {a : Addr} {g : TG} {tt : TT} {te : TE} {vs : List Nat} {σ : L2.St} {H1 : Hp} {Dl : Addr} {Qd : Hp → Prop} {α : Type} {f : α → List V} {G : Addr → Prop} {as : List Addr} {qs : List α} (h : TupsAt f G H1 a as qs) (hl : qs.length ≤ 100000) (P : α → Bool)
    (hs : ∀ (t : Addr) (q : α) (H' : Hp) (Yes : V → Hp → Prop) (No : Hp → Prop), Same H1 H' → q ∈ qs → H' t = some (.tup (f q)) → (P q = true → ∀ H4, Same H' H4 → Yes (.ref t) H4) → (P q = false → ∀ H3, Same H' H3 → No H3) →
      g (.ref t) (wipe σ vs) H' fun σ2 H2 => wipe σ2 vs = wipe σ vs ∧ tt σ2 H2 fun b H3 => if b = true then te σ2 H3 Yes else No H3)
    (hD : H1 Dl = none) (q : ∀ H' rs, Same H1 H' → TupsAt f (fun _ => True) H' Dl rs (qs.filter P) → Qd H') :
    ∃ W : Nat → Nat → Hp → Prop, (∃ m, W 0 m (upd H1 Dl (.lst []))) ∧ ∀ i m H, W i m H →
      ((Itl K a).stop i H ∧ Qd H) ∨ ((Itl K a).go i H ∧ ∃ Nx : Hp → Prop, (∀ H', Nx H' → ∃ m', m' < m ∧ W (i + 1) m' H') ∧ ∀ x H', (Itl K a).yld i H x H' → g x (wipe σ vs) H' fun σ2 H2 => wipe σ2 vs = wipe σ vs ∧ tt σ2 H2 fun b H3 =>
        if b = true then te σ2 H3 fun y H4 => ∃ acc, H4 Dl = some (.lst acc) ∧ acc.length < sizeLine ∧ Nx (upd H4 Dl (.lst (acc ++ [y]))) else Nx H3) := by
  refine lc_src (src_list (xs := as.map V.ref)) (fun i H' => Same H1 H' ∧ ∃ rs, TupsAt f (fun _ => True) H' Dl rs ((qs.take i).filter P)) (fun i H' h' => lst_of (h'.1 _ _ h.hp)) ⟨same_new hD, [], .nil upd_same⟩ ?_ ?_
  · rintro i v H2 H3 hi ⟨s2, rs, hr⟩ ⟨rfl, hx⟩
    rw [List.length_map, h.len] at hi
    obtain ⟨t, e1, e2, _⟩ := h.at hi
    rw [e1] at hx
    cases hx
    have e2' := s2 _ _ e2
    have et : qs.take (i + 1) = qs.take i ++ [qs[i]] := by rw [List.take_add_one, List.getElem?_eq_getElem hi]; rfl
    have fl := List.length_filter_le P (qs.take i)
    have tl : (qs.take i).length ≤ i := by rw [List.length_take]; omega
    refine hs t qs[i] _ _ _ s2 (List.getElem_mem hi) e2' (fun hP H4 s4 => ?_) (fun hP H4 s4 => ?_)
    · have hr4 := hr.same s4
      refine ⟨_, hr4.hp, szl (by rw [List.length_map, hr4.len]; omega), same_set (s2.trans s4) hD, rs ++ [t], ?_⟩
      rw [et, List.filter_append, List.filter_cons_of_pos hP, List.filter_nil]
      exact hr4.app (s4 _ _ e2') trivial
    · refine ⟨s2.trans s4, rs, ?_⟩
      rw [et, List.filter_append, List.filter_cons_of_neg (by rw [hP]; exact Bool.false_ne_true), List.filter_nil, List.append_nil]
      exact hr.same s4
  · rintro H2 ⟨s2, rs, hr⟩
    rw [List.length_map, h.len, List.take_length] at hr
    exact q H2 rs s2 hr
end Lx

namespace PySem
open Sem (wp)
open AutoSeq1 (wpAny_loadPart')
theorem meets_enumerate_newT (l : Addr) (items : Array Value) (n : Nat) (o : Obj) (hto : o.cls = .type "tuple") (hd : o.data = .seq items n) :
    Meets (Builtin.«enumerate.__new__» ⟨[.type "enumerate", .ref l], []⟩) (fun _ R s => s.heap.get? l = some o ∧ s.heap.IsTuple l items ∧
      R (.ok (.ret (.ref (s.heap.push { cls := .type "tuple_iterator", data := .fields #[.ref l, .int 0 0] }).objs.size)))
        { s with heap := (s.heap.push { cls := .type "tuple_iterator", data := .fields #[.ref l, .int 0 0] }).push { cls := .type "enumerate", data := .fields #[.none, .bool false, .ref s.heap.objs.size, rawInt 0, .none, .none] } }) :=
  .of_wp fun prog w A R s h => by
    obtain ⟨hp, g, d, tk, os⟩ := s; obtain ⟨hl, hL, h⟩ := h
    obtain ⟨oc, od, odt, osl⟩ := o
    replace hto : oc = .type "tuple" := hto
    subst hto
    have hsub := sub_enumerate
    wp_walk using wpAny_loadPart' hl
    refine wpAny_stack_any fun st => wpAny_pure ?_
    split
    · rename_i c _ _ _ _ _
      cases (c == Value.type "enumerate")
      · wp_walk using wpAny_loadPart' hl, wpAny_pyIter_tuple hL
        exact ⟨_, rfl, h⟩
      · wp_walk using wpAny_loadPart' hl, wpAny_pyIter_tuple hL
        exact ⟨_, rfl, h⟩
    · wp_walk using wpAny_loadPart' hl, wpAny_pyIter_tuple hL
      exact ⟨_, rfl, h⟩
end PySem
namespace PySem
section
variable {prog : Program} {w : World} {A : Around} {E : Value → Shared → Prop} {s : Shared}
theorem call_enumerate_tuple {l : Addr} {items : Array Value} {Q : Value → Shared → Prop} (hL : s.heap.IsTuple l items)
    (h : ∀ h', IsEnum h' (s.heap.objs.size + 1) s.heap.objs.size 0 .none → h'.IsTupleIter s.heap.objs.size l 0 → h'.objs.size = s.heap.objs.size + 2 →
      (∀ b o, s.heap.get? b = some o → h'.get? b = some o) → Q (.ref (s.heap.objs.size + 1)) { s with heap := h' }) :
    wpAny (model prog w) A (call (.type "enumerate") [.ref l]) Q E s := by
  have hL' := hL
  obtain ⟨o, hl, hc, n, hd⟩ := hL
  refine callType_new F.called_enumerate (by decide) (F.typeCall_enumerate_1 _) (F.newCall_enumerate_1 _) (fun obj => F.args_object_init_2 obj _) F.entry_enumerate_new
    (meets_enumerate_newT l items n o hc hd) ⟨hl, hL', ?_⟩
  have hz : (s.heap.push { cls := .type "tuple_iterator", data := .fields #[.ref l, .int 0 0] }).objs.size = s.heap.objs.size + 1 := Heap.size_push ..
  show _ ∧ _
  rw [hz]
  have he : IsEnum ((s.heap.push { cls := .type "tuple_iterator", data := .fields #[.ref l, .int 0 0] }).push
      { cls := .type "enumerate", data := .fields #[.none, .bool false, .ref s.heap.objs.size, rawInt 0, .none, .none] }) (s.heap.objs.size + 1) s.heap.objs.size 0 .none := by
    have := Heap.get?_push_size (s.heap.push { cls := .type "tuple_iterator", data := .fields #[.ref l, .int 0 0] })
      (o := { cls := .type "enumerate", data := .fields #[.none, .bool false, .ref s.heap.objs.size, rawInt 0, .none, .none] }) rfl
    rw [hz] at this; exact this
  refine ⟨⟨_, he, rfl⟩, h _ he ⟨_, Heap.get?_push_of_some _ (Heap.get?_push_size _ rfl), rfl, rfl⟩ (by rw [Heap.size_push, hz]) fun b o x => Heap.get?_push_of_some _ (Heap.get?_push_of_some _ x)⟩
end
end PySem
namespace Lx
open PySem PySem.Spec PyProof.Rows PySem.Calls L2
/-! ### enumerate(tuple) -/
def Itet (K : PySem.W.Frag) (a : Addr) : It :=
  ⟨fun i H => ∃ (xs : List V) (x : V), SqT K H a xs ∧ xs[i]? = some x, fun i H v H' => ∃ T x, v = .ref T ∧ H T = none ∧ H' = upd H T (.tup [.int (i : Nat), x]) ∧ ∀ xs, SqT K H a xs → xs[i]? = some x, fun i H => ∃ xs : List V, SqT K H a xs ∧ xs.length ≤ i⟩
theorem turn_enumT {P : Program} {w : World} {K : PySem.W.Frag} {elts : List Expr} {kk : Nat} {tpos : Pos} (a e it : Addr) :
    Turn P w K (.Tuple elts kk tpos) (Itet K a) [e, it] e (fun i h => (∃ old, IsEnum h e it ((i : Nat) : Int) old) ∧ h.IsTupleIter it a i ∧ e ≠ it) where
  mem := by simp
  obj := fun i h st b hb => by
    obtain ⟨⟨old, he⟩, ⟨o, ho, hc, hd⟩, _⟩ := st
    have e' : b = e ∨ b = it := by simpa using hb
    rcases e' with z | z
    · rw [z]; exact ⟨_, he, fun v q => nomatch q⟩
    · rw [z]; exact ⟨o, ho, fun v q => by rw [hd] at q; cases q⟩
  keep := fun i h h' st k => let ⟨⟨old, he⟩, hi, hne⟩ := st; ⟨⟨old, k e (by simp) _ he⟩, hi.at fun o q => k it (by simp) o q, hne⟩
  item := by
    intro X hP hw hK hc i pins s σ H E I hf st hg
    subst hP hw hK
    obtain ⟨⟨old, he⟩, hit, hne⟩ := st
    obtain ⟨xs, x, hq, hx⟩ := hg
    obtain ⟨its, rv, p, hz⟩ := I.tuple hq
    obtain ⟨u, hu, ru⟩ := rv.get hx
    have hel : e < s.heap.objs.size := Heap.lt_size he
    have hil : it < s.heap.objs.size := by obtain ⟨_, q, _⟩ := hit; exact Heap.lt_size q
    have pt : s.heap.IsTuple a its.toArray := p
    have nai : a ≠ it := fun z => by
      obtain ⟨o1, h1, c1, _⟩ := pt
      obtain ⟨o2, h2, c2, _⟩ := hit
      rw [z, h2] at h1
      cases h1
      rw [c2] at c1
      exact absurd c1 (by decide)
    have nae : e ≠ a := fun z => by
      obtain ⟨o1, h1, c1, _⟩ := pt
      have h2 := he
      unfold IsEnum at h2
      rw [z, h1] at h2
      cases h2
      have c2 : (Value.type "enumerate") = Value.type "tuple" := c1
      exact absurd c2 (by decide)
    have D := Draws.tuple (prog := X.prog) (w := X.w) (A := X.A.in1) (show X.A.in1.handled = none from I.ok.hd hc) it a nai its.toArray
    have hlt : i < its.toArray.size := by
      have := (List.getElem?_eq_some_iff.mp hu).1
      simpa using this
    refine wpAny_pyNext_enum_itemD D he ⟨hit, pt⟩ hlt hne (fun z => by
      rcases List.mem_cons.mp z with z | z
      · exact hne z
      · exact nae (List.mem_singleton.mp z)) fun u' h' tk hu' ho hit' hT hsz hk => ?_
    obtain rfl : u = u' := by
      have e1 : its.toArray[i]? = some u' := hu'
      rw [List.getElem?_toArray, hu] at e1
      exact Option.some.inj e1
    refine ⟨_, rfl, wpAny_letOwnedTupleGo_enum (s := { s with heap := h', toks := tk + 1 }) ho fun h'' he' sb => ?_⟩
    have hT2 : h''.get? s.heap.objs.size = some { cls := .type "tuple", data := .seq #[.int i tk, u] } := (sb.2 _ (Nat.ne_of_gt hel)).trans hT
    have new : ObjOk X.prog X.w (upd H s.heap.objs.size (.tup [.int (i : Nat), x])) h'' s.heap.objs.size (.tup [.int (i : Nat), x]) :=
      ⟨by show 2 ≤ sizeLine; decide, [.int i tk, u], .cons ⟨_, rfl⟩ (.cons ru .nil), ⟨_, hT2, rfl, _, rfl⟩⟩
    have I1 : Inv X pins σ (upd H s.heap.objs.size (.tup [.int (i : Nat), x])) { s with heap := h'', toks := tk + 1 } :=
      I.turnedNew (ch := [e, it]) (fun b ob hb q => (sb.2 b (fun z => hb (by simp [z]))).trans (hk b ob (fun z => hb (by simp [z])) (fun z => hb (by simp [z])) q)) hf (Nat.le_refl _) new
    refine ⟨.ref s.heap.objs.size, _, I1, rfl, ⟨_, x, rfl, I.hok.fresh (Nat.le_refl _), rfl, fun ys hy => by rw [I.tuple_inj hy hq]; exact hx⟩, ⟨⟨u, ?_⟩, hit'.1.at fun o q => (sb.2 it (Ne.symm hne)).trans q, hne⟩, fun b hb => ?_⟩
    · have e1 : ((i + 1 : Nat) : Int) = (i : Int) + 1 := by omega
      rw [e1]; exact he'
    · have hb' : b < s.heap.objs.size := by
        have e' : b = e ∨ b = it := by simpa using hb
        rcases e' with z | z
        · rw [z]; exact hel
        · rw [z]; exact hil
      rw [upd_ne (Nat.ne_of_lt hb')]
      exact (hf b hb).1
  done := by
    intro X hP hw hK hc i pins s σ H E I hf st hg
    subst hP hw hK
    obtain ⟨⟨old, he⟩, hit, hne⟩ := st
    obtain ⟨xs, hq, hx⟩ := hg
    obtain ⟨its, rv, p, hz⟩ := I.tuple hq
    obtain ⟨f0, f1, f2, f3, f4, f5⟩ := hf it (by simp)
    have hl := rv.length
    have pt : s.heap.IsTuple a its.toArray := p
    have nai : a ≠ it := fun z => by
      obtain ⟨o1, h1, c1, _⟩ := pt
      obtain ⟨o2, h2, c2, _⟩ := hit
      rw [z, h2] at h1
      cases h1
      rw [c2] at c1
      exact absurd c1 (by decide)
    have D : Draws X.prog X.w X.A.in1 it [it, a] 0 (fun i v => its.toArray[i]? = some v) (fun _ h => h.IsTupleIter it a i ∧ h.IsTuple a its.toArray) := {
      live := fun _ _ st => let ⟨o, ho, _⟩ := st.1; ⟨o, ho⟩
      frame := fun _ _ _ st hk => ⟨st.1.at fun o e => hk it (by simp) o e, st.2.at fun o e => hk a (by simp) o e⟩
      item := fun j s Q E hi st hQ => absurd hi (Nat.not_lt_zero _)
      done := fun s Q E st hE => wpAny_nextOf_tuple_end (show X.A.in1.handled = none from I.ok.hd hc) st.1 st.2 (by simp; omega) hE }
    exact wpAny_pyNext_enum_endD D he ⟨hit, pt⟩ fun h' eb => ⟨rfl, I.turned (t' := s.toks) (fun b o hb q => eb b o hb q) f0 f1 f3 f4 f5⟩
  self := fun A i s Q E st h => let ⟨⟨_, he⟩, _⟩ := st; wpAny_pyIter_enum he h
def iEnumT (K : PySem.W.Frag) (ta : TA) : TI := fun σ H R => ta σ H fun vs H1 => ∃ a xs, vs = [.ref a] ∧ SqT K H1 a xs ∧ R (Itet K a) H1
theorem pi_enumT {X : Cx} {e : Expr} {ta : TA} {p pos tpos : Pos} {elts : List Expr} {kk : Nat} (hg : Gl X "enumerate") (hm : X.mg "enumerate" = none) (ha : PA X [e] ta) (hs : starEach [e] X.env = [(false, eval e X.env)] := by rfl) :
    PI X (.Tuple elts kk tpos) (.Call (.Name "enumerate" p) [e] [] pos) (iEnumT X.K ta) := by
  refine ⟨fun pins s σ H R I h => ?_⟩
  refine Call_ (ld_blt I hg hm boot_enumerate (PyProof.Rows.callWith_type1 (thn (ha.run pos pins s σ H _ I h) fun us s1 ⟨vs, H1, I1, r1, q1⟩ => ?_) hs rfl))
  obtain ⟨a, xs, ex, hq, q⟩ := q1
  subst ex
  cases r1 with
  | cons r rr =>
    cases rr
    cases r
    obtain ⟨its, rv, p', hz⟩ := I1.tuple hq
    refine call_enumerate_tuple (show s1.heap.IsTuple a its.toArray from p') fun h' he hit hsz hk => wpAny_pyIter_enum he ?_
    have I2 : Inv X pins σ H1 { s1 with heap := h' } := I1.kept (t' := s1.toks) hk
    refine ⟨s1.heap.objs.size + 1, [s1.heap.objs.size + 1, s1.heap.objs.size], _, _, H1, rfl, I2, turn_enumT a (s1.heap.objs.size + 1) s1.heap.objs.size, ⟨⟨.none, he⟩, hit, Nat.succ_ne_self _⟩, fun b hb => ?_, q⟩
    have e' : b = s1.heap.objs.size + 1 ∨ b = s1.heap.objs.size := by simpa using hb
    have hle : s1.heap.objs.size ≤ b := by
      rcases e' with z | z
      · rw [z]; exact Nat.le_add_right _ _
      · rw [z]; exact Nat.le_refl _
    exact I1.fpOk hle (I1.hok.fresh hle)
theorem k_enumT (K : PySem.W.Frag) {X : Cx} {e : Expr} {ta : TA} {p pos tpos : Pos} {elts : List Expr} {kk : Nat} (hg : Gl X "enumerate") (hm : X.mg "enumerate" = none) (ha : PA X [e] ta) (hs : starEach [e] X.env = [(false, eval e X.env)] := by rfl) (h : X.K = K := by rfl) :
    PI X (.Tuple elts kk tpos) (.Call (.Name "enumerate" p) [e] [] pos) (iEnumT K ta) := h ▸ pi_enumT hg hm ha hs
theorem src_enumT {K : PySem.W.Frag} {a : Addr} {xs : List V} : Src (Itet K a) xs.length (fun H => SqT K H a xs) (fun i v H H' => ∃ T x, v = .ref T ∧ H T = none ∧ H' = upd H T (.tup [.int (i : Nat), x]) ∧ xs[i]? = some x) where
  go := fun i H h hi => ⟨xs, xs[i], h, by simp [hi]⟩
  stop := fun H h => ⟨xs, h, Nat.le_refl _⟩
  yld := fun i H v H' h _ y => by
    obtain ⟨T, x, e, n, u, f⟩ := y
    exact ⟨T, x, e, n, u, f xs h⟩
/-- a walk over the numbered items of a list or a tuple -/
theorem r_enumSq {K : PySem.W.Frag} {σ : L2.St} {H : Hp} {R : It → Hp → Prop} {i : Nat} {a : Addr} {xs : List V} (e : σ[i]? = some (some (.ref a))) (h : Sq H a xs)
    (q : ∀ (J : It) (OK : Hp → Prop), (∀ H', H' a = H a → OK H') → Src J xs.length OK (fun i v H H' => ∃ T x, v = .ref T ∧ H T = none ∧ H' = upd H T (.tup [.int (i : Nat), x]) ∧ xs[i]? = some x) → R J H) : iOr (iEnum K (tCons (tVar i) tNil)) (iEnumT K (tCons (tVar i) tNil)) σ H R :=
  h.elim (fun h => .inl ⟨.ref a, e, a, xs, rfl, lst_of h, q _ (fun H' => SqL K H' a xs) (fun H' s => lst_of (s.trans h)) src_enum⟩) fun h => .inr ⟨.ref a, e, a, xs, rfl, tup_of h, q _ (fun H' => SqT K H' a xs) (fun H' s => tup_of (s.trans h)) src_enumT⟩
theorem Sq.there {H : Hp} {a : Addr} {xs : List V} (h : Sq H a xs) : ∃ o, H a = some o := h.elim (fun h => ⟨_, h⟩) fun h => ⟨_, h⟩
end Lx

namespace Lx
open PySem PySem.Spec PyProof.Rows L2
/-! ### exceptions where no repr runs around -/
/-- what a callee lets out leaves the def as well -/
theorem passE {X : Cx} {E : XK} (tk : Takes X (fun cls d _ H => E cls d H)) : Passes (L2.CX X.prog X.w) X E := passes_call tk fun _ _ _ _ h => h
def orSp (a b : Sp) : Sp := fun vs H Q E => a vs H Q E ∨ b vs H Q E
section
variable {P : Program} {w : World} {K : PySem.W.Frag} {mg : Str → Option Value} {base : Heap} {k : Nat} {f : Addr} {fd : FuncData} {ps : List Str} {sp sp' : Sp}
theorem FnG.or (F : FnG P w K mg base k f fd ps sp) (F' : FnG P w K mg base k f fd ps sp') : FnG P w K mg base k f fd ps (orSp sp sp') :=
  ⟨fun us H Q E h => h.elim (F.ln us H Q E) (F'.ln us H Q E), fun A fs s H ar us vs Q E hg hr e b v h => h.elim (F.go A fs s H ar us vs Q E hg hr e b v) (F'.go A fs s H ar us vs Q E hg hr e b v)⟩
end
/-- a base class without an own __init__ -/
structure BaseI (K : PySem.W.Frag) (C0 : Addr) : Prop where
  ga : PySem.W.specialIn K (.ref C0) "__getattribute__" = some (some (.builtin "type.__getattribute__"))
  rd : PySem.W.readsIn K C0 (.type "type") = true
  fi : PySem.W.findCls K (.ref C0) (.type "type") "__init__" = some (.val (.builtin "ValueError.__init__"))
/-- an error class with its own __init__, as its makers see it -/
structure Xn (P : Program) (w : World) (K : PySem.W.Frag) (mg : Str → Option Value) (base : Heap) (k : Nat) (x : Str) (C : Addr) (dvs : List V) (sp : Sp) : Prop where
  ex : ∃ (f : Addr) (fd : FuncData) (ps : List Str) (ds : List Value), FnG P w K mg base k f fd ps sp ∧ mg x = some (.ref C) ∧ OexC K C ∧ PySem.W.findIn K (.ref C) "__init__" = some (some (.ref f)) ∧ PySem.W.typeIn K (.ref f) = some (.type "function") ∧ Binds K fd ps ds ∧ Vals dvs ds
section
variable {X : Cx} {k : Nat} {C0 C : Addr} {sp : Sp} {dvs : List V} {E : L2.St → XK} {x : Str} {p p1 p2 pos : Pos} {e : Expr} {es : List Expr} {ta : TA} {t : TA}
/-- C0.__init__(self, ..), C0 an own class over ValueError -/
theorem pe_oinit {pl : Sem Bool} (T0 : BaseI X.K C0) (hg : Gl X x) (hm : X.mg x = some (.ref C0)) (ha : PA X (e :: es) ta) (hdb : (x == ("__debug__" : Str)) = false := by decide)
    (hc : eval (.Call (.Attribute (.Name x p1) "__init__" p2) (e :: es) [] pos) X.env = (do
      let ov ← eval (.Name x p1) X.env
      standAt p2.atName
      let (f, first) ← holding [ov] (getMethod ov "__init__" pl)
      callWith pos f first (backTo pos (starEach (e :: es) X.env)) (backToKw pos (keywordEach [] X.env))) := by rfl)
    (he : starEach (e :: es) X.env = (false, eval e X.env) :: starEach es X.env := by rfl) (hpl : (backTo pos (starEach es X.env)).any (·.1) = false := by rfl) :
    PE X (.Call (.Attribute (.Name x p1) "__init__" p2) (e :: es) [] pos) (tVeI X.K ta) := by
  refine ⟨fun pins s σ H Q I h => ?_⟩
  refine PySem.W.methodCall_KW (ld_glob I hg hm ?_ hdb) hc
  refine PySem.W.method_cls I.kIn T0.ga (PySem.W.cls_value I.kIn T0.rd T0.fi (by decide +kernel) ?_)
  show wpAny _ _ (callWith pos (Value.builtin "ValueError.__init__") [] (backTo pos (starEach (e :: es) X.env)) []) _ _ _
  refine PyProof.Rows.callWith_method1 (thn (ha.run pos pins _ σ H _ (I.tok _) h) fun us s1 ⟨vs, H1, I1, r1, a, C, ws, ev, hl, T, ea, q⟩ => ?_) he hpl
  subst ev
  cases r1 with
  | @cons _ u0 _ ur ra rw' =>
    obtain rfl : u0 = Value.ref a := ra
    have hlen : ur.length ≤ sizeLine := by
      rw [← Paired.length rw', sizeLine_eq]
      omega
    exact oinit_ok T I1 ea hlen fun s' J => ⟨.non, H1, J, rfl, q⟩
/-- C(..), C an error class whose __init__ keeps sp -/
theorem pmk_x (D : Xn X.prog X.w X.K X.mg X.base k x C dvs sp) (hG : X.A.guards = some []) (hr : Room (k + 1) X.A) (hx : Passes (L2.CX X.prog X.w) X (fun _ _ _ => False)) (hg : Gl X x) (ha : PA X (e :: es) ta)
    (hdb : (x == ("__debug__" : Str)) = false := by decide) (he : starEach (e :: es) X.env = (false, eval e X.env) :: starEach es X.env := by rfl) (hpl : (backTo pos (starEach es X.env)).any (·.1) = false := by rfl) :
    PMk X (.Call (.Name x p) (e :: es) [] pos) (tMkO C sp dvs ta) := by
  obtain ⟨fI, fd, ps, ds, F1, hm, T, iC, tI, hb, hd⟩ := D.ex
  intro pins s σ H Q I h
  obtain ⟨nm, q, N, bs, bm, sn, sub, ab, col, dd, k0, k1, k2, k3, k5, hC, hbm⟩ := T.cls
  refine wpAny_Call_Name_kw (ld_glob I hg hm ?_ hdb)
  refine PySem.W.callWith_K (h₀ := X.base) I.ok.mod.kin T.kC (thn (ha.run pos pins s σ H _ I h) fun us s1 ⟨vs, H1, I1, r1, hz, q1⟩ => ⟨I1.kIn, ?_⟩) he hpl
  show wpAny _ _ (call (.ref C) us) _ _ _
  obtain ⟨hp, g, dr, tk, os⟩ := s1
  have hsz : hp.objs.size ≤ hp.objs.size + 1 := Nat.le_succ _
  have hn : H1 (hp.objs.size + 1) = none := I1.hok.fresh hsz
  have hq := q1 (hp.objs.size + 1) hn
  have kk : ∀ b o, hp.get? b = some o → ((hp.push (PySem.W.kdv_tup us)).push (PySem.HandSPX.excO C hp.objs.size)).get? b = some o := fun b o e => Heap.get?_push_of_some _ (Heap.get?_push_of_some _ e)
  have hget : ((hp.push (PySem.W.kdv_tup us)).push (PySem.HandSPX.excO C hp.objs.size)).get? (hp.objs.size + 1) = some (PySem.HandSPX.excO C hp.objs.size) := by heap_get
  have I2 : Inv X pins σ (upd H1 (hp.objs.size + 1) (exo (hp.objs.size + 1) C none)) ⟨(hp.push (PySem.W.kdv_tup us)).push (PySem.HandSPX.excO C hp.objs.size), g, dr, tk, os⟩ :=
    I1.laid (t' := tk) (a := hp.objs.size + 1) (o := exo (hp.objs.size + 1) C none) (h' := (hp.push (PySem.W.kdv_tup us)).push (PySem.HandSPX.excO C hp.objs.size)) kk hsz (exo_ok hget)
  have r2 : Vals (V.ref (hp.objs.size + 1) :: (vs ++ dvs)) (Value.ref (hp.objs.size + 1) :: (us ++ ds)) := .cons rfl (r1.append hd)
  have hl : (Value.ref (hp.objs.size + 1) :: us ++ ds).length = ps.length := by
    have e := r2.length
    rw [F1.ln _ _ _ _ hq] at e
    exact e.symm
  have hus : us.length ≤ sizeLine := by
    rw [← Paired.length r1, sizeLine_eq]
    omega
  refine wpAny_call (PySem.HandSPX.call_own F.excBase_ValueError (fun Y => PySem.HandSPX.refsVE_contains Y bm hbm) (I1.kIn _ _ hC) (PySem.W.looks_findIn I1.kIn iC) (fun self => PySem.W.bind_fn I1.kIn self tI) hus
    (codeAny_mono (F1.go _ X.stack _ _ ⟨Value.ref (hp.objs.size + 1) :: us, []⟩ (Value.ref (hp.objs.size + 1) :: (us ++ ds)) _ _ (fun _ _ _ => False) hG (hr.make C us []) (I2.env0.make C us []) (hb _ (Value.ref (hp.objs.size + 1) :: us) I2.kIn hl) r2 hq) fun r s' hq' => ?_))
  cases r with
  | error er => exact hx pins σ _ _ er s' I2 hq'
  | ok fl =>
    cases fl with
    | ret u =>
      obtain ⟨v, H2, os2, bare2, un2, hok2, rv, ev, d, fs, ea, ed, hd1, q2⟩ := hq'
      subst ev
      obtain ⟨h2, g2, d2, t2, os'⟩ := s'
      exact ⟨rv, mk_end (raises_own T.exC T.tyC) I1 hsz kk un2 hok2 os2 bare2 ea ed hd1 q2⟩
    | next => exact False.elim hq'
    | brk => exact False.elim hq'
    | cont => exact False.elim hq'
/-- f(..) in a try's body -/
def tCallG (sp : Sp) (dvs : List V) (E : L2.St → XK) (t : TA) : TE := fun σ H Q => t σ H fun vs H1 => sp (vs ++ dvs) H1 Q (E σ)
theorem pe_dfS (D : Df X.prog X.w X.K X.mg X.base k x dvs sp) (hG : X.A.guards = some []) (hr : Room k X.A) (hx : ∀ σ, PassesAt (L2.CX X.prog X.w) X σ (E σ)) (hg : Gl X x) (ha : PA X (e :: es) t)
    (hdb : (x == ("__debug__" : Str)) = false := by decide) (he : starEach (e :: es) X.env = (false, eval e X.env) :: starEach es X.env := by rfl) (hpl : (backTo pos (starEach es X.env)).any (·.1) = false := by rfl) :
    PE X (.Call (.Name x p) (e :: es) [] pos) (tCallG sp dvs E t) := by
  obtain ⟨f, fd, ps, ds, F, hm, hk, hb, hd⟩ := D.ex
  refine ⟨fun pins s σ H Q I h => ?_⟩
  refine wpAny_Call_Name_kw (ld_glob I hg hm ?_ hdb)
  refine PySem.W.callWith_K (h₀ := X.base) I.ok.mod.kin hk (thn (ha.run pos pins s σ H _ I h) fun us s1 ⟨vs, H1, I1, r, q⟩ => ⟨I1.kIn, ?_⟩) he hpl
  have rv := r.append hd
  have z := F.go X.A X.stack s1 H1 ⟨us, []⟩ (us ++ ds) (vs ++ dvs) Q (E σ) hG hr I1.env0 (hb s1 us I1.kIn (rv.length.symm.trans (F.ln _ _ _ _ q))) rv q
  refine wpAny_call (codeAny_mono z ?_)
  intro r s' hq
  cases r with
  | error e => exact hx σ pins H1 s1 e s' I1 hq
  | ok fl => cases fl with
    | ret u => exact I1.after hq
    | next => exact hq.elim
    | brk => exact hq.elim
    | cont => exact hq.elim
end
/-! ### readings -/
section
variable {K : PySem.W.Frag} {σ : L2.St} {H : Hp} {Q : VK} {QX : XK} {D : Ends} {ta : TA} {to te : TE} {C a : Addr} {fld : Str} {v : V} {sp : Sp} {dvs : List V} {E : L2.St → XK}
theorem r_callG (h : ta σ H fun vs H1 => sp (vs ++ dvs) H1 Q (E σ)) : tCallG sp dvs E ta σ H Q := h
theorem r_vei (h : ta σ H fun vs H1 => ∃ (a C : Addr) (ws : List V), vs = .ref a :: ws ∧ ws.length ≤ 1000 ∧ OexC K C ∧ H1 a = some (exo a C none) ∧ Q .non H1) : tVeI K ta σ H Q := h
theorem r_ost (h : te σ H fun y H1 => to σ H1 fun x H2 => ∃ a C : Addr, x = .ref a ∧ OexC K C ∧ PySem.W.findIn K (.ref C) fld = some none ∧
  ((H2 a = some (exo a C none) ∧ ∀ dx, H2 dx = none → dx ≠ a → D.nx σ (upd (upd H2 dx (exd dx [(fld, y)])) a (exo a C (some dx)))) ∨
    ∃ (dx : Addr) (fs : List (Str × V)), H2 a = some (exo a C (some dx)) ∧ H2 dx = some (exd dx fs) ∧ fs.length ≤ 900 ∧ D.nx σ (upd H2 dx (exd dx ((fld, y) :: fs))))) : tOst K fld to te D σ H := h
/-- an own __init__ that keeps one value in the field fld -/
def spXInit (C : Addr) (fld : Str) : Sp := fun vs H Q _ => ∃ (a : Addr) (v : V), vs = [.ref a, v] ∧ H a = some (exo a C none) ∧ ∀ dx, H dx = none → dx ≠ a → Q .non (upd (upd H dx (exd dx [(fld, v)])) a (exo a C (some dx)))
theorem r_mkO (h : ta σ H fun vs H1 => vs.length ≤ 1000 ∧ ∀ a, H1 a = none → sp (.ref a :: (vs ++ dvs)) (upd H1 a (exo a C none))
  (fun v H2 => v = .non ∧ ∃ (d : Addr) (fs : List (Str × V)), H2 a = some (exo a C (some d)) ∧ H2 d = some (exd d fs) ∧ H1 d = none ∧ QX (.ref C) (some d) (upd (del H2 a) d (.xd fs))) (fun _ _ _ => False)) : tMkO C sp dvs ta σ H QX := h
theorem r_mkx (h : ∀ d H2, Same H H2 → H d = none → H2 d = some (.xd [(fld, v)]) → QX (.ref C) (some d) H2) : [v].length ≤ 1000 ∧ ∀ a, H a = none → spXInit C fld (.ref a :: ([v] ++ [])) (upd H a (exo a C none))
  (fun v H2 => v = .non ∧ ∃ (d : Addr) (fs : List (Str × V)), H2 a = some (exo a C (some d)) ∧ H2 d = some (exd d fs) ∧ H d = none ∧ QX (.ref C) (some d) (upd (del H2 a) d (.xd fs))) (fun _ _ _ => False) := by
  refine ⟨by show 1 ≤ 1000; decide, fun a na => ⟨a, v, rfl, upd_same, fun dx nd ne => ⟨rfl, dx, [(fld, v)], upd_same, ?_, ?_, ?_⟩⟩⟩
  · rw [upd_ne ne]; exact upd_same
  · rw [upd_ne ne] at nd; exact nd
  · have nd' : H dx = none := by rw [upd_ne ne] at nd; exact nd
    refine h dx _ (fun x o hx => ?_) nd' upd_same
    have e1 : x ≠ a := fun z => by rw [z, na] at hx; cases hx
    have e2 : x ≠ dx := fun z => by rw [z, nd'] at hx; cases hx
    rw [upd_ne e2, del_ne e1, upd_ne e1, upd_ne e2, upd_ne e1]
    exact hx
theorem r_caught {c cls : Value} {i : Nat} {ts : Addr → Value → Option Addr → TS} {Wout : WX} {d : Option Addr} (e : PySem.W.exmOne K cls c = some true)
    (h : ∀ a, H a = none → ts a cls d { nx := fun σ' H' => D.nx (σ'.set i none) H', rt := D.rt, bk := fun σ' H' => D.bk (σ'.set i none) H', ct := fun σ' H' => D.ct (σ'.set i none) H' } (σ.set i (some (.ref a))) H) : wAs K c i ts Wout D cls d σ H :=
  ⟨true, e, fun _ => h, fun z => Bool.noConfusion z⟩
theorem r_xf {cls : Value} {d : Option Addr} (h : te σ H fun x H1 => x = .ref a ∧ cls = .ref C ∧ ∃ (dd : Addr) (fs : List (Str × V)) (v : V), d = some dd ∧ H1 dd = some (.xd fs) ∧ fs.lookup fld = some v ∧ Q v H1) : tXf a cls d C fld te σ H Q := h
end
end Lx
namespace Lx
open PySem PySem.Spec PyProof.Rows L2
/-- an error class with one field, as its catchers see it -/
structure ErrK (K : PySem.W.Frag) (mg : Str → Option Value) (x : Str) (C : Addr) (fld : Str) : Prop where
  g : mg x = some (.ref C)
  xf : XfC K C
  nf : PySem.W.findIn K (.ref C) fld = some none
  te : PySem.W.exmOne K (.ref C) (.ref C) = some true
/-- .. and as its own __init__ sees it -/
structure OwnX (K : PySem.W.Frag) (mg : Str → Option Value) (x0 : Str) (C0 C : Addr) (fld : Str) : Prop where
  g0 : mg x0 = some (.ref C0)
  b0 : BaseI K C0
  ox : OexC K C
  nf : PySem.W.findIn K (.ref C) fld = some none
end Lx

namespace L2
open PySem PySem.Spec PyProof.Rows PySem.Calls
/-! ### set(a list of ints): the members go in one by one -/
section
variable {P : Program} {w : World} {A : Around} {E : Value → Shared → Prop} {s : Shared}
abbrev setNew (w : World) : Obj := { cls := .type "set", dict := none, data := .set #[] 0 (.fresh 0 0 (!w.params.followText "set-order")) }
theorem call_set_lstI {l : Addr} {xs : Array Value} (ns : List Int) {Q : Value → Shared → Prop} (hh : A.handled = none) (hl : s.heap.IsList l xs) (hi : IntsAre xs.toList ns) (hb : ns.length + 1 < scanBound)
    (h : ∀ (h' : Heap) (tk c : Nat), SetR w h' s.heap.objs.size (fun j => decide (j ∈ ns)) c → c ≤ ns.length → (∀ b o, s.heap.get? b = some o → h'.get? b = some o) → Q (.ref s.heap.objs.size) { s with heap := h', toks := tk }) :
    wpAny (model P w) A (call (.type "set") [.ref l]) Q E s := by
  have size_eq : xs.size = ns.length := (Array.length_toList (xs := xs)).symm.trans (IntsAre.length hi)
  obtain ⟨c, tl, hmro⟩ := F.called_set.mro
  have hmade := F.called_set.made
  have hsub := F.called_set.sub
  have h1 := F.called_set.notType
  have h2 := F.called_set.canCreate
  have hct := F.typeCall_set_1 (.ref l)
  refine wpAny_call (codeAny_of_tree ?_)
  show wpAny _ _ (callAny (.type "set") _) _ _ _
  refine wpAny_pure ⟨Code.quiet_builtin _ (by decide +kernel), codeAny_builtin F.entry_type_call ?_⟩
  rw [Around.under_plain (weight_type_call_type "set" [.ref l] []) rfl]
  repeat (any_goals (first | assumption | wp_step))
  refine codeAny_mono (code_set_led1 (.ref l) (E := E) (Q₁ := fun v t => v = .ref s.heap.objs.size ∧ t = { s with heap := s.heap.push (setNew w) }) ⟨rfl, rfl⟩) fun r s1 z => ?_
  cases r with
  | error e => exact z
  | ok fl =>
    cases fl with
    | ret v =>
      obtain ⟨rfl, rfl⟩ := z
      have at0 : (s.heap.push (setNew w)).get? s.heap.objs.size = some (setNew w) := Heap.get?_push_size _ rfl
      have hT : Shared.TypeIs { s with heap := s.heap.push (setNew w) } (.ref s.heap.objs.size) "set" := ⟨_, at0, rfl⟩
      have hli := F.called_set.init.lookup
      have hbi := F.called_set.init.bind (.ref s.heap.objs.size)
      repeat (any_goals (first | assumption | wp_step))
      refine codeAny_mono (codeAny_call_builtin (R := wants (fun v t => v = .none ∧ ∃ h' tk c, t = { s with heap := h', toks := tk } ∧ SetR w h' s.heap.objs.size (fun j => decide (j ∈ ns)) c ∧ c ≤ ns.length ∧ (∀ b o, s.heap.get? b = some o → h'.get? b = some o)) E)
        F.called_set.init.plain F.entry_set_init (check_set_init_1 hT ?_)) fun r2 s2 z2 => ?_
      · obtain ⟨⟨oc, od, odt, osl⟩, hol, hcl, nl, hdl⟩ := hl
        simp only at hcl hdl
        subst hcl; subst hdl
        have hol' : (s.heap.push (setNew w)).get? l = some { cls := .type "list", dict := od, data := .seq xs nl, slots := osl } := Heap.get?_push_of_some _ hol
        have hsls := F.sub_list_set
        have hslf := F.sub_list_frozenset
        have hne : (Value.type "list" == Value.type "dict") = false := by decide
        have hl1 : (s.heap.push (setNew w)).IsList l xs := ⟨_, hol', rfl, nl, rfl⟩
        unfold Builtin.«set.__init__» noKeywords Builtin.Frozenset.updateFrom
        generalize hPI : pyIter = PI
        wp_walk
        subst hPI
        refine wpAny_pyIter_list hl1 (wpAny_bind (wpAny_runValue ?_))
        have lS : l < s.heap.objs.size := Heap.lt_size hol
        have sz1 : (s.heap.push (setNew w)).objs.size = s.heap.objs.size + 1 := Heap.size_push ..
        have hneI : l ≠ (s.heap.push (setNew w)).objs.size := by rw [sz1]; exact Nat.ne_of_lt (Nat.lt_succ_of_lt lS)
        have hSf : s.heap.objs.size ∉ [(s.heap.push (setNew w)).objs.size, l] := by
          rw [sz1]
          intro z
          rcases List.mem_cons.mp z with z | z
          · exact Nat.ne_of_lt (Nat.lt_succ_self _) z
          · exact Nat.ne_of_gt lS (List.mem_singleton.mp z)
        refine set_update_ints ((Walks.list (show A.in1.in1.in1.handled = none by simp [hh]) _ l hneI xs).toS) s.heap.objs.size hSf ns size_eq hb (fun i v hv => ?_) (xs.size - 0) 0 _ (by omega) (Nat.zero_le _)
          ⟨⟨_, Heap.get?_push_size _ rfl, rfl, rfl⟩, (hl1.push _)⟩ ⟨0, Nat.le_refl 0, setR_new_at (Heap.get?_push_of_some _ at0)⟩ (fun s' c' hm hc' hS' => ?_)
        · have hin : i < ns.length := by rw [← size_eq]; exact (Array.getElem?_eq_some_iff.mp hv).1
          obtain ⟨t, e⟩ := IntsAre.int_at hi i v (by rw [Array.getElem?_toList]; exact hv)
          exact ⟨ns[i], t, List.getElem?_eq_getElem hin, by rw [e, List.getD_eq_getElem?_getD, List.getElem?_eq_getElem hin] <;> rfl⟩
        · obtain ⟨h', g2, d', tk', os'⟩ := s'
          obtain rfl : g2 = s.gens := hm.gens
          obtain rfl : d' = s.drawn := hm.drawn
          obtain rfl : os' = s.os := hm.os
          show wpAny _ _ _ _ _ _
          refine wpAny_pure ?_
          show wpAny _ _ (ret Value.none) _ _ _
          refine wpAny_pure ⟨rfl, h', tk', c', rfl, hS', by rw [← size_eq]; exact hc', fun b o e => hm.heap b o ?_ (Heap.get?_push_of_some _ (Heap.get?_push_of_some _ e))⟩
          have b0 : b < s.heap.objs.size := Heap.lt_size e
          intro z
          rcases List.mem_cons.mp z with z | z
          · exact Nat.ne_of_lt b0 z
          · have e2 := List.mem_singleton.mp z
            rw [sz1] at e2
            exact Nat.ne_of_lt (Nat.lt_succ_of_lt b0) e2
      · cases r2 with
        | error e => exact z2
        | ok fl2 =>
          cases fl2 with
          | ret v2 =>
            obtain ⟨rfl, h', tk, c', rfl, hS', hc', hk'⟩ := z2
            repeat (any_goals (first | assumption | wp_step))
            exact h _ _ _ hS' hc' hk'
          | _ => exact z2.elim
    | _ => exact z.elim
end
end L2
namespace Lx
open PySem PySem.Spec PyProof.Rows L2
/-- set(xs), xs a list of ints -/
def rSetOfL (K : PySem.W.Frag) (w : World) : List V → Hp → VK → Prop := fun vs H Q => ∃ (l : Addr) (ns : List Int), vs = [.ref l] ∧ SqL K H l (vI ns) ∧ ns.length ≤ 4000 ∧ ∀ a c (ks : List Int), H a = none → ks.Nodup → (∀ k, k ∈ ks ↔ k ∈ ns) → ks.length = c → Q (.ref a) (upd H a (SetO w a (fun j => decide (j ∈ ns)) c))
theorem cr_setL {X : Cx} (hc : X.calm = true) : CallR X (.type "set") (rSetOfL X.K X.w) := by
  intro pins s σ H vs us Q I r h
  obtain ⟨l, ns, rfl, hq, hl, q⟩ := h
  obtain ⟨u, rfl, ru⟩ := r.one
  cases (show u = Value.ref l from ru)
  obtain ⟨its, rv, pl, hz⟩ := I.list hq
  refine call_set_lstI ns (I.ok.hd hc) pl.isList (by simpa using ints_of_vals rv) (by unfold scanBound; omega) fun h' tk c R hcn k => ?_
  have hp : s.heap.objs.size ≤ s.heap.objs.size := Nat.le_refl _
  have hn : H s.heap.objs.size = none := I.hok.fresh hp
  have J : Inv X pins σ (upd H s.heap.objs.size (SetO X.w s.heap.objs.size (fun j => decide (j ∈ ns)) c)) { s with heap := h', toks := tk } :=
    I.laid (t' := tk) (a := s.heap.objs.size) (o := SetO X.w s.heap.objs.size (fun j => decide (j ∈ ns)) c) (h' := h') k hp ⟨R, (let ⟨o, _, _, _, ho, _⟩ := R; ⟨o, ho⟩), fun h1 h2 z kk => z.at fun o q => kk _ q⟩
  obtain ⟨o, es, ep, t, ho, hex, hd, g, nd, hm, hb2, hf, hsz, hrs, hld⟩ := R
  exact ⟨.ref s.heap.objs.size, _, J, rfl, q _ c (es.toList.map keyOf) hn nd (fun k => by rw [← hm k]; exact decide_eq_true_iff) (by rw [List.length_map, Array.length_toList]; exact hsz)⟩
theorem r_setOfL {K : PySem.W.Frag} {w : World} {H : Hp} {Q : VK} {l : Addr} {ns : List Int} (h : SqL K H l (vI ns)) (hl : ns.length ≤ 4000) (q : ∀ a c (ks : List Int), H a = none → ks.Nodup → (∀ k, k ∈ ks ↔ k ∈ ns) → ks.length = c → Q (.ref a) (upd H a (SetO w a (fun j => decide (j ∈ ns)) c))) : rSetOfL K w [.ref l] H Q := ⟨l, ns, rfl, h, hl, q⟩
theorem k_setL (K : PySem.W.Frag) (w : World) {X : Cx} (hc : X.calm = true := by rfl) (h : X.K = K := by rfl) (h2 : X.w = w := by rfl) : CallR X (.type "set") (rSetOfL K w) := h ▸ h2 ▸ cr_setL hc
theorem k_sortSet (w : World) {X : Cx} (hc : X.calm = true := by rfl) (h2 : X.w = w := by rfl) : CallR X (.builtin "sorted") (rSortedSet w) := h2 ▸ cr_sortedSet hc
end Lx

namespace Lx
open PySem PySem.Spec PyProof.Rows L2
/-! ### x *= e and x //= e -/
def CM (i j : Int) : Prop := CMul i j ∨ CMulW i j
theorem CM.ok {i j : Int} (h : CM i j) : IntMulOk i j := h.elim CMul.ok CMulW.ok
def ipC (c : Int → Int → Prop) (f : Int → Int → Int) : TIp := fun x y H Q => ∃ i j, x = .int i ∧ y = .int j ∧ c i j ∧ Q (.int (f i j)) H
theorem ip_mult {X : Cx} : PIp X .Mult (ipC CM fun i j => i * j) := by
  intro pins s σ H x y v u Q I r1 r2 h
  obtain ⟨i, j, e1, e2, hc, q⟩ := h
  subst e1; subst e2
  obtain ⟨t, rfl⟩ := r1
  obtain ⟨t', rfl⟩ := r2
  exact imul_int ⟨.int _, H, I.tok _, ⟨_, rfl⟩, q⟩ hc.ok
theorem ip_floordiv {X : Cx} : PIp X .FloorDiv (ipC CDivW fun i j => i / j) := by
  intro pins s σ H x y v u Q I r1 r2 h
  obtain ⟨i, j, e1, e2, hc, q⟩ := h
  subst e1; subst e2
  obtain ⟨t, rfl⟩ := r1
  obtain ⟨t', rfl⟩ := r2
  have h1 : (0 : Int) < j := hc.1
  exact ifloordiv_int (by omega) (by rw [Int.fdiv_eq_ediv_of_nonneg i (by omega)]; exact ⟨.int _, H, I.tok _, ⟨_, rfl⟩, q⟩) (.inl (PyProof.noPylong_of_log2 hc.2))
theorem r_ipC {H : Hp} {Q : VK} {c : Int → Int → Prop} {f : Int → Int → Int} {a b : Int} (h : c a b) (q : Q (.int (f a b)) H) : ipC c f (.int a) (.int b) H Q := ⟨a, b, rfl, rfl, h, q⟩
theorem cm_small {a b : Int} (h0 : 0 ≤ b) (h : b < 1000000000) : CM a b := .inl (.inr ⟨by omega, by omega⟩)
/-! ### where ways join -/
section
variable {ts tu : TS} {R bk ct : L2.St → Hp → Prop} {rt : VK} {σ : L2.St} {H : Hp}
theorem ifnJ {c : Prop} [Decidable c] (J : L2.St → Hp → Prop) (h1 : ∀ R' : L2.St → Hp → Prop, (∀ σ H, J σ H → R' σ H) → ¬ c → ts ⟨R', rt, bk, ct⟩ σ H) (h2 : ∀ R' : L2.St → Hp → Prop, (∀ σ H, J σ H → R' σ H) → c → tu ⟨R', rt, bk, ct⟩ σ H) (hR : ∀ σ H, J σ H → R σ H) :
    if (!decide c) = true then ts ⟨R, rt, bk, ct⟩ σ H else tu ⟨R, rt, bk, ct⟩ σ H := ifN (h1 R hR) (h2 R hR)
theorem ifbJ {b : Bool} (J : L2.St → Hp → Prop) (h1 : ∀ R' : L2.St → Hp → Prop, (∀ σ H, J σ H → R' σ H) → b = true → ts ⟨R', rt, bk, ct⟩ σ H) (h2 : ∀ R' : L2.St → Hp → Prop, (∀ σ H, J σ H → R' σ H) → b = false → tu ⟨R', rt, bk, ct⟩ σ H) (hR : ∀ σ H, J σ H → R σ H) :
    if b = true then ts ⟨R, rt, bk, ct⟩ σ H else tu ⟨R, rt, bk, ct⟩ σ H := by
  cases b with
  | true => exact h1 R hR rfl
  | false => exact h2 R hR rfl
end
theorem PairsAt.kpr {G : Addr → Prop} {H H' : Hp} {p r : Addr} {as : List Addr} {qs : List (Int × Int)} {ys : List V} (h : PairsAt G H p as qs) (k : Kp r H H') (hr : H r = some (.lst ys)) (np : p ≠ r) : PairsAt G H' p as qs :=
  ⟨k _ _ np h.hp, h.len, fun i a q e1 e2 => by
    obtain ⟨z, g⟩ := h.it i a q e1 e2
    exact ⟨k _ _ (fun w => by rw [w, hr] at z; cases z) z, g⟩⟩
/-- a list's index of an int -/
theorem r_indexN {K : PySem.W.Frag} {H : Hp} {Q : VK} {a : Addr} {ns : List Int} {x : Int} (h : SqL K H a (vI ns)) (hn : ns.Nodup) (hx : x ∈ ns) (q : Q (.int ((ns.idxOf x : Nat) : Int)) H) : rIndex K (.ref a) [.int x] H Q := by
  have hl := List.idxOf_lt_length_of_mem hx
  refine r_index (j := ns.idxOf x) (z := .int x) h rfl (flat_ints ns) ?_ (by show (x == x) = true; simp) (fun m z' hm hz => ?_) q
  · rw [vI_at hl, List.getElem_idxOf]
  · have hm' : m < ns.length := by omega
    rw [vI_at hm'] at hz
    cases hz
    show (ns[m] == x) = false
    rw [beq_eq_false_iff_ne]
    intro e
    have e2 : ns[m] = ns[ns.idxOf x] := by rw [List.getElem_idxOf]; exact e
    have := (List.getElem_inj hn).mp e2
    omega
/-- numbers of any size that repr shows -/
theorem shows_nat {i : Int} (h0 : 0 ≤ i) (h : i < 10 ^ 500) : Shows (.int i) 0 500 := by
  refine ⟨?_, rfl, Nat.le_refl _, int_shown (by decide) h0 h⟩
  show decide (i.natAbs.log2 < 1920) = true
  have h1 : i.natAbs < 10 ^ 500 := by
    have e : ((i.natAbs : Nat) : Int) < ((10 ^ 500 : Nat) : Int) := by
      rw [Int.natAbs_of_nonneg h0, Int.natCast_pow]
      exact h
    exact Int.ofNat_lt.mp e
  have h3 : i.natAbs < 2 ^ 1920 := Nat.lt_of_lt_of_le h1 (by set_option exponentiation.threshold 3000 in decide +kernel)
  exact decide_eq_true (PySem.Flt.log2_lt_of (by decide) h3)
end Lx

namespace Lx
open PySem PySem.Spec PyProof.Rows L2
/-! ### xs[::e], e one of 1 and -1 -/
theorem bounds_1 (n : Nat) : sliceBounds none none (some 1) n = (0, (n : Int), 1) := by
  first
  | rfl
  | simp [sliceBounds]
theorem range_1 (n : Nat) : sliceRange 0 (n : Int) 1 = List.range n := by
  unfold sliceRange
  by_cases h : (0 : Int) < (n : Int)
  · have e : ((n : Int) - 0 + 1 - 1) / 1 = (n : Int) := by rw [Int.ediv_one]; omega
    have h1 : (1 : Int) > 0 := by decide
    simp only [h1, if_true, h, e, Int.toNat_natCast]
    conv => rhs; rw [← List.map_id (List.range n)]
    apply List.map_congr_left
    intro k _
    show (0 + 1 * (k : Int)).toNat = k
    omega
  · have e : n = 0 := by omega
    subst e
    simp
theorem pick_1 (items : Array Value) : slicePick items none none (some 1) = items.toList.toArray := by
  unfold slicePick
  rw [bounds_1]
  show ((sliceRange 0 (items.size : Int) 1).filterMap (items[·]?)).toArray = _
  rw [range_1, PySem.W.krv_all]
def tStepL (K : PySem.W.Frag) (te ts : TE) : TE := fun σ H Q => te σ H fun x H1 => ∃ a, x = .ref a ∧ tPart ts σ H1 fun o H2 => ∃ xs i, o = some i ∧ (i = 1 ∨ i = -1) ∧ SqL K H2 a xs ∧ ∀ p, H2 p = none → Q (.ref p) (upd H2 p (.lst (if i = 1 then xs else xs.reverse)))
theorem pe_stepL (K : PySem.W.Frag) {X : Cx} {e es : Expr} {te ts : TE} {p3 pos : Pos} (he : PE X e te) (hs : PE X es ts) (hK : X.K = K := by rfl) : PE X (.Subscript e (.Slice none none (some es) p3) pos) (tStepL K te ts) := by
  subst hK
  refine ⟨fun pins s σ H Q I h => ?_⟩
  refine Subscript_ (thn (he.run pins s σ H _ I h) fun v s1 ⟨x, H1, I1, r1, q1⟩ => ?_)
  obtain ⟨a, ex, q1⟩ := q1
  subst ex
  cases r1
  refine wpAny_Slice (thn (po_none.run pins s1 σ H1 (fun o H2 => o = none ∧ H2 = H1) I1 ⟨rfl, rfl⟩) fun vl s2 ⟨l, H2, I2, pl, el, e2⟩ => ?_)
  subst el e2
  refine thn (po_none.run pins s2 σ H2 (fun o H3 => o = none ∧ H3 = H2) I2 ⟨rfl, rfl⟩) fun vu s3 ⟨u, H3, I3, pu, eu, e3⟩ => ?_
  subst eu e3
  refine thn ((po_some hs).run pins s3 σ H3 _ I3 q1) fun vs s4 ⟨o, H4, I4, ps, xs, i, eo, hi, hx, q⟩ => ?_
  subst eo
  have I5 : Inv X pins σ H4 { s4 with heap := s4.heap.push { cls := .type "slice", data := .fields #[vl, vu, vs] } } := I4.kept (t' := s4.toks) fun b ob q => Heap.get?_push_of_some _ q
  obtain ⟨its, r, ht, hz⟩ := I5.list hx
  have hlen := r.length
  show wpAny (model X.prog X.w) X.A (subscriptTail e (.Slice none none (some es) p3) (.ref a) (.ref s4.heap.objs.size)) (EP X pins σ Q) X.xe { s4 with heap := s4.heap.push { cls := .type "slice", data := .fields #[vl, vu, vs] } }
  refine tail_any (ops := [.ref a, .ref s4.heap.objs.size]) ht.isList.typeIs (PySem.slot_list_getitem.lookup) ?_ (by with_unfolding_all rfl)
  have h0 : some i ≠ some 0 := fun z => by cases z; rcases hi with h | h <;> cases h
  refine wpAny_getItem_list_slice ht.isList (Heap.IsSliceOf.new _ vl vu vs) pl pu ps h0 ?_ (by rw [List.size_toArray]; omega)
  rcases hi with rfl | rfl
  · rw [pick_1]
    have q' := q _ (I5.hok.fresh (Nat.le_refl _))
    rw [if_pos rfl] at q'
    refine ⟨.ref _, _, I5.laid (t' := s4.toks) (o := .lst xs) (fun b ob q => Heap.get?_push_of_some _ q) (Nat.le_refl _) ?_, rfl, q'⟩
    exact ⟨hz, _, 0, r, Heap.get?_push_size _ rfl⟩
  · rw [PySem.W.krv_pick]
    have q' := q _ (I5.hok.fresh (Nat.le_refl _))
    rw [if_neg (by decide)] at q'
    refine ⟨.ref _, _, I5.laid (t' := s4.toks) (o := .lst xs.reverse) (fun b ob q => Heap.get?_push_of_some _ q) (Nat.le_refl _) ?_, rfl, q'⟩
    exact ⟨by rw [List.length_reverse]; exact hz, _, 0, r.reverse, Heap.get?_push_size _ rfl⟩
theorem r_stepL {K : PySem.W.Frag} {σ : L2.St} {H : Hp} {Q : VK} {te ts : TE} (h : te σ H fun x H1 => ∃ a, x = .ref a ∧ ts σ H1 fun y H2 => ∃ j, y = .int j ∧ ∃ xs i, some j = some i ∧ (i = 1 ∨ i = -1) ∧ SqL K H2 a xs ∧ ∀ p, H2 p = none → Q (.ref p) (upd H2 p (.lst (if i = 1 then xs else xs.reverse)))) : tStepL K te ts σ H Q := h
end Lx

namespace Lx
open PySem PySem.Spec PyProof.Rows L2
/-! ### sum(lists, []) -/
theorem subLB : isSubtype (.type "list") (.type "bytes") = pure false := by rw [isSubtype_type]; kernel_rfl
theorem subLBA : isSubtype (.type "list") (.type "bytearray") = pure false := by rw [isSubtype_type]; kernel_rfl
theorem subLS : isSubtype (.type "list") (.type "str") = pure false := by rw [isSubtype_type]; kernel_rfl
theorem argsSum2 (a b : Value) : argsOk "sum" ⟨[a, b], []⟩ := by unfold argsOk; kernel_rfl
def flatN (its : Nat → List Value) : Nat → Nat → List Value
  | _, 0 => []
  | i, k + 1 => its i ++ flatN its (i + 1) k
section
variable {prog : Program} {w : World} {A : Around} {R : Result → Shared → Prop}
theorem sumL_loop (hh : A.in1.handled = none) (I ax : Addr) (hne : ax ≠ I) (items : Array Value) (lst : Nat → Addr) (its : Nat → List Value) (hval : ∀ (i : Nat) (v : Value), items[i]? = some v → v = .ref (lst i)) (S : Addr) (hSI : S ≠ I) (hSa : S ≠ ax) :
    ∀ (k i : Nat) (s : Shared) (L : Addr) (acc : List Value) (cL c : Nat), items.size - i = k → i ≤ items.size → (s.heap.IsListIter I ax i ∧ s.heap.IsList ax items) → PySem.IsL s.heap S #[.ref L] c → PySem.IsL s.heap L acc.toArray cL → L ≠ I → L ≠ S →
      (∀ j, i ≤ j → j < items.size → lst j ≠ I ∧ lst j ≠ S ∧ ∃ m, PySem.IsL s.heap (lst j) (its j).toArray m) → acc.length + (flatN its i k).length ≤ sizeLine →
    (∀ h' tk L' c', (∀ b o, b ≠ I → b ≠ S → s.heap.get? b = some o → h'.get? b = some o) → ((k = 0 ∧ L' = L) ∨ s.heap.get? L' = none) → PySem.IsL h' L' (acc ++ flatN its i k).toArray c' → R (.ok (.ret (.ref L'))) { s with heap := h', toks := tk }) →
    codeAny (model prog w) A (.builtin "sum.loop" ⟨[.ref I, .ref S, rawInt 2, rawInt 0], []⟩) R s := by
  have W := Walks.list (prog := prog) (w := w) (A := A.in1) hh I ax hne items
  intro k
  induction k with
  | zero =>
    intro i s L acc cL c hk hi hst hS hL hLI hLS hl hz hR
    have hin : i = items.size := by omega
    subst hin
    refine codeAny_builtin F.entry_sum_loop ?_
    rw [Around.under_plainId F.plain_sum_loop _]
    show wpAny _ A.in1 (seqItems? (.ref S) >>= _) _ _ s
    refine wpAny_bind (wpAny_seqItems hS rfl ?_)
    show wpAny _ A.in1 (tryCatch (pyNext (.ref I)) _ >>= _) _ _ s
    refine wpAny_bind (wpAny_tryCatch (W.done s _ _ hst fun h' tk hk' => ?_))
    refine wpAny_pure (hR h' tk L cL (fun b o hb _ e => hk' b o (by simpa using hb) e) (.inl ⟨rfl, rfl⟩) ?_)
    have := hk' L _ (by simpa using hLI) hL
    simpa [flatN] using this
  | succ k ih =>
    intro i s L acc cL c hk hi hst hS hL hLI hLS hl hz hR
    have hlt : i < items.size := by omega
    refine codeAny_builtin F.entry_sum_loop ?_
    rw [Around.under_plainId F.plain_sum_loop _]
    show wpAny _ A.in1 (seqItems? (.ref S) >>= _) _ _ s
    refine wpAny_bind (wpAny_seqItems hS rfl ?_)
    show wpAny _ A.in1 (tryCatch (pyNext (.ref I)) _ >>= _) _ _ s
    refine wpAny_bind (wpAny_tryCatch (W.item i s _ _ hlt hst fun v h' tk hP hst' hk' => ?_))
    have hv := hval i v hP
    subst hv
    obtain ⟨n1, n2, m, hm⟩ := hl i (Nat.le_refl _) hlt
    have hk1 : ∀ b o, b ≠ I → s.heap.get? b = some o → h'.get? b = some o := fun b o hb e => hk' b o (by simpa using hb) e
    have hS' := hk1 S _ hSI hS
    have hL' := hk1 L _ hLI hL
    have hm' := hk1 _ _ n1 hm
    have e1 : acc.toArray ++ (its i).toArray = (acc ++ its i).toArray := by simp
    have hz' : acc.length + ((its i).length + (flatN its (i + 1) k).length) ≤ sizeLine := by
      have : (flatN its i (k + 1)).length = (its i).length + (flatN its (i + 1) k).length := by show (its i ++ _).length = _; rw [List.length_append]
      omega
    show wpAny _ A.in1 ((holding [Value.ref (lst i)] (binaryOp .Add (.ref L) (.ref (lst i)))).attempt >>= _) _ _ _
    refine wpAny_bind (wpAny_attempt (wpAny_holding (PySem.P.add_list hL' hm' ?_ (by rw [List.size_toArray, List.size_toArray]; omega))))
    rw [e1]
    obtain ⟨N, hN⟩ : ∃ N, N = h'.objs.size := ⟨_, rfl⟩
    have fresh : ∀ b o, h'.get? b = some o → b ≠ h'.objs.size := fun b o e z => by have := Heap.lt_size e; rw [z] at this; exact Nat.lt_irrefl _ this
    have hS2 : PySem.IsL (h'.push { cls := .type "list", data := .seq (acc ++ its i).toArray }) S #[.ref L] c := Heap.get?_push_of_some _ hS'
    have hN2 : PySem.IsL (h'.push { cls := .type "list", data := .seq (acc ++ its i).toArray }) h'.objs.size (acc ++ its i).toArray 0 := Heap.get?_push_size _ rfl
    have hI2 : (h'.push { cls := .type "list", data := .seq (acc ++ its i).toArray }).IsListIter I ax (i + 1) := hst'.1.at fun o e => Heap.get?_push_of_some _ e
    have ha2 : (h'.push { cls := .type "list", data := .seq (acc ++ its i).toArray }).IsList ax items := hst'.2.at fun o e => Heap.get?_push_of_some _ e
    have hk2 : ∀ b o, b ≠ I → s.heap.get? b = some o → (h'.push { cls := .type "list", data := .seq (acc ++ its i).toArray }).get? b = some o := fun b o hb e => Heap.get?_push_of_some _ (hk1 b o hb e)
    have nSN : S ≠ h'.objs.size := fresh _ _ hS'
    have nIN : I ≠ h'.objs.size := by
      obtain ⟨o, e, _⟩ := hst'.1
      exact fresh _ _ e
    have hsize : s.heap.get? h'.objs.size = none := by
      cases e : s.heap.get? h'.objs.size with
      | none => rfl
      | some o => exact absurd rfl (fresh _ _ (hk1 _ o (fun z => nIN z.symm) e))
    have nsi : ∀ b, s.heap.get? b ≠ none → b ≠ h'.objs.size := fun b hb z => hb (z ▸ hsize)
    generalize hG : h'.push { cls := .type "list", data := .seq (acc ++ its i).toArray } = G at *
    generalize h'.objs.size = NN at *
    show wpAny _ A.in1 (updateSeq S (fun _ => #[.ref NN]) >>= _) _ _ _
    refine wpAny_bind ?_
    refine wpAny_updateSeq hS2 rfl ?_
    have hS3 := Heap.get?_update_self (Obj.mapSeq fun _ => #[Value.ref NN]) hS2 rfl
    have up1 : ∀ b o, b ≠ S → G.get? b = some o → (G.update S (Obj.mapSeq fun _ => #[Value.ref NN])).get? b = some o := fun b o hb e => (Heap.get?_update_other _ _ (Ne.symm hb)).trans e
    refine wpAny_bind (wpAny_letGo ?_)
    refine wpAny_bind ?_
    refine wpAny_updateSeq hS3 rfl (wpAny_pure ⟨plainId_quiet F.plain_sum_loop _, ?_⟩)
    have hS4 := Heap.get?_update_self (Obj.mapSeq fun _ => #[Value.ref NN]) hS3 rfl
    have up2 : ∀ b o, b ≠ S → G.get? b = some o → ((G.update S (Obj.mapSeq fun _ => #[Value.ref NN])).update S (Obj.mapSeq fun _ => #[Value.ref NN])).get? b = some o := fun b o hb e => (Heap.get?_update_other _ _ (Ne.symm hb)).trans (up1 b o hb e)
    refine ih (i + 1) _ NN (acc ++ its i) 0 _ (by omega) hlt ⟨hI2.at fun o e => up2 I o (Ne.symm hSI) e, ha2.at fun o e => up2 ax o (Ne.symm hSa) e⟩ hS4 (up2 _ _ (Ne.symm nSN) hN2) (Ne.symm nIN) (Ne.symm nSN) (fun j hj1 hj2 => ?_) (by rw [List.length_append]; omega) fun h'' tk'' L' c' k1 k2 k3 => ?_
    · obtain ⟨a1, a2, a3, a4⟩ := hl j (by omega) hj2
      exact ⟨a1, a2, a3, up2 _ _ a2 (hk2 _ _ a1 a4)⟩
    · refine hR h'' tk'' L' c' (fun b o hb1 hb2 e => k1 b o hb1 hb2 (up2 b o hb2 (hk2 b o hb1 e))) (.inr ?_) (by
        have : acc ++ flatN its i (k + 1) = acc ++ its i ++ flatN its (i + 1) k := by show acc ++ (its i ++ _) = _; rw [List.append_assoc]
        rw [this]; exact k3)
      rcases k2 with ⟨_, e⟩ | e
      · rw [e]; exact hsize
      · cases z : s.heap.get? L' with
        | none => rfl
        | some o =>
          by_cases hL'S : L' = S
          · have e' : ((G.update S (Obj.mapSeq fun _ => #[Value.ref NN])).update S (Obj.mapSeq fun _ => #[Value.ref NN])).get? L' = none := e
            rw [hL'S, hS4] at e'
            cases e'
          · by_cases hL'I : L' = I
            · obtain ⟨oi, ei, _⟩ := hI2
              have e' : ((G.update S (Obj.mapSeq fun _ => #[Value.ref NN])).update S (Obj.mapSeq fun _ => #[Value.ref NN])).get? L' = none := e
              rw [hL'I, up2 I _ (Ne.symm hSI) ei] at e'
              cases e'
            · have e' : ((G.update S (Obj.mapSeq fun _ => #[Value.ref NN])).update S (Obj.mapSeq fun _ => #[Value.ref NN])).get? L' = none := e
              rw [up2 L' o hL'S (hk2 L' o hL'I z)] at e'
              cases e'
end
section
variable {prog : Program} {w : World} {A : Around} {E : Value → Shared → Prop} {s : Shared}
theorem call_sumL {a e : Addr} {its0 : List Value} {ce : Nat} {lst : Nat → Addr} {its : Nat → List Value} {Q : Value → Shared → Prop} (hh : A.in1.handled = none) (ha : s.heap.IsList a its0.toArray) (he : PySem.IsL s.heap e #[] ce)
    (hval : ∀ (i : Nat) (v : Value), its0[i]? = some v → v = .ref (lst i)) (hl : ∀ j, j < its0.length → ∃ m, PySem.IsL s.heap (lst j) (its j).toArray m) (hz : (flatN its 0 its0.length).length ≤ sizeLine)
    (h : ∀ h' tk L' c', (∀ b o, s.heap.get? b = some o → h'.get? b = some o) → (L' = e ∨ s.heap.get? L' = none) → PySem.IsL h' L' (flatN its 0 its0.length).toArray c' → Q (.ref L') { s with heap := h', toks := tk }) :
    wpAny (model prog w) A (call (.builtin "sum") [.ref a, .ref e]) Q E s := by
  refine call_function_tree F.kind_sum F.plain_sum F.entry_sum (argsSum2 _ _) ?_
  unfold Builtin.«sum»
  simp only [List.length_cons, List.length_nil]
  rw [if_neg (by decide)]
  refine wpAny_bind (wpAny_of_eq (show Builtin.Builtins.bindParams "sum" ["start"] 0 ⟨[.ref e], []⟩ = pure [some (.ref e)] from rfl) ?_)
  have hae : a ≠ s.heap.objs.size := by obtain ⟨_, z, _⟩ := ha; exact Nat.ne_of_lt (Heap.lt_size z)
  refine wpAny_bind (wpAny_pyIter_list ha ?_)
  have kp1 : ∀ b o, s.heap.get? b = some o → (s.heap.push { cls := .type "list_iterator", data := .fields #[.ref a, .int 0 0] }).get? b = some o := fun b o z => Heap.get?_push_of_some _ z
  have hI1 : (s.heap.push { cls := .type "list_iterator", data := .fields #[.ref a, .int 0 0] }).IsListIter s.heap.objs.size a 0 := ⟨_, Heap.get?_push_size _ rfl, rfl, rfl⟩
  have hsz1 : (s.heap.push { cls := .type "list_iterator", data := .fields #[.ref a, .int 0 0] }).objs.size = s.heap.objs.size + 1 := Heap.size_push _ _
  generalize s.heap.push { cls := .type "list_iterator", data := .fields #[.ref a, .int 0 0] } = G1 at *
  refine wpAny_bind (wpAny_pure ?_)
  have hT : ({ s with heap := G1 } : Shared).TypeIs (.ref e) "list" := ⟨_, kp1 _ _ he, rfl⟩
  simp only [List.forIn_cons, List.forIn_nil]
  refine wpAny_bind (wpAny_bind (wpAny_bind (wpAny_isInstance (T := "list") (b := false) hT subLS ?_)))
  simp only [Bool.false_eq_true, if_false]
  refine wpAny_pure (wpAny_bind (wpAny_bind (wpAny_isInstance (T := "list") (b := false) hT subLB ?_)))
  simp only [Bool.false_eq_true, if_false]
  refine wpAny_pure (wpAny_bind (wpAny_bind (wpAny_isInstance (T := "list") (b := false) hT subLBA ?_)))
  simp only [Bool.false_eq_true, if_false]
  refine wpAny_pure (wpAny_pure ?_)
  refine wpAny_bind (wpAny_newObj_type ?_)
  have kp2 : ∀ b o, G1.get? b = some o → (G1.push { cls := .type "list", data := .seq #[.ref e] }).get? b = some o := fun b o z => Heap.get?_push_of_some _ z
  have hS : PySem.IsL (G1.push { cls := .type "list", data := .seq #[.ref e] }) G1.objs.size #[.ref e] 0 := Heap.get?_push_size _ rfl
  have lt0 : ∀ b o, s.heap.get? b = some o → b ≠ s.heap.objs.size ∧ b ≠ G1.objs.size := fun b o z => by
    have := Heap.lt_size z
    rw [hsz1]
    exact ⟨Nat.ne_of_lt this, Nat.ne_of_lt (Nat.lt_succ_of_lt this)⟩
  obtain ⟨oa, hoa, hca⟩ := ha
  have na := lt0 _ _ hoa
  have nee := lt0 _ _ he
  refine wpAny_pure ⟨plainId_quiet F.plain_sum_loop _, sumL_loop hh s.heap.objs.size a na.1 its0.toArray lst its (fun i v z => hval i v (by simpa using z)) G1.objs.size (by rw [hsz1]; exact Nat.succ_ne_self _) (Ne.symm na.2) its0.length 0 _ e [] ce 0 (by simp) (Nat.zero_le _)
    ⟨hI1.at fun o z => kp2 _ _ z, ⟨oa, kp2 _ _ (kp1 _ _ hoa), hca⟩⟩ hS (kp2 _ _ (kp1 _ _ he)) nee.1 nee.2 (fun j _ hj => ?_) (by simpa using hz) fun h' tk L' c' k1 k2 k3 => ?_⟩
  · obtain ⟨m, hm⟩ := hl j (by simpa using hj)
    have := lt0 _ _ hm
    exact ⟨this.1, this.2, m, kp2 _ _ (kp1 _ _ hm)⟩
  · refine h h' tk L' c' (fun b o z => k1 b o (lt0 _ _ z).1 (lt0 _ _ z).2 (kp2 _ _ (kp1 _ _ z))) ?_ (by simpa using k3)
    rcases k2 with ⟨_, z⟩ | z
    · exact .inl z
    · refine .inr ?_
      cases q : s.heap.get? L' with
      | none => rfl
      | some o => have z' : (G1.push { cls := .type "list", data := .seq #[.ref e] }).get? L' = none := z; rw [kp2 _ _ (kp1 _ _ q)] at z'; cases z'
end
theorem objOk_got {P : Program} {w : World} {H : Hp} {h : Heap} {a : Addr} {o : HO} (x : ObjOk P w H h a o) : ∃ u, h.get? a = some u := by
  induction o with
  | lst xs => obtain ⟨z, its, n, r, e⟩ := x; exact ⟨_, e⟩
  | tup xs => obtain ⟨z, its, r, ob, e, c⟩ := x; exact ⟨_, e⟩
  | dK kvs => obtain ⟨z, y, vs, r, ob, es, ep, e, c⟩ := x; exact ⟨_, e⟩
  | dT kvs => obtain ⟨z, y, xs, r, ob, es, ep, e, c⟩ := x; exact ⟨_, e⟩
  | set S n => obtain ⟨ob, es, ep, t, e, c⟩ := x; exact ⟨_, e⟩
  | ins C dx fs => obtain ⟨d, z, ne, e, _⟩ := x; exact ⟨_, e⟩
  | own y => obtain ⟨ob, e⟩ := x; exact ⟨_, e⟩
  | xd fs => obtain ⟨mA, ⟨od, es, ep, e, c⟩, r⟩ := x; exact ⟨_, e⟩
  | rng lo hi => obtain ⟨t, u, v, e⟩ := x; exact ⟨_, e⟩
  | frz ob u ih => obtain ⟨e, q⟩ := x; exact ⟨_, e⟩
  | tbl ps => exact ⟨_, x⟩
  | met f y => exact ⟨_, x⟩
  | ext φ => obtain ⟨p, ⟨o, e⟩, st⟩ := x; exact ⟨_, e⟩
/-- sum(lists, []) -/
def rSumL (K : PySem.W.Frag) : List V → Hp → VK → Prop := fun vs H Q => ∃ (a e : Addr) (as : List Addr) (rs : List (List V)), vs = [.ref a, .ref e] ∧ SqL K H a (as.map V.ref) ∧ as.length = rs.length ∧ (∀ (i : Nat) (b : Addr) (r : List V), as[i]? = some b → rs[i]? = some r → H b = some (.lst r)) ∧
  H e = some (.lst []) ∧ rs.flatten.length ≤ sizeLine ∧ ∀ H' p, Same H H' → (H p = none ∨ p = e) → H' p = some (.lst rs.flatten) → Q (.ref p) H'
theorem flatN_vals {its : Nat → List Value} : ∀ {rs : List (List V)} {i : Nat}, (∀ (j : Nat) (r : List V), rs[j]? = some r → Vals r (its (i + j))) → Vals rs.flatten (flatN its i rs.length)
  | [], i, _ => .nil
  | r :: rs, i, h => by
    have h0 := h 0 r rfl
    rw [Nat.add_zero] at h0
    show Vals (r ++ rs.flatten) (its i ++ flatN its (i + 1) rs.length)
    exact h0.append (flatN_vals fun j q e => by
      have := h (j + 1) q (by simpa using e)
      rw [show i + 1 + j = i + (j + 1) by omega]
      exact this)
theorem cr_sumL {X : Cx} (hc : X.calm = true) : CallR X (.builtin "sum") (rSumL X.K) := by
  intro pins s σ H vs us Q I r h
  obtain ⟨a, e, as, rs, rfl, hs, hlen, hit, he, hz, q⟩ := h
  obtain ⟨its0, rv, hl, _⟩ := I.list hs
  have eu : us = [.ref a, .ref e] := by
    cases r with
    | cons r1 r =>
      cases r with
      | cons r2 r => cases r with | nil => cases r1; cases r2; rfl
  subst eu
  obtain ⟨_, ie, ce, re, _, hce⟩ := I.lstM he
  have ie0 : ie = [] := by cases re; rfl
  subst ie0
  have hx : ∀ j : Nat, ∃ l : List Value, j < rs.length → (∃ m, PySem.IsL s.heap (as.getD j 0) l.toArray m) ∧ Vals (rs.getD j []) l := fun j => by
    by_cases hj : j < rs.length
    · have e1 : as[j]? = some (as.getD j 0) := by rw [List.getD_eq_getElem?_getD, List.getElem?_eq_getElem (by omega)]; rfl
      have e2 : rs[j]? = some (rs.getD j []) := by rw [List.getD_eq_getElem?_getD, List.getElem?_eq_getElem hj]; rfl
      obtain ⟨_, l, m, hv, _, hm⟩ := I.lstM (hit j _ _ e1 e2)
      exact ⟨l, fun _ => ⟨⟨m, hm⟩, hv⟩⟩
    · exact ⟨[], fun z => absurd z hj⟩
  have l0 : its0.length = rs.length := by rw [← rv.length, List.length_map, hlen]
  have hvals : Vals rs.flatten (flatN (fun j => (hx j).choose) 0 rs.length) := flatN_vals fun j r e => by
    have hj := (List.getElem?_eq_some_iff.mp e).1
    have := ((hx j).choose_spec hj).2
    rw [Nat.zero_add]
    have e2 : rs.getD j [] = r := by rw [List.getD_eq_getElem?_getD, e]; rfl
    exact e2 ▸ this
  refine call_sumL (its := fun j => (hx j).choose) (lst := fun j => as.getD j 0) (I.ok.hd hc) hl.isList hce (fun i v e1 => ?_) (fun j hj => ((hx j).choose_spec (by omega)).1) (by rw [l0, ← hvals.length]; exact hz) fun h' tk L' c' k1 k2 k3 => ?_
  · have hi := (List.getElem?_eq_some_iff.mp e1).1
    have e2 : (as.map V.ref)[i]? = some (.ref (as.getD i 0)) := by rw [List.getElem?_map, List.getD_eq_getElem?_getD, List.getElem?_eq_getElem (by omega)]; rfl
    obtain ⟨u, e3, ru⟩ := rv.get e2
    rw [e1] at e3
    cases e3
    cases ru
    rfl
  · rw [l0] at k3
    rcases k2 with z | z
    · subst z
      have hf : rs.flatten = [] := by
        have e1 := k1 _ _ hce
        rw [k3] at e1
        have e2 : (flatN (fun j => (hx j).choose) 0 rs.length) = [] := by
          have := Option.some.inj e1
          injection this with _ _ e4 _
          injection e4 with e5 _
          simpa using e5
        rw [e2] at hvals
        cases hvals' : rs.flatten with
        | nil => rfl
        | cons x y => rw [hvals'] at hvals; cases hvals
      exact ⟨.ref L', H, I.kept k1, rfl, q H L' (Same.refl _) (.inr rfl) (by rw [hf]; exact he)⟩
    · have hn : H L' = none := by
        cases e1 : H L' with
        | none => rfl
        | some o => obtain ⟨u, hu⟩ := objOk_got (I.hok _ _ e1); rw [hu] at z; cases z
      exact ⟨.ref L', upd H L' (.lst rs.flatten), I.laidN k1 z hn ⟨hz, _, c', hvals, k3⟩, rfl, q _ L' (same_new hn) (.inl hn) upd_same⟩
theorem k_sumL (K : PySem.W.Frag) {X : Cx} (h : X.K = K := by rfl) (hc : X.calm = true := by rfl) : CallR X (.builtin "sum") (rSumL K) := h ▸ cr_sumL hc
end Lx

namespace Lx
open PySem PySem.Spec PyProof.Rows L2
/-! ### zip of a tuple and a list -/
def ItzM (K : PySem.W.Frag) (a b : Addr) : It :=
  ⟨fun i H => ∃ (xs ys : List V) (x y : V), SqT K H a xs ∧ SqL K H b ys ∧ xs[i]? = some x ∧ ys[i]? = some y,
    fun i H v H' => ∃ T x y, v = .ref T ∧ H T = none ∧ H' = upd H T (.tup [x, y]) ∧ (∀ xs, SqT K H a xs → xs[i]? = some x) ∧ ∀ ys, SqL K H b ys → ys[i]? = some y,
    fun i H => ∃ xs ys : List V, SqT K H a xs ∧ SqL K H b ys ∧ (xs.length = i ∨ ys.length = i) ∧ i ≤ xs.length ∧ i ≤ ys.length⟩
theorem turn_zipM {P : Program} {w : World} {K : PySem.W.Frag} {elts : List Expr} {kk : Nat} {tpos : Pos} {N a b : Addr} (la : a < N) (lb : b < N) :
    Turn P w K (.Tuple elts kk tpos) (ItzM K a b) [N + 4, N + 2, N + 3, N, N + 1] (N + 4) (fun i h => IsZip h (N + 4) (N + 2) (N + 3) .none ∧ IsTupOf2 h (N + 2) (.ref N) (.ref (N + 1)) ∧ (∃ x y, IsTupOf2 h (N + 3) x y) ∧ h.IsTupleIter N a i ∧ h.IsListIter (N + 1) b i) where
  mem := by simp
  obj := fun i h st c hc => by
    obtain ⟨hz, hTI, ⟨x, y, hTO⟩, ⟨o1, e1, _, d1⟩, ⟨o2, e2, _, d2⟩⟩ := st
    have e' : c = N + 4 ∨ c = N + 2 ∨ c = N + 3 ∨ c = N ∨ c = N + 1 := by simpa using hc
    rcases e' with q | q | q | q | q
    · rw [q]; exact ⟨_, hz, fun v q => nomatch q⟩
    · rw [q]; exact ⟨_, hTI, fun v q => nomatch q⟩
    · rw [q]; exact ⟨_, hTO, fun v q => nomatch q⟩
    · rw [q]; exact ⟨o1, e1, fun v q => by rw [d1] at q; cases q⟩
    · rw [q]; exact ⟨o2, e2, fun v q => by rw [d2] at q; cases q⟩
  keep := fun i h h' st k => by
    obtain ⟨hz, hTI, ⟨x, y, hTO⟩, h1, h2⟩ := st
    exact ⟨k _ (by simp) _ hz, k _ (by simp) _ hTI, ⟨x, y, k _ (by simp) _ hTO⟩, h1.at fun o q => k _ (by simp) o q, h2.at fun o q => k _ (by simp) o q⟩
  item := by
    intro X hP hw hK hc i pins s σ H E I hf st hg
    subst hP hw hK
    obtain ⟨hz, hTI, ⟨x0, y0, hTO⟩, h1, h2⟩ := st
    obtain ⟨xs, ys, x, y, hqx, hqy, hx, hy⟩ := hg
    obtain ⟨its, rv, p, _⟩ := I.tuple hqx
    obtain ⟨its2, rv2, p2, _⟩ := I.list hqy
    obtain ⟨u, hu, ru⟩ := rv.get hx
    obtain ⟨u2, hu2, ru2⟩ := rv2.get hy
    have hh := I.ok.hd hc
    have D1 := Draws.tuple (prog := X.prog) (w := X.w) (A := X.A.in1) hh N a (Nat.ne_of_lt la) its.toArray
    have D2 := Draws.list (prog := X.prog) (w := X.w) (A := X.A.in1) hh (N + 1) b (Nat.ne_of_lt (Nat.lt_succ_of_lt lb)) its2.toArray
    have S := zip_sep2 (N := N) (fp1 := [a]) (fp2 := [b]) (fun c hc => by rw [List.mem_singleton.mp hc]; exact la) (fun c hc => by rw [List.mem_singleton.mp hc]; exact lb)
    have n1 : i < its.toArray.size := by rw [List.size_toArray]; exact (List.getElem?_eq_some_iff.mp hu).1
    have n2 : i < its2.toArray.size := by rw [List.size_toArray]; exact (List.getElem?_eq_some_iff.mp hu2).1
    refine wpAny_pyNext_zipD2_item S D1 D2 hz hTI hTO ⟨h1, p⟩ ⟨h2, p2.isList⟩ n1 n2 fun v1 v2 h' tk pv1 pv2 z' TO' st1 st2 hT hsz hk => ?_
    have e1 : v1 = u := by
      have z : its[i]? = some v1 := by simpa using pv1
      rw [hu] at z; exact (Option.some.inj z).symm
    have e2 : v2 = u2 := by
      have z : its2[i]? = some v2 := by simpa using pv2
      rw [hu2] at z; exact (Option.some.inj z).symm
    subst e1 e2
    have hzl : N + 4 < s.heap.objs.size := Heap.lt_size hz
    refine ⟨_, rfl, wpAny_letOwnedTupleGo_zip (s := { s with heap := h', toks := tk }) z' fun h'' z'' sb => ?_⟩
    have hT2 : h''.get? s.heap.objs.size = some { cls := .type "tuple", data := .seq #[v1, v2] } := (sb.2 _ (Nat.ne_of_gt hzl)).trans hT
    have new : ObjOk X.prog X.w (upd H s.heap.objs.size (.tup [x, y])) h'' s.heap.objs.size (.tup [x, y]) :=
      ⟨by show 2 ≤ sizeLine; decide, [v1, v2], .cons ru (.cons ru2 .nil), ⟨_, hT2, rfl, _, rfl⟩⟩
    have I1 : Inv X pins σ (upd H s.heap.objs.size (.tup [x, y])) { s with heap := h'', toks := tk } :=
      I.turnedNew (t' := tk) (ch := [N + 4, N + 2, N + 3, N, N + 1]) (fun c o hb q => (sb.2 c (fun q' => hb (by simp [q']))).trans (hk c o (fun q' => hb (by simp [q'])) (fun q' => hb (by simp [q'])) (fun q' => hb (by simp [q'])) (fun q' => hb (by simp [q'])) q)) hf (Nat.le_refl _) new
    refine ⟨.ref s.heap.objs.size, _, I1, rfl, ⟨_, x, y, rfl, I.hok.fresh (Nat.le_refl _), rfl, fun l hl => by rw [I.tuple_inj hl hqx]; exact hx, fun l hl => by rw [I.list_inj hl hqy]; exact hy⟩, ⟨z'', ?_, ⟨v1, v2, ?_⟩, ?_, ?_⟩, fun c hcm => ?_⟩
    · exact (sb.2 _ S.TIz).trans (hk _ _ S.TIz S.TITO S.TIi1 S.TIi2 hTI)
    · exact (sb.2 _ S.TOz).trans TO'
    · exact st1.1.at fun o q => (sb.2 _ (Ne.symm S.zi1)).trans q
    · exact st2.1.at fun o q => (sb.2 _ (Ne.symm S.zi2)).trans q
    · have hlt : c < s.heap.objs.size := by
        have e' : c = N + 4 ∨ c = N + 2 ∨ c = N + 3 ∨ c = N ∨ c = N + 1 := by simpa using hcm
        have key : ∀ {m k : Nat}, m < k → c ≤ m → c < k := fun h1 h2 => Nat.lt_of_le_of_lt h2 h1
        refine key hzl ?_
        rcases e' with q | q | q | q | q
        · rw [q]; exact Nat.le_refl _
        · rw [q]; exact Nat.add_le_add_left (by decide) N
        · rw [q]; exact Nat.add_le_add_left (by decide) N
        · rw [q]; exact Nat.le_add_right N 4
        · rw [q]; exact Nat.add_le_add_left (by decide) N
      rw [upd_ne (Nat.ne_of_lt hlt)]
      exact (hf c hcm).1
  done := by
    intro X hP hw hK hc i pins s σ H E I hf st hg
    subst hP hw hK
    obtain ⟨hz, hTI, ⟨x0, y0, hTO⟩, h1, h2⟩ := st
    obtain ⟨xs, ys, hqx, hqy, hend, le1, le2⟩ := hg
    obtain ⟨its, rv, p, _⟩ := I.tuple hqx
    obtain ⟨its2, rv2, p2, _⟩ := I.list hqy
    have l1 := rv.length
    have l2 := rv2.length
    have hh := I.ok.hd hc
    have D1 := Draws.tuple (prog := X.prog) (w := X.w) (A := X.A.in1) hh N a (Nat.ne_of_lt la) its.toArray
    have D2 := Draws.list (prog := X.prog) (w := X.w) (A := X.A.in1) hh (N + 1) b (Nat.ne_of_lt (Nat.lt_succ_of_lt lb)) its2.toArray
    have S := zip_sep2 (N := N) (fp1 := [a]) (fp2 := [b]) (fun c hc => by rw [List.mem_singleton.mp hc]; exact la) (fun c hc => by rw [List.mem_singleton.mp hc]; exact lb)
    have z1 : its.toArray.size = xs.length := by rw [List.size_toArray]; exact l1.symm
    have z2 : its2.toArray.size = ys.length := by rw [List.size_toArray]; exact l2.symm
    refine wpAny_pyNext_zipD2_end S D1 D2 hz hTI hTO ⟨h1, p⟩ ⟨h2, p2.isList⟩ (by rw [z1]; exact le1) (by rw [z2]; exact le2) (by rw [z1, z2]; exact hend.imp Eq.symm Eq.symm) fun h' tk hk => ⟨rfl, I.turnedL (t' := tk) (ch := [N + 4, N + 2, N + 3, N, N + 1]) (fun c o hb q =>
      hk c o (fun q' => hb (by simp [q'])) (fun q' => hb (by simp [q'])) (fun q' => hb (by simp [q'])) (fun q' => hb (by simp [q'])) q) hf⟩
  self := fun A i s Q E st h => wpAny_pyIter_zip st.1 h
def iZipM (K : PySem.W.Frag) (ta : TA) : TI := fun σ H R => ta σ H fun vs H1 => ∃ a b xs ys, vs = [.ref a, .ref b] ∧ SqT K H1 a xs ∧ SqL K H1 b ys ∧ R (ItzM K a b) H1
theorem pi_zipM (K : PySem.W.Frag) {X : Cx} {e e2 : Expr} {ta : TA} {p pos tpos : Pos} {elts : List Expr} {kk : Nat} (hg : Gl X "zip") (hm : X.mg "zip" = none) (ha : PA X [e, e2] ta)
    (hs : starEach [e, e2] X.env = (false, eval e X.env) :: starEach [e2] X.env := by rfl) (hpl : (backTo pos (starEach [e2] X.env)).any (·.1) = false := by rfl) (hK : X.K = K := by rfl) :
    PI X (.Tuple elts kk tpos) (.Call (.Name "zip" p) [e, e2] [] pos) (iZipM K ta) := by
  subst hK
  refine ⟨fun pins s σ H R I h => ?_⟩
  refine Call_ (ld_blt I hg hm PyProof.Rows.boot_zip (PyProof.Rows.callWith_type1 (thn (ha.run pos pins s σ H _ I h) fun us s1 ⟨vs, H1, I1, r1, q1⟩ => ?_) hs hpl))
  obtain ⟨a, b, xs, ys, ex, hqx, hqy, q⟩ := q1
  subst ex
  cases r1 with
  | cons r rr =>
    cases rr with
    | cons r' rr =>
      cases rr
      cases r
      cases r'
      obtain ⟨its, rv, p1, _⟩ := I1.tuple hqx
      obtain ⟨its2, rv2, p2, _⟩ := I1.list hqy
      obtain ⟨o1, ho1, _⟩ := id p1
      have la : a < s1.heap.objs.size := Heap.lt_size ho1
      have lb := p2.lt
      refine PySem.zip_begins2 (begins_tuple a its.toArray) (begins_list b its2.toArray) p1 p2.isList fun h' hz hTI hTO h1 h2 hsz hk => wpAny_pyIter_zip hz ?_
      have I2 : Inv X pins σ H1 { s1 with heap := h' } := I1.kept (t' := s1.toks) hk
      have fresh5 : ∀ c, c ∈ [s1.heap.objs.size + 4, s1.heap.objs.size + 2, s1.heap.objs.size + 3, s1.heap.objs.size, s1.heap.objs.size + 1] → FpOk X pins H1 c := fun c hcm => by
        have e' : c = s1.heap.objs.size + 4 ∨ c = s1.heap.objs.size + 2 ∨ c = s1.heap.objs.size + 3 ∨ c = s1.heap.objs.size ∨ c = s1.heap.objs.size + 1 := by simpa using hcm
        have hle : s1.heap.objs.size ≤ c := by
          rcases e' with z | z | z | z | z
          · rw [z]; exact Nat.le_add_right _ _
          · rw [z]; exact Nat.le_add_right _ _
          · rw [z]; exact Nat.le_add_right _ _
          · rw [z]; exact Nat.le_refl _
          · rw [z]; exact Nat.le_add_right _ _
        exact I1.fpOk hle (I1.hok.fresh hle)
      exact ⟨s1.heap.objs.size + 4, _, _, _, H1, rfl, I2, turn_zipM la lb, ⟨hz, hTI, ⟨_, _, hTO⟩, ⟨_, h1, rfl, rfl⟩, ⟨_, h2, rfl, rfl⟩⟩, fresh5, q⟩
theorem src_zipTL {K : PySem.W.Frag} {a b : Addr} {xs ys : List V} (hl : xs.length = ys.length) : Src (ItzM K a b) xs.length (fun H => SqT K H a xs ∧ SqL K H b ys) (fun i v H H' => ∃ T x y, v = .ref T ∧ H T = none ∧ H' = upd H T (.tup [x, y]) ∧ xs[i]? = some x ∧ ys[i]? = some y) where
  go := fun i H h hi => ⟨xs, ys, _, _, h.1, h.2, List.getElem?_eq_getElem hi, List.getElem?_eq_getElem (by omega)⟩
  stop := fun H h => ⟨xs, ys, h.1, h.2, .inl rfl, Nat.le_refl _, by omega⟩
  yld := fun i H v H' h hi y => by
    obtain ⟨T, x, y, rfl, nT, rfl, f1, f2⟩ := y
    exact ⟨T, x, y, rfl, nT, rfl, f1 xs h.1, f2 ys h.2⟩
end Lx

namespace My
open PySem PySem.Spec PyProof.Rows L2 Lx
local macro_rules | `(tactic| walk_at "hp") => `(tactic| first
  | assumption
  | exact upd_same
  | (refine Eq.trans (upd_ne ?_) ?_; (focus (walk_at "ne")); walk_at "hp")
  | (refine Same.get (by assumption) ?_; walk_at "hp"))
local macro_rules | `(tactic| walk_at "ne") => `(tactic| first
  | assumption
  | exact Ne.symm (by assumption)
  | exact ne_new (by assumption) (by walk_at "hp")
  | exact (ne_new (by assumption) (by walk_at "hp")).symm)
local macro_rules | `(tactic| walk_at "sq") => `(tactic| first
  | assumption
  | exact lst_of (by walk_at "hp")
  | exact tup_of (by walk_at "hp")
  | (refine Same.seq (by assumption) ?_; walk_at "sq")
  | (refine Same.seqT (by assumption) ?_; walk_at "sq"))
local macro_rules | `(tactic| walk_at "lt") => `(tactic| first
  | assumption
  | exact Or.inl (by walk_at "sq")
  | exact Or.inr (by walk_at "sq")
  | exact Sq.or (by walk_at "q"))
local macro_rules | `(tactic| walk_at "q") => `(tactic| first
  | assumption
  | (refine Same.sq (by assumption) ?_; walk_at "q")
  | exact Or.inl (by walk_at "hp")
  | exact Or.inr (by walk_at "hp"))
local macro_rules | `(tactic| walk_at "s1") => `(tactic| with_reducible (first
  | refine r_seq ?_ | refine r_asg ?_ | refine r_name ?_ | refine r_c ?_ | refine r_op ?_ | refine r_if ?_ | refine r_test ?_ | refine r_bl ?_
  | refine r_I0 ?_ | refine r_eqI ?_ | refine r_neI ?_ | refine r_eqS ?_ | refine r_neS ?_ | refine r_eqB ?_ | refine r_neB ?_ | refine r_U ?_
  | refine r_cons ?_ | refine r_nil ?_ | refine r_CB ?_ | refine r_call ?_ | refine r_ret ?_ | refine r_nx ?_ | refine r_rt ?_ | refine r_next ?_ | refine r_retN ?_ | refine r_drop ?_
  | refine r_brk ?_ | refine r_cont ?_ | refine r_bk ?_ | refine r_ct ?_
  | refine r_lst ?_ | refine r_tup ?_ | refine r_new (Nat.le_of_ble_eq_true rfl) ?_ | refine r_sub ?_ | refine r_gcons ?_ | refine r_gnil ?_
  | refine r_B ?_ | refine r_and ?_ | refine r_or ?_ | refine r_not ?_ | refine r_andV ?_ | refine r_orV ?_ | refine r_notV ?_ | refine r_ifE ?_ | refine r_chain ?_
  | refine r_par ?_ | refine r_par3 ?_ | refine r_two ?_ | refine r_three ?_ | refine r_un ?_
  | refine r_BM ?_ | refine r_BM0 ?_ | refine r_tyS ?_ | refine r_sl ?_ | refine r_nop ?_ | refine r_part ?_ | refine r_int ?_ | refine r_revL ?_ | refine r_lstRg ?_ | refine r_rg1 ?_ | refine r_ip ?_ | refine r_isN0 ?_ | refine r_isNi ?_ | refine r_isNr ?_ | refine r_isNb ?_ | refine r_isNs ?_ | refine r_notN0 ?_ | refine r_notNi ?_ | refine r_notNr ?_ | refine r_abs ?_ | refine r_max2 ?_ | refine r_min2 ?_ | refine r_inti ?_ | refine r_intb ?_ | refine r_yes ?_ | refine r_for ?_ | refine r_lc ?_ | refine r_iList ?_ | refine r_iTup ?_ | refine r_iRng1 ?_ | refine r_iRng2 ?_ | refine r_iRng3 ?_ | refine r_iEnum ?_ | refine r_iZip ?_ | refine r_iStr ?_ | refine r_lenSet ?_ | refine r_fld ?_ | refine r_sfld ?_ | refine r_meth ?_ | refine r_make ?_ | refine r_prop ?_ | refine iteT ?_ | refine iteF ?_ | refine ifnT ?_ | refine ifnF ?_))
local macro_rules | `(tactic| walk_at "len") => `(tactic| first
  | assumption
  | exact szl (by (try simp only [vI_len, List.length_append, List.length_cons, List.length_nil, List.length_map, List.length_set, List.length_reverse]); omega)
  | exact sz (by (try simp only [vI_len, List.length_append, List.length_cons, List.length_nil, List.length_map, List.length_set, List.length_reverse]); omega))
local macro_rules | `(tactic| walk_at "side") => `(tactic| first
  | assumption
  | exact Or.inr ⟨by omega, by omega⟩
  | exact Or.inl ⟨by omega, by omega⟩
  | exact Or.inr ⟨by decide, by decide⟩
  | ((show (0 : Int) < _); first | assumption | decide | omega)
  | exact ⟨by decide, by decide⟩
  | exact ⟨by decide, by decide, by decide⟩
  | exact wide_div (b := 200) (by omega) (by omega) (by decide) (by decide)
  | exact wide_div (b := 200) (by decide) (by decide) (by decide) (by decide))
local macro_rules | `(tactic| walk_at "ty") => `(tactic| first
  | exact ty_int | exact ty_bl | exact ty_str | exact ty_non | exact ty_lst (by walk_at "hp") | exact ty_tup (by walk_at "hp"))
local macro_rules | `(tactic| walk_at "kit") => `(tactic| first
  | exact k_ii | exact k_ib | exact k_is | exact k_il | exact k_it | exact k_bi | exact k_bb | exact k_bs | exact k_bl | exact k_bt | exact k_si | exact k_sb | exact k_ss | exact k_sl | exact k_st
  | exact k_ni | exact k_nb | exact k_ns | exact k_nl | exact k_nt | exact k_li | exact k_lb | exact k_ls | exact k_ll | exact k_lt | exact k_ti | exact k_tb | exact k_ts | exact k_tl | exact k_tt)
local macro_rules | `(tactic| walk_at "lk") => `(tactic| first
  | assumption
  | exact lk2_1 | exact lk2_2 (by decide +kernel) | exact lk2_0 (by decide +kernel) (by decide +kernel)
  | exact lk3_1 | exact lk3_2 (by decide +kernel) | exact lk3_3 (by decide +kernel) (by decide +kernel) | exact lk3_0 (by decide +kernel) (by decide +kernel) (by decide +kernel))
local macro_rules | `(tactic| walk_at "fld") => `(tactic| first
  | refine r_fldAt (by walk_at "hp") (by assumption) (by assumption) (by walk_at "lk") ?_
  | refine r_sfldAt (by walk_at "hp") (by assumption) (by assumption) (Nat.le_of_ble_eq_true rfl) ?_
  | refine r_methAt (by walk_at "hp") (by walk_at "lk") ?_)
local macro_rules | `(tactic| walk_at "s2") => `(tactic| first
  | (with_reducible (first | refine ifNF rfl ?_ | refine ifDT rfl ?_))
  | refine ifDF (by decide) ?_
  | refine ifNT (by decide) ?_
  | ((with_reducible show tVar _ _ _ _); refine r_var rfl ?_)
  | ((with_reducible show tAug _ _ _ _ _ _); refine r_aug rfl ?_)
  | ((with_reducible show rI _ _ _ _ _ _); refine r_I (by walk_at "side") ?_)
  | ((with_reducible show rIxL _ _ _ _ _); refine r_ixL (by walk_at "sq") (by first | assumption | rfl) ?_)
  | ((with_reducible show rIxT _ _ _ _ _); refine r_ixT (by walk_at "sq") (by first | assumption | rfl) ?_)
  | ((with_reducible show rSetL _ _ _ _ _); refine r_setL (by walk_at "hp") (by first | assumption | rfl) ?_)
  | ((with_reducible show rSlL _ _ _ _ _ _); refine r_slL (by walk_at "sq") ?_)
  | ((with_reducible show rIsi _ _ _ _); refine isi_of (by walk_at "ty") (by walk_at "kit") ?_)
  | ((with_reducible show rIsiT _ _ _ _); first | refine isiLT_l (by walk_at "hp") (by walk_at "ty") (by walk_at "kit") (by walk_at "kit") ?_ | refine isiLT_t (by walk_at "hp") (by walk_at "ty") (by walk_at "kit") (by walk_at "kit") ?_ | refine isiLT_o (by walk_at "hp") (by walk_at "ty") (by walk_at "kit") (by walk_at "kit") ?_)
  | ((with_reducible show gTup _ _ _ _ _ _ _); refine r_gtup (by walk_at "sq") (by rfl) ?_)
  | ((with_reducible show gUnl _ _ _ _ _ _ _); refine r_gunl (by walk_at "sq") (by rfl) ?_)
  | ((with_reducible show tyV _ _ _ _ ∧ _); refine r_ty (by walk_at "hp") ?_)
  | ((with_reducible show rAppend _ _ _ _); refine r_app (by walk_at "hp") (by walk_at "len") ?_)
  | ((with_reducible show rAddS _ _ _ _); refine r_addS (by first | assumption | exact sz (by omega)) ?_)
  | ((with_reducible show rCountS _ _ _ _); refine r_countS ?_)
  | ((with_reducible show rReverse _ _ _ _); refine r_rev (by walk_at "hp") ?_)
  | ((with_reducible show Lx.rLen _ _ _ _); refine r_len (by walk_at "lt") ?_)
  | ((with_reducible show Lx.rLenS _ _ _); refine r_lenS (by first | assumption | exact sz (by omega)) ?_)
  | ((with_reducible show Lx.rListOf _ _ _ _); refine r_listOf (by walk_at "lt") ?_))
local macro_rules | `(tactic| walk_at "s") => `(tactic| repeat (first | walk_at "s1" | walk_at "s2"))

def topS (i : Nat) : Stmt := PySem.Challenge.pw_leftreturn_k32_wishes_of_pairs.main.body.getD i (.Pass ⟨0, 0, 0, 0⟩)
abbrev Sis_integer : Stmt := topS 8
abbrev Nis_integer : List Str := ["value", "low", "high"]
theorem scis_integer : FnScope Nis_integer ["value", "low", "high"] (defScope Sis_integer) := ⟨rfl, rfl, rfl, by decide +kernel, rfl, by decide +kernel, by decide +kernel⟩

section
variable {P : Program} {w : World} {K : PySem.W.Frag} {mg : Str → Option Value} {base : Heap}
def spIsInteger : Sp := fun vs H Q _ => ∃ (v l : Int) (h : V), vs = [.int v, .int l, h] ∧ ((∃ u : Int, h = .int u ∧ Q (.bl (decide (l ≤ v) && decide (v ≤ u))) H) ∨ (h = .non ∧ Q (.bl (decide (l ≤ v))) H))
theorem ok_is_integer {f : Addr} {fd : FuncData} {k : Nat} (B : Bn mg) (F : FunD K "is_integer" "is_integer" (defArgs Sis_integer) (defBody Sis_integer) (defScope Sis_integer) [.non] [] f fd) : FnG P w K mg base (k + 1) f fd ["value", "low", "high"] spIsInteger := by
  refine gokD F scis_integer (fun vs H Q E h => ?_) (fun cdv A fs s H vs Q E hG hr h => ?_)
  · obtain ⟨_, _, _, rfl, _⟩ := h; rfl
  · obtain ⟨v, l, h, rfl, h⟩ := h
    have hu := hr.units
    refine ⟨_, (pss_cons (ps_if (pw_or (pt_not (pt_val (pe_callB (k_isi K) (by rfl) B.isinstance Bisinstance (pa_cons (pv 0) (pa_cons (pe_bltn (v := .ty "int") (by rfl) B.int Tint rfl) pa_nil))))) (pw_or1 (pt_val (pe_callB (k_isi K) (by rfl) B.isinstance Bisinstance (pa_cons (pv 0) (pa_cons (pe_bltn (v := .ty "bool") (by rfl) B.bool Tbool rfl) pa_nil)))))).pt (pss_one (ps_ret pe_bl)) pss_nil) (pss_one (ps_ret (pe_and (pe_cmpR op_le (pv 1) (pv 0) (nomark _)) (pe_one (pe_or (pe_cmpR op_isN' (pv 2) pe_non (nomark _)) (pe_one (pe_cmpR op_le (pv 0) (pv 2) (nomark _))))))))), ?_⟩
    walk_at "s"
    refine ifD (fun h1 => ?_) (fun h1 => ?_)
    · walk_at "s"
      rcases h with ⟨u, rfl, q⟩ | ⟨rfl, q⟩
      · walk_at "s"
        rw [decide_eq_true h1] at q
        exact q
      · walk_at "s"
        rw [decide_eq_true h1] at q
        exact q
    · walk_at "s"
      rcases h with ⟨u, rfl, q⟩ | ⟨rfl, q⟩
      · rw [decide_eq_false h1] at q
        exact q
      · rw [decide_eq_false h1] at q
        exact q
end

abbrev Sis_listed : Stmt := topS 9
abbrev Nis_listed : List Str := ["value"]
theorem scis_listed : FnScope Nis_listed ["value"] (defScope Sis_listed) := ⟨rfl, rfl, rfl, by decide +kernel, rfl, by decide +kernel, by decide +kernel⟩

section
variable {P : Program} {w : World} {K : PySem.W.Frag} {mg : Str → Option Value} {base : Heap}
def spIsListed : Sp := fun vs H Q _ => ∃ (a : Addr) (xs : List V), vs = [.ref a] ∧ Sq H a xs ∧ ∀ H', Same H H' → Q (.bl true) H'
theorem ok_is_listed {f : Addr} {fd : FuncData} {k : Nat} (B : Bn mg) (F : Fun K "is_listed" "is_listed" Sis_listed f fd) : FnG P w K mg base (k + 1) f fd ["value"] spIsListed := by
  refine gok F scis_listed (fun vs H Q E h => ?_) (fun cdv A fs s H vs Q E hG hr h => ?_)
  · obtain ⟨_, _, rfl, _⟩ := h; rfl
  · obtain ⟨a, xs, rfl, h, q⟩ := h
    have hu := hr.units
    refine ⟨_, (pss_one (ps_ret (pe_callB (k_isiT K) (by rfl) B.isinstance Bisinstance (pa_cons (pv 0) (pa_cons (pe_tup (pa_cons (pe_bltn (v := .ty "list") (by rfl) B.list Tlist rfl) (pa_cons (pe_bltn (v := .ty "tuple") (by rfl) B.tuple Ttuple rfl) pa_nil))) pa_nil))))), ?_⟩
    walk_at "s"
    intro p np
    have s1 := same_new (o := .tup [.ty "list", .ty "tuple"]) np
    rcases h with h | h
    · have h' := s1 _ _ h
      walk_at "s"
      exact q _ s1
    · have h' := s1 _ _ h
      walk_at "s"
      exact q _ s1
end

abbrev Sis_place_list : Stmt := topS 14
abbrev Nis_place_list : List Str := ["value", "place"]
theorem scis_place_list : FnScope Nis_place_list ["value"] (defScope Sis_place_list) := ⟨rfl, rfl, rfl, by decide +kernel, rfl, by decide +kernel, by decide +kernel⟩
abbrev Schecked_places : Stmt := topS 15
abbrev Nchecked_places : List Str := ["value"]
theorem scchecked_places : FnScope Nchecked_places ["value"] (defScope Schecked_places) := ⟨rfl, rfl, rfl, by decide +kernel, rfl, by decide +kernel, by decide +kernel⟩

/-- a list of places -/
structure IsPl (ns : List Int) : Prop where
  top : ns.length ≤ 200
  rng : ∀ x ∈ ns, 0 ≤ x ∧ x ≤ 1000000000000000000000000000000
  nd : ns.Nodup
section
variable {P : Program} {w : World} {K : PySem.W.Frag} {mg : Str → Option Value} {base : Heap}
def spIsPlaceList : Sp := fun vs H Q _ => ∃ (a : Addr) (ns : List Int), vs = [.ref a] ∧ Sq H a (vI ns) ∧ IsPl ns ∧ ∀ H', Same H H' → Q (.bl true) H'
theorem ok_is_place_list {f : Addr} {fd : FuncData} (B : Bn mg) (c_MAX_SIZE : Gc mg "MAX_SIZE" (.int 200)) (c_MAX_PLACE : Gc mg "MAX_PLACE" (.int 1000000000000000000000000000000)) (D_is_listed : Df P w K mg base 1 "is_listed" [] spIsListed) (D_is_integer : Df P w K mg base 1 "is_integer" [] spIsInteger)
   (F : Fun K "is_place_list" "is_place_list" Sis_place_list f fd) : FnG P w K mg base 2 f fd ["value"] spIsPlaceList := by
  refine gok F scis_place_list (fun vs H Q E h => ?_) (fun cdv A fs s H vs Q E hG hr h => ?_)
  · obtain ⟨_, _, rfl, _⟩ := h; rfl
  · obtain ⟨a, ns, rfl, h, hP, q⟩ := h
    have hu := hr.units
    have h2 := hP.top
    refine ⟨_, (pss_cons (ps_if (pw_or (pt_not (pt_val (pe_df D_is_listed hG (hr.mono (by first | decide | omega)) passL (by rfl) (pa_cons (pv 0) pa_nil)))) (pw_or1 (pt_cmpR op_gt (pe_callB (k_len K) (by rfl) B.len Blen (pa_cons (pv 0) pa_nil)) (pe_gc c_MAX_SIZE (by rfl)) (nomark _)))).pt (pss_one (ps_ret pe_bl)) pss_nil) (pss_one (ps_ret (pe_and (pe_callB (k_all K) (by rfl) B.all Ball (pa_cons (pe_lc (own := [("place", 1)]) rfl scis_place_list.nd (pi_or (k_piL K (pv 0)) (k_piT K (pv 0))) (blkOk_by (own := [("place", 1)]) (N := Nis_place_list) (sc := defScope Sis_place_list) (by decide +kernel)) (fun _ _ _ _ _ => (pg_name (i := 1) scis_place_list.nd rfl (Or.inl rfl))) (fun _ _ _ _ _ => pts_nil) (fun _ _ _ _ _ => (pe_df D_is_integer hG (hr.mono (by first | decide | omega)) passL (by rfl) (pa_cons (pv 1) (pa_cons pe_int (pa_cons (pe_gc c_MAX_PLACE (by rfl)) pa_nil)))))) pa_nil)) (pe_one (pe_cmpR op_eq (pe_lenSet K (by rfl) B.len (by rfl) B.set (pv 0)) (pe_callB (k_len K) (by rfl) B.len Blen (pa_cons (pv 0) pa_nil)) (nomark _))))))), ?_⟩
    walk_at "s"
    refine ⟨a, _, rfl, h, fun H1 s1 => ?_⟩
    have hA := s1.sq h
    walk_at "s"
    refine ifDF (by rw [vI_len]; omega) ?_
    walk_at "s"
    have turn : ∀ (i : Nat) (x : V) (H' H'' : Hp) (Yes : V → Hp → Prop) (No : Hp → Prop), i < (vI ns).length → Same H1 H' → (H'' = H' ∧ (vI ns)[i]? = some x) → ((fun _ => true) i = true → ∀ H4, Same H' H4 → Yes ((fun _ => V.bl true) i) H4) → ((fun _ => true) i = false → ∀ H3, Same H' H3 → No H3) →
        gName 1 x (wipe (L2.start Nis_place_list [V.ref a]) [1]) H'' fun σ2 H2 => wipe σ2 [1] = wipe (L2.start Nis_place_list [V.ref a]) [1] ∧ tYes σ2 H2 fun b H3 => if b = true then (tCall spIsInteger [] E0 (tCons (tVar 1) (tCons (tC (.int 0)) (tCons (tC (.int 1000000000000000000000000000000)) tNil)))) σ2 H3 Yes else No H3 := by
      rintro i x H' H'' Yes No hi s ⟨rfl, hx⟩ hY hN
      rw [vI_len] at hi
      rw [vI_at hi] at hx
      cases hx
      have hm := hP.rng _ (List.getElem_mem hi)
      walk_at "s"
      refine ⟨rfl, ?_⟩
      walk_at "s"
      refine ⟨_, _, _, rfl, .inl ⟨_, rfl, ?_⟩⟩
      rw [decide_eq_true hm.1, decide_eq_true hm.2]
      exact hY rfl _ (Same.refl _)
    have fin : ∀ (Dl : Addr) (H' : Hp), H1 Dl = none → Same H1 H' → H' Dl = some (.lst (giv (vI ns).length (fun _ => true) fun _ => .bl true)) → ∀ Q' : VK, Q' (.bl true) H' → L2.rAll K [V.ref Dl] H' Q' := by
      intro Dl H' nD s hD Q' q'
      refine ⟨Dl, List.replicate (vI ns).length true, rfl, lst_of (hD.trans ?_), ?_⟩
      · rw [giv_const, List.map_replicate]
      · rw [show (List.replicate (vI ns).length true).all id = true by simp]
        exact q'
    rcases id hA with hL | hL
    · refine .inl ?_
      walk_at "s"
      refine ⟨a, rfl, ⟨_, lst_of hL⟩, fun Dl nD => lc_pure (src_list (xs := vI ns)) _ _ (by rw [vI_len]; omega) (fun H' s => lst_of (s _ _ hL)) turn nD fun H' s hD => ?_⟩
      walk_at "s"
      refine fin Dl H' nD s hD _ ?_
      walk_at "s"
      refine ⟨a, ns, rfl, .inl (lst_of (s _ _ hL)), hP.nd, Nat.le_trans h2 (by decide), ?_⟩
      have hA3 := s.sq hA
      walk_at "s"
      rw [vI_len]
      rw [decide_eq_true rfl]
      exact q _ (s1.trans s)
    · refine .inr ?_
      walk_at "s"
      refine ⟨a, rfl, ⟨_, tup_of hL⟩, fun Dl nD => lc_pure (src_tup (xs := vI ns)) _ _ (by rw [vI_len]; omega) (fun H' s => tup_of (s _ _ hL)) turn nD fun H' s hD => ?_⟩
      walk_at "s"
      refine fin Dl H' nD s hD _ ?_
      walk_at "s"
      refine ⟨a, ns, rfl, .inr (tup_of (s _ _ hL)), hP.nd, Nat.le_trans h2 (by decide), ?_⟩
      have hA3 := s.sq hA
      walk_at "s"
      rw [vI_len]
      rw [decide_eq_true rfl]
      exact q _ (s1.trans s)
def spCheckedPlaces : Sp := fun vs H Q _ => ∃ (a : Addr) (ns : List Int), vs = [.ref a] ∧ Sq H a (vI ns) ∧ IsPl ns ∧ ∀ H' p, Same H H' → H p = none → H' p = some (.lst (vI ns)) → Q (.ref p) H'
theorem ok_checked_places {f : Addr} {fd : FuncData} (B : Bn mg) (D_is_place_list : Df P w K mg base 2 "is_place_list" [] spIsPlaceList)
   (F : Fun K "checked_places" "checked_places" Schecked_places f fd) : FnG P w K mg base 3 f fd ["value"] spCheckedPlaces := by
  refine gok F scchecked_places (fun vs H Q E h => ?_) (fun cdv A fs s H vs Q E hG hr h => ?_)
  · obtain ⟨_, _, rfl, _⟩ := h; rfl
  · obtain ⟨a, ns, rfl, h, hP, q⟩ := h
    have hu := hr.units
    refine ⟨_, (pss_cons (ps_if (pt_not (pt_val (pe_df D_is_place_list hG (hr.mono (by first | decide | omega)) passL (by rfl) (pa_cons (pv 0) pa_nil)))) (pss_one ps_never) pss_nil) (pss_one (ps_ret (pe_callTy (k_list K) (by rfl) B.list Tlist (pa_cons (pv 0) pa_nil))))), ?_⟩
    walk_at "s"
    refine ⟨a, ns, rfl, h, hP, fun H1 s1 => ?_⟩
    have hA := s1.sq h
    walk_at "s"
    intro u nu
    exact q _ u (s1.trans (same_new nu)) (s1.free nu) upd_same
end

/-! patterns as texts -/
def sB (b : Bool) : Str := if b then "T" else "R"
def pS (p : List Bool) : Str := ⟨(p.map fun b => if b then 84 else 82).toArray⟩
theorem pS_len (p : List Bool) : (pS p).length = p.length := by
  show (p.map fun b => if b then 84 else 82).toArray.size = p.length
  rw [List.size_toArray, List.length_map]
theorem pS_at {p : List Bool} {i : Nat} {c : Nat} (h : (pS p).cps[i]? = some c) : ∃ b, p[i]? = some b ∧ (⟨#[c]⟩ : Str) = sB b := by
  have e : (pS p).cps[i]? = (p.map fun b => if b then 84 else 82)[i]? := by
    show (p.map fun b => if b then 84 else 82).toArray[i]? = _
    rw [List.getElem?_toArray]
  rw [e, List.getElem?_map] at h
  cases hb : p[i]? with
  | none => rw [hb] at h; cases h
  | some b =>
    rw [hb] at h
    refine ⟨b, rfl, ?_⟩
    have h' : (if b then 84 else 82) = c := Option.some.inj h
    subst h'
    cases b <;> decide
theorem pS_app (p : List Bool) (b : Bool) : pS p ++ sB b = pS (p ++ [b]) := by
  have e : sB b = ⟨#[if b then 84 else 82]⟩ := by cases b <;> decide
  rw [e]
  show (⟨(p.map fun b => if b then 84 else 82).toArray ++ #[if b then 84 else 82]⟩ : Str) = ⟨((p ++ [b]).map fun b => if b then 84 else 82).toArray⟩
  rw [List.map_append]
  simp
theorem sB_T (b : Bool) : decide (sB b = ("T" : Str)) = b := by cases b <;> decide
theorem pS_size (p : List Bool) : (pS p).cps.size = p.length := pS_len p
def dif : List Bool → Int
  | [] => 0
  | b :: l => (if b then 1 else -1) + dif l
theorem dif_app (p : List Bool) (b : Bool) : dif (p ++ [b]) = dif p + (if b then 1 else -1) := by
  induction p with
  | nil => show _ + (0 : Int) = 0 + _; omega
  | cons c p ih => show _ + dif (p ++ [b]) = _ + dif p + _; rw [ih]; omega
def tks : List Bool → Nat
  | [] => 0
  | b :: l => (if b then 1 else 0) + tks l
theorem tks_app (p : List Bool) (b : Bool) : tks (p ++ [b]) = tks p + (if b then 1 else 0) := by
  induction p with
  | nil => show _ + 0 = 0 + _; omega
  | cons c p ih => show _ + tks (p ++ [b]) = _ + tks p + _; rw [ih]; omega
theorem dif_tks (p : List Bool) : dif p = 2 * (tks p : Int) - (p.length : Int) := by
  induction p with
  | nil => rfl
  | cons b p ih =>
    show (if b then 1 else -1) + dif p = 2 * (((if b then 1 else 0) + tks p : Nat) : Int) - ((p.length + 1 : Nat) : Int)
    rw [ih]
    cases b <;> simp <;> omega
theorem tks_take_le (p : List Bool) : ∀ i, tks (p.take i) ≤ tks p := by
  induction p with
  | nil => intro i; rw [List.take_nil]; exact Nat.le_refl _
  | cons b p ih =>
    intro i
    cases i with
    | zero => exact Nat.zero_le _
    | succ i =>
      have := ih i
      show (if b then 1 else 0) + tks (p.take i) ≤ (if b then 1 else 0) + tks p
      omega
theorem take_succ {α : Type} {p : List α} {i : Nat} {b : α} (h : p[i]? = some b) : p.take (i + 1) = p.take i ++ [b] := by rw [List.take_add_one, h]; rfl
/-- a pattern of n places -/
structure IsPat (p : List Bool) (n : Nat) : Prop where
  len : p.length = 2 * n
  top : n ≤ 200
  nul : dif p = 0
  pos : ∀ k, 0 ≤ dif (p.take k)
theorem IsPat.tks {p : List Bool} {n : Nat} (h : IsPat p n) : tks p = n := by
  have := dif_tks p
  have := h.nul
  have := h.len
  omega
/-! what a pattern fills -/
def stepF (tk : List Int) (st : List Int × List Int × Nat) (b : Bool) : List Int × List Int × Nat :=
  if b then (st.1 ++ [tk.getD st.2.2 0], st.2.1, st.2.2 + 1) else (st.1.erase (minI st.1), st.2.1 ++ [minI st.1], st.2.2)
def runF (tk : List Int) (p : List Bool) : List Int × List Int × Nat := p.foldl (stepF tk) ([], [], 0)
theorem runF_app (tk : List Int) (p : List Bool) (b : Bool) : runF tk (p ++ [b]) = stepF tk (runF tk p) b := by
  unfold runF
  rw [List.foldl_append]
  rfl
def fillF (tk : List Int) (p : List Bool) : List Int := (runF tk p).2.1
theorem runF_tk (tk : List Int) {p : List Bool} (h : ∀ k, 0 ≤ dif (p.take k)) : ∀ i, i ≤ p.length → (runF tk (p.take i)).2.2 = tks (p.take i) ∧ ((runF tk (p.take i)).1.length : Int) = dif (p.take i) ∧ (runF tk (p.take i)).2.1.length + tks (p.take i) = i
  | 0, _ => by rw [List.take_zero]; exact ⟨rfl, rfl, rfl⟩
  | i + 1, hi => by
    obtain ⟨h1, h2, h3⟩ := runF_tk tk h i (by omega)
    have e := take_succ (List.getElem?_eq_getElem (show i < p.length by omega))
    have hp := h (i + 1)
    rw [e, runF_app, tks_app, dif_app] at *
    generalize p[i]'(by omega) = b at *
    cases b with
    | true =>
      refine ⟨by show (runF tk (p.take i)).2.2 + 1 = _; rw [h1]; rfl, ?_, by show (runF tk (p.take i)).2.1.length + (tks (p.take i) + 1) = i + 1; omega⟩
      show (((runF tk (p.take i)).1 ++ [_]).length : Int) = _
      rw [List.length_append, List.length_singleton, Int.natCast_add, h2]
      rfl
    | false =>
      have hp' : 0 ≤ dif (p.take i) + -1 := hp
      have ne : (runF tk (p.take i)).1 ≠ [] := fun z => by rw [z] at h2; simp at h2; omega
      refine ⟨by show (runF tk (p.take i)).2.2 = _ + 0; rw [h1]; rfl, ?_, by show ((runF tk (p.take i)).2.1 ++ [_]).length + (tks (p.take i) + 0) = i + 1; rw [List.length_append, List.length_singleton]; omega⟩
      show (((runF tk (p.take i)).1.erase _).length : Int) = dif (p.take i) + -1
      rw [List.length_erase_of_mem (minI_mem ne)]
      have := List.length_pos_iff.mpr ne
      omega
/-- a pattern on the way: m letters, n places -/
structure Way (p : List Bool) (n m : Nat) : Prop where
  len : p.length = m
  few : tks p ≤ n
  pos : ∀ k, 0 ≤ dif (p.take k)
theorem Way.nil (n : Nat) : Way [] n 0 := ⟨rfl, Nat.zero_le _, fun k => by rw [List.take_nil]; exact Int.le_refl _⟩
theorem Way.add {p : List Bool} {n m : Nat} {b : Bool} (h : Way p n m) (h1 : tks (p ++ [b]) ≤ n) (h2 : 0 ≤ dif (p ++ [b])) : Way (p ++ [b]) n (m + 1) := by
  refine ⟨by rw [List.length_append, h.len]; rfl, h1, fun k => ?_⟩
  by_cases hk : k ≤ p.length
  · rw [List.take_append_of_le_length hk]
    exact h.pos k
  · rw [List.take_of_length_le (by rw [List.length_append]; show p.length + 1 ≤ k; omega)]
    exact h2
theorem Way.all {p : List Bool} {n : Nat} (h : Way p n (2 * n)) (hn : n ≤ 200) : IsPat p n := by
  have e := dif_tks p
  have z := h.pos p.length
  rw [List.take_length] at z
  have := h.len
  have := h.few
  exact ⟨h.len, hn, by omega, h.pos⟩

/-! ### pairs: what the bounds of the times say (no program here) -/
/-- the number of a take -/
def nb (ts : List Int) (x : Int) : Int := ((ts.idxOf x : Nat) : Int)
theorem nb_nn (ts : List Int) (x : Int) : 0 ≤ nb ts x := Int.natCast_nonneg _
theorem nb_lt {ts : List Int} {x : Int} (h : x ∈ ts) : nb ts x < ts.length := by
  have := List.idxOf_lt_length_of_mem h
  unfold nb
  omega
theorem nb_get {ts : List Int} (hn : ts.Nodup) {k : Nat} (hk : k < ts.length) : nb ts (ts.getD k 0) = k := by
  unfold nb
  rw [List.getD_eq_getElem?_getD, List.getElem?_eq_getElem hk]
  show ((ts.idxOf ts[k] : Nat) : Int) = k
  rw [hn.idxOf_getElem]
theorem get_nb {ts : List Int} {x : Int} (h : x ∈ ts) : ts.getD (nb ts x).toNat 0 = x := by
  unfold nb
  rw [Int.toNat_natCast, List.getD_eq_getElem?_getD, List.getElem?_eq_getElem (List.idxOf_lt_length_of_mem h)]
  show ts[ts.idxOf x]'(List.idxOf_lt_length_of_mem h) = x
  exact List.getElem_idxOf _
theorem nb_inj {ts : List Int} {x y : Int} (hx : x ∈ ts) (hy : y ∈ ts) (h : nb ts x = nb ts y) : x = y := by
  rw [← get_nb hx, ← get_nb hy, h]
/-- fewer numbers than places below m -/
theorem nodup_le : ∀ {l : List Int} {m : Nat}, l.Nodup → (∀ x ∈ l, 0 ≤ x ∧ x < m) → l.length ≤ m
  | l, 0, _, h => by
    cases l with
    | nil => exact Nat.le_refl _
    | cons x l => have := h x List.mem_cons_self; omega
  | l, m + 1, hn, h => by
    by_cases hm : (m : Int) ∈ l
    · have ih := nodup_le (hn.erase (m : Int)) (m := m) fun x hx => by
        have h1 := (hn.mem_erase_iff).mp hx
        have h2 := h x h1.2
        have h3 := h1.1
        constructor <;> omega
      rw [List.length_erase_of_mem hm] at ih
      omega
    · have ih := nodup_le hn (m := m) fun x hx => by
        have h2 := h x hx
        have h3 : x ≠ (m : Int) := fun e => hm (e ▸ hx)
        constructor <;> omega
      omega
/-- fills with their times: each one is taken before, no less gap stays -/
structure Lead (nm : Int → Int) (n : Int) (P : List (Int × Int)) : Prop where
  tk : ∀ q ∈ P, nm q.1 < q.2
  top : ∀ q ∈ P, q.2 ≤ n
  up : P.Pairwise fun a b => a.2 ≤ b.2
  min : P.Pairwise fun a b => b.1 < a.1 → a.2 ≤ nm b.1
def LeAll : List Int → List Int → Prop
  | [], [] => True
  | a :: as, b :: bs => a ≤ b ∧ LeAll as bs
  | _, _ => False
theorem LeAll.refl : ∀ l : List Int, LeAll l l
  | [] => trivial
  | _ :: l => ⟨Int.le_refl _, LeAll.refl l⟩
theorem LeAll.trans : ∀ {a b c : List Int}, LeAll a b → LeAll b c → LeAll a c
  | [], [], [], _, _ => trivial
  | _ :: _, _ :: _, _ :: _, h, g => ⟨Int.le_trans h.1 g.1, h.2.trans g.2⟩
  | [], _ :: _, _, h, _ => h.elim
  | _ :: _, [], _, h, _ => h.elim
  | [], [], _ :: _, _, g => g.elim
  | _ :: _, _ :: _, [], _, g => g.elim
theorem LeAll.len : ∀ {a b : List Int}, LeAll a b → a.length = b.length
  | [], [], _ => rfl
  | _ :: _, _ :: _, h => congrArg Nat.succ h.2.len
  | [], _ :: _, h => h.elim
  | _ :: _, [], h => h.elim
theorem LeAll.at : ∀ {a b : List Int}, LeAll a b → ∀ {i : Nat} {x y : Int}, a[i]? = some x → b[i]? = some y → x ≤ y
  | [], [], _, i, x, y, h, _ => by simp at h
  | _ :: _, _ :: _, h, 0, x, y, e, f => by cases e; cases f; exact h.1
  | _ :: _, _ :: _, h, i + 1, x, y, e, f => h.2.at (by simpa using e) (by simpa using f)
  | [], _ :: _, h, _, _, _, _, _ => h.elim
  | _ :: _, [], h, _, _, _, _, _ => h.elim
theorem LeAll.of : ∀ {a b : List Int}, a.length = b.length → (∀ (i : Nat) (x y : Int), a[i]? = some x → b[i]? = some y → x ≤ y) → LeAll a b
  | [], [], _, _ => trivial
  | _ :: _, _ :: _, l, h => ⟨h 0 _ _ rfl rfl, LeAll.of (Nat.succ.inj l) fun i x y e f => h (i + 1) x y (by simpa using e) (by simpa using f)⟩
  | [], _ :: _, l, _ => by cases l
  | _ :: _, [], l, _ => by cases l
/-- the greater one, as max says -/
def mx (a b : Int) : Int := if b > a then b else a
theorem mx_l (a b : Int) : a ≤ mx a b := by unfold mx; split <;> omega
theorem mx_r (a b : Int) : b ≤ mx a b := by unfold mx; split <;> omega
theorem mx_le {a b c : Int} (h : a ≤ c) (g : b ≤ c) : mx a b ≤ c := by unfold mx; split <;> omega
/-- the least times -/
def lows (nm : Int → Int) : Int → List Int → List Int
  | _, [] => []
  | lo, f :: fs => mx lo (nm f + 1) :: lows nm (mx lo (nm f + 1)) fs
theorem lows_len (nm : Int → Int) : ∀ (lo : Int) (fs : List Int), (lows nm lo fs).length = fs.length
  | _, [] => rfl
  | lo, f :: fs => congrArg Nat.succ (lows_len nm _ fs)
theorem lows_ge {nm : Int → Int} : ∀ {lo : Int} {fs : List Int}, ∀ x ∈ lows nm lo fs, lo ≤ x
  | lo, f :: fs, x, h => by
    rcases List.mem_cons.mp (show x ∈ mx lo (nm f + 1) :: lows nm (mx lo (nm f + 1)) fs from h) with e | h
    · rw [e]; exact mx_l _ _
    · exact Int.le_trans (mx_l _ _) (lows_ge x h)
theorem lows_up {nm : Int → Int} : ∀ {lo : Int} {fs : List Int}, (lows nm lo fs).Pairwise (· ≤ ·)
  | _, [] => .nil
  | lo, f :: fs => .cons (fun x hx => lows_ge x hx) lows_up
theorem lows_least {nm : Int → Int} : ∀ {P : List (Int × Int)} {lo : Int}, (∀ q ∈ P, nm q.1 < q.2) → (P.Pairwise fun a b => a.2 ≤ b.2) → (∀ q ∈ P, lo ≤ q.2) → LeAll (lows nm lo (P.map (·.1))) (P.map (·.2))
  | [], _, _, _, _ => trivial
  | (f, t) :: P, lo, h1, h2, h3 => by
    have g2 := List.pairwise_cons.mp h2
    have e : mx lo (nm f + 1) ≤ t := mx_le (h3 _ List.mem_cons_self) (h1 _ List.mem_cons_self)
    exact ⟨e, lows_least (fun q hq => h1 q (List.mem_cons_of_mem _ hq)) g2.2 fun q hq => Int.le_trans e (g2.1 q hq)⟩
theorem lows_tk {nm : Int → Int} : ∀ {P : List (Int × Int)} {lo : Int}, LeAll (lows nm lo (P.map (·.1))) (P.map (·.2)) → ∀ q ∈ P, nm q.1 < q.2
  | (f, t) :: P, lo, h, q, hq => by
    rcases List.mem_cons.mp hq with e | hq
    · subst e
      have := mx_r lo (nm f + 1)
      have h1 : mx lo (nm f + 1) ≤ t := h.1
      show nm f < t
      omega
    · exact lows_tk h.2 q hq
/-- the greatest times -/
def highs (nm : Int → Int) (n : Int) : List Int → List Int
  | [] => []
  | f :: fs => minI ((highs nm n fs).headD n :: ((fs.filter fun g => decide (g < f)).map nm)) :: highs nm n fs
theorem highs_len (nm : Int → Int) (n : Int) : ∀ fs : List Int, (highs nm n fs).length = fs.length
  | [] => rfl
  | f :: fs => congrArg Nat.succ (highs_len nm n fs)
theorem highs_up {nm : Int → Int} {n : Int} : ∀ {fs : List Int}, (highs nm n fs).Pairwise (· ≤ ·)
  | [] => .nil
  | f :: fs => by
    have ih := highs_up (nm := nm) (n := n) (fs := fs)
    refine .cons (fun x hx => ?_) ih
    have h1 : minI ((highs nm n fs).headD n :: ((fs.filter fun g => decide (g < f)).map nm)) ≤ (highs nm n fs).headD n := minI_le List.mem_cons_self
    cases e : highs nm n fs with
    | nil => rw [e] at hx; cases hx
    | cons y l =>
      rw [e] at hx h1 ih
      have h1' : minI _ ≤ y := h1
      rcases List.mem_cons.mp hx with z | z
      · rw [z]; exact h1'
      · exact Int.le_trans h1' ((List.pairwise_cons.mp ih).1 x z)
theorem highs_top {nm : Int → Int} {n : Int} : ∀ {fs : List Int}, ∀ x ∈ highs nm n fs, x ≤ n
  | f :: fs, x, h => by
    have ih := highs_top (nm := nm) (n := n) (fs := fs)
    rcases List.mem_cons.mp (show x ∈ minI ((highs nm n fs).headD n :: ((fs.filter fun g => decide (g < f)).map nm)) :: highs nm n fs from h) with e | h
    · rw [e]
      refine Int.le_trans (minI_le List.mem_cons_self) ?_
      cases e : highs nm n fs with
      | nil => exact Int.le_refl _
      | cons y l => exact ih y (by rw [e]; exact List.mem_cons_self)
    · exact ih x h
theorem highs_greatest {nm : Int → Int} {n : Int} : ∀ {P : List (Int × Int)}, (∀ q ∈ P, q.2 ≤ n) → (P.Pairwise fun a b => a.2 ≤ b.2) → (P.Pairwise fun a b => b.1 < a.1 → a.2 ≤ nm b.1) → LeAll (P.map (·.2)) (highs nm n (P.map (·.1)))
  | [], _, _, _ => trivial
  | (f, t) :: P, h1, h2, h3 => by
    have g2 := List.pairwise_cons.mp h2
    have g3 := List.pairwise_cons.mp h3
    have ih := highs_greatest (nm := nm) (fun q hq => h1 q (List.mem_cons_of_mem _ hq)) g2.2 g3.2
    refine ⟨?_, ih⟩
    have hm := minI_mem (ns := (highs nm n (P.map (·.1))).headD n :: (((P.map (·.1)).filter fun g => decide (g < f)).map nm)) (by simp)
    show t ≤ minI _
    rcases List.mem_cons.mp hm with e | hm
    · rw [e]
      cases P with
      | nil => exact h1 _ List.mem_cons_self
      | cons q P =>
        obtain ⟨f2, t2⟩ := q
        have a1 : t ≤ t2 := g2.1 _ List.mem_cons_self
        exact Int.le_trans a1 ih.1
    · obtain ⟨g, hg, e⟩ := List.mem_map.mp hm
      obtain ⟨hg1, hg2⟩ := List.mem_filter.mp hg
      obtain ⟨q, hq, eq⟩ := List.mem_map.mp hg1
      rw [← e, ← eq]
      exact g3.1 q hq (by rw [eq]; exact of_decide_eq_true hg2)
theorem highs_min {nm : Int → Int} {n : Int} : ∀ {P : List (Int × Int)}, LeAll (P.map (·.2)) (highs nm n (P.map (·.1))) → P.Pairwise fun a b => b.1 < a.1 → a.2 ≤ nm b.1
  | [], _ => .nil
  | (f, t) :: P, h => by
    refine .cons (fun q hq hlt => ?_) (highs_min h.2)
    have h1 : t ≤ minI ((highs nm n (P.map (·.1))).headD n :: (((P.map (·.1)).filter fun g => decide (g < f)).map nm)) := h.1
    refine Int.le_trans h1 (minI_le (List.mem_cons_of_mem _ ?_))
    exact List.mem_map.mpr ⟨q.1, List.mem_filter.mpr ⟨List.mem_map.mpr ⟨q, hq, rfl⟩, decide_eq_true hlt⟩, rfl⟩
theorem highs_le {nm : Int → Int} {n : Int} {P : List (Int × Int)} (h : LeAll (P.map (·.2)) (highs nm n (P.map (·.1)))) : ∀ q ∈ P, q.2 ≤ n := by
  intro q hq
  obtain ⟨i, hi⟩ := List.mem_iff_getElem?.mp hq
  have l := h.len
  rw [List.length_map] at l
  have il := (List.getElem?_eq_some_iff.mp hi).1
  have e2 := List.getElem?_eq_getElem (show i < (highs nm n (P.map (·.1))).length by omega)
  have := h.at (by rw [List.getElem?_map, hi]; rfl) e2
  exact Int.le_trans this (highs_top _ (List.mem_of_getElem? e2))
/-- within the bounds and never falling: a pattern that leads there -/
theorem Lead.iff {nm : Int → Int} {n lo : Int} {P : List (Int × Int)} (hlo : ∀ q ∈ P, nm q.1 < q.2 → lo ≤ q.2) : Lead nm n P ↔ (P.Pairwise fun a b => a.2 ≤ b.2) ∧ LeAll (lows nm lo (P.map (·.1))) (P.map (·.2)) ∧ LeAll (P.map (·.2)) (highs nm n (P.map (·.1))) := by
  constructor
  · intro h
    exact ⟨h.up, lows_least h.tk h.up fun q hq => hlo q hq (h.tk q hq), highs_greatest h.top h.up h.min⟩
  · rintro ⟨h1, h2, h3⟩
    exact ⟨lows_tk h2, highs_le h3, h1, highs_min h3⟩
theorem map_zip_1 : ∀ {a b : List Int}, a.length = b.length → (a.zip b).map (·.1) = a
  | [], [], _ => rfl
  | x :: a, y :: b, h => by rw [List.zip_cons_cons, List.map_cons, map_zip_1 (Nat.succ.inj h)]
  | [], _ :: _, h => by cases h
  | _ :: _, [], h => by cases h
theorem map_zip_2 : ∀ {a b : List Int}, a.length = b.length → (a.zip b).map (·.2) = b
  | [], [], _ => rfl
  | x :: a, y :: b, h => by rw [List.zip_cons_cons, List.map_cons, map_zip_2 (Nat.succ.inj h)]
  | [], _ :: _, h => by cases h
  | _ :: _, [], h => by cases h
theorem zip_up {a b : List Int} (h : b.Pairwise (· ≤ ·)) (l : a.length = b.length) : (a.zip b).Pairwise fun a b => a.2 ≤ b.2 := by
  have e := map_zip_2 l
  rw [← e] at h
  exact List.pairwise_map.mp h
/-! ### patterns and their times -/
/-- the times of the returns -/
def tmsF : Nat → List Bool → List Int
  | _, [] => []
  | k, true :: p => tmsF (k + 1) p
  | k, false :: p => (k : Int) :: tmsF k p
theorem tmsF_app (b : Bool) : ∀ (p : List Bool) (k : Nat), tmsF k (p ++ [b]) = tmsF k p ++ (if b then [] else [((k + tks p : Nat) : Int)])
  | [], k => by cases b <;> rfl
  | true :: p, k => by
    show tmsF (k + 1) (p ++ [b]) = _
    rw [tmsF_app b p (k + 1)]
    show _ = tmsF (k + 1) p ++ (if b then [] else [((k + (1 + tks p) : Nat) : Int)])
    rw [show k + 1 + tks p = k + (1 + tks p) by omega]
  | false :: p, k => by
    show (k : Int) :: tmsF k (p ++ [b]) = _
    rw [tmsF_app b p k]
    show _ = (k : Int) :: tmsF k p ++ (if b then [] else [((k + (0 + tks p) : Nat) : Int)])
    rw [Nat.zero_add]
    rfl
/-- what is true along a pattern -/
structure Run (ts : List Int) (gs : List Int) (P : List (Int × Int)) (k : Nat) : Prop where
  gap : ∀ x, x ∈ gs ↔ x ∈ ts ∧ nb ts x < k ∧ x ∉ P.map (·.1)
  gnd : gs.Nodup
  kl : k ≤ ts.length
  fnd : (P.map (·.1)).Nodup
  sub : ∀ x ∈ P.map (·.1), x ∈ ts
  ld : Lead (nb ts) k P
  ltr : ∀ q ∈ P, ∀ x ∈ ts, x ∉ P.map (·.1) → x < q.1 → q.2 ≤ nb ts x
theorem Run.nil (ts : List Int) : Run ts [] [] 0 := by
  refine ⟨fun x => ?_, .nil, Nat.zero_le _, .nil, fun x h => (by cases h), ⟨fun q h => (by cases h), fun q h => (by cases h), .nil, .nil⟩, fun q h => (by cases h)⟩
  constructor
  · intro h; cases h
  · rintro ⟨_, h, _⟩
    have := nb_nn ts x
    omega
theorem Run.take {ts gs : List Int} {P : List (Int × Int)} {k : Nat} (h : Run ts gs P k) (hn : ts.Nodup) (hk : k < ts.length) : Run ts (gs ++ [ts.getD k 0]) P (k + 1) := by
  have hm : ts.getD k 0 ∈ ts := by
    rw [List.getD_eq_getElem?_getD, List.getElem?_eq_getElem hk]
    exact List.getElem_mem hk
  have e := nb_get hn hk
  have new : ts.getD k 0 ∉ P.map (·.1) := fun hx => by
    obtain ⟨q, hq, eq⟩ := List.mem_map.mp hx
    have h1 := h.ld.tk q hq
    have h2 := h.ld.top q hq
    rw [eq, e] at h1
    omega
  refine ⟨fun x => ?_, ?_, hk, h.fnd, h.sub, ⟨h.ld.tk, fun q hq => by have := h.ld.top q hq; omega, h.ld.up, h.ld.min⟩, h.ltr⟩
  · rw [List.mem_append, List.mem_singleton, h.gap x]
    constructor
    · rintro (⟨a, b, c⟩ | rfl)
      · exact ⟨a, by omega, c⟩
      · exact ⟨hm, by rw [e]; omega, new⟩
    · rintro ⟨a, b, c⟩
      by_cases z : nb ts x < k
      · exact .inl ⟨a, z, c⟩
      · exact .inr (nb_inj a hm (by rw [e]; omega))
  · rw [List.nodup_append]
    refine ⟨h.gnd, by simp, fun x hx y hy z => ?_⟩
    rw [List.mem_singleton] at hy
    have := ((h.gap x).mp hx).2.1
    rw [z, hy, e] at this
    omega
theorem Run.back {ts gs : List Int} {P : List (Int × Int)} {k : Nat} (h : Run ts gs P k) (hg : gs ≠ []) : Run ts (gs.erase (minI gs)) (P ++ [(minI gs, (k : Int))]) k := by
  have hm := minI_mem hg
  obtain ⟨m1, m2, m3⟩ := (h.gap _).mp hm
  have em : (P ++ [(minI gs, (k : Int))]).map (·.1) = P.map (·.1) ++ [minI gs] := by rw [List.map_append]; rfl
  refine ⟨fun x => ?_, h.gnd.erase _, h.kl, ?_, ?_, ⟨?_, ?_, ?_, ?_⟩, ?_⟩
  · rw [em, h.gnd.mem_erase_iff, h.gap x, List.mem_append, List.mem_singleton]
    constructor
    · rintro ⟨a, b, c, d⟩
      exact ⟨b, c, fun z => z.elim d a⟩
    · rintro ⟨a, b, c⟩
      exact ⟨fun z => c (.inr z), a, b, fun z => c (.inl z)⟩
  · rw [em, List.nodup_append]
    exact ⟨h.fnd, by simp, fun x hx y hy z => by rw [List.mem_singleton] at hy; rw [z, hy] at hx; exact m3 hx⟩
  · intro x hx
    rw [em] at hx
    rcases List.mem_append.mp hx with hx | hx
    · exact h.sub x hx
    · rw [List.mem_singleton] at hx; rw [hx]; exact m1
  · intro q hq
    rcases List.mem_append.mp hq with hq | hq
    · exact h.ld.tk q hq
    · rw [List.mem_singleton] at hq; subst hq; exact m2
  · intro q hq
    rcases List.mem_append.mp hq with hq | hq
    · exact h.ld.top q hq
    · rw [List.mem_singleton] at hq; subst hq; exact Int.le_refl _
  · rw [List.pairwise_append]
    exact ⟨h.ld.up, List.pairwise_singleton _ _, fun a ha b hb => by rw [List.mem_singleton] at hb; subst hb; exact h.ld.top a ha⟩
  · rw [List.pairwise_append]
    refine ⟨h.ld.min, List.pairwise_singleton _ _, fun a ha b hb hlt => ?_⟩
    rw [List.mem_singleton] at hb
    subst hb
    exact h.ltr a ha _ m1 m3 hlt
  · intro q hq x hx hn hlt
    rw [em, List.mem_append, not_or] at hn
    rcases List.mem_append.mp hq with hq | hq
    · exact h.ltr q hq x hx hn.1 hlt
    · rw [List.mem_singleton] at hq
      subst hq
      show (k : Int) ≤ nb ts x
      by_cases z : nb ts x < k
      · have := minI_le ((h.gap x).mpr ⟨hx, z, hn.1⟩)
        have hlt' : x < minI gs := hlt
        omega
      · omega
/-- the pairs (fill, time) of a pattern -/
def prsF (ts : List Int) (p : List Bool) : List (Int × Int) := (fillF ts p).zip (tmsF 0 p)
theorem run_pat {ts : List Int} (hn : ts.Nodup) {p : List Bool} (hp : ∀ k, 0 ≤ dif (p.take k)) (ht : tks p ≤ ts.length) : ∀ i, i ≤ p.length → ∃ P, Run ts (runF ts (p.take i)).1 P (tks (p.take i)) ∧ P.map (·.1) = (runF ts (p.take i)).2.1 ∧ P.map (·.2) = tmsF 0 (p.take i)
  | 0, _ => ⟨[], Run.nil ts, rfl, rfl⟩
  | i + 1, hi => by
    obtain ⟨P, h1, h2, h3⟩ := run_pat hn hp ht i (by omega)
    obtain ⟨r1, r2, r3⟩ := runF_tk ts hp i (by omega)
    have e := take_succ (List.getElem?_eq_getElem (show i < p.length by omega))
    have hp1 := hp (i + 1)
    have ht1 := Nat.le_trans (tks_take_le p (i + 1)) ht
    rw [e] at hp1 ht1 ⊢
    rw [runF_app, tks_app, tmsF_app]
    rw [dif_app] at hp1
    rw [tks_app] at ht1
    generalize p[i]'(by omega) = b at *
    cases b with
    | true =>
      have ht1' : tks (p.take i) + 1 ≤ ts.length := ht1
      refine ⟨P, ?_, h2, by rw [h3]; exact (List.append_nil _).symm⟩
      show Run ts ((runF ts (p.take i)).1 ++ [ts.getD (runF ts (p.take i)).2.2 0]) P (tks (p.take i) + 1)
      rw [r1]
      exact h1.take hn (by omega)
    | false =>
      have hp1' : 0 ≤ dif (p.take i) + -1 := hp1
      have ne : (runF ts (p.take i)).1 ≠ [] := fun z => by rw [z] at r2; simp at r2; omega
      refine ⟨P ++ [(minI (runF ts (p.take i)).1, ((tks (p.take i) : Nat) : Int))], h1.back ne, ?_, ?_⟩
      · rw [List.map_append, h2]; rfl
      · rw [List.map_append, h3, Nat.zero_add]; rfl
theorem unzip_eq : ∀ {P : List (Int × Int)} {a b : List Int}, P.map (·.1) = a → P.map (·.2) = b → P = a.zip b
  | [], _, _, rfl, rfl => rfl
  | (x, y) :: P, _, _, rfl, rfl => by
    rw [List.map_cons, List.map_cons, List.zip_cons_cons, ← unzip_eq (P := P) rfl rfl]
/-- a pattern's fills are the places, and lead -/
theorem pat_lead {ts : List Int} (hn : ts.Nodup) {p : List Bool} (hp : IsPat p ts.length) : Lead (nb ts) ts.length (prsF ts p) ∧ (fillF ts p).Perm ts ∧ (prsF ts p).map (·.1) = fillF ts p ∧ (prsF ts p).map (·.2) = tmsF 0 p := by
  obtain ⟨P, h1, h2, h3⟩ := run_pat hn hp.pos (by rw [hp.tks]; exact Nat.le_refl _) p.length (Nat.le_refl _)
  rw [List.take_length] at h1 h2 h3
  rw [hp.tks] at h1
  have e : P = prsF ts p := unzip_eq h2 h3
  subst e
  refine ⟨h1.ld, ?_, h2, h3⟩
  have hr := runF_tk ts hp.pos p.length (Nat.le_refl _)
  rw [List.take_length, hp.tks] at hr
  have hl : (fillF ts p).length = ts.length := by
    have := hr.2.2
    have := hp.len
    show (runF ts p).2.1.length = _
    omega
  have nd := h1.fnd
  have sub := h1.sub
  rw [h2] at nd sub
  exact nodup_perm nd hn sub hl
where
  nodup_perm : ∀ {a b : List Int}, a.Nodup → b.Nodup → (∀ x ∈ a, x ∈ b) → a.length = b.length → a.Perm b
    | [], [], _, _, _, _ => .nil
    | x :: a, b, ha, hb, h, hl => by
      rw [List.nodup_cons] at ha
      have hx := h x List.mem_cons_self
      have ih := nodup_perm ha.2 (hb.erase x) (fun y hy => hb.mem_erase_iff.mpr ⟨fun e => ha.1 (e ▸ hy), h y (List.mem_cons_of_mem _ hy)⟩) (by rw [List.length_erase_of_mem hx, ← hl]; rfl)
      exact (ih.cons x).trans (List.perm_cons_erase hx).symm
    | [], _ :: _, _, _, _, h => by cases h
/-- the pattern with some times -/
def patOf : Nat → List Int → List Bool
  | _, [] => []
  | k, t :: ts => List.replicate (t.toNat - k) true ++ [false] ++ patOf t.toNat ts
theorem dif_cat : ∀ (p q : List Bool), dif (p ++ q) = dif p + dif q
  | [], q => by show dif q = 0 + dif q; omega
  | b :: p, q => by show _ + dif (p ++ q) = _ + dif p + dif q; rw [dif_cat p q]; omega
theorem tks_cat : ∀ (p q : List Bool), tks (p ++ q) = tks p + tks q
  | [], q => by show tks q = 0 + tks q; omega
  | b :: p, q => by show _ + tks (p ++ q) = _ + tks p + tks q; rw [tks_cat p q]; omega
theorem tks_rep : ∀ m : Nat, tks (List.replicate m true) = m
  | 0 => rfl
  | m + 1 => by rw [List.replicate_succ]; show 1 + tks (List.replicate m true) = m + 1; rw [tks_rep m]; omega
theorem dif_rep (m : Nat) : dif (List.replicate m true) = m := by
  have := dif_tks (List.replicate m true)
  rw [tks_rep, List.length_replicate] at this
  omega
theorem tmsF_rep (q : List Bool) : ∀ (m k : Nat), tmsF k (List.replicate m true ++ q) = tmsF (k + m) q
  | 0, k => rfl
  | m + 1, k => by
    rw [List.replicate_succ]
    show tmsF (k + 1) (List.replicate m true ++ q) = _
    rw [tmsF_rep q m (k + 1), show k + 1 + m = k + (m + 1) by omega]
theorem patOf_tms : ∀ {l : List Int} {k : Nat}, l.Pairwise (· ≤ ·) → (∀ t ∈ l, (k : Int) ≤ t) → tmsF k (patOf k l) = l
  | [], _, _, _ => rfl
  | t :: l, k, h, g => by
    have h' := List.pairwise_cons.mp h
    have hk := g t List.mem_cons_self
    show tmsF k (List.replicate (t.toNat - k) true ++ [false] ++ patOf t.toNat l) = _
    rw [List.append_assoc, tmsF_rep, show k + (t.toNat - k) = t.toNat by omega]
    show ((t.toNat : Nat) : Int) :: tmsF t.toNat (patOf t.toNat l) = _
    rw [patOf_tms h'.2 fun x hx => by have := h'.1 x hx; omega]
    rw [show ((t.toNat : Nat) : Int) = t by omega]
theorem patOf_len : ∀ {l : List Int} {k : Nat}, l.Pairwise (· ≤ ·) → (∀ t ∈ l, (k : Int) ≤ t) → (patOf k l).length = tks (patOf k l) + l.length ∧ ((tks (patOf k l) : Nat) : Int) + k = (l.getLast?.getD k)
  | [], k, _, _ => ⟨rfl, by show ((0 : Nat) : Int) + k = k; omega⟩
  | t :: l, k, h, g => by
    have h' := List.pairwise_cons.mp h
    have hk := g t List.mem_cons_self
    obtain ⟨i1, i2⟩ := patOf_len (l := l) (k := t.toNat) h'.2 fun x hx => by have := h'.1 x hx; omega
    have e : patOf k (t :: l) = List.replicate (t.toNat - k) true ++ [false] ++ patOf t.toNat l := rfl
    rw [e, tks_cat, tks_cat, tks_rep, List.length_append, List.length_append, List.length_replicate, i1]
    refine ⟨by show _ = (t.toNat - k + 0 + tks (patOf t.toNat l)) + (l.length + 1); simp; omega, ?_⟩
    have e2 : ((t :: l).getLast?.getD (k : Int)) = l.getLast?.getD t := by
      rw [List.getLast?_cons]
      rfl
    rw [e2]
    have e3 : l.getLast?.getD ((t.toNat : Nat) : Int) = l.getLast?.getD t := by rw [show ((t.toNat : Nat) : Int) = t by omega]
    rw [← e3, ← i2]
    show ((t.toNat - k + 0 + tks (patOf t.toNat l) : Nat) : Int) + k = _
    omega
theorem patOf_pos : ∀ {l : List Int} {k j : Nat}, j ≤ k → l.Pairwise (· ≤ ·) → (∀ t ∈ l, (k : Int) ≤ t) → (∀ (i : Nat) (t : Int), l[i]? = some t → ((j + i + 1 : Nat) : Int) ≤ t) → ∀ m, 0 ≤ (k : Int) - j + dif ((patOf k l).take m)
  | [], k, j, hj, _, _, _, m => by
    show 0 ≤ (k : Int) - j + dif (([] : List Bool).take m)
    rw [List.take_nil]
    show 0 ≤ (k : Int) - j + 0
    omega
  | t :: l, k, j, hj, h, g, c, m => by
    have h' := List.pairwise_cons.mp h
    have hk := g t List.mem_cons_self
    have hc := c 0 t rfl
    have ih := patOf_pos (l := l) (k := t.toNat) (j := j + 1) (by omega) h'.2 (fun x hx => by have := h'.1 x hx; omega) fun i x hx => by
      have := c (i + 1) x (by simpa using hx)
      omega
    have e : patOf k (t :: l) = List.replicate (t.toNat - k) true ++ ([false] ++ patOf t.toNat l) := List.append_assoc _ _ _
    rw [e]
    by_cases hm : m ≤ t.toNat - k
    · rw [List.take_append_of_le_length (by rw [List.length_replicate]; exact hm), List.take_replicate, dif_rep]
      omega
    · rw [List.take_append, List.take_of_length_le (by rw [List.length_replicate]; omega), dif_cat, dif_rep, List.length_replicate]
      obtain ⟨m', em⟩ : ∃ m', m - (t.toNat - k) = m' + 1 := ⟨m - (t.toNat - k) - 1, by omega⟩
      rw [em]
      have := ih m'
      show 0 ≤ (k : Int) - j + (((t.toNat - k : Nat) : Int) + (-1 + dif ((patOf t.toNat l).take m')))
      omega
theorem run_reps {ts : List Int} (hn : ts.Nodup) {P : List (Int × Int)} (f : List Int) : ∀ {m k : Nat} {gs : List Int}, Run ts gs P k → k + m ≤ ts.length → ∃ gs', (List.replicate m true).foldl (stepF ts) (gs, f, k) = (gs', f, k + m) ∧ Run ts gs' P (k + m)
  | 0, k, gs, h, _ => ⟨gs, rfl, h⟩
  | m + 1, k, gs, h, hk => by
    obtain ⟨gs', e, r⟩ := run_reps hn f (m := m) (h.take hn (by omega)) (by omega)
    refine ⟨gs', ?_, by rw [show k + (m + 1) = k + 1 + m by omega]; exact r⟩
    rw [List.replicate_succ, List.foldl_cons]
    show (List.replicate m true).foldl (stepF ts) (gs ++ [ts.getD k 0], f, k + 1) = _
    rw [e, show k + 1 + m = k + (m + 1) by omega]
theorem lead_run {ts : List Int} (hn : ts.Nodup) : ∀ {Q P0 : List (Int × Int)} {gs : List Int} {k : Nat}, Run ts gs P0 k → Lead (nb ts) ts.length (P0 ++ Q) → ((P0 ++ Q).map (·.1)).Perm ts → (∀ q ∈ Q, (k : Int) ≤ q.2) →
    ((patOf k (Q.map (·.2))).foldl (stepF ts) (gs, P0.map (·.1), k)).2.1 = (P0 ++ Q).map (·.1)
  | [], P0, gs, k, _, _, _, _ => by rw [List.append_nil]; rfl
  | (f, t) :: Q, P0, gs, k, h, hL, hp, hk => by
    have k1 := hk _ List.mem_cons_self
    have hmem : (f, t) ∈ P0 ++ (f, t) :: Q := List.mem_append_right _ List.mem_cons_self
    have ttop := hL.top _ hmem
    have ttk := hL.tk _ hmem
    have hup := List.pairwise_append.mp hL.up
    have hmin := List.pairwise_append.mp hL.min
    have hmin2 := List.pairwise_cons.mp hmin.2.1
    have hup2 := List.pairwise_cons.mp hup.2.1
    have k1' : (k : Int) ≤ t := k1
    have ttop' : t ≤ ts.length := ttop
    have ttk' : nb ts f < t := ttk
    obtain ⟨gs', e, r⟩ := run_reps hn (P0.map (·.1)) (m := t.toNat - k) h (by omega)
    have ek : k + (t.toNat - k) = t.toNat := by omega
    rw [ek] at e r
    have hnd : ((P0 ++ (f, t) :: Q).map (·.1)).Nodup := hp.nodup_iff.mpr hn
    rw [List.map_append, List.map_cons, List.nodup_append] at hnd
    have hfn : f ∉ P0.map (·.1) := fun z => hnd.2.2 f z f List.mem_cons_self rfl
    have hft : f ∈ ts := hp.mem_iff.mp (List.mem_map.mpr ⟨(f, t), hmem, rfl⟩)
    have hfg : f ∈ gs' := (r.gap f).mpr ⟨hft, by omega, hfn⟩
    have ef : f = minI gs' := minI_eq hfg fun y hy => by
      obtain ⟨y1, y2, y3⟩ := (r.gap y).mp hy
      have := hp.mem_iff.mpr y1
      rw [List.map_append, List.map_cons] at this
      rcases List.mem_append.mp this with z | z
      · exact absurd z y3
      · rcases List.mem_cons.mp z with z | z
        · rw [z]; exact Int.le_refl _
        · obtain ⟨q, hq, eq⟩ := List.mem_map.mp z
          have := hmin2.1 q hq
          rw [eq] at this
          have this' : y < f → t ≤ nb ts y := this
          by_cases hyf : y < f
          · have := this' hyf; omega
          · omega
    have r2 := r.back (fun z => by rw [z] at hfg; cases hfg)
    rw [← ef] at r2
    have et : (((t.toNat : Nat) : Int)) = t := by omega
    rw [et] at r2
    have ih := lead_run hn (Q := Q) (P0 := P0 ++ [(f, t)]) r2 (by rw [List.append_assoc]; exact hL) (by rw [List.append_assoc]; exact hp) fun q hq => by
      have := hup2.1 q hq
      have this' : t ≤ q.2 := this
      omega
    have ep : patOf k (((f, t) :: Q).map (·.2)) = List.replicate (t.toNat - k) true ++ [false] ++ patOf t.toNat (Q.map (·.2)) := rfl
    rw [ep, List.foldl_append, List.foldl_append, e]
    show ((patOf t.toNat (Q.map (·.2))).foldl (stepF ts) (gs'.erase (minI gs'), P0.map (·.1) ++ [minI gs'], t.toNat)).2.1 = _
    rw [← ef]
    rw [List.map_append] at ih
    have ih' : ((patOf t.toNat (Q.map (·.2))).foldl (stepF ts) (gs'.erase f, P0.map (·.1) ++ [f], t.toNat)).2.1 = (P0 ++ [(f, t)] ++ Q).map (·.1) := ih
    rw [ih', List.append_assoc]
    rfl
/-- each time has at least as many takes before it as returns up to it -/
theorem lead_count {ts : List Int} {P : List (Int × Int)} (hL : Lead (nb ts) ts.length P) (hs : ∀ x ∈ P.map (·.1), x ∈ ts) (hn : (P.map (·.1)).Nodup) {i : Nat} {t : Int} (h : (P.map (·.2))[i]? = some t) : ((i + 1 : Nat) : Int) ≤ t := by
  rw [List.getElem?_map] at h
  cases e : P[i]? with
  | none => rw [e] at h; cases h
  | some q =>
    rw [e] at h
    have et : q.2 = t := Option.some.inj h
    have il := (List.getElem?_eq_some_iff.mp e).1
    have h0 := nb_nn ts q.1
    have h1 := hL.tk q (List.mem_of_getElem? e)
    have key : ((P.take (i + 1)).map fun a => nb ts a.1).length ≤ t.toNat := by
      refine nodup_le ?_ fun x hx => ?_
      · have n1 : ((P.take (i + 1)).map (·.1)).Nodup := by
          rw [List.map_take]
          exact hn.sublist (List.take_sublist _ _)
        have : ((P.take (i + 1)).map fun a => nb ts a.1) = ((P.take (i + 1)).map (·.1)).map (nb ts) := by rw [List.map_map]; rfl
        rw [this]
        refine List.pairwise_map.mpr (List.Pairwise.imp_of_mem ?_ n1)
        intro a b ha hb hab hc
        have sub : ∀ x ∈ (P.take (i + 1)).map (·.1), x ∈ ts := fun x hx => by
          rw [List.map_take] at hx
          exact hs x (List.mem_of_mem_take hx)
        exact hab (nb_inj (sub a ha) (sub b hb) hc)
      · obtain ⟨a, ha, ea⟩ := List.mem_map.mp hx
        refine ⟨by rw [← ea]; exact nb_nn _ _, ?_⟩
        have a1 := hL.tk a (List.mem_of_mem_take ha)
        obtain ⟨j, hj⟩ := List.mem_iff_getElem?.mp ha
        have jl := (List.getElem?_eq_some_iff.mp hj).1
        rw [List.length_take] at jl
        rw [List.getElem?_take] at hj
        split at hj
        · have a2 : a.2 ≤ q.2 := by
            by_cases z : j = i
            · rw [z, e] at hj; cases hj; exact Int.le_refl _
            · have := List.pairwise_iff_getElem.mp hL.up j i (by omega) il (by omega)
              rw [(List.getElem?_eq_some_iff.mp hj).2, (List.getElem?_eq_some_iff.mp e).2] at this
              exact this
          rw [← ea]
          omega
        · cases hj
    rw [List.length_map, List.length_take] at key
    omega
/-- times that lead make a pattern that leads -/
theorem lead_pat {ts : List Int} (hn : ts.Nodup) (h200 : ts.length ≤ 200) {P : List (Int × Int)} (hL : Lead (nb ts) ts.length P) (hp : (P.map (·.1)).Perm ts) : IsPat (patOf 0 (P.map (·.2))) ts.length ∧ fillF ts (patOf 0 (P.map (·.2))) = P.map (·.1) ∧ tmsF 0 (patOf 0 (P.map (·.2))) = P.map (·.2) := by
  have up : (P.map (·.2)).Pairwise (· ≤ ·) := List.pairwise_map.mpr hL.up
  have sub : ∀ x ∈ P.map (·.1), x ∈ ts := fun x hx => hp.mem_iff.mp hx
  have nd : (P.map (·.1)).Nodup := hp.nodup_iff.mpr hn
  have cnt : ∀ (i : Nat) (t : Int), (P.map (·.2))[i]? = some t → ((0 + i + 1 : Nat) : Int) ≤ t := fun i t h => by
    rw [Nat.zero_add]
    exact lead_count hL sub nd h
  have nn : ∀ t ∈ P.map (·.2), ((0 : Nat) : Int) ≤ t := fun t ht => by
    obtain ⟨i, hi⟩ := List.mem_iff_getElem?.mp ht
    have := cnt i t hi
    omega
  obtain ⟨l1, l2⟩ := patOf_len up nn
  have pl : P.length = ts.length := by have := hp.length_eq; rwa [List.length_map] at this
  have last : ((P.map (·.2)).getLast?.getD ((0 : Nat) : Int)) = ts.length := by
    by_cases hP : P = []
    · rw [hP] at pl ⊢
      show ((0 : Nat) : Int) = _
      rw [← pl]; rfl
    · have hne : P.map (·.2) ≠ [] := by simpa using hP
      rw [List.getLast?_eq_some_getLast hne]
      show (P.map (·.2)).getLast hne = _
      have lp := List.length_pos_iff.mpr hP
      have hx := cnt (P.length - 1) ((P.map (·.2)).getLast hne) (by
        have a := List.getLast?_eq_getElem? (l := P.map (·.2))
        rw [List.getLast?_eq_some_getLast hne, List.length_map] at a
        exact a.symm)
      have top : (P.map (·.2)).getLast hne ≤ ts.length := by
        obtain ⟨q, hq, eq⟩ := List.mem_map.mp (List.getLast_mem hne)
        rw [← eq]
        exact hL.top q hq
      omega
  rw [last, Int.natCast_zero, Int.add_zero] at l2
  refine ⟨⟨by rw [l1, List.length_map]; omega, h200, ?_, fun m => ?_⟩, ?_, patOf_tms up nn⟩
  · have := dif_tks (patOf 0 (P.map (·.2)))
    rw [l1, List.length_map] at this
    omega
  · have := patOf_pos (k := 0) (j := 0) (Nat.le_refl _) up nn cnt m
    omega
  · exact lead_run hn (Q := P) (P0 := []) (Run.nil ts) hL hp fun q hq => nn q.2 (List.mem_map.mpr ⟨q, hq, rfl⟩)

abbrev Snumbered : Stmt := topS 17
abbrev Nnumbered : List Str := ["places", "index", "place"]
theorem scnumbered : FnScope Nnumbered ["places"] (defScope Snumbered) := ⟨rfl, rfl, rfl, by decide +kernel, rfl, by decide +kernel, by decide +kernel⟩

/-- a list's items, chosen and changed -/
theorem giv_list (xs : List Int) (P : Int → Bool) (F : Int → Int) : giv xs.length (fun i => P (xs.getD i 0)) (fun i => .int (F (xs.getD i 0))) = vI ((xs.filter P).map F) := by
  have e : (List.range xs.length).map (fun i => xs.getD i 0) = xs := by
    apply List.ext_getElem?
    intro i
    rw [List.getElem?_map]
    by_cases h : i < xs.length
    · rw [List.getElem?_range h, List.getElem?_eq_getElem h]
      show some (xs.getD i 0) = some xs[i]
      rw [List.getD_eq_getElem?_getD, List.getElem?_eq_getElem h]
      rfl
    · rw [List.getElem?_eq_none (by rw [List.length_range]; omega), List.getElem?_eq_none (by omega)]
      rfl
  unfold giv vI
  conv => rhs; rw [← e]
  rw [List.filter_map, List.map_map, List.map_map]
  rfl
theorem getD_at {xs : List Int} {i : Nat} (h : i < xs.length) : xs[i]? = some (xs.getD i 0) := by
  rw [List.getD_eq_getElem?_getD, List.getElem?_eq_getElem h]
  rfl
theorem vI_getD {xs : List Int} {i : Nat} (h : i < xs.length) : (vI xs)[i]? = some (.int (xs.getD i 0)) := by
  unfold vI
  rw [List.getElem?_map, getD_at h]
  rfl
theorem sorted_one : ∀ {a b : List Int}, a.Pairwise (· ≤ ·) → b.Pairwise (· ≤ ·) → a.Perm b → a = b
  | [], b, _, _, h => (h.symm.eq_nil).symm
  | x :: a, [], _, _, h => by have := h.length_eq; cases this
  | x :: a, y :: b, ha, hb, h => by
    have h1 := List.pairwise_cons.mp ha
    have h2 := List.pairwise_cons.mp hb
    have e : x = y := by
      have a1 : x ∈ y :: b := h.mem_iff.mp List.mem_cons_self
      have a2 : y ∈ x :: a := h.mem_iff.mpr List.mem_cons_self
      rcases List.mem_cons.mp a1 with z | z
      · exact z
      · rcases List.mem_cons.mp a2 with z2 | z2
        · exact z2.symm
        · have := h1.1 y z2
          have := h2.1 x z
          omega
    subst e
    rw [sorted_one h1.2 h2.2 (List.Perm.cons_inv h)]
theorem ixO_mem {ns : List Int} {x : Int} (h : x ∈ ns) : ixO ns x = some (nb ns x) := if_pos h
/-- the bounds of the times -/
def bnds (ts fs : List Int) : List (Int × Int) := (lows (nb ts) 0 fs).zip (highs (nb ts) ts.length fs)
theorem bnds_len (ts fs : List Int) : (bnds ts fs).length = fs.length := by unfold bnds; rw [List.length_zip, lows_len, highs_len, Nat.min_self]
theorem drop_cons {α : Type} {xs : List α} {i : Nat} (h : i < xs.length) : xs.drop i = xs[i] :: xs.drop (i + 1) := List.drop_eq_getElem_cons h
section
variable {P : Program} {w : World} {K : PySem.W.Frag} {mg : Str → Option Value} {base : Heap}
def spNumbered : Sp := fun vs H Q _ => ∃ (a : Addr) (ns : List Int), vs = [.ref a] ∧ H a = some (.lst (vI ns)) ∧ ns.Nodup ∧ ns.length ≤ 1000 ∧ ∀ H' p, Same H H' → H p = none → IsD H' p (ixO ns) → Q (.ref p) H'
theorem ok_numbered {f : Addr} {fd : FuncData} {k : Nat} (B : Bn mg) (F : Fun K "numbered" "numbered" Snumbered f fd) : FnG P w K mg base (k + 1) f fd ["places"] spNumbered := by
  refine gok F scnumbered (fun vs H Q E h => ?_) (fun cdv A fs s H vs Q E hG hr h => ?_)
  · obtain ⟨_, _, rfl, _⟩ := h; rfl
  · obtain ⟨a, ns, rfl, hA, hn, hl, q⟩ := h
    have hu := hr.units
    refine ⟨_, (pss_one (ps_ret (pe_dc (own := [("index", 1), ("place", 2)]) rfl scnumbered.nd (k_enum K (by rfl) B.enumerate (pa_cons (pv 0) pa_nil)) (blkOk_by (own := [("index", 1), ("place", 2)]) (N := Nnumbered) (sc := defScope Snumbered) (by decide +kernel)) (fun _ _ _ _ _ => (k_gtup (n := 2) K rfl (pgs_cons (pg_name (i := 1) scnumbered.nd rfl (Or.inl rfl)) (pgs_cons (pg_name (i := 2) scnumbered.nd rfl (Or.inl rfl)) pgs_nil)))) (fun _ _ _ _ _ => pts_nil) (fun _ _ _ _ _ => (pv 2)) (fun _ _ _ _ _ => (pv 1))))), ?_⟩
    walk_at "s"
    refine r_dc ?_
    walk_at "s"
    refine ⟨a, vI ns, rfl, lst_of hA, fun D nD => ?_⟩
    have S := src_enum (K := K) (a := a) (xs := vI ns)
    have sD := same_new (o := .dK []) nD
    refine ⟨fun i m H' => i + m = ns.length ∧ Same H H' ∧ H' D = some (.dK (numTo ns i)), ⟨ns.length, Nat.zero_add _, sD, upd_same⟩, ?_⟩
    rintro i m H1 ⟨e, s1, hD⟩
    have o := lst_of (K := K) (s1 _ _ hA)
    by_cases hi : i < ns.length
    · refine .inr ⟨S.go i H1 o (by rw [vI_len]; exact hi), fun H' => Same H H' ∧ H' D = some (.dK (numTo ns (i + 1))), fun H' h => ⟨m - 1, by omega, by omega, h⟩, ?_⟩
      intro x H2 y
      obtain ⟨T, x', rfl, nT, rfl, hx⟩ := S.yld i H1 x H2 o (by rw [vI_len]; exact hi) y
      rw [vI_getD hi] at hx
      cases hx
      have sT := same_new (o := .tup [.int (i : Nat), .int (ns.getD i 0)]) nT
      walk_at "s"
      refine ⟨rfl, ?_⟩
      walk_at "s"
      refine ⟨numTo ns i, .inl (ns.getD i 0), rfl, sT _ _ hD, by rw [numTo_len]; exact szl (by omega), ?_, ?_⟩
      · exact same_set (s1.trans sT) nD
      · rw [upd_same, numTo_succ hn hi]
    · have ei : i = ns.length := by omega
      subst ei
      refine .inl ⟨by have := S.stop H1 o; rwa [vI_len] at this, ?_⟩
      walk_at "s"
      exact q _ D s1 nD ⟨_, hD, by rw [numTo_len]; omega, valV_all hn⟩
end

abbrev Sbounds_by : Stmt := topS 18
abbrev Nbounds_by : List Str := ["takes", "fills", "number", "least", "most", "low", "place", "high", "later", "other"]
theorem scbounds_by : FnScope Nbounds_by ["takes", "fills"] (defScope Sbounds_by) := ⟨rfl, rfl, rfl, by decide +kernel, rfl, by decide +kernel, by decide +kernel⟩
abbrev Schecked_pair : Stmt := topS 16
abbrev Nchecked_pair : List Str := ["takes", "fills", "one", "other"]
theorem scchecked_pair : FnScope Nchecked_pair ["takes", "fills"] (defScope Schecked_pair) := ⟨rfl, rfl, rfl, by decide +kernel, rfl, by decide +kernel, by decide +kernel⟩
abbrev Sobstruction_of : Stmt := topS 21
abbrev Nobstruction_of : List Str := ["takes", "fills", "places", "number", "filled", "least", "most"]
theorem scobstruction_of : FnScope Nobstruction_of ["takes", "fills"] (defScope Sobstruction_of) := ⟨rfl, rfl, rfl, by decide +kernel, rfl, by decide +kernel, by decide +kernel⟩

section
variable {P : Program} {w : World} {K : PySem.W.Frag} {mg : Str → Option Value} {base : Heap}
def spBoundsBy : Sp := fun vs H Q _ => ∃ (a b : Addr) (ts fs : List Int), vs = [.ref a, .ref b] ∧ H a = some (.lst (vI ts)) ∧ H b = some (.lst (vI fs)) ∧ ts.Nodup ∧ ts.length ≤ 1000 ∧ fs.Perm ts ∧
  ∀ H' p as, Same H H' → H p = none → PairsAt (fun x => H x = none) H' p as (bnds ts fs) → Q (.ref p) H'
theorem ok_bounds_by {f : Addr} {fd : FuncData} (B : Bn mg) (D_numbered : Df P w K mg base 1 "numbered" [] spNumbered) (F : Fun K "bounds_by" "bounds_by" Sbounds_by f fd) : FnG P w K mg base 2 f fd ["takes", "fills"] spBoundsBy := by
  refine gok F scbounds_by (fun vs H Q E h => ?_) (fun cdv A fs s H vs Q E hG hr h => ?_)
  · obtain ⟨_, _, _, _, rfl, _⟩ := h; rfl
  · obtain ⟨a, b, ts, fl, rfl, hA, hB, hn, hl, hp, q⟩ := h
    have hu := hr.units
    have fll := hp.length_eq
    refine ⟨_, (pss_cons (ps_set (i := 2) scbounds_by.nd rfl (Or.inr rfl) (pe_df D_numbered hG (hr.mono (by first | decide | omega)) passL (by rfl) (pa_cons (pv 0) pa_nil))) (pss_cons (ps_par (i := 3) (j := 4) rfl scbounds_by.nd rfl rfl (by decide) rfl rfl (pa_cons (pe_lst pa_nil) (pa_cons (pe_lst pa_nil) pa_nil)) (by with_unfolding_all rfl)) (pss_cons (ps_set (i := 5) scbounds_by.nd rfl (Or.inl rfl) pe_int) (pss_cons (ps_for (passes_of rfl) rfl (k_piL K (pv 1)) (pg_name (i := 6) scbounds_by.nd rfl (Or.inr rfl)) (pss_cons (ps_set (i := 5) scbounds_by.nd rfl (Or.inl rfl) (pe_callB (call_max2' rfl) (by rfl) B.max Bmax (pa_cons (pv 5) (pa_cons (pe_op op_add (pe_dget (hu1 hu) (pv 2) (pv 6) (fun _ _ => rfl)) pe_int) pa_nil)))) (pss_one (ps_expr (k_bmP K (pe_bm PySem.F.plainAttrs_list PySem.F.slot_list_append PySem.F.type_list_append mt_append (pv 3) (pa_cons (pv 5) pa_nil))))))) (pss_cons (ps_set (i := 7) scbounds_by.nd rfl (Or.inl rfl) (pe_callB (k_len K) (by rfl) B.len Blen (pa_cons (pv 0) pa_nil))) (pss_cons (ps_set (i := 8) scbounds_by.nd rfl (Or.inl rfl) (pe_lst pa_nil)) (pss_cons (ps_for (passes_of rfl) rfl (pi_reversed (by rfl) B.reversed (pa_cons (pv 1) pa_nil)) (pg_name (i := 6) scbounds_by.nd rfl (Or.inr rfl)) (pss_cons (ps_set (i := 7) scbounds_by.nd rfl (Or.inl rfl) (pe_callB (k_min K) (by rfl) B.min Bmin (pa_cons (pe_op op_cat (pe_lst (pa_cons (pv 7) pa_nil)) (pe_lc (own := [("other", 9)]) rfl scbounds_by.nd (k_piL K (pv 8)) (blkOk_by (own := [("other", 9)]) (N := Nbounds_by) (sc := defScope Sbounds_by) (by decide +kernel)) (fun _ _ _ _ _ => (pg_name (i := 9) scbounds_by.nd rfl (Or.inl rfl))) (fun _ _ _ _ _ => (pts_one (pt_cmpR op_lt (pv 9) (pv 6) (nomark _)))) (fun _ _ _ _ _ => (pe_dget (hu1 hu) (pv 2) (pv 9) (fun _ _ => rfl))))) pa_nil))) (pss_cons (ps_expr (k_bmP K (pe_bm PySem.F.plainAttrs_list PySem.F.slot_list_append PySem.F.type_list_append mt_append (pv 4) (pa_cons (pv 7) pa_nil)))) (pss_one (ps_expr (k_bmP K (pe_bm PySem.F.plainAttrs_list PySem.F.slot_list_append PySem.F.type_list_append mt_append (pv 8) (pa_cons (pv 6) pa_nil)))))))) (pss_one (ps_ret (pe_listZipR K rfl (by rfl) B.list (by rfl) B.zip (by rfl) B.reversed (pv 3) (pv 4))))))))))), ?_⟩
    walk_at "s"
    refine ⟨a, ts, rfl, hA, hn, hl, fun H1 d s1 nd hd => ?_⟩
    walk_at "s"
    intro l nl
    walk_at "s"
    intro mo nm
    have s2 := (s1.trans (same_new (o := .lst []) nl)).trans (same_new (o := .lst []) nm)
    have hd2 := hd.same ((same_new (o := .lst []) nl).trans (same_new (o := .lst []) nm))
    have nl0 : H l = none := s1.free nl
    have nm0 : H mo = none := (s1.trans (same_new (o := .lst []) nl)).free nm
    have nlm : l ≠ mo := ne_new nm upd_same
    have hl2 : upd (upd H1 l (.lst [])) mo (.lst []) l = some (.lst (vI [])) := (upd_ne nlm).trans upd_same
    have hm2 : upd (upd H1 l (.lst [])) mo (.lst []) mo = some (.lst (vI [])) := upd_same
    have hdk : ∃ kvs, H1 d = some (.dK kvs) := let ⟨kvs, h, _⟩ := hd; ⟨kvs, h⟩
    have ndl : d ≠ l := fun z => by obtain ⟨kvs, h⟩ := hdk; rw [z, nl] at h; cases h
    have ndm : d ≠ mo := fun z => by
      obtain ⟨kvs, h⟩ := hdk
      have := (same_new (o := .lst []) nl) _ _ h
      rw [z, nm] at this; cases this
    generalize upd (upd H1 l (.lst [])) mo (.lst []) = H2 at *
    have hB2 := s2 _ _ hB
    walk_at "s"
    refine ⟨b, rfl, ⟨_, lst_of hB2⟩, ?_⟩
    refine for_src (src_list (xs := vI fl)) (fun i σ H' => ∃ low ls v6 v7 v8 v9, σ = [some (.ref a), some (.ref b), some (.ref d), some (.ref l), some (.ref mo), some (.int low), v6, v7, v8, v9] ∧ Same H H' ∧ IsD H' d (ixO ts) ∧ H' l = some (.lst (vI ls)) ∧ H' mo = some (.lst (vI [])) ∧ lows (nb ts) 0 fl = ls ++ lows (nb ts) low (fl.drop i) ∧ ls.length = i) (fun i σ H' h => by
      obtain ⟨_, _, _, _, _, _, _, s, _⟩ := h
      exact lst_of (s _ _ hB)) ⟨0, [], none, none, none, none, rfl, s2, hd2, hl2, hm2, by rw [List.drop_zero]; rfl, rfl⟩ ?_ ?_
    · rintro i v σ H3 H4 hi ⟨low, ls, v6, v7, v8, v9, rfl, s3, hd3, hl3, hm3, e, el⟩ ⟨rfl, hx⟩
      rw [vI_len] at hi
      rw [vI_getD hi] at hx
      cases hx
      have hm := List.getElem_mem hi
      have hft : fl.getD i 0 ∈ ts := by
        rw [List.getD_eq_getElem?_getD, List.getElem?_eq_getElem hi]
        exact hp.mem_iff.mp hm
      have lsl : ls.length ≤ 1000 := by omega
      walk_at "s"
      refine r_dget ?_
      walk_at "s"
      refine hd3.get (ixO_mem hft) ?_
      walk_at "s"
      refine ⟨mx low (nb ts (fl.getD i 0) + 1), ls ++ [mx low (nb ts (fl.getD i 0) + 1)], _, _, _, _, rfl, same_set s3 nl0, ?_, ?_, (upd_ne nlm.symm).trans hm3, ?_, ?_⟩
      · obtain ⟨kvs, z1, z2⟩ := hd3
        exact ⟨kvs, (upd_ne ndl).trans z1, z2⟩
      · rw [upd_same]
        exact congrArg (fun l => some (HO.lst l)) (vI_app ls [_])
      · rw [e, drop_cons hi, List.append_assoc]
        have ef : fl[i] = fl.getD i 0 := by rw [List.getD_eq_getElem?_getD, List.getElem?_eq_getElem hi]; rfl
        rw [ef]
        rfl
      · rw [List.length_append, el]; rfl
    · rintro σ H3 ⟨low, ls, v6, v7, v8, v9, rfl, s3, hd3, hl3, hm3, e, el⟩
      rw [vI_len, List.drop_length] at e
      have e' : lows (nb ts) 0 fl = ls := e.trans (List.append_nil _)
      subst e'
      have hA3 := s3 _ _ hA
      walk_at "s"
      rw [vI_len]
      intro la nla
      have nla0 : H la = none := s3.free nla
      have hB3 := s3 _ _ hB
      have s4 := same_new (o := .lst []) nla
      have hd4 := hd3.same s4
      have hl4 := s4 _ _ hl3
      have hm4 := s4 _ _ hm3
      have hla4 : upd H3 la (.lst []) la = some (.lst (vI [])) := upd_same
      have nlla : l ≠ la := ne_new nla hl3
      have nmla : mo ≠ la := ne_new nla hm3
      have ndla : d ≠ la := fun z => by obtain ⟨kvs, h, _⟩ := hd3; rw [z, nla] at h; cases h
      have s34 := s3.trans s4
      generalize upd H3 la (.lst []) = H4 at *
      walk_at "s"
      refine r_iRev ?_
      walk_at "s"
      refine ⟨b, vI fl, rfl, lst_of (s34 _ _ hB), ?_⟩
      refine for_src (src_rev (xs := vI fl)) (fun i σ H' => ∃ v6 v9, σ = [some (.ref a), some (.ref b), some (.ref d), some (.ref l), some (.ref mo), some (.int low), v6, some (.int ((highs (nb ts) ts.length (fl.drop (fl.length - i))).headD ts.length)), some (.ref la), v9] ∧ Same H H' ∧ IsD H' d (ixO ts) ∧ H' l = some (.lst (vI (lows (nb ts) 0 fl))) ∧ H' mo = some (.lst (vI (highs (nb ts) ts.length (fl.drop (fl.length - i))).reverse)) ∧ H' la = some (.lst (vI (fl.drop (fl.length - i)).reverse))) (fun i σ H' h => by
        obtain ⟨_, _, _, s, _⟩ := h
        exact lst_of (s _ _ hB)) ⟨v6, v9, ?_, s34, hd4, hl4, ?_, ?_⟩ ?_ ?_
      · rw [Nat.sub_zero, List.drop_length]; rfl
      · rw [Nat.sub_zero, List.drop_length]; exact hm4
      · rw [Nat.sub_zero, List.drop_length]; exact hla4
      · rintro i v σ H5 H6 hi ⟨v6', v9', rfl, s5, hd5, hl5, hm5, hla5⟩ ⟨rfl, hx⟩
        rw [vI_len] at hi hx
        have hj : fl.length - 1 - i < fl.length := by omega
        rw [vI_getD hj] at hx
        cases hx
        have ef : fl[fl.length - 1 - i] = fl.getD (fl.length - 1 - i) 0 := by rw [List.getD_eq_getElem?_getD, List.getElem?_eq_getElem hj]; rfl
        have ed : fl.drop (fl.length - (i + 1)) = fl.getD (fl.length - 1 - i) 0 :: fl.drop (fl.length - i) := by
          rw [show fl.length - (i + 1) = fl.length - 1 - i by omega, drop_cons hj, ef, show fl.length - 1 - i + 1 = fl.length - i by omega]
        have hsub : ∀ x ∈ fl.drop (fl.length - i), x ∈ ts := fun x hx => hp.mem_iff.mp (List.mem_of_mem_drop hx)
        have hsl : (fl.drop (fl.length - i)).length ≤ 1000 := by rw [List.length_drop]; omega
        rw [ed]
        generalize fl.getD (fl.length - 1 - i) 0 = f0 at *
        generalize fl.drop (fl.length - i) = S at *
        walk_at "s"
        intro t1 nt1
        have hla6 := (same_new (o := .lst [.int ((highs (nb ts) ts.length S).headD ts.length)]) nt1) _ _ hla5
        have s6 := same_new (o := .lst [.int ((highs (nb ts) ts.length S).headD ts.length)]) nt1
        have hd6 := hd5.same s6
        walk_at "s"
        refine ⟨la, rfl, ⟨_, lst_of hla6⟩, fun Dl nD => ?_⟩
        refine lc_pure (src_list (xs := vI S.reverse)) (fun j => decide (S.reverse.getD j 0 < f0)) (fun j => .int (nb ts (S.reverse.getD j 0))) (by rw [vI_len, List.length_reverse]; omega) (fun H' s' => lst_of (s' _ _ hla6)) ?_ nD fun H7 s7 hD => ?_
        · rintro j x H8 H9 Yes No hj' s8 ⟨rfl, hx⟩ hY hN
          rw [vI_len] at hj'
          rw [vI_getD hj'] at hx
          cases hx
          have hmem : S.reverse.getD j 0 ∈ ts := hsub _ (List.mem_reverse.mp (by
            rw [List.getD_eq_getElem?_getD, List.getElem?_eq_getElem hj']
            exact List.getElem_mem hj'))
          walk_at "s"
          refine ⟨rfl, ?_⟩
          walk_at "s"
          by_cases hlt : S.reverse.getD j 0 < f0
          · refine ifDT hlt ?_
            walk_at "s"
            refine r_dget ?_
            walk_at "s"
            refine (hd6.same s8).get (ixO_mem hmem) ?_
            exact hY (decide_eq_true hlt) _ (Same.refl _)
          · refine ifDF hlt ?_
            exact hN (decide_eq_false hlt) _ (Same.refl _)
        · rw [vI_len] at hD
          rw [giv_list S.reverse (fun y => decide (y < f0)) (nb ts)] at hD
          have ht7 := s7 _ _ (upd_same (H := H6) (a := t1) (o := .lst [.int ((highs (nb ts) ts.length S).headD ts.length)]))
          refine r_cat ht7 hD (by rw [vI_len, List.length_map]; have := List.length_filter_le (fun y => decide (y < f0)) S; exact sz (by simp; omega)) fun u nu => ?_
          have s67 := s6.trans s7
          have s78 := s67.trans (same_new (o := .lst ([V.int ((highs (nb ts) ts.length S).headD ts.length)] ++ vI ((S.reverse.filter fun y => decide (y < f0)).map (nb ts)))) nu)
          walk_at "s"
          refine r_min (ns := ((highs (nb ts) ts.length S).headD ts.length) :: ((S.reverse.filter fun y => decide (y < f0)).map (nb ts))) (lst_of upd_same) (by simp) ?_
          have em : minI (((highs (nb ts) ts.length S).headD ts.length) :: ((S.reverse.filter fun y => decide (y < f0)).map (nb ts))) = minI (((highs (nb ts) ts.length S).headD ts.length) :: ((S.filter fun y => decide (y < f0)).map (nb ts))) := by
            refine minI_perm (List.Perm.cons _ ?_)
            rw [List.filter_reverse]
            exact (List.reverse_perm _).map _
          rw [em]
          have hm8 := s78 _ _ hm5
          have hla8 := s78 _ _ hla5
          have hl8 := s78 _ _ hl5
          have hd8 := hd5.same s78
          have s58 := s5.trans s78
          generalize upd H7 u (.lst ([V.int ((highs (nb ts) ts.length S).headD ts.length)] ++ vI ((S.reverse.filter fun y => decide (y < f0)).map (nb ts)))) = H8 at *
          have hml : (highs (nb ts) ts.length S).length ≤ 1000 := by rw [highs_len]; exact hsl
          walk_at "s"
          refine ⟨_, _, rfl, same_set (same_set s58 nm0) nla0, ?_, ?_, ?_, ?_⟩
          · obtain ⟨kvs, z1, z2⟩ := hd8
            exact ⟨kvs, (upd_ne ndla).trans ((upd_ne ndm).trans z1), z2⟩
          · exact (upd_ne nlla).trans ((upd_ne nlm).trans hl8)
          · rw [upd_ne nmla, upd_same]
            refine congrArg (fun l => some (HO.lst l)) ?_
            show vI (highs (nb ts) ts.length S).reverse ++ vI [_] = _
            rw [vI_app]
            show _ = vI (_ :: highs (nb ts) ts.length S).reverse
            rw [List.reverse_cons]
          · rw [upd_same]
            refine congrArg (fun l => some (HO.lst l)) ?_
            show vI S.reverse ++ vI [f0] = _
            rw [vI_app, List.reverse_cons]
      · rintro σ H5 ⟨v6', v9', rfl, s5, hd5, hl5, hm5, hla5⟩
        rw [vI_len, Nat.sub_self, List.drop_zero] at hm5
        walk_at "s"
        refine r_listZipR ?_
        walk_at "s"
        refine ⟨l, mo, vI (lows (nb ts) 0 fl), vI (highs (nb ts) ts.length fl).reverse, rfl, rfl, lst_of hl5, lst_of hm5, by rw [vI_len, vI_len, List.length_reverse, lows_len, highs_len], fun H6 p as s6 np nts npt ndp hp6 hlen hit => ?_⟩
        rw [vI_len, lows_len] at hlen
        refine q H6 p as (s5.trans s6) (s5.free np) ⟨hp6, by rw [bnds_len]; exact hlen, fun j x z e1 e2 => ⟨?_, s5.free (nts x (List.mem_of_getElem? e1))⟩⟩
        unfold bnds at e2
        obtain ⟨f1, f2⟩ := List.getElem?_zip_eq_some.mp e2
        refine hit j x _ _ e1 (by unfold vI; rw [List.getElem?_map, f1]; rfl) ?_
        rw [vI_rev, List.reverse_reverse]
        unfold vI
        rw [List.getElem?_map, f2]
        rfl
def spCheckedPair : Sp := fun vs H Q _ => ∃ (a b : Addr) (ts fs : List Int), vs = [.ref a, .ref b] ∧ Sq H a (vI ts) ∧ Sq H b (vI fs) ∧ IsPl ts ∧ fs.Perm ts ∧
  ∀ H' t p1 p2, Same H H' → H t = none → H p1 = none → H p2 = none → p1 ≠ p2 → H' t = some (.tup [.ref p1, .ref p2]) → H' p1 = some (.lst (vI ts)) → H' p2 = some (.lst (vI fs)) → Q (.ref t) H'
theorem IsPl.perm' {a b : List Int} (h : IsPl a) (p : b.Perm a) : IsPl b := ⟨by rw [p.length_eq]; exact h.top, fun x hx => h.rng x (p.mem_iff.mp hx), p.nodup_iff.mpr h.nd⟩
theorem ok_checked_pair {f : Addr} {fd : FuncData} (B : Bn mg) (D_checked_places : Df P w K mg base 3 "checked_places" [] spCheckedPlaces) (F : Fun K "checked_pair" "checked_pair" Schecked_pair f fd) : FnG P w K mg base 4 f fd ["takes", "fills"] spCheckedPair := by
  refine gok F scchecked_pair (fun vs H Q E h => ?_) (fun cdv A fs s H vs Q E hG hr h => ?_)
  · obtain ⟨_, _, _, _, rfl, _⟩ := h; rfl
  · obtain ⟨a, b, ts, fl, rfl, hA, hB, hP, hp, q⟩ := h
    have hu := hr.units
    refine ⟨_, (pss_cons (ps_par (i := 2) (j := 3) rfl scchecked_pair.nd rfl rfl (by decide) rfl rfl (pa_cons (pe_df D_checked_places hG (hr.mono (by first | decide | omega)) passL (by rfl) (pa_cons (pv 0) pa_nil)) (pa_cons (pe_df D_checked_places hG (hr.mono (by first | decide | omega)) passL (by rfl) (pa_cons (pv 1) pa_nil)) pa_nil)) (by with_unfolding_all rfl)) (pss_cons (ps_if (pt_cmpR (k_neD K hu) (pe_callB (k_sorted K) (by rfl) B.sorted Bsorted (pa_cons (pv 2) pa_nil)) (pe_callB (k_sorted K) (by rfl) B.sorted Bsorted (pa_cons (pv 3) pa_nil)) (nomark _)) (pss_one ps_never) pss_nil) (pss_one (ps_ret (pe_tup (pa_cons (pv 2) (pa_cons (pv 3) pa_nil))))))), ?_⟩
    walk_at "s"
    refine ⟨a, ts, rfl, hA, hP, fun H1 p1 s1 n1 h1 => ?_⟩
    walk_at "s"
    refine ⟨b, fl, rfl, s1.sq hB, hP.perm' hp, fun H2 p2 s2 n2 h2 => ?_⟩
    have h1' := s2 _ _ h1
    walk_at "s"
    refine r_sortI (lst_of h1') fun o1 u1 k1 k2 m1 => ?_
    have s3 := same_new (o := .lst (vI o1)) m1
    walk_at "s"
    refine r_sortI (lst_of (s3 _ _ h2)) fun o2 u2 k3 k4 m2 => ?_
    have e : o1 = o2 := sorted_one k2 k4 (k1.trans (hp.symm.trans k3.symm))
    subst e
    have s4 := same_new (o := .lst (vI o1)) m2
    refine r_neLI (lst_of (s4 _ _ upd_same)) (lst_of upd_same) ?_
    walk_at "s"
    intro t nt
    have s5 := same_new (o := .tup [.ref p1, .ref p2]) nt
    have sA := (s3.trans s4).trans s5
    have sB := s1.trans s2
    exact q _ t p1 p2 (sB.trans sA) ((sB.trans (s3.trans s4)).free nt) n1 (s1.free n2) (ne_new n2 h1) upd_same (sA _ _ h1') (sA _ _ h2)
theorem LeAll.get : ∀ {a b : List Int}, LeAll a b → ∀ {i : Nat} (hi : i < (a.zip b).length), ((a.zip b)[i]).1 ≤ ((a.zip b)[i]).2
  | [], [], _, i, hi => by simp at hi
  | _ :: _, _ :: _, h, 0, hi => h.1
  | _ :: _, _ :: _, h, i + 1, hi => by
    have := LeAll.get h.2 (i := i) (by simpa using hi)
    simpa using this
  | [], _ :: _, h, _, _ => h.elim
  | _ :: _, [], h, _, _ => h.elim
/-- the pair is possible -/
def Poss (ts fs : List Int) : Prop := LeAll (lows (nb ts) 0 fs) (highs (nb ts) ts.length fs)
def spObsNone : Sp := fun vs H Q _ => ∃ (a b : Addr) (ts fs : List Int), vs = [.ref a, .ref b] ∧ H a = some (.lst (vI ts)) ∧ H b = some (.lst (vI fs)) ∧ ts.Nodup ∧ ts.length ≤ 1000 ∧ fs.Perm ts ∧ Poss ts fs ∧ ∀ H', Same H H' → Q .non H'
theorem ok_obstruction_of {f : Addr} {fd : FuncData} (B : Bn mg) (D_bounds_by : Df P w K mg base 2 "bounds_by" [] spBoundsBy) (F : Fun K "obstruction_of" "obstruction_of" Sobstruction_of f fd) : FnG P w K mg base 3 f fd ["takes", "fills"] spObsNone := by
  refine gok F scobstruction_of (fun vs H Q E h => ?_) (fun cdv A fs s H vs Q E hG hr h => ?_)
  · obtain ⟨_, _, _, _, rfl, _⟩ := h; rfl
  · obtain ⟨a, b, ts, fl, rfl, hA, hB, hn, hl, hp, hPo, q⟩ := h
    have hu := hr.units
    refine ⟨_, (pss_cons (ps_if (pt_val (pe_callB (k_all K) (by rfl) B.all Ball (pa_cons (pe_lc (own := [("least", 5), ("most", 6)]) rfl scobstruction_of.nd (k_piL K (pe_df D_bounds_by hG (hr.mono (by first | decide | omega)) passL (by rfl) (pa_cons (pv 0) (pa_cons (pv 1) pa_nil)))) (blkOk_by (own := [("least", 5), ("most", 6)]) (N := Nobstruction_of) (sc := defScope Sobstruction_of) (by decide +kernel)) (fun _ _ _ _ _ => (k_gtup (n := 2) K rfl (pgs_cons (pg_name (i := 5) scobstruction_of.nd rfl (Or.inl rfl)) (pgs_cons (pg_name (i := 6) scobstruction_of.nd rfl (Or.inl rfl)) pgs_nil)))) (fun _ _ _ _ _ => pts_nil) (fun _ _ _ _ _ => (pe_cmpR op_le (pv 5) (pv 6) (nomark _)))) pa_nil))) (pss_one (ps_ret pe_non)) pss_nil) (pss_cons ps_never (pss_one ps_never))), ?_⟩
    walk_at "s"
    refine ⟨a, b, ts, fl, rfl, hA, hB, hn, hl, hp, fun H1 p as s1 np hp1 => ?_⟩
    have bl := bnds_len ts fl
    have fll := hp.length_eq
    refine ⟨p, rfl, ⟨_, lst_of hp1.hp⟩, fun Dl nD => ?_⟩
    refine lc_pure (src_list (xs := as.map V.ref)) (fun _ => true) (fun _ => .bl true) (by rw [List.length_map, hp1.len]; omega) (fun H' s' => lst_of (s' _ _ hp1.hp)) ?_ nD fun H7 s7 hD => ?_
    · rintro j x H8 H9 Yes No hj' s8 ⟨rfl, hx⟩ hY hN
      rw [List.length_map, hp1.len] at hj'
      obtain ⟨t, e1, e2, _⟩ := hp1.at hj'
      rw [e1] at hx
      cases hx
      have e2' := s8 _ _ e2
      have hle : ((bnds ts fl)[j]).1 ≤ ((bnds ts fl)[j]).2 := LeAll.get hPo hj'
      generalize (bnds ts fl)[j] = z at *
      walk_at "s"
      refine ⟨rfl, ?_⟩
      walk_at "s"
      rw [decide_eq_true hle]
      exact hY rfl _ (Same.refl _)
    · walk_at "s"
      refine ⟨Dl, List.replicate (as.map V.ref).length true, rfl, lst_of (hD.trans (by rw [giv_const, List.map_replicate])), ?_⟩
      rw [show (List.replicate (as.map V.ref).length true).all id = true by simp]
      walk_at "s"
      exact q _ (s1.trans s7)
end

abbrev Spossible_pair : Stmt := topS 22
abbrev Npossible_pair : List Str := ["takes", "fills", "one", "other", "reason"]
theorem scpossible_pair : FnScope Npossible_pair ["takes", "fills"] (defScope Spossible_pair) := ⟨rfl, rfl, rfl, by decide +kernel, rfl, by decide +kernel, by decide +kernel⟩

section
variable {P : Program} {w : World} {K : PySem.W.Frag} {mg : Str → Option Value} {base : Heap}
def spPossiblePair : Sp := fun vs H Q _ => ∃ (a b : Addr) (ts fs : List Int), vs = [.ref a, .ref b] ∧ Sq H a (vI ts) ∧ Sq H b (vI fs) ∧ IsPl ts ∧ fs.Perm ts ∧ Poss ts fs ∧
  ∀ H' t p1 p2 p as, Same H H' → H t = none → H p1 = none → H p2 = none → H p = none → p1 ≠ p2 → H' t = some (.tup [.ref p1, .ref p2, .ref p]) → H' p1 = some (.lst (vI ts)) → H' p2 = some (.lst (vI fs)) → PairsAt (fun x => H x = none) H' p as (bnds ts fs) → Q (.ref t) H'
theorem ok_possible_pair {f : Addr} {fd : FuncData} (B : Bn mg) (D_checked_pair : Df P w K mg base 4 "checked_pair" [] spCheckedPair) (D_obstruction_of : Df P w K mg base 3 "obstruction_of" [] spObsNone) (D_bounds_by : Df P w K mg base 2 "bounds_by" [] spBoundsBy) (F : Fun K "possible_pair" "possible_pair" Spossible_pair f fd) : FnG P w K mg base 5 f fd ["takes", "fills"] spPossiblePair := by
  refine gok F scpossible_pair (fun vs H Q E h => ?_) (fun cdv A fs s H vs Q E hG hr h => ?_)
  · obtain ⟨_, _, _, _, rfl, _⟩ := h; rfl
  · obtain ⟨a, b, ts, fl, rfl, hA, hB, hP, hp, hPo, q⟩ := h
    have hu := hr.units
    have tl := hP.top
    refine ⟨_, (pss_cons (ps_asg (pe_df D_checked_pair hG (hr.mono (by first | decide | omega)) passL (by rfl) (pa_cons (pv 0) (pa_cons (pv 1) pa_nil))) (k_gtup (n := 2) K rfl (pgs_cons (pg_name (i := 2) scpossible_pair.nd rfl (Or.inl rfl)) (pgs_cons (pg_name (i := 3) scpossible_pair.nd rfl (Or.inl rfl)) pgs_nil)))) (pss_cons (ps_set (i := 4) scpossible_pair.nd rfl (Or.inl rfl) (pe_df D_obstruction_of hG (hr.mono (by first | decide | omega)) passL (by rfl) (pa_cons (pv 2) (pa_cons (pv 3) pa_nil)))) (pss_cons (ps_if (pt_cmpR op_notN' (pv 4) pe_non (nomark _)) (pss_one ps_never) pss_nil) (pss_one (ps_ret (pe_tup (pa_cons (pv 2) (pa_cons (pv 3) (pa_cons (pe_df D_bounds_by hG (hr.mono (by first | decide | omega)) passL (by rfl) (pa_cons (pv 2) (pa_cons (pv 3) pa_nil))) pa_nil))))))))), ?_⟩
    walk_at "s"
    refine ⟨a, b, ts, fl, rfl, hA, hB, hP, hp, fun H1 t p1 p2 s1 nt n1 n2 n12 ht h1 h2 => ?_⟩
    walk_at "s"
    refine ⟨p1, p2, ts, fl, rfl, h1, h2, hP.nd, by omega, hp, hPo, fun H2 s2 => ?_⟩
    have h1' := s2 _ _ h1
    have h2' := s2 _ _ h2
    walk_at "s"
    refine ⟨p1, p2, ts, fl, rfl, h1', h2', hP.nd, by omega, hp, fun H3 p as s3 np hp3 => ?_⟩
    walk_at "s"
    intro t2 nt2
    have s4 := same_new (o := .tup [.ref p1, .ref p2, .ref p]) nt2
    have s12 := s1.trans s2
    exact q _ t2 p1 p2 p as ((s12.trans s3).trans s4) ((s12.trans s3).free nt2) n1 n2 (s12.free np) n12 upd_same (s4 _ _ (s3 _ _ h1')) (s4 _ _ (s3 _ _ h2')) ((hp3.weak fun x hx => s12.free hx).same s4)
end

/-! ### obstructions (no program here) -/
def twoC (nm fl : Int → Int) (one other : Int) : Bool := decide (nm one < nm other) && decide (fl other < fl one)
def twoF (nm fl : Int → Int) : List Int → Option (Int × Int)
  | [] => none
  | one :: r => match r.find? (twoC nm fl one) with
    | some other => some (one, other)
    | none => twoF nm fl r
def thrC (nm fl : Int → Int) (other third : Int) : Bool := decide (nm third < nm other) && decide (fl third < fl other)
def thrG (nm fl : Int → Int) : List Int → Option (Int × Int)
  | [] => none
  | other :: s => match s.find? (thrC nm fl other) with
    | some third => some (other, third)
    | none => thrG nm fl s
def rstF (nm fl : Int → Int) (one : Int) (r : List Int) : List Int := r.filter fun p => decide (nm p < nm one) && decide (fl p > fl one)
def thrF (nm fl : Int → Int) : List Int → Option (Int × Int × Int)
  | [] => none
  | one :: r => match thrG nm fl (rstF nm fl one r) with
    | some q => some (one, q.1, q.2)
    | none => thrF nm fl r
theorem twoF_none {nm fl : Int → Int} : ∀ {pl : List Int}, pl.Pairwise (· < ·) → twoF nm fl pl = none → ∀ a ∈ pl, ∀ b ∈ pl, a < b → twoC nm fl a b = false
  | [], _, _ => fun a ha => by cases ha
  | one :: r, hp, h => fun a ha b hb hab => by
    obtain ⟨p1, p2⟩ := List.pairwise_cons.mp hp
    unfold twoF at h
    cases z : r.find? (twoC nm fl one) with
    | some o => rw [z] at h; cases h
    | none =>
      rw [z] at h
      rw [List.find?_eq_none] at z
      rcases List.mem_cons.mp ha with rfl | ha2
      · rcases List.mem_cons.mp hb with e | hb
        · omega
        · have := z b hb
          simpa using this
      · rcases List.mem_cons.mp hb with rfl | hb2
        · have := p1 a ha2; omega
        · exact twoF_none p2 h a ha2 b hb2 hab
theorem thrG_none {nm fl : Int → Int} : ∀ {pl : List Int}, pl.Pairwise (· < ·) → thrG nm fl pl = none → ∀ a ∈ pl, ∀ b ∈ pl, a < b → thrC nm fl a b = false
  | [], _, _ => fun a ha => by cases ha
  | one :: r, hp, h => fun a ha b hb hab => by
    obtain ⟨p1, p2⟩ := List.pairwise_cons.mp hp
    unfold thrG at h
    cases z : r.find? (thrC nm fl one) with
    | some o => rw [z] at h; cases h
    | none =>
      rw [z] at h
      rw [List.find?_eq_none] at z
      rcases List.mem_cons.mp ha with rfl | ha2
      · rcases List.mem_cons.mp hb with e | hb
        · omega
        · have := z b hb
          simpa using this
      · rcases List.mem_cons.mp hb with rfl | hb2
        · have := p1 a ha2; omega
        · exact thrG_none p2 h a ha2 b hb2 hab
theorem thrF_none {nm fl : Int → Int} : ∀ {pl : List Int}, pl.Pairwise (· < ·) → thrF nm fl pl = none → ∀ a ∈ pl, ∀ b ∈ pl, ∀ c ∈ pl, a < b → b < c → ¬ (nm b < nm a ∧ fl a < fl b ∧ nm c < nm b ∧ fl c < fl b ∧ fl a < fl c)
  | [], _, _ => fun a ha => by cases ha
  | one :: r, hp, h => fun a ha b hb c hc hab hbc => by
    obtain ⟨p1, p2⟩ := List.pairwise_cons.mp hp
    unfold thrF at h
    cases z : thrG nm fl (rstF nm fl one r) with
    | some q => rw [z] at h; cases h
    | none =>
      rw [z] at h
      rcases List.mem_cons.mp ha with rfl | ha2
      · rcases List.mem_cons.mp hb with e | hb
        · omega
        · rcases List.mem_cons.mp hc with e | hc
          · omega
          · rintro ⟨h1, h2, h3, h4, h5⟩
            have mb : b ∈ rstF nm fl a r := List.mem_filter.mpr ⟨hb, by simp [h1, h2]⟩
            have mc : c ∈ rstF nm fl a r := List.mem_filter.mpr ⟨hc, by simp only [Bool.and_eq_true, decide_eq_true_eq]; omega⟩
            have := thrG_none (p2.sublist List.filter_sublist) z b mb c mc hbc
            unfold thrC at this
            rw [decide_eq_true h3, decide_eq_true h4] at this
            cases this
      · rcases List.mem_cons.mp hb with rfl | hb2
        · have := p1 a ha2; omega
        · rcases List.mem_cons.mp hc with rfl | hc2
          · have := p1 b hb2; omega
          · exact thrF_none p2 h a ha2 b hb2 c hc2 hab hbc
theorem lows_src {nm : Int → Int} : ∀ {fs : List Int} {lo : Int} {i : Nat} {x : Int}, (lows nm lo fs)[i]? = some x → x = lo ∨ ∃ (j : Nat) (f : Int), j ≤ i ∧ fs[j]? = some f ∧ x = nm f + 1
  | [], lo, i, x, h => by simp [lows] at h
  | f :: fs, lo, 0, x, h => by
    have h : mx lo (nm f + 1) = x := Option.some.inj h
    unfold mx at h
    split at h
    · exact .inr ⟨0, f, Nat.le_refl _, rfl, h.symm⟩
    · exact .inl h.symm
  | f :: fs, lo, i + 1, x, h => by
    have h : (lows nm (mx lo (nm f + 1)) fs)[i]? = some x := h
    rcases lows_src h with e | ⟨j, g, h1, h2, h3⟩
    · unfold mx at e
      split at e
      · exact .inr ⟨0, f, Nat.zero_le _, rfl, e⟩
      · exact .inl e
    · exact .inr ⟨j + 1, g, by omega, h2, h3⟩
theorem highs_src {nm : Int → Int} {n : Int} : ∀ {fs : List Int} {i : Nat} {y : Int}, (highs nm n fs)[i]? = some y → y = n ∨ ∃ (k l : Nat) (a b : Int), i ≤ k ∧ k < l ∧ fs[k]? = some a ∧ fs[l]? = some b ∧ b < a ∧ y = nm b
  | [], i, y, h => by simp [highs] at h
  | f :: fs, 0, y, h => by
    have h : minI ((highs nm n fs).headD n :: ((fs.filter fun g => decide (g < f)).map nm)) = y := Option.some.inj h
    have m := minI_mem (ns := (highs nm n fs).headD n :: ((fs.filter fun g => decide (g < f)).map nm)) (by simp)
    rw [h] at m
    rcases List.mem_cons.mp m with e | e
    · cases hh : highs nm n fs with
      | nil => rw [hh] at e; exact .inl e
      | cons z zs =>
        rw [hh] at e
        have e : y = z := e
        have h0 : (highs nm n fs)[0]? = some y := by rw [hh, e]; rfl
        rcases highs_src h0 with e2 | ⟨k, l, a, b, h1, h2, h3, h4, h5, h6⟩
        · exact .inl e2
        · exact .inr ⟨k + 1, l + 1, a, b, by omega, by omega, h3, h4, h5, h6⟩
    · obtain ⟨b, hb, rfl⟩ := List.mem_map.mp e
      obtain ⟨b1, b2⟩ := List.mem_filter.mp hb
      obtain ⟨l, hl⟩ := List.getElem?_of_mem b1
      exact .inr ⟨0, l + 1, f, b, Nat.le_refl _, by omega, rfl, hl, of_decide_eq_true b2, rfl⟩
  | f :: fs, i + 1, y, h => by
    have h : (highs nm n fs)[i]? = some y := h
    rcases highs_src h with e2 | ⟨k, l, a, b, h1, h2, h3, h4, h5, h6⟩
    · exact .inl e2
    · exact .inr ⟨k + 1, l + 1, a, b, by omega, by omega, h3, h4, h5, h6⟩
theorem nb_at {ts : List Int} (hn : ts.Nodup) {k : Nat} {x : Int} (h : ts[k]? = some x) : nb ts x = k := by
  obtain ⟨hk, rfl⟩ := List.getElem?_eq_some_iff.mp h
  have := nb_get hn hk
  rwa [getD_el hk] at this
/-- where no obstruction is found, the pair is possible -/
theorem obs_poss {ts fs pl : List Int} (hn : ts.Nodup) (hp : fs.Perm ts) (hl : pl.Perm ts) (hs : pl.Pairwise (· < ·)) (h2 : twoF (nb ts) (nb fs) pl = none) (h3 : thrF (nb ts) (nb fs) pl = none) : Poss ts fs := by
  have ll := hp.length_eq
  have hnf : fs.Nodup := hp.nodup_iff.mpr hn
  have two := twoF_none hs h2
  have thr := thrF_none hs h3
  have memf : ∀ (j : Nat) (f : Int), fs[j]? = some f → f ∈ pl ∧ f ∈ ts := fun j f h => by
    have := hp.mem_iff.mp (List.mem_of_getElem? h)
    exact ⟨hl.mem_iff.mpr this, this⟩
  have tc : ∀ (l k : Nat) (a b : Int), fs[l]? = some a → fs[k]? = some b → a < b → nb ts a < nb ts b → k < l → False := fun l k a b ha hb hab hn1 hkl => by
    have := two a (memf l a ha).1 b (memf k b hb).1 hab
    unfold twoC at this
    rw [decide_eq_true hn1, decide_eq_true (show nb fs b < nb fs a by rw [nb_at hnf ha, nb_at hnf hb]; omega)] at this
    cases this
  refine LeAll.of (by rw [lows_len, highs_len]) fun i x y e1 e2 => ?_
  refine Classical.byContradiction fun hc => ?_
  rcases lows_src e1 with rfl | ⟨j, f, hj, hf, rfl⟩
  · rcases highs_src e2 with rfl | ⟨k, l, a, b, _, _, _, _, _, rfl⟩
    · omega
    · have := nb_nn ts b; omega
  · rcases highs_src e2 with rfl | ⟨k, l, a, b, hk, hkl, ha, hb, hab, rfl⟩
    · have := nb_lt (memf j f hf).2; omega
    · have hjk : j ≤ k := by omega
      have hle : nb ts b ≤ nb ts f := by omega
      have hne : b ≠ f := fun z => by
        have := nb_at hnf hf
        have := nb_at hnf hb
        rw [z] at this
        omega
      have hlt : nb ts b < nb ts f := by
        rcases Int.lt_or_eq_of_le hle with h | h
        · exact h
        · exact absurd (nb_inj (memf l b hb).2 (memf j f hf).2 h) hne
      by_cases hbf : b < f
      · exact tc l j b f hb hf hbf hlt (by omega)
      · have hfb : f < b := by omega
        by_cases hab2 : nb ts b < nb ts a
        · exact tc l k b a hb ha hab hab2 hkl
        · have hna : nb ts a < nb ts b := by
            rcases Int.lt_or_eq_of_le (show nb ts a ≤ nb ts b by omega) with h | h
            · exact h
            · have := nb_inj (memf k a ha).2 (memf l b hb).2 h; omega
          have hjk2 : j < k := by
            rcases Nat.lt_or_eq_of_le hjk with h | h
            · exact h
            · subst h
              rw [ha] at hf
              cases hf
              omega
          exact thr f (memf j f hf).1 b (memf l b hb).1 a (memf k a ha).1 hfb hab ⟨hlt, by rw [nb_at hnf hf, nb_at hnf hb]; omega, hna, by rw [nb_at hnf ha, nb_at hnf hb]; omega, by rw [nb_at hnf hf, nb_at hnf ha]; omega⟩

/-! ### all patterns (no program here) -/
theorem count_T (p : List Bool) : Txt.count (pS p) ("T" : Str) = (tks p : Nat) := by
  have e : ("T" : Str) = ⟨#[84]⟩ := by decide
  rw [e, count_cnt]
  show cnt 84 (p.map fun b => if b then 84 else 82).toArray.toList = _
  rw [List.toList_toArray]
  induction p with
  | nil => rfl
  | cons b p ih =>
    rw [List.map_cons, cnt_cons, ih]
    cases b <;> simp [tks] <;> omega
def grow (n : Nat) (p : List Bool) : List (List Bool) := (if tks p < n then [p ++ [true]] else []) ++ (if 0 < dif p then [p ++ [false]] else [])
def allA (n : Nat) : Nat → List (List Bool)
  | 0 => [[]]
  | i + 1 => (allA n i).flatMap (grow n)
theorem grow_len (n : Nat) (p : List Bool) : (grow n p).length ≤ 2 := by
  unfold grow
  split <;> split <;> simp
theorem flat_len {α β : Type} (f : α → List β) (h : ∀ a, (f a).length ≤ 2) : ∀ l : List α, (l.flatMap f).length ≤ 2 * l.length
  | [] => by simp
  | a :: l => by
    have ih := flat_len f h l
    have := h a
    rw [List.flatMap_cons, List.length_append, List.length_cons]
    omega
theorem allA_len (n : Nat) : ∀ i, (allA n i).length ≤ 2 ^ i
  | 0 => by simp [allA]
  | i + 1 => by
    have ih := allA_len n i
    have := flat_len (grow n) (grow_len n) (allA n i)
    show ((allA n i).flatMap (grow n)).length ≤ 2 ^ (i + 1)
    rw [Nat.pow_succ]
    omega
theorem allA_way (n : Nat) : ∀ i, ∀ p ∈ allA n i, Way p n i
  | 0, p, h => by
    have : p = [] := by simpa [allA] using h
    subst this
    exact Way.nil n
  | i + 1, p, h => by
    obtain ⟨q, hq, hp⟩ := List.mem_flatMap.mp h
    have w := allA_way n i q hq
    have hz : 0 ≤ dif q := by have := w.pos q.length; rwa [List.take_length] at this
    rcases List.mem_append.mp hp with hp | hp
    · split at hp
      · rw [List.mem_singleton] at hp
        subst hp
        exact w.add (by rw [tks_app]; exact ‹tks q < n›) (by rw [dif_app]; show 0 ≤ dif q + 1; omega)
      · cases hp
    · split at hp
      · rename_i h0
        rw [List.mem_singleton] at hp
        subst hp
        exact w.add (by rw [tks_app]; exact w.few) (by rw [dif_app]; show 0 ≤ dif q + -1; omega)
      · cases hp

/-! ### the patterns that lead from takes to fills -/
theorem tms_ge : ∀ {p : List Bool} {k : Nat} {t : Int}, t ∈ tmsF k p → (k : Int) ≤ t
  | [], k, t, h => by cases h
  | true :: p, k, t, h => by
    have := tms_ge (p := p) (k := k + 1) h
    omega
  | false :: p, k, t, h => by
    rcases List.mem_cons.mp (show t ∈ (k : Int) :: tmsF k p from h) with e | e
    · omega
    · exact tms_ge e
theorem tms_up : ∀ (p : List Bool) (k : Nat), (tmsF k p).Pairwise (· ≤ ·)
  | [], _ => .nil
  | true :: p, k => tms_up p (k + 1)
  | false :: p, k => .cons (fun x hx => tms_ge hx) (tms_up p k)
theorem allA_all {n : Nat} {p : List Bool} (h : IsPat p n) : ∀ i, i ≤ p.length → p.take i ∈ allA n i
  | 0, _ => by rw [List.take_zero]; exact List.mem_singleton.mpr rfl
  | i + 1, hi => by
    have ih := allA_all h i (by omega)
    have et : p.take (i + 1) = p.take i ++ [p[i]] := take_succ (List.getElem?_eq_getElem (by omega))
    refine List.mem_flatMap.mpr ⟨_, ih, ?_⟩
    have d := h.pos (i + 1)
    have k := tks_take_le p (i + 1)
    have tp := h.tks
    rw [et] at d k ⊢
    rw [dif_app] at d
    rw [tks_app] at k
    unfold grow
    cases hb : p[i] with
    | true =>
      rw [hb] at d k
      refine List.mem_append_left _ ?_
      rw [if_pos (by simp at k; omega)]
      exact List.mem_singleton.mpr rfl
    | false =>
      rw [hb] at d k
      refine List.mem_append_right _ ?_
      rw [if_pos (by simp at d; omega)]
      exact List.mem_singleton.mpr rfl
theorem allA_pat {n : Nat} (hn : n ≤ 200) {p : List Bool} : p ∈ allA n (2 * n) ↔ IsPat p n := by
  constructor
  · intro h
    exact (allA_way n (2 * n) p h).all hn
  · intro h
    have := allA_all h p.length (Nat.le_refl _)
    rw [List.take_length, h.len] at this
    exact this
theorem zip_getD {A C : List Int} {i : Nat} (h1 : i < A.length) (h2 : i < C.length) : (A.zip C).getD i (0, 0) = (A.getD i 0, C.getD i 0) := by
  have e : (A.zip C)[i]? = some (A[i], C[i]) := List.getElem?_zip_eq_some.mpr ⟨List.getElem?_eq_getElem h1, List.getElem?_eq_getElem h2⟩
  rw [List.getD_eq_getElem?_getD, e, List.getD_eq_getElem?_getD, List.getD_eq_getElem?_getD, List.getElem?_eq_getElem h1, List.getElem?_eq_getElem h2]
  rfl
/-- p leads from ts to fs -/
def Leads (ts fs : List Int) (p : List Bool) : Prop := IsPat p ts.length ∧ fillF ts p = fs
section
variable {ts fs : List Int}
def Tm (ts fs l : List Int) : Prop := l.length = ts.length ∧ l.Pairwise (· ≤ ·) ∧ LeAll (lows (nb ts) 0 fs) l ∧ LeAll l (highs (nb ts) ts.length fs)
theorem leads_tm (hn : ts.Nodup) {p : List Bool} (h : Leads ts fs p) : Tm ts fs (tmsF 0 p) := by
  obtain ⟨hp, e⟩ := h
  obtain ⟨hL, hP, e1, e2⟩ := pat_lead hn hp
  have := (Lead.iff (lo := 0) fun q hq hh => by have := nb_nn ts q.1; omega).mp hL
  rw [e1, e2, e] at this
  refine ⟨?_, (tms_up p 0), this.2.1, this.2.2⟩
  have a := this.2.1.len
  rw [lows_len] at a
  rw [← a, ← e, hP.length_eq]
theorem tm_leads (hn : ts.Nodup) (h200 : ts.length ≤ 200) (hp : fs.Perm ts) {l : List Int} (h : Tm ts fs l) : ∃ p, Leads ts fs p ∧ tmsF 0 p = l := by
  obtain ⟨h1, h2, h3, h4⟩ := h
  have el : fs.length = l.length := by rw [h1]; exact hp.length_eq
  have m1 := map_zip_1 el
  have m2 := map_zip_2 el
  have hL : Lead (nb ts) ts.length (fs.zip l) := by
    refine (Lead.iff (lo := 0) fun q hq hh => by have := nb_nn ts q.1; omega).mpr ⟨zip_up h2 el, ?_, ?_⟩
    · rw [m1, m2]; exact h3
    · rw [m1, m2]; exact h4
  obtain ⟨a, b, c⟩ := lead_pat hn h200 hL (by rw [m1]; exact hp)
  rw [m2] at a b c
  rw [m1] at b
  exact ⟨_, ⟨a, b⟩, c⟩
end
/-- the patterns that lead from ts to fs -/
def solsF (ts fs : List Int) : List (List Bool) := (allA ts.length (2 * ts.length)).filter fun p => decide (fillF ts p = fs)
theorem mem_sols {ts fs : List Int} (h : ts.length ≤ 200) {p : List Bool} : p ∈ solsF ts fs ↔ Leads ts fs p := by
  unfold solsF Leads
  rw [List.mem_filter, allA_pat h, decide_eq_true_iff]
theorem sols_len {ts fs : List Int} (h : ts.length ≤ 6) : (solsF ts fs).length ≤ 4096 := by
  refine Nat.le_trans (List.length_filter_le _ _) (Nat.le_trans (allA_len _ _) ?_)
  exact Nat.le_trans (Nat.pow_le_pow_right (by decide) (show 2 * ts.length ≤ 12 by omega)) (by decide)
theorem allA_ne {n : Nat} : ∀ i, i ≤ 2 * n → allA n i ≠ []
  | 0, _ => by simp [allA]
  | i + 1, hi => by
    have ih := allA_ne (n := n) i (by omega)
    obtain ⟨p, hp⟩ := List.exists_mem_of_ne_nil _ ih
    have w := allA_way n i p hp
    have d := dif_tks p
    have l := w.len
    have f := w.few
    intro z
    have : ∀ q ∈ grow n p, q ∈ allA n (i + 1) := fun q hq => List.mem_flatMap.mpr ⟨p, hp, hq⟩
    rw [z] at this
    by_cases h : tks p < n
    · exact absurd (this (p ++ [true]) (List.mem_append_left _ (by rw [if_pos h]; exact List.mem_singleton.mpr rfl))) (by simp)
    · exact absurd (this (p ++ [false]) (List.mem_append_right _ (by rw [if_pos (by omega)]; exact List.mem_singleton.mpr rfl))) (by simp)
/-- the patterns as a list of texts -/
def PatsAt (H : Hp) (a : Addr) (S : List (List Bool)) : Prop := H a = some (.lst (S.map fun p => V.str (pS p)))
theorem lc_pats {K : PySem.W.Frag} {a : Addr} {g : TG} {tt : TT} {te : TE} {vs : List Nat} {σ : L2.St} {H1 : Hp} {Dl : Addr} {Qd : Hp → Prop} {S : List (List Bool)} (h : PatsAt H1 a S) (hl : S.length ≤ 100000) (P : List Bool → Bool) (F : List Bool → V)
    (hs : ∀ (p : List Bool) (H' : Hp) (Yes : V → Hp → Prop) (No : Hp → Prop), Same H1 H' → p ∈ S → (P p = true → ∀ H4, Same H' H4 → Yes (F p) H4) → (P p = false → ∀ H3, Same H' H3 → No H3) →
      g (.str (pS p)) (wipe σ vs) H' fun σ2 H2 => wipe σ2 vs = wipe σ vs ∧ tt σ2 H2 fun b H3 => if b = true then te σ2 H3 Yes else No H3)
    (hD : H1 Dl = none) (q : ∀ H', Same H1 H' → H' Dl = some (.lst ((S.filter P).map F)) → Qd H') :
    ∃ W : Nat → Nat → Hp → Prop, (∃ m, W 0 m (upd H1 Dl (.lst []))) ∧ ∀ i m H, W i m H →
      ((Itl K a).stop i H ∧ Qd H) ∨ ((Itl K a).go i H ∧ ∃ Nx : Hp → Prop, (∀ H', Nx H' → ∃ m', m' < m ∧ W (i + 1) m' H') ∧ ∀ x H', (Itl K a).yld i H x H' → g x (wipe σ vs) H' fun σ2 H2 => wipe σ2 vs = wipe σ vs ∧ tt σ2 H2 fun b H3 =>
        if b = true then te σ2 H3 fun y H4 => ∃ acc, H4 Dl = some (.lst acc) ∧ acc.length < sizeLine ∧ Nx (upd H4 Dl (.lst (acc ++ [y]))) else Nx H3) := by
  refine lc_pure (src_list (xs := S.map fun p => V.str (pS p))) (fun i => P (S.getD i [])) (fun i => F (S.getD i [])) (by rw [List.length_map]; exact hl) (fun H' s' => lst_of (s' _ _ h)) ?_ hD fun H' s' hd => q H' s' ?_
  · rintro i x H' H'' Yes No hi s' ⟨rfl, hx⟩ hY hN
    rw [List.length_map] at hi
    rw [List.getElem?_map, List.getElem?_eq_getElem hi] at hx
    cases hx
    rw [getD_el hi] at hY hN
    exact hs _ _ Yes No s' (List.getElem_mem hi) hY hN
  · rw [hd, List.length_map, giv_of]
theorem eqs_pS (p : List Bool) : Eqs (.str (pS p)) 0 := ⟨rfl, by
  unfold PyData.canLay0
  show ((pS p).cps.all fun c => decide (c < 0x110000)) = true
  unfold pS
  rw [List.all_toArray, List.all_map]
  refine List.all_eq_true.mpr fun b _ => ?_
  cases b <;> decide, Nat.le_refl _⟩

/-! ### least and greatest times by trying (no program here) -/
theorem tms_inj : ∀ {p q : List Bool} {k : Nat}, p.length = q.length → tmsF k p = tmsF k q → p = q
  | [], [], _, _, _ => rfl
  | [], _ :: _, _, h, _ => by cases h
  | _ :: _, [], _, h, _ => by cases h
  | true :: p, true :: q, k, h, e => congrArg (true :: ·) (tms_inj (Nat.succ.inj h) (show tmsF (k + 1) p = tmsF (k + 1) q from e))
  | false :: p, false :: q, k, h, e => congrArg (false :: ·) (tms_inj (Nat.succ.inj h) (List.cons.inj (show (k : Int) :: tmsF k p = (k : Int) :: tmsF k q from e)).2)
  | true :: p, false :: q, k, h, e => by
    have e : tmsF (k + 1) p = (k : Int) :: tmsF k q := e
    have := tms_ge (p := p) (k := k + 1) (t := (k : Int)) (by rw [e]; exact List.mem_cons_self ..)
    omega
  | false :: p, true :: q, k, h, e => by
    have e : (k : Int) :: tmsF k p = tmsF (k + 1) q := e
    have := tms_ge (p := q) (k := k + 1) (t := (k : Int)) (by rw [← e]; exact List.mem_cons_self ..)
    omega
/-- the times of the least and of the greatest pattern -/
theorem tm_low {ts fs : List Int} (hp : fs.Perm ts) (h : Poss ts fs) : Tm ts fs (lows (nb ts) 0 fs) :=
  ⟨by rw [lows_len]; exact hp.length_eq, lows_up, LeAll.refl _, h⟩
theorem tm_high {ts fs : List Int} (hp : fs.Perm ts) (h : Poss ts fs) : Tm ts fs (highs (nb ts) ts.length fs) :=
  ⟨by rw [highs_len]; exact hp.length_eq, highs_up, h, LeAll.refl _⟩
theorem leads_perm {ts fs : List Int} (hn : ts.Nodup) {p : List Bool} (h : Leads ts fs p) : fs.Perm ts ∧ Poss ts fs := by
  obtain ⟨hL, hpm, _, _⟩ := pat_lead hn h.1
  rw [h.2] at hpm
  have t := leads_tm hn h
  exact ⟨hpm, t.2.2.1.trans t.2.2.2⟩
theorem sols_ne {ts fs : List Int} (hn : ts.Nodup) (h200 : ts.length ≤ 200) (hp : fs.Perm ts) : solsF ts fs ≠ [] ↔ Poss ts fs := by
  constructor
  · intro h
    obtain ⟨p, hm⟩ := List.exists_mem_of_ne_nil _ h
    exact (leads_perm hn ((mem_sols h200).mp hm)).2
  · intro h z
    obtain ⟨p, a, _⟩ := tm_leads hn h200 hp (tm_low hp h)
    have := (mem_sols h200).mpr a
    rw [z] at this
    cases this
/-- the least time of a fill over all patterns that lead there -/
theorem due_min {ts fs : List Int} (hn : ts.Nodup) (h200 : ts.length ≤ 200) (hp : fs.Perm ts) (h : Poss ts fs) {k : Nat} (hk : k < ts.length) :
    minI ((solsF ts fs).map fun p => (tmsF 0 p).getD k 0) = (lows (nb ts) 0 fs).getD k 0 ∧ maxI ((solsF ts fs).map fun p => (tmsF 0 p).getD k 0) = (highs (nb ts) ts.length fs).getD k 0 := by
  have kl : k < (lows (nb ts) 0 fs).length := by rw [lows_len, hp.length_eq]; exact hk
  have kh : k < (highs (nb ts) ts.length fs).length := by rw [highs_len, hp.length_eq]; exact hk
  have el := List.getElem?_eq_getElem kl
  have eh := List.getElem?_eq_getElem kh
  have all : ∀ y ∈ (solsF ts fs).map fun p => (tmsF 0 p).getD k 0, (lows (nb ts) 0 fs).getD k 0 ≤ y ∧ y ≤ (highs (nb ts) ts.length fs).getD k 0 := fun y hy => by
    obtain ⟨p, hp', rfl⟩ := List.mem_map.mp hy
    have T := leads_tm hn ((mem_sols h200).mp hp')
    have kp : k < (tmsF 0 p).length := by rw [T.1]; exact hk
    have ep := List.getElem?_eq_getElem kp
    show _ ≤ (tmsF 0 p).getD k 0 ∧ (tmsF 0 p).getD k 0 ≤ _
    rw [getD_el kl, getD_el kh, getD_el kp]
    exact ⟨T.2.2.1.at el ep, T.2.2.2.at ep eh⟩
  obtain ⟨p1, a1, b1⟩ := tm_leads hn h200 hp (tm_low hp h)
  obtain ⟨p2, a2, b2⟩ := tm_leads hn h200 hp (tm_high hp h)
  constructor
  · refine (minI_eq (List.mem_map.mpr ⟨p1, (mem_sols h200).mpr a1, ?_⟩) fun y hy => (all y hy).1).symm
    rw [b1]
  · refine (maxI_eq (List.mem_map.mpr ⟨p2, (mem_sols h200).mpr a2, ?_⟩) fun y hy => (all y hy).2).symm
    rw [b2]
/-- whether all times are within bounds -/
def inB (q : Int × (Int × Int)) : Bool := decide (q.2.1 ≤ q.1) && decide (q.1 ≤ q.2.2)
def withinF (bs : List (Int × Int)) (p : List Bool) : Bool := ((tmsF 0 p).zip bs).all inB
theorem within_iff {ts fs : List Int} (hn : ts.Nodup) (h200 : ts.length ≤ 200) (hp : fs.Perm ts) {p : List Bool} (h : IsPat p ts.length) : withinF (bnds ts fs) p = true ↔ Leads ts fs p := by
  have hl : (tmsF 0 p).length = ts.length := by
    obtain ⟨_, hpm, e1, e2⟩ := pat_lead hn h
    have T := leads_tm hn (⟨h, rfl⟩ : Leads ts (fillF ts p) p)
    exact T.1
  have ll := hp.length_eq
  have key : withinF (bnds ts fs) p = true ↔ LeAll (lows (nb ts) 0 fs) (tmsF 0 p) ∧ LeAll (tmsF 0 p) (highs (nb ts) ts.length fs) := by
    unfold withinF
    rw [List.all_eq_true]
    constructor
    · intro g
      have at3 : ∀ (i : Nat) (x a b : Int), (tmsF 0 p)[i]? = some x → (lows (nb ts) 0 fs)[i]? = some a → (highs (nb ts) ts.length fs)[i]? = some b → a ≤ x ∧ x ≤ b := fun i x a b e1 e2 e3 => by
        have m : (x, (a, b)) ∈ (tmsF 0 p).zip (bnds ts fs) := List.mem_of_getElem? (List.getElem?_zip_eq_some.mpr ⟨e1, List.getElem?_zip_eq_some.mpr ⟨e2, e3⟩⟩)
        have := g _ m
        unfold inB at this
        rw [Bool.and_eq_true, decide_eq_true_iff, decide_eq_true_iff] at this
        exact this
      constructor
      · refine LeAll.of (by rw [lows_len]; omega) fun i a x e2 e1 => ?_
        have hi := (List.getElem?_eq_some_iff.mp e1).1
        exact (at3 i x a _ e1 e2 (List.getElem?_eq_getElem (by rw [highs_len]; omega))).1
      · refine LeAll.of (by rw [highs_len]; omega) fun i x b e1 e3 => ?_
        have hi := (List.getElem?_eq_some_iff.mp e1).1
        exact (at3 i x _ b e1 (List.getElem?_eq_getElem (by rw [lows_len]; omega)) e3).2
    · rintro ⟨g1, g2⟩ ⟨x, a, b⟩ hq
      obtain ⟨i, hi⟩ := List.mem_iff_getElem?.mp hq
      obtain ⟨e1, e23⟩ := List.getElem?_zip_eq_some.mp hi
      obtain ⟨e2, e3⟩ := List.getElem?_zip_eq_some.mp e23
      unfold inB
      rw [Bool.and_eq_true, decide_eq_true_iff, decide_eq_true_iff]
      exact ⟨g1.at e2 e1, g2.at e1 e3⟩
  rw [key]
  constructor
  · rintro ⟨g1, g2⟩
    obtain ⟨q, a, b⟩ := tm_leads hn h200 hp (⟨hl, tms_up p 0, g1, g2⟩ : Tm ts fs (tmsF 0 p))
    have := tms_inj (by rw [a.1.len, h.len]) b
    subst this
    exact a
  · intro g
    have T := leads_tm hn g
    exact ⟨T.2.2.1, T.2.2.2⟩
theorem within_sols {ts fs : List Int} (hn : ts.Nodup) (h200 : ts.length ≤ 200) (hp : fs.Perm ts) : ((allA ts.length (2 * ts.length)).filter fun p => withinF (bnds ts fs) p) = solsF ts fs := by
  unfold solsF
  refine List.filter_congr fun p hp' => ?_
  have hpat := (allA_pat h200).mp hp'
  rw [Bool.eq_iff_iff, within_iff hn h200 hp hpat, decide_eq_true_iff]
  exact ⟨fun z => z.2, fun z => ⟨hpat, z⟩⟩

/-! ### stretches and blocks (no program here) -/
/-- the lengths of the stretches; rp: the fills before, the last one first -/
def lensR : List Int → List Int → List Nat
  | _, [] => []
  | rp, x :: xs => ((rp.takeWhile fun y => decide (y < x)).length + 1) :: lensR (x :: rp) xs
def lensF (fs : List Int) : List Nat := lensR [] fs
theorem lensR_len : ∀ (rp xs : List Int), (lensR rp xs).length = xs.length
  | _, [] => rfl
  | rp, x :: xs => congrArg (· + 1) (lensR_len (x :: rp) xs)
/-- how many other places of each stretch are taken earlier -/
def offsR (nm : Int → Int) : List Int → List Int → List Nat
  | _, [] => []
  | rp, x :: xs => ((rp.takeWhile fun y => decide (y < x)).filter fun y => decide (nm y < nm x)).length :: offsR nm (x :: rp) xs
def offsF (nm : Int → Int) (fs : List Int) : List Nat := offsR nm [] fs
theorem offsR_len (nm : Int → Int) : ∀ (rp xs : List Int), (offsR nm rp xs).length = xs.length
  | _, [] => rfl
  | rp, x :: xs => congrArg (· + 1) (offsR_len nm (x :: rp) xs)
theorem tw_le (p : Int → Bool) : ∀ l : List Int, (l.takeWhile p).length ≤ l.length
  | [] => Nat.le_refl _
  | x :: l => by
    rw [List.takeWhile_cons]
    split
    · have := tw_le p l; rw [List.length_cons, List.length_cons]; omega
    · exact Nat.zero_le _
theorem tw_take (p : Int → Bool) : ∀ l : List Int, l.take (l.takeWhile p).length = l.takeWhile p
  | [] => rfl
  | x :: l => by
    rw [List.takeWhile_cons]
    split
    · rw [List.length_cons, List.take_succ_cons, tw_take p l]
    · rfl
theorem tw_mem (p : Int → Bool) : ∀ {l : List Int} {x : Int}, x ∈ l.takeWhile p → p x = true ∧ x ∈ l
  | [], x, h => by cases h
  | y :: l, x, h => by
    rw [List.takeWhile_cons] at h
    split at h
    · rename_i hy
      rcases List.mem_cons.mp h with e | h
      · rw [e]; exact ⟨hy, List.mem_cons_self⟩
      · obtain ⟨a, b⟩ := tw_mem p h
        exact ⟨a, List.mem_cons_of_mem _ b⟩
    · cases h
theorem tw_next (p : Int → Bool) : ∀ {l : List Int} {h : Int}, (l.drop (l.takeWhile p).length).head? = some h → p h = false
  | [], h, e => by simp at e
  | y :: l, h, e => by
    rw [List.takeWhile_cons] at e
    split at e
    · rw [List.length_cons, List.drop_succ_cons] at e
      exact tw_next p e
    · rename_i hy
      simp at e
      rw [← e]
      simpa using hy
/-! #### the stack of the open fills -/
/-- the numbers of the open fills, the last one first; they stand with their places -/
def stkR : List Int → List (Nat × Int)
  | [] => []
  | x :: rp => (rp.length, x) :: (stkR rp).dropWhile fun j => decide (j.2 < x)
theorem dw_dw {x y : Int} (h : y < x) : ∀ S : List (Nat × Int), (S.dropWhile fun j => decide (j.2 < y)).dropWhile (fun j => decide (j.2 < x)) = S.dropWhile fun j => decide (j.2 < x)
  | [] => rfl
  | j :: S => by
    rw [List.dropWhile_cons]
    by_cases hj : j.2 < y
    · rw [if_pos (decide_eq_true hj), dw_dw h S, List.dropWhile_cons, if_pos (decide_eq_true (show j.2 < x by omega))]
    · rw [if_neg (by simpa using hj)]
theorem stk_len : ∀ (rp : List Int) (x : Int), (((rp.takeWhile fun y => decide (y < x)).length : Nat) : Int) = (rp.length : Int) - (match (stkR rp).dropWhile fun j => decide (j.2 < x) with | [] => 0 | j :: _ => (j.1 : Int) + 1)
  | [], x => rfl
  | y :: rp, x => by
    show _ = (((rp.length + 1 : Nat)) : Int) - (match ((rp.length, y) :: (stkR rp).dropWhile fun j => decide (j.2 < y)).dropWhile fun j => decide (j.2 < x) with | [] => 0 | j :: _ => (j.1 : Int) + 1)
    rw [List.takeWhile_cons, List.dropWhile_cons]
    by_cases h : y < x
    · rw [if_pos (decide_eq_true h), if_pos (decide_eq_true h), dw_dw h, List.length_cons, Int.natCast_add, stk_len rp x]
      simp only [Int.natCast_add]
      omega
    · rw [if_neg (by simpa using h), if_neg (by simpa using h)]
      show (0 : Int) = _
      simp
theorem stk_mem : ∀ {rp : List Int} {j : Nat × Int}, j ∈ stkR rp → j.1 < rp.length ∧ rp.reverse[j.1]? = some j.2
  | [], j, h => by cases h
  | x :: rp, j, h => by
    rcases List.mem_cons.mp (show j ∈ (rp.length, x) :: _ from h) with e | h
    · rw [e]
      refine ⟨by simp, ?_⟩
      rw [List.reverse_cons, List.getElem?_append_right (by simp)]
      simp
    · obtain ⟨a, b⟩ := stk_mem ((List.dropWhile_sublist _).subset h)
      refine ⟨by simp; omega, ?_⟩
      rw [List.reverse_cons, List.getElem?_append_left (by simpa using a)]
      exact b
theorem stk_ln : ∀ rp : List Int, (stkR rp).length ≤ rp.length
  | [] => Nat.le_refl _
  | x :: rp => by
    have := stk_ln rp
    have h2 := (List.dropWhile_sublist (l := stkR rp) fun j => decide (j.2 < x)).length_le
    show (_ :: _).length ≤ _
    rw [List.length_cons, List.length_cons]
    omega
/-! #### blocks -/
def popB (k : Nat) : List Int → List (List Int) → List Int × List (List Int)
  | acc, [] => (acc, [])
  | acc, b :: bs => if acc.length < k then popB k (b ++ acc) bs else (acc, b :: bs)
def insB (o : Nat) (x : Int) (b : List Int) : List Int := b.take o ++ ([x] ++ b.drop o)
def stepB (rp : List Int) (Bs : List (List Int)) (x : Int) (o : Nat) : List (List Int) :=
  insB o x (popB (rp.takeWhile fun y => decide (y < x)).length [] Bs).1 :: (popB (rp.takeWhile fun y => decide (y < x)).length [] Bs).2
def runB : List Int → List (List Int) → List Int → List Nat → List (List Int)
  | rp, Bs, x :: xs, o :: os => runB (x :: rp) (stepB rp Bs x o) xs os
  | _, Bs, _, _ => Bs
def twF (fs : List Int) (os : List Nat) : List Int := (runB [] [] fs os).reverse.flatten
/-- the blocks over the fills before; R: how a block stands to its stretch; up: what stands above -/
inductive BI (R : List Int → List Int → Prop) : List Int → List Int → List (List Int) → Prop
  | nil (up : List Int) : BI R up [] []
  | cons {up s rp b : List Int} {x : Int} {bs : List (List Int)} : (∀ y ∈ s, y < x) → (∀ y ∈ up, y < x) → R (x :: s) b → BI R (up ++ x :: s) rp bs → BI R up (x :: (s ++ rp)) (b :: bs)
theorem BI.addx {R : List Int → List Int → Prop} {up rp : List Int} {Bs : List (List Int)} {x : Int} (h : BI R up rp Bs) : (∀ h, rp.head? = some h → x < h) → BI R (x :: up) rp Bs := by
  induction h with
  | nil up => exact fun _ => .nil _
  | @cons up s rp b h0 bs hs hu hr hb ih =>
    intro hx
    have hx0 : x < h0 := hx h0 rfl
    refine .cons hs (fun y hy => ?_) hr (ih fun h1 e => ?_)
    · rcases List.mem_cons.mp hy with e | hy
      · rw [e]; exact hx0
      · exact hu y hy
    · cases hb with
      | nil => simp at e
      | cons hs1 hu1 _ _ =>
        simp at e
        rw [← e]
        have := hu1 h0 (List.mem_append_right _ List.mem_cons_self)
        omega
theorem tw_all {p : Int → Bool} : ∀ {s rp : List Int}, (∀ y ∈ s, p y = true) → (s ++ rp).takeWhile p = s ++ rp.takeWhile p
  | [], rp, _ => rfl
  | y :: s, rp, h => by
    rw [List.cons_append, List.takeWhile_cons, if_pos (h y List.mem_cons_self), tw_all fun z hz => h z (List.mem_cons_of_mem _ hz)]
    rfl
theorem tw_none {p : Int → Bool} {x : Int} {l : List Int} (h : p x = false) : (x :: l).takeWhile p = [] := by
  rw [List.takeWhile_cons, if_neg (by rw [h]; exact Bool.false_ne_true)]
theorem drop_pre {s rp : List Int} {k : Nat} : (s ++ rp).drop (s.length + k) = rp.drop k := by
  rw [← List.drop_drop, List.drop_left]
/-- what comes off; A says how the blocks that came off stand to their stretches -/
theorem pop_ok {R A : List Int → List Int → Prop} (L : List Int) (hA : ∀ up acc, A up acc → acc.length = up.length) (x : Int)
    (hs : ∀ up h s rp b acc, up ++ (h :: (s ++ rp)) = L → A up acc → R (h :: s) b → (∀ y ∈ s, y < h) → (∀ y ∈ up, y < h) → A (up ++ h :: s) (b ++ acc)) {up rp : List Int} {Bs : List (List Int)} (h : BI R up rp Bs) :
    up ++ rp = L → ∀ acc, A up acc →
    ∃ acc' bs, popB (up.length + (rp.takeWhile fun y => decide (y < x)).length) acc Bs = (acc', bs) ∧ A (up ++ rp.takeWhile fun y => decide (y < x)) acc' ∧ BI R (up ++ rp.takeWhile fun y => decide (y < x)) (rp.drop (rp.takeWhile fun y => decide (y < x)).length) bs := by
  induction h with
  | nil up =>
    intro _ acc ha
    exact ⟨acc, [], rfl, by simpa using ha, .nil _⟩
  | @cons up s rp b h0 bs h1 h2 h3 hb ih =>
    intro e acc ha
    have hl := hA _ _ ha
    by_cases hx : h0 < x
    · have hal : ∀ y ∈ h0 :: s, decide (y < x) = true := fun y hy => by
        rcases List.mem_cons.mp hy with z | z
        · rw [z]; exact decide_eq_true hx
        · have := h1 y z; exact decide_eq_true (by omega)
      have et : (h0 :: (s ++ rp)).takeWhile (fun y => decide (y < x)) = (h0 :: s) ++ rp.takeWhile fun y => decide (y < x) := tw_all (s := h0 :: s) hal
      obtain ⟨acc', bs', p1, p2, p3⟩ := ih (by rw [← e]; simp) (b ++ acc) (hs up h0 s rp b acc e ha h3 h1 h2)
      refine ⟨acc', bs', ?_, ?_, ?_⟩
      · rw [et]
        show (if acc.length < _ then _ else _) = _
        rw [if_pos (by rw [hl]; simp), ← p1]
        congr 1
        simp
        omega
      · rw [et, ← List.append_assoc]; exact p2
      · rw [et, ← List.append_assoc, List.length_append]
        show BI R _ (((h0 :: s) ++ rp).drop _) _
        rw [drop_pre]
        exact p3
    · have et : (h0 :: (s ++ rp)).takeWhile (fun y => decide (y < x)) = [] := tw_none (by simpa using hx)
      refine ⟨acc, b :: bs, ?_, ?_, ?_⟩
      · rw [et]
        show (if acc.length < _ then _ else _) = _
        rw [if_neg (by rw [hl]; simp)]
      · rw [et, List.append_nil]; exact ha
      · rw [et, List.append_nil]
        exact .cons h1 h2 h3 hb
/-- one more fill -/
theorem step_ok {R A : List Int → List Int → Prop} {rp : List Int} {Bs : List (List Int)} (hA : ∀ up acc, A up acc → acc.length = up.length) (x : Int) (o : Nat)
    (hs : ∀ up h s rp' b acc, up ++ (h :: (s ++ rp')) = rp → A up acc → R (h :: s) b → (∀ y ∈ s, y < h) → (∀ y ∈ up, y < h) → A (up ++ h :: s) (b ++ acc)) (h : BI R [] rp Bs) (h0 : A [] []) (hx : x ∉ rp)
    (hi : ∀ acc, A (rp.takeWhile fun y => decide (y < x)) acc → R (x :: rp.takeWhile fun y => decide (y < x)) (insB o x acc)) :
    BI R [] (x :: rp) (stepB rp Bs x o) ∧ (popB (rp.takeWhile fun y => decide (y < x)).length [] Bs).1.length = (rp.takeWhile fun y => decide (y < x)).length := by
  obtain ⟨acc', bs, p1, p2, p3⟩ := pop_ok rp hA x hs h rfl [] h0
  rw [List.length_nil, Nat.zero_add] at p1
  rw [List.nil_append] at p2 p3
  unfold stepB
  rw [p1]
  refine ⟨?_, hA _ _ p2⟩
  have e : x :: rp = x :: ((rp.takeWhile fun y => decide (y < x)) ++ rp.drop (rp.takeWhile fun y => decide (y < x)).length) := by
    conv => lhs; rw [← List.take_append_drop (rp.takeWhile fun y => decide (y < x)).length rp]
    rw [tw_take]
  rw [e]
  refine .cons (fun y hy => of_decide_eq_true (tw_mem _ hy).1) (fun y hy => by cases hy) (hi _ p2) ?_
  refine BI.addx p3 fun h1 e1 => ?_
  have h2 := tw_next _ e1
  have h3 : h1 ∈ rp := List.mem_of_mem_drop (List.mem_of_mem_head? e1)
  have h4 : ¬ h1 < x := by simpa using h2
  have ne : h1 ≠ x := fun z => hx (z ▸ h3)
  omega
/-- all blocks together -/
theorem all_ok {R A : List Int → List Int → Prop} (L : List Int)
    (hs : ∀ up h s rp b acc, up ++ (h :: (s ++ rp)) = L → A up acc → R (h :: s) b → (∀ y ∈ s, y < h) → (∀ y ∈ up, y < h) → A (up ++ h :: s) (b ++ acc)) {up rp : List Int} {Bs : List (List Int)} (h : BI R up rp Bs) :
    up ++ rp = L → ∀ acc, A up acc → A L (Bs.reverse.flatten ++ acc) := by
  induction h with
  | nil up => intro e acc ha; rw [← e]; simpa using ha
  | @cons up s rp b h0 bs h1 h2 h3 hb ih =>
    intro e acc ha
    have := ih (by rw [← e]; simp) (b ++ acc) (hs up h0 s rp b acc e ha h3 h1 h2)
    rw [List.reverse_cons, List.flatten_append]
    simpa using this
/-! #### any offsets -/
theorem insB_perm (o : Nat) (x : Int) (b : List Int) : (insB o x b).Perm (x :: b) := by
  unfold insB
  have h : (b.take o ++ ([x] ++ b.drop o)).Perm ([x] ++ (b.take o ++ b.drop o)) := by
    rw [← List.append_assoc, ← List.append_assoc]
    exact List.perm_append_comm.append_right _
  rw [List.take_append_drop] at h
  exact h
theorem hsP {L : List Int} : ∀ up h s rp (b acc : List Int), up ++ (h :: (s ++ rp)) = L → acc.Perm up → b.Perm (h :: s) → (∀ y ∈ s, y < h) → (∀ y ∈ up, y < h) → (b ++ acc).Perm (up ++ h :: s) :=
  fun up h s rp b acc _ ha hb _ _ => (hb.append ha).trans List.perm_append_comm
abbrev PermR : List Int → List Int → Prop := fun s b => b.Perm s
/-- blocks of any offsets, all sizes right -/
theorem step_perm {rp : List Int} {Bs : List (List Int)} (x : Int) (o : Nat) (h : BI PermR [] rp Bs) (hx : x ∉ rp) :
    BI PermR [] (x :: rp) (stepB rp Bs x o) ∧ (popB (rp.takeWhile fun y => decide (y < x)).length [] Bs).1.length = (rp.takeWhile fun y => decide (y < x)).length :=
  step_ok (A := PermR) (fun up acc h => h.length_eq) x o (fun up h s rp' b acc e ha hb h1 h2 => hsP up h s rp' b acc e ha hb h1 h2) h (.refl _) hx fun acc ha => (insB_perm o x acc).trans (ha.cons x)
theorem run_perm : ∀ {xs : List Int} {os : List Nat} {rp : List Int} {Bs : List (List Int)}, os.length = xs.length → BI PermR [] rp Bs → (rp.reverse ++ xs).Nodup → BI PermR [] (xs.reverse ++ rp) (runB rp Bs xs os)
  | [], [], rp, Bs, _, h, _ => h
  | [], _ :: _, _, _, e, _, _ => by cases e
  | _ :: _, [], _, _, e, _, _ => by cases e
  | x :: xs, o :: os, rp, Bs, e, h, hn => by
    have hx : x ∉ rp := fun z => by
      rw [List.nodup_append] at hn
      exact hn.2.2 x (List.mem_reverse.mpr z) x List.mem_cons_self rfl
    have hn' : ((x :: rp).reverse ++ xs).Nodup := by rw [List.reverse_cons, List.append_assoc]; exact hn
    have := run_perm (xs := xs) (os := os) (rp := x :: rp) (Bs := stepB rp Bs x o) (Nat.succ.inj e) (step_perm x o h hx).1 hn'
    show BI PermR [] _ (runB (x :: rp) (stepB rp Bs x o) xs os)
    rw [List.reverse_cons, List.append_assoc]
    exact this
theorem tw_perm {fs : List Int} {os : List Nat} (hn : fs.Nodup) (e : os.length = fs.length) : (twF fs os).Perm fs := by
  have h := run_perm (rp := []) (Bs := []) e (.nil []) (by simpa using hn)
  rw [List.append_nil] at h
  have := all_ok (A := PermR) fs.reverse (fun up h s rp b acc e ha hb h1 h2 => hsP up h s rp b acc e ha hb h1 h2) h (by simp) [] (.refl _)
  rw [List.append_nil] at this
  exact (show (twF fs os).Perm fs.reverse from this).trans (List.reverse_perm fs)
/-! #### the takes come back -/
/-- later fills of less places are taken later than all before -/
def PCr (nm : Int → Int) (rp : List Int) : Prop := ∀ up h V, rp = up ++ h :: V → ∀ y ∈ up, y < h → ∀ z ∈ h :: V, nm z < nm y
theorem filt_cat (nm : Int → Int) : ∀ {ts : List Int} {D U : List Int}, ts.Pairwise (fun a b => nm a < nm b) → (∀ z ∈ D, ∀ y ∈ U, nm z < nm y) → (ts.filter fun t => decide (t ∈ U ++ D)) = (ts.filter fun t => decide (t ∈ D)) ++ ts.filter fun t => decide (t ∈ U)
  | [], _, _, _, _ => rfl
  | t :: ts, D, U, hp, h => by
    rw [List.pairwise_cons] at hp
    have ih := filt_cat nm hp.2 h
    by_cases hD : t ∈ D
    · have hU : t ∉ U := fun z => by have := h t hD t z; omega
      rw [List.filter_cons_of_pos (by simp [hD]), List.filter_cons_of_pos (by simp [hD]), List.filter_cons_of_neg (by simp [hU]), ih]
      rfl
    · by_cases hU : t ∈ U
      · have e : (ts.filter fun t => decide (t ∈ D)) = [] := by
          rw [List.filter_eq_nil_iff]
          intro z hz hd
          have h1 := h z (of_decide_eq_true hd) t hU
          have h2 := hp.1 z hz
          omega
        rw [List.filter_cons_of_pos (by simp [hU]), List.filter_cons_of_neg (by simp [hD]), List.filter_cons_of_pos (by simp [hU]), ih, e]
        rfl
      · rw [List.filter_cons_of_neg (by simp [hU, hD]), List.filter_cons_of_neg (by simp [hD]), List.filter_cons_of_neg (by simp [hU]), ih]
theorem filt_ins (nm : Int → Int) {x : Int} {S : List Int} (hx : x ∉ S) : ∀ {ts : List Int}, ts.Pairwise (fun a b => nm a < nm b) → x ∈ ts →
    (ts.filter fun t => decide (t ∈ x :: S)) = insB (ts.filter fun t => decide (t ∈ S ∧ nm t < nm x)).length x (ts.filter fun t => decide (t ∈ S))
  | [], _, h => by cases h
  | t :: ts, hp, h => by
    rw [List.pairwise_cons] at hp
    by_cases e : t = x
    · subst e
      have h0 : (ts.filter fun y => decide (y ∈ S ∧ nm y < nm t)) = [] := by
        rw [List.filter_eq_nil_iff]
        intro z hz hd
        have := hp.1 z hz
        have := (of_decide_eq_true hd).2
        omega
      have h1 : (ts.filter fun y => decide (y ∈ t :: S)) = ts.filter fun y => decide (y ∈ S) := List.filter_congr fun z hz => by
        have ne : z ≠ t := fun e => by have := hp.1 z hz; rw [e] at this; omega
        simp [ne]
      rw [List.filter_cons_of_pos (by simp), List.filter_cons_of_neg (by simp [hx]), List.filter_cons_of_neg (by simp [hx]), h0, h1]
      rfl
    · have hm : x ∈ ts := by
        rcases List.mem_cons.mp h with z | z
        · exact absurd z.symm e
        · exact z
      have ih := filt_ins nm hx hp.2 hm
      by_cases hS : t ∈ S
      · have hlt := hp.1 x hm
        rw [List.filter_cons_of_pos (by simp [hS]), List.filter_cons_of_pos (by simp [hS, hlt]), List.filter_cons_of_pos (by simp [hS]), ih]
        rfl
      · rw [List.filter_cons_of_neg (by simp [hS, e]), List.filter_cons_of_neg (by simp [hS]), List.filter_cons_of_neg (by simp [hS]), ih]
theorem filt_len {ts S : List Int} (hn : ts.Nodup) (hS : S.Nodup) (hs : ∀ x ∈ S, x ∈ ts) (key : ∀ {a b : List Int}, a.Nodup → b.Nodup → (∀ x, x ∈ a ↔ x ∈ b) → a.length = b.length) : (ts.filter fun t => decide (t ∈ S)).length = S.length :=
  key (hn.filter _) hS fun x => by
    rw [List.mem_filter, decide_eq_true_iff]
    exact ⟨fun h => h.2, fun h => ⟨hs x h, h⟩⟩
theorem PCr.tail {nm : Int → Int} {W rp : List Int} (h : PCr nm (W ++ rp)) : PCr nm rp := fun up x V e y hy hlt z hz => h (W ++ up) x V (by rw [e, List.append_assoc]) y (List.mem_append_right _ hy) hlt z hz
/-- the blocks are the takes of their stretches -/
def RT (ts : List Int) : List Int → List Int → Prop := fun s b => b = ts.filter fun t => decide (t ∈ s)
def AT (ts : List Int) : List Int → List Int → Prop := fun s b => s.Nodup ∧ (∀ x ∈ s, x ∈ ts) ∧ b = ts.filter fun t => decide (t ∈ s)
section
variable (key : ∀ {a b : List Int}, a.Nodup → b.Nodup → (∀ x, x ∈ a ↔ x ∈ b) → a.length = b.length) {nm : Int → Int} {ts : List Int} (hn : ts.Nodup) (hp : ts.Pairwise fun a b => nm a < nm b)
include key hn hp
theorem at_len : ∀ up acc, AT ts up acc → acc.length = up.length := fun up acc h => by
  rw [h.2.2]; exact filt_len hn h.1 h.2.1 key
theorem hsT {L : List Int} (hL : L.Nodup) (hs : ∀ x ∈ L, x ∈ ts) (pc : PCr nm L) : ∀ up h s rp (b acc : List Int), up ++ (h :: (s ++ rp)) = L → AT ts up acc → RT ts (h :: s) b → (∀ y ∈ s, y < h) → (∀ y ∈ up, y < h) → AT ts (up ++ h :: s) (b ++ acc) := by
  intro up h s rp b acc e ha hb h1 h2
  have e2 : L = (up ++ h :: s) ++ rp := by rw [← e]; simp
  refine ⟨?_, fun x hx => hs x (by rw [e2]; exact List.mem_append_left _ hx), ?_⟩
  · rw [e2] at hL
    exact hL.sublist (List.sublist_append_left _ _)
  · rw [hb, ha.2.2]
    refine (filt_cat nm hp fun z hz y hy => ?_).symm
    exact pc up h (s ++ rp) e.symm y hy (h2 y hy) z (by
      rcases List.mem_cons.mp hz with q | q
      · rw [q]; exact List.mem_cons_self
      · exact List.mem_cons_of_mem _ (List.mem_append_left _ q))
theorem run_ts : ∀ {xs rp : List Int} {Bs : List (List Int)}, BI (RT ts) [] rp Bs → (xs.reverse ++ rp).Nodup → (∀ x ∈ xs.reverse ++ rp, x ∈ ts) → PCr nm (xs.reverse ++ rp) → BI (RT ts) [] (xs.reverse ++ rp) (runB rp Bs xs (offsR nm rp xs))
  | [], rp, Bs, h, _, _, _ => h
  | x :: xs, rp, Bs, h, hN, hS, pc => by
    rw [List.reverse_cons, List.append_assoc] at hN hS pc ⊢
    have hN1 : (x :: rp).Nodup := by
      rw [List.nodup_append] at hN
      exact hN.2.1
    have hx : x ∉ rp := (List.nodup_cons.mp hN1).1
    have hNr : rp.Nodup := (List.nodup_cons.mp hN1).2
    have hSr : ∀ y ∈ rp, y ∈ ts := fun y hy => hS y (List.mem_append_right _ (List.mem_cons_of_mem _ hy))
    have hxt : x ∈ ts := hS x (List.mem_append_right _ List.mem_cons_self)
    have pcr : PCr nm rp := by
      have : PCr nm ((xs.reverse ++ [x]) ++ rp) := by simpa using pc
      exact this.tail
    have st := (step_ok (R := RT ts) (A := AT ts) (at_len key hn hp) x (((rp.takeWhile fun y => decide (y < x)).filter fun y => decide (nm y < nm x)).length) (hsT key hn hp hNr hSr pcr) h ⟨.nil, (fun x h => by cases h), (by simp)⟩ hx fun acc ha => by
      have hxS : x ∉ rp.takeWhile fun y => decide (y < x) := fun z => hx (tw_mem _ z).2
      show insB _ x acc = ts.filter fun t => decide (t ∈ x :: _)
      rw [filt_ins nm hxS hp hxt, ha.2.2]
      congr 1
      refine key (ha.1.filter _) (hn.filter _) fun y => ?_
      rw [List.mem_filter, List.mem_filter, decide_eq_true_iff, decide_eq_true_iff]
      exact ⟨fun q => ⟨ha.2.1 y q.1, q⟩, fun q => q.2⟩).1
    exact run_ts (xs := xs) (rp := x :: rp) st hN hS pc
/-- the takes come back -/
theorem tw_back {fs : List Int} (hf : fs.Perm ts) (pc : PCr nm fs.reverse) : twF fs (offsF nm fs) = ts := by
  have hfn : fs.reverse.Nodup := (List.reverse_perm fs).nodup_iff.mpr (hf.nodup_iff.mpr hn)
  have hfs : ∀ x ∈ fs.reverse, x ∈ ts := fun x hx => hf.mem_iff.mp (List.mem_reverse.mp hx)
  have h := run_ts key hn hp (xs := fs) (rp := []) (.nil []) (by rw [List.append_nil]; exact hfn) (by rw [List.append_nil]; exact hfs) (by rw [List.append_nil]; exact pc)
  rw [List.append_nil] at h
  have := (all_ok (R := RT ts) (A := AT ts) fs.reverse (hsT key hn hp hfn hfs pc) h (by simp) [] ⟨.nil, (fun x h => by cases h), (by simp)⟩).2.2
  rw [List.append_nil] at this
  show (runB [] [] fs (offsR nm [] fs)).reverse.flatten = ts
  rw [this, List.filter_eq_self]
  intro t ht
  exact decide_eq_true (List.mem_reverse.mpr (hf.mem_iff.mpr ht))
end
/-- offsets are less than the lengths -/
theorem offs_lt (nm : Int → Int) : ∀ {xs rp : List Int} {i o l : Nat}, (offsR nm rp xs)[i]? = some o → (lensR rp xs)[i]? = some l → o < l
  | [], _, _, _, _, h, _ => by simp [offsR] at h
  | x :: xs, rp, 0, o, l, h1, h2 => by
    have e1 : _ = o := Option.some.inj h1
    have e2 : _ = l := Option.some.inj h2
    rw [← e1, ← e2]
    exact Nat.lt_succ_of_le (List.length_filter_le _ _)
  | x :: xs, rp, i + 1, o, l, h1, h2 => offs_lt nm (xs := xs) (rp := x :: rp) (i := i) (by simpa [offsR] using h1) (by simpa [lensR] using h2)
theorem lensR_at : ∀ {xs rp : List Int} {i : Nat} (h : i < xs.length), (lensR rp xs)[i]? = some (((((xs.take i).reverse ++ rp).takeWhile fun y => decide (y < xs[i]))).length + 1)
  | [], _, _, h => by simp at h
  | x :: xs, rp, 0, _ => by simp [lensR]
  | x :: xs, rp, i + 1, h => by
    have := lensR_at (xs := xs) (rp := x :: rp) (i := i) (by simpa using h)
    show (lensR (x :: rp) xs)[i]? = _
    rw [this]
    simp
theorem lens_at {fs : List Int} {i : Nat} (h : i < fs.length) : (lensF fs)[i]? = some ((((fs.take i).reverse).takeWhile fun y => decide (y < fs.getD i 0)).length + 1) := by
  have := lensR_at (rp := []) h
  rw [List.append_nil] at this
  rw [show fs.getD i 0 = fs[i] by rw [List.getD_eq_getElem?_getD, List.getElem?_eq_getElem h]; rfl]
  exact this
theorem offsR_at {nm : Int → Int} : ∀ {xs rp : List Int} {i : Nat} (h : i < xs.length), (offsR nm rp xs)[i]? = some (((((xs.take i).reverse ++ rp).takeWhile fun y => decide (y < xs[i])).filter fun y => decide (nm y < nm xs[i])).length)
  | [], _, _, h => by simp at h
  | x :: xs, rp, 0, _ => by simp [offsR]
  | x :: xs, rp, i + 1, h => by
    have := offsR_at (nm := nm) (xs := xs) (rp := x :: rp) (i := i) (by simpa using h)
    show (offsR nm (x :: rp) xs)[i]? = _
    rw [this]
    simp
theorem offs_at {nm : Int → Int} {fs : List Int} {i : Nat} (h : i < fs.length) : (offsF nm fs)[i]? = some ((((fs.take i).reverse).takeWhile fun y => decide (y < fs.getD i 0)).filter fun y => decide (nm y < nm (fs.getD i 0))).length := by
  have := offsR_at (nm := nm) (rp := []) h
  rw [List.append_nil] at this
  rw [show fs.getD i 0 = fs[i] by rw [List.getD_eq_getElem?_getD, List.getElem?_eq_getElem h]; rfl]
  exact this

/-! ### possible pairs and stretches (no program here) -/
theorem lows_geA {nm : Int → Int} {h z : Int} {C : List Int} : ∀ {A : List Int} {lo : Int}, z ∈ A ++ [h] → nm z + 1 ≤ (lows nm lo (A ++ h :: C)).getD A.length 0
  | [], lo, hz => by
    have : z = h := by simpa using hz
    subst this
    exact mx_r _ _
  | a :: A, lo, hz => by
    show _ ≤ (lows nm (mx lo (nm a + 1)) (A ++ h :: C)).getD A.length 0
    rcases List.mem_cons.mp hz with e | hz
    · have hl : A.length < (lows nm (mx lo (nm a + 1)) (A ++ h :: C)).length := by rw [lows_len]; simp
      have := lows_ge (nm := nm) (fs := A ++ h :: C) (lo := mx lo (nm a + 1)) ((lows nm (mx lo (nm a + 1)) (A ++ h :: C)).getD A.length 0) (by rw [getD_el hl]; exact List.getElem_mem hl)
      have := mx_r lo (nm a + 1)
      rw [e]; omega
    · exact lows_geA hz
theorem highs_leA {nm : Int → Int} {n h y : Int} {C : List Int} (hy : y ∈ C) (hlt : y < h) : ∀ {A : List Int}, (highs nm n (A ++ h :: C)).getD A.length 0 ≤ nm y
  | [] => by
    show minI ((highs nm n C).headD n :: ((C.filter fun y => decide (y < h)).map nm)) ≤ nm y
    refine minI_le (List.mem_cons_of_mem _ (List.mem_map.mpr ⟨y, List.mem_filter.mpr ⟨hy, decide_eq_true hlt⟩, rfl⟩))
  | a :: A => by
    show (highs nm n (A ++ h :: C)).getD A.length 0 ≤ nm y
    exact highs_leA hy hlt
theorem poss_pcr {ts fs : List Int} (h : Poss ts fs) : PCr (nb ts) fs.reverse := by
  intro up x V e y hy hlt z hz
  have e2 : fs = V.reverse ++ x :: up.reverse := by
    have := congrArg List.reverse e
    rw [List.reverse_reverse] at this
    rw [this]
    simp
  unfold Poss at h
  rw [e2] at h
  have h1 := lows_geA (nm := nb ts) (C := up.reverse) (h := x) (lo := 0) (A := V.reverse) (z := z) (by
    rcases List.mem_cons.mp hz with q | q
    · rw [q]; exact List.mem_append_right _ (List.mem_singleton.mpr rfl)
    · exact List.mem_append_left _ (List.mem_reverse.mpr q))
  have h2 := highs_leA (nm := nb ts) (n := (ts.length : Int)) (A := V.reverse) (h := x) (List.mem_reverse.mpr hy) hlt
  have hl1 : V.reverse.length < (lows (nb ts) 0 (V.reverse ++ x :: up.reverse)).length := by rw [lows_len]; simp
  have hl2 : V.reverse.length < (highs (nb ts) ts.length (V.reverse ++ x :: up.reverse)).length := by rw [highs_len]; simp
  have h3 := h.at (getD_at hl1) (getD_at hl2)
  omega
theorem nb_up {ts : List Int} (hn : ts.Nodup) : ts.Pairwise fun a b => nb ts a < nb ts b := by
  rw [List.pairwise_iff_getElem]
  intro i j hi hj hij
  have h1 := nb_get hn hi
  have h2 := nb_get hn hj
  rw [getD_el hi] at h1
  rw [getD_el hj] at h2
  rw [h1, h2]
  omega
theorem tw_takes {ts fs : List Int} (hn : ts.Nodup) (hp : fs.Perm ts) (h : Poss ts fs) : twF fs (offsF (nb ts) fs) = ts :=
  tw_back nodup_same_len hn (nb_up hn) hp (poss_pcr h)

abbrev Slengths_of : Stmt := topS 24
abbrev Nlengths_of : List Str := ["fills", "found", "open_fills", "number", "place"]
theorem sclengths_of : FnScope Nlengths_of ["fills"] (defScope Slengths_of) := ⟨rfl, rfl, rfl, by decide +kernel, rfl, by decide +kernel, by decide +kernel⟩

abbrev iN (l : List Nat) : List Int := l.map fun n => ((n : Nat) : Int)
abbrev ixS (S : List (Nat × Int)) : List Int := (S.map fun j => ((j.1 : Nat) : Int)).reverse
theorem atI_last1 (xs : List V) (v : V) : atI (xs ++ [v]) (-1) = some v := by
  have : ixN (xs ++ [v]).length (-1) = some xs.length := by
    unfold ixN
    rw [if_neg (by decide), List.length_append, List.length_singleton, if_pos (by omega)]
    congr 1
    omega
  unfold atI
  rw [this]
  simp
theorem ixS_cons (j : Nat × Int) (S : List (Nat × Int)) : vI (ixS (j :: S)) = vI (ixS S) ++ [.int (j.1 : Nat)] := by
  unfold ixS
  rw [List.map_cons, List.reverse_cons]
  unfold vI
  rw [List.map_append]
  rfl
section
variable {P : Program} {w : World} {K : PySem.W.Frag} {mg : Str → Option Value} {base : Heap}
def spLengths : Sp := fun vs H Q _ => ∃ (a : Addr) (fs : List Int), vs = [.ref a] ∧ H a = some (.lst (vI fs)) ∧ fs.length ≤ 1000 ∧ ∀ H' p, Same H H' → H p = none → H' p = some (.lst (vI (iN (lensF fs)))) → Q (.ref p) H'
theorem ok_lengths_of {f : Addr} {fd : FuncData} {k : Nat} (B : Bn mg) (F : Fun K "lengths_of" "lengths_of" Slengths_of f fd) : FnG P w K mg base (k + 1) f fd ["fills"] spLengths := by
  refine gok F sclengths_of (fun vs H Q E h => ?_) (fun cdv A fs s H vs Q E hG hr h => ?_)
  · obtain ⟨_, _, rfl, _⟩ := h; rfl
  · obtain ⟨a, fl, rfl, hA, hl, q⟩ := h
    have hu := hr.units
    refine ⟨_, (pss_cons (ps_set (i := 1) sclengths_of.nd rfl (Or.inl rfl) (pe_lst pa_nil)) (pss_cons (ps_set (i := 2) sclengths_of.nd rfl (Or.inl rfl) (pe_lst pa_nil)) (pss_cons (ps_for (passes_of rfl) rfl (k_enum K (by rfl) B.enumerate (pa_cons (pv 0) pa_nil)) (k_gtup (n := 2) K rfl (pgs_cons (pg_name (i := 3) sclengths_of.nd rfl (Or.inl rfl)) (pgs_cons (pg_name (i := 4) sclengths_of.nd rfl (Or.inl rfl)) pgs_nil))) (pss_cons (ps_while (passes_of rfl) (pw_and (pt_cmpR (k_neD K hu) (pv 2) (pe_lst pa_nil) (nomark _)) (pw_and1 (pt_cmpR op_lt (pe_ix (k_ixL K) (pv 0) (pe_ix (k_ixL K) (pv 2) (pe_un un_neg pe_int) (fun _ _ => rfl)) (fun _ _ => rfl)) (pv 4) (nomark _)))).pt (pss_one (ps_expr (k_bm0P K (pe_bm0 PySem.F.plainAttrs_list PySem.F.slot_list_pop PySem.F.type_list_pop mt_pop (pv 2)))))) (pss_cons (ps_expr (k_bmP K (pe_bm PySem.F.plainAttrs_list PySem.F.slot_list_append PySem.F.type_list_append mt_append (pv 1) (pa_cons (pe_op op_sub (pv 3) (pe_ifExp (pt_cmpR (k_neD K hu) (pv 2) (pe_lst pa_nil) (nomark _)) (pe_ix (k_ixL K) (pv 2) (pe_un un_neg pe_int) (fun _ _ => rfl)) (pe_un un_neg pe_int))) pa_nil)))) (pss_one (ps_expr (k_bmP K (pe_bm PySem.F.plainAttrs_list PySem.F.slot_list_append PySem.F.type_list_append mt_append (pv 2) (pa_cons (pv 3) pa_nil)))))))) (pss_one (ps_ret (pv 1)))))), ?_⟩
    walk_at "s"
    intro fo nfo
    have s1 := same_new (o := .lst []) nfo
    have hfo : upd H fo (.lst []) fo = some (.lst (vI [])) := upd_same
    have hA1 := s1 _ _ hA
    generalize upd H fo (.lst []) = H1 at *
    walk_at "s"
    intro op nop
    have s2 := same_new (o := .lst []) nop
    have hop : upd H1 op (.lst []) op = some (.lst (vI [])) := upd_same
    have hA2 := s2 _ _ hA1
    have hfo2 := s2 _ _ hfo
    have s12 := s1.trans s2
    have nop0 := s1.free nop
    have nfop : fo ≠ op := ne_new nop hfo
    generalize upd H1 op (.lst []) = H2 at *
    walk_at "s"
    refine ⟨a, vI fl, rfl, lst_of hA2, ?_⟩
    refine for_src src_enum (fun i σ H' => ∃ v3 v4, σ = [some (.ref a), some (.ref fo), some (.ref op), v3, v4] ∧ Same H H' ∧ H' fo = some (.lst (vI ((iN (lensF fl)).take i))) ∧ H' op = some (.lst (vI (ixS (stkR (fl.take i).reverse))))) (fun i σ H' h => by
      obtain ⟨_, _, _, h, _⟩ := h
      exact lst_of (h _ _ hA)) ⟨none, none, rfl, s12, by rw [List.take_zero]; exact hfo2, by rw [List.take_zero]; exact hop⟩ ?_ ?_
    · rintro i v σ H3 H3' hi ⟨v3, v4, rfl, s3, hf3, ho3⟩ ⟨T, x, rfl, nT, rfl, hx⟩
      rw [vI_len] at hi
      rw [vI_getD hi] at hx
      cases hx
      have sT := same_new (o := .tup [.int ((i : Nat) : Int), .int (fl.getD i 0)]) nT
      have hT : upd H3 T (.tup [.int ((i : Nat) : Int), .int (fl.getD i 0)]) T = some (.tup [.int ((i : Nat) : Int), .int (fl.getD i 0)]) := upd_same
      have hf4 := sT _ _ hf3
      have ho4 := sT _ _ ho3
      have s4 := s3.trans sT
      generalize upd H3 T _ = H4 at *
      have erp : ((fl.take i).reverse).length = i := by rw [List.length_reverse, List.length_take]; omega
      have ex : fl.take (i + 1) = fl.take i ++ [fl.getD i 0] := by rw [List.take_add_one, List.getElem?_eq_getElem hi, getD_el hi]; rfl
      have el : (iN (lensF fl)).take (i + 1) = (iN (lensF fl)).take i ++ [((((((fl.take i).reverse).takeWhile fun y => decide (y < fl.getD i 0)).length + 1 : Nat)) : Int)] := by
        have hg : (lensF fl)[i]? = some ((((fl.take i).reverse).takeWhile fun y => decide (y < fl.getD i 0)).length + 1) := lens_at hi
        rw [List.take_add_one, List.getElem?_map, hg]
        rfl
      have hval : ∀ j ∈ stkR (fl.take i).reverse, j.1 < fl.length ∧ fl.getD j.1 0 = j.2 ∧ j.1 < i := fun j hj => by
        obtain ⟨a1, a2⟩ := stk_mem hj
        rw [erp] at a1
        rw [List.reverse_reverse, List.getElem?_take_of_lt a1] at a2
        refine ⟨by omega, ?_, a1⟩
        rw [List.getD_eq_getElem?_getD, a2]; rfl
      have hk := stk_len (fl.take i).reverse (fl.getD i 0)
      rw [erp] at hk
      have hstk : stkR (fl.take (i + 1)).reverse = (i, fl.getD i 0) :: (stkR (fl.take i).reverse).dropWhile fun j => decide (j.2 < fl.getD i 0) := by
        rw [ex, List.reverse_append]
        show ((fl.take i).reverse.length, fl.getD i 0) :: (stkR (fl.take i).reverse).dropWhile (fun j => decide (j.2 < fl.getD i 0)) = _
        rw [erp]
      have hsl := stk_ln (fl.take i).reverse
      rw [erp] at hsl
      rw [el, hstk]
      generalize hx0 : fl.getD i 0 = x0 at *
      generalize (((fl.take i).reverse).takeWhile fun y => decide (y < x0)).length = kk at *
      generalize hS0 : stkR (fl.take i).reverse = S0 at *
      walk_at "s"
      refine ⟨fun m σ H' => ∃ S : List (Nat × Int), S.length = m ∧ σ = [some (.ref a), some (.ref fo), some (.ref op), some (.int ((i : Nat) : Int)), some (.int x0)] ∧ Same H H' ∧ H' fo = some (.lst (vI ((iN (lensF fl)).take i))) ∧ H' op = some (.lst (vI (ixS S))) ∧ (S.dropWhile fun j => decide (j.2 < x0)) = (S0.dropWhile fun j => decide (j.2 < x0)) ∧ (∀ j ∈ S, j ∈ S0) ∧ S.length ≤ i, ⟨_, S0, rfl, rfl, s4, hf4, ho4, rfl, fun j h => h, hsl⟩, ?_⟩
      rintro m σ H5 ⟨S, sl, rfl, s5, hf5, ho5, hD, hS, hSl⟩
      walk_at "s"
      intro e ne
      have se := same_new (o := .lst []) ne
      have he : upd H5 e (.lst []) e = some (.lst (vI [])) := upd_same
      have hf6 := se _ _ hf5
      have ho6 := se _ _ ho5
      have s6 := s5.trans se
      have hA6 := s6 _ _ hA
      generalize upd H5 e (.lst []) = H6 at *
      refine r_neLI (lst_of ho6) (lst_of he) ?_
      have fl1 : ((iN (lensF fl)).take i).length ≤ 1000 := by rw [List.length_take, List.length_map, lensF, lensR_len]; omega
      cases S with
      | nil =>
        rw [decide_eq_true (show ixS [] = [] from rfl)]
        walk_at "s"
        intro e2 ne2
        have se2 := same_new (o := .lst []) ne2
        have he2 : upd H6 e2 (.lst []) e2 = some (.lst (vI [])) := upd_same
        have hf7 := se2 _ _ hf6
        have ho7 := se2 _ _ ho6
        have s7 := s6.trans se2
        generalize upd H6 e2 (.lst []) = H7 at *
        refine r_neLI (lst_of ho7) (lst_of he2) ?_
        rw [decide_eq_true (show ixS [] = [] from rfl)]
        have hD' : (S0.dropWhile fun j => decide (j.2 < x0)) = [] := by rw [← hD]; rfl
        rw [hD'] at hk
        have hk : (kk : Int) = (i : Int) - 0 := hk
        have hl7 : (ixS []).length ≤ 1000 := by simp only [ixS, List.length_reverse, List.length_map]; omega
        walk_at "s"
        refine ⟨_, _, rfl, same_set (same_set s7 nfo) nop0, ?_, ?_⟩
        · rw [upd_ne nfop, upd_same]
          exact congrArg (fun l => some (HO.lst l)) ((vI_app _ [_]).trans (congrArg (fun z => vI (_ ++ [z])) (by omega)))
        · rw [upd_same, ixS_cons]
          rw [← hD]
          rfl
      | cons j S1 =>
        obtain ⟨v1, v2, v3'⟩ := hval j (hS j List.mem_cons_self)
        have hne : ixS (j :: S1) ≠ [] := fun z => by have := congrArg List.length z; simp at this
        rw [decide_eq_false hne]
        have hlast : atI (vI (ixS (j :: S1))) (-1) = some (.int ((j.1 : Nat) : Int)) := by rw [ixS_cons]; exact atI_last1 _ _
        have hfl : atI (vI fl) ((j.1 : Nat) : Int) = some (.int j.2) := by rw [← v2]; exact atI_ints (by omega) (by omega)
        walk_at "s"
        by_cases hc : j.2 < x0
        · refine ifDT hc ?_
          refine r_wN (I := fun m σ H' => ∃ S : List (Nat × Int), S.length = m ∧ σ = [some (.ref a), some (.ref fo), some (.ref op), some (.int ((i : Nat) : Int)), some (.int x0)] ∧ Same H H' ∧ H' fo = some (.lst (vI ((iN (lensF fl)).take i))) ∧ H' op = some (.lst (vI (ixS S))) ∧ (S.dropWhile fun j => decide (j.2 < x0)) = (S0.dropWhile fun j => decide (j.2 < x0)) ∧ (∀ j ∈ S, j ∈ S0) ∧ S.length ≤ i) ?_
          rw [ixS_cons] at ho6
          walk_at "s"
          refine r_pop ho6 ?_
          walk_at "s"
          refine ⟨S1.length, by rw [← sl]; exact Nat.lt_succ_self _, S1, rfl, rfl, same_set s6 nop0, (upd_ne nfop).trans hf6, upd_same, ?_, fun k hk => hS k (List.mem_cons_of_mem _ hk), by have := hSl; rw [List.length_cons] at this; omega⟩
          rw [← hD, List.dropWhile_cons, if_pos (decide_eq_true hc)]
        · refine ifDF hc ?_
          have hD' : (S0.dropWhile fun j => decide (j.2 < x0)) = j :: S1 := by rw [← hD, List.dropWhile_cons, if_neg (by simpa using hc)]
          rw [hD'] at hk
          have hk : (kk : Int) = (i : Int) - ((j.1 : Int) + 1) := hk
          walk_at "s"
          intro e2 ne2
          have se2 := same_new (o := .lst []) ne2
          have he2 : upd H6 e2 (.lst []) e2 = some (.lst (vI [])) := upd_same
          have hf7 := se2 _ _ hf6
          have ho7 := se2 _ _ ho6
          have s7 := s6.trans se2
          generalize upd H6 e2 (.lst []) = H7 at *
          refine r_neLI (lst_of ho7) (lst_of he2) ?_
          rw [decide_eq_false hne]
          have hl7 : S1.length + 1 ≤ 1000 := by have := hSl; rw [List.length_cons] at this; omega
          walk_at "s"
          refine ⟨_, _, rfl, same_set (same_set s7 nfo) nop0, ?_, ?_⟩
          · rw [upd_ne nfop, upd_same]
            exact congrArg (fun l => some (HO.lst l)) ((vI_app _ [_]).trans (congrArg (fun z => vI (_ ++ [z])) (by omega)))
          · rw [upd_same, ← hD, List.dropWhile_cons, if_neg (by simpa using hc)]
            exact congrArg (fun l => some (HO.lst l)) (ixS_cons (i, x0) (j :: S1)).symm
    · rintro σ H3 ⟨v3, v4, rfl, s3, hf3, ho3⟩
      rw [vI_len] at hf3
      walk_at "s"
      exact q _ fo s3 nfo (by rw [hf3, List.take_of_length_le]; rw [List.length_map, lensF, lensR_len]; exact Nat.le_refl _)
end

abbrev Soffset_list : Stmt := topS 26
abbrev Noffset_list : List Str := ["takes", "fills", "number_of", "found", "number", "length", "own", "others", "place"]
theorem scoffset_list : FnScope Noffset_list ["takes", "fills"] (defScope Soffset_list) := ⟨rfl, rfl, rfl, by decide +kernel, rfl, by decide +kernel, by decide +kernel⟩
abbrev Soffsets_of : Stmt := topS 27
abbrev Noffsets_of : List Str := ["takes", "fills", "taken", "filled", "bounds"]
theorem scoffsets_of : FnScope Noffsets_of ["takes", "fills"] (defScope Soffsets_of) := ⟨rfl, rfl, rfl, by decide +kernel, rfl, by decide +kernel, by decide +kernel⟩

theorem cut_mid {xs : List V} {a b : Nat} (h : a ≤ b) : cutV xs (some ((a : Nat) : Int)) (some ((b : Nat) : Int)) = (xs.take b).drop a := by
  unfold cutV
  rw [HT.sIx_nat, HT.sIx_nat, List.drop_take]
  rcases Nat.le_total a xs.length with h1 | h1
  · rw [Nat.min_eq_left h1]
    rcases Nat.le_total b xs.length with h2 | h2
    · rw [Nat.min_eq_left h2]
    · rw [Nat.min_eq_right h2, List.take_of_length_le (by rw [List.length_drop]; omega), List.take_of_length_le (by rw [List.length_drop]; omega)]
  · rw [Nat.min_eq_right h1, List.drop_eq_nil_of_le (Nat.le_refl _), List.drop_eq_nil_of_le h1, List.take_nil, List.take_nil]
theorem tw_drop (p : Int → Bool) (l : List Int) : (l.reverse.takeWhile p).reverse = l.drop (l.length - (l.reverse.takeWhile p).length) := by
  have h := tw_take p l.reverse
  rw [← h]
  rw [List.take_reverse (xs := l), List.reverse_reverse]
  congr 1
  rw [List.length_reverse, List.length_drop]
  have := tw_le p l.reverse
  rw [List.length_reverse] at this
  omega
section
variable {P : Program} {w : World} {K : PySem.W.Frag} {mg : Str → Option Value} {base : Heap}
def spOffList : Sp := fun vs H Q _ => ∃ (a b : Addr) (ts fs : List Int), vs = [.ref a, .ref b] ∧ H a = some (.lst (vI ts)) ∧ H b = some (.lst (vI fs)) ∧ ts.Nodup ∧ ts.length ≤ 1000 ∧ fs.Perm ts ∧ ∀ H' p, Same H H' → H p = none → H' p = some (.lst (vI (iN (offsF (nb ts) fs)))) → Q (.ref p) H'
theorem ok_offset_list {f : Addr} {fd : FuncData} (B : Bn mg) (D_numbered : Df P w K mg base 1 "numbered" [] spNumbered) (D_lengths_of : Df P w K mg base 1 "lengths_of" [] spLengths) (F : Fun K "offset_list" "offset_list" Soffset_list f fd) : FnG P w K mg base 2 f fd ["takes", "fills"] spOffList := by
  refine gok F scoffset_list (fun vs H Q E h => ?_) (fun cdv A fs s H vs Q E hG hr h => ?_)
  · obtain ⟨_, _, _, _, rfl, _⟩ := h; rfl
  · obtain ⟨a, b, ts, fl, rfl, hA, hB, hn, hl, hp, q⟩ := h
    have hu := hr.units
    have fll := hp.length_eq
    refine ⟨_, (pss_cons (ps_set (i := 2) scoffset_list.nd rfl (Or.inr rfl) (pe_df D_numbered hG (hr.mono (by first | decide | omega)) passL (by rfl) (pa_cons (pv 0) pa_nil))) (pss_cons (ps_set (i := 3) scoffset_list.nd rfl (Or.inl rfl) (pe_lst pa_nil)) (pss_cons (ps_for (passes_of rfl) rfl (k_enum K (by rfl) B.enumerate (pa_cons (pe_df D_lengths_of hG (hr.mono (by first | decide | omega)) passL (by rfl) (pa_cons (pv 1) pa_nil)) pa_nil)) (k_gtup (n := 2) K rfl (pgs_cons (pg_name (i := 4) scoffset_list.nd rfl (Or.inl rfl)) (pgs_cons (pg_name (i := 5) scoffset_list.nd rfl (Or.inl rfl)) pgs_nil))) (pss_cons (ps_set (i := 6) scoffset_list.nd rfl (Or.inr rfl) (pe_dget (hu1 hu) (pv 2) (pe_ix (k_ixL K) (pv 1) (pv 4) (fun _ _ => rfl)) (fun _ _ => rfl))) (pss_cons (ps_set (i := 7) scoffset_list.nd rfl (Or.inl rfl) (pe_slice (k_slL K) (pv 1) (po_some (pe_op op_add (pe_op op_sub (pv 4) (pv 5)) pe_int)) (po_some (pv 4)))) (pss_one (ps_expr (k_bmP K (pe_bm PySem.F.plainAttrs_list PySem.F.slot_list_append PySem.F.type_list_append mt_append (pv 3) (pa_cons (pe_callB (k_len K) (by rfl) B.len Blen (pa_cons (pe_lc (own := [("place", 8)]) rfl scoffset_list.nd (k_piL K (pv 7)) (blkOk_by (own := [("place", 8)]) (N := Noffset_list) (sc := defScope Soffset_list) (by decide +kernel)) (fun _ _ _ _ _ => (pg_name (i := 8) scoffset_list.nd rfl (Or.inl rfl))) (fun _ _ _ _ _ => (pts_one (pt_cmpR op_lt (pe_dget (hu1 hu) (pv 2) (pv 8) (fun _ _ => rfl)) (pv 6) (nomark _)))) (fun _ _ _ _ _ => (pv 8))) pa_nil)) pa_nil)))))))) (pss_one (ps_ret (pv 3)))))), ?_⟩
    walk_at "s"
    refine ⟨a, ts, rfl, hA, hn, hl, fun H1 d s1 nd hd => ?_⟩
    walk_at "s"
    intro fo nfo
    have s2 := same_new (o := .lst []) nfo
    have hfo : upd H1 fo (.lst []) fo = some (.lst (vI [])) := upd_same
    have hd2 := hd.same s2
    have s12 := s1.trans s2
    have nfo0 := s1.free nfo
    have ndf : d ≠ fo := fun z => by obtain ⟨kvs, h, _⟩ := hd; rw [z, nfo] at h; cases h
    generalize upd H1 fo (.lst []) = H2 at *
    have hB2 := s12 _ _ hB
    walk_at "s"
    refine ⟨b, fl, rfl, hB2, by omega, fun H3 le s3 nle hle => ?_⟩
    have s13 := s12.trans s3
    have hfo3 := s3 _ _ hfo
    have hd3 := hd2.same s3
    have nlf : le ≠ fo := fun z => by rw [z, hfo] at nle; cases nle
    walk_at "s"
    refine ⟨le, vI (iN (lensF fl)), rfl, lst_of hle, ?_⟩
    have ll : (lensF fl).length = fl.length := lensR_len [] fl
    refine for_src src_enum (fun i σ H' => ∃ v4 v5 v6 v7, σ = [some (.ref a), some (.ref b), some (.ref d), some (.ref fo), v4, v5, v6, v7, none] ∧ Same H H' ∧ IsD H' d (ixO ts) ∧ H' le = some (.lst (vI (iN (lensF fl)))) ∧ H' fo = some (.lst (vI ((iN (offsF (nb ts) fl)).take i)))) (fun i σ H' h => by
      obtain ⟨_, _, _, _, _, _, _, h, _⟩ := h
      exact lst_of h) ⟨none, none, none, none, rfl, s13, hd3, hle, by rw [List.take_zero]; exact hfo3⟩ ?_ ?_
    · rintro i v σ H4 H4' hi ⟨v4, v5, v6, v7, rfl, s4, hd4, hle4, hfo4⟩ ⟨T, x, rfl, nT, rfl, hx⟩
      rw [vI_len, List.length_map, ll] at hi
      have hg := lens_at hi
      have ho := offs_at (nm := nb ts) hi
      have ex : x = .int (((((fl.take i).reverse.takeWhile fun y => decide (y < fl.getD i 0)).length + 1 : Nat)) : Int) := by
        unfold vI iN at hx
        rw [List.getElem?_map, List.getElem?_map, hg] at hx
        exact (Option.some.inj hx).symm
      subst ex
      have el : (iN (offsF (nb ts) fl)).take (i + 1) = (iN (offsF (nb ts) fl)).take i ++ [((((((fl.take i).reverse.takeWhile fun y => decide (y < fl.getD i 0)).filter fun y => decide (nb ts y < nb ts (fl.getD i 0))).length : Nat)) : Int)] := by
        rw [List.take_add_one, List.getElem?_map, ho]; rfl
      have hx0 : atI (vI fl) ((i : Nat) : Int) = some (.int (fl.getD i 0)) := atI_ints (by omega) (by omega)
      have hxm : fl.getD i 0 ∈ ts := hp.mem_iff.mp (by rw [getD_el hi]; exact List.getElem_mem hi)
      have hpre : ∀ y ∈ fl.take i, y ∈ ts := fun y hy => hp.mem_iff.mp (List.mem_of_mem_take hy)
      have etw := tw_drop (fun y => decide (y < fl.getD i 0)) (fl.take i)
      have il : (fl.take i).length = i := by rw [List.length_take]; omega
      have kle := tw_le (fun y => decide (y < fl.getD i 0)) (fl.take i).reverse
      rw [List.length_reverse, il] at kle
      rw [il] at etw
      have efl : ((((fl.take i).reverse.takeWhile fun y => decide (y < fl.getD i 0)).filter fun y => decide (nb ts y < nb ts (fl.getD i 0))).length) = (((fl.take i).drop (i - ((fl.take i).reverse.takeWhile fun y => decide (y < fl.getD i 0)).length)).filter fun y => decide (nb ts y < nb ts (fl.getD i 0))).length := by
        rw [← etw, List.filter_reverse, List.length_reverse]
      rw [el, efl]
      clear ho hg el efl etw
      generalize ((fl.take i).reverse.takeWhile fun y => decide (y < fl.getD i 0)).length = k at *
      generalize fl.getD i 0 = x0 at *
      have sT := same_new (o := .tup [.int ((i : Nat) : Int), .int (((k + 1 : Nat)) : Int)]) nT
      have hT : upd H4 T (.tup [.int ((i : Nat) : Int), .int (((k + 1 : Nat)) : Int)]) T = some (.tup [.int ((i : Nat) : Int), .int (((k + 1 : Nat)) : Int)]) := upd_same
      have s5 := s4.trans sT
      have hd5 := hd4.same sT
      have hle5 := sT _ _ hle4
      have hfo5 := sT _ _ hfo4
      have hB5 := s5 _ _ hB
      generalize upd H4 T _ = H5 at *
      walk_at "s"
      refine r_dget ?_
      walk_at "s"
      refine hd5.get (ixO_mem hxm) ?_
      walk_at "s"
      rw [show ((i : Nat) : Int) - (((k + 1 : Nat)) : Int) + 1 = (((i - k : Nat)) : Int) by omega, cut_mid (by omega), vI_take, vI_drop]
      intro sl nsl
      have ssl := same_new (o := .lst (vI ((fl.take i).drop (i - k)))) nsl
      have hsl : upd H5 sl (.lst (vI ((fl.take i).drop (i - k)))) sl = some (.lst (vI ((fl.take i).drop (i - k)))) := upd_same
      have hd6 := hd5.same ssl
      have hle6 := ssl _ _ hle5
      have hfo6 := ssl _ _ hfo5
      have s6 := s5.trans ssl
      generalize upd H5 sl _ = H6 at *
      walk_at "s"
      refine ⟨sl, rfl, ⟨_, lst_of hsl⟩, fun D nD => ?_⟩
      refine lc_ints (lst_of hsl) (by rw [List.length_drop, List.length_take]; omega) (fun y => decide (nb ts y < nb ts x0)) (fun y => .int y) ?_ nD fun H7 s7 hD => ?_
      · rintro y H8 Yes No s8 hy hY hN
        have hyt := hpre y (List.mem_of_mem_drop hy)
        walk_at "s"
        refine ⟨rfl, ?_⟩
        walk_at "s"
        refine r_dget ?_
        walk_at "s"
        refine (hd6.same s8).get (ixO_mem hyt) ?_
        walk_at "s"
        by_cases hc : nb ts y < nb ts x0
        · refine ifDT hc ?_
          walk_at "s"
          exact hY (decide_eq_true hc) _ (Same.refl _)
        · refine ifDF hc ?_
          exact hN (decide_eq_false hc) _ (Same.refl _)
      · have hfo7 := s7 _ _ hfo6
        have ol : ((iN (offsF (nb ts) fl)).take i).length ≤ 1000 := by rw [List.length_take, List.length_map]; show min _ (offsR (nb ts) [] fl).length ≤ _; rw [offsR_len]; omega
        walk_at "s"
        rw [List.length_map]
        refine ⟨_, _, _, _, rfl, same_set (s6.trans s7) nfo0, ?_, (upd_ne nlf).trans (s7 _ _ hle6), ?_⟩
        · obtain ⟨kvs, z1, z2⟩ := hd6.same s7
          exact ⟨kvs, (upd_ne ndf).trans z1, z2⟩
        · rw [upd_same]; exact congrArg (fun l => some (HO.lst l)) (vI_app _ [_])
    · rintro σ H4 ⟨v4, v5, v6, v7, rfl, s4, hd4, hle4, hfo4⟩
      rw [vI_len, List.length_map, ll] at hfo4
      walk_at "s"
      exact q _ fo s4 nfo0 (by rw [hfo4, List.take_of_length_le]; rw [List.length_map]; show (offsR (nb ts) [] fl).length ≤ _; rw [offsR_len]; exact Nat.le_refl _)
def spOffOf : Sp := fun vs H Q _ => ∃ (a b : Addr) (ts fs : List Int), vs = [.ref a, .ref b] ∧ Sq H a (vI ts) ∧ Sq H b (vI fs) ∧ IsPl ts ∧ fs.Perm ts ∧ Poss ts fs ∧ ∀ H' p, Same H H' → H p = none → H' p = some (.lst (vI (iN (offsF (nb ts) fs)))) → Q (.ref p) H'
theorem ok_offsets_of {f : Addr} {fd : FuncData} (D_possible_pair : Df P w K mg base 5 "possible_pair" [] spPossiblePair) (D_offset_list : Df P w K mg base 2 "offset_list" [] spOffList) (F : Fun K "offsets_of" "offsets_of" Soffsets_of f fd) : FnG P w K mg base 6 f fd ["takes", "fills"] spOffOf := by
  refine gok F scoffsets_of (fun vs H Q E h => ?_) (fun cdv A fs s H vs Q E hG hr h => ?_)
  · obtain ⟨_, _, _, _, rfl, _⟩ := h; rfl
  · obtain ⟨a, b, ts, fl, rfl, hA, hB, hP, hp, hPo, q⟩ := h
    have hu := hr.units
    refine ⟨_, (pss_cons (ps_asg (pe_df D_possible_pair hG (hr.mono (by first | decide | omega)) passL (by rfl) (pa_cons (pv 0) (pa_cons (pv 1) pa_nil))) (k_gtup (n := 3) K rfl (pgs_cons (pg_name (i := 2) scoffsets_of.nd rfl (Or.inl rfl)) (pgs_cons (pg_name (i := 3) scoffsets_of.nd rfl (Or.inl rfl)) (pgs_cons (pg_name (i := 4) scoffsets_of.nd rfl (Or.inl rfl)) pgs_nil))))) (pss_one (ps_ret (pe_df D_offset_list hG (hr.mono (by first | decide | omega)) passL (by rfl) (pa_cons (pv 2) (pa_cons (pv 3) pa_nil)))))), ?_⟩
    walk_at "s"
    refine ⟨a, b, ts, fl, rfl, hA, hB, hP, hp, hPo, fun H1 t p1 p2 p as s1 nt n1 n2 np n12 ht h1 h2 hp3 => ?_⟩
    have tl := hP.top
    walk_at "s"
    refine ⟨p1, p2, ts, fl, rfl, h1, h2, hP.nd, by omega, hp, fun H2 p s2 np hp => ?_⟩
    exact q H2 p (s1.trans s2) (s1.free np) hp
end

abbrev Sstretch_lengths : Stmt := topS 25
abbrev Nstretch_lengths : List Str := ["fills"]
theorem scstretch_lengths : FnScope Nstretch_lengths ["fills"] (defScope Sstretch_lengths) := ⟨rfl, rfl, rfl, by decide +kernel, rfl, by decide +kernel, by decide +kernel⟩

section
variable {P : Program} {w : World} {K : PySem.W.Frag} {mg : Str → Option Value} {base : Heap}
def spStretch : Sp := fun vs H Q _ => ∃ (a : Addr) (fs : List Int), vs = [.ref a] ∧ Sq H a (vI fs) ∧ IsPl fs ∧ ∀ H' p, Same H H' → H p = none → H' p = some (.lst (vI (iN (lensF fs)))) → Q (.ref p) H'
theorem ok_stretch_lengths {f : Addr} {fd : FuncData} (D_checked_places : Df P w K mg base 3 "checked_places" [] spCheckedPlaces) (D_lengths_of : Df P w K mg base 1 "lengths_of" [] spLengths) (F : Fun K "stretch_lengths" "stretch_lengths" Sstretch_lengths f fd) : FnG P w K mg base 4 f fd ["fills"] spStretch := by
  refine gok F scstretch_lengths (fun vs H Q E h => ?_) (fun cdv A fs s H vs Q E hG hr h => ?_)
  · obtain ⟨_, _, rfl, _⟩ := h; rfl
  · obtain ⟨a, fl, rfl, hA, hP, q⟩ := h
    have hu := hr.units
    refine ⟨_, (pss_one (ps_ret (pe_df D_lengths_of hG (hr.mono (by first | decide | omega)) passL (by rfl) (pa_cons (pe_df D_checked_places hG (hr.mono (by first | decide | omega)) passL (by rfl) (pa_cons (pv 0) pa_nil)) pa_nil)))), ?_⟩
    walk_at "s"
    refine ⟨a, fl, rfl, hA, hP, fun H1 c s1 nc hc => ?_⟩
    have tl := hP.top
    walk_at "s"
    refine ⟨c, fl, rfl, hc, by omega, fun H2 p s2 np hp => ?_⟩
    exact q H2 p (s1.trans s2) (s1.free np) hp
end

abbrev Sare_numbers : Stmt := topS 29
abbrev Nare_numbers : List Str := ["value", "number"]
theorem scare_numbers : FnScope Nare_numbers ["value"] (defScope Sare_numbers) := ⟨rfl, rfl, rfl, by decide +kernel, rfl, by decide +kernel, by decide +kernel⟩

section
variable {P : Program} {w : World} {K : PySem.W.Frag} {mg : Str → Option Value} {base : Heap}
def spAreNumbers : Sp := fun vs H Q _ => ∃ (a : Addr) (ns : List Int), vs = [.ref a] ∧ Sq H a (vI ns) ∧ 1 ≤ ns.length ∧ ns.length ≤ 200 ∧ (∀ x ∈ ns, 0 ≤ x ∧ x < ns.length) ∧ ∀ H', Same H H' → Q (.bl true) H'
theorem ok_are_numbers {f : Addr} {fd : FuncData} (B : Bn mg) (c_MAX_SIZE : Gc mg "MAX_SIZE" (.int 200)) (D_is_listed : Df P w K mg base 1 "is_listed" [] spIsListed) (D_is_integer : Df P w K mg base 1 "is_integer" [] spIsInteger)
   (F : Fun K "are_numbers" "are_numbers" Sare_numbers f fd) : FnG P w K mg base 2 f fd ["value"] spAreNumbers := by
  refine gok F scare_numbers (fun vs H Q E h => ?_) (fun cdv A fs s H vs Q E hG hr h => ?_)
  · obtain ⟨_, _, rfl, _⟩ := h; rfl
  · obtain ⟨a, ns, rfl, h, h1, h2, h3, q⟩ := h
    have hu := hr.units
    refine ⟨_, (pss_cons (ps_if (pw_or (pt_not (pt_val (pe_df D_is_listed hG (hr.mono (by first | decide | omega)) passL (by rfl) (pa_cons (pv 0) pa_nil)))) (pw_or1 (pt_not (pt_chain op_le op_le pe_int (pe_callB (k_len K) (by rfl) B.len Blen (pa_cons (pv 0) pa_nil)) (pe_gc c_MAX_SIZE (by rfl)))))).pt (pss_one (ps_ret pe_bl)) pss_nil) (pss_one (ps_ret (pe_callB (k_all K) (by rfl) B.all Ball (pa_cons (pe_lc (own := [("number", 1)]) rfl scare_numbers.nd (pi_or (k_piL K (pv 0)) (k_piT K (pv 0))) (blkOk_by (own := [("number", 1)]) (N := Nare_numbers) (sc := defScope Sare_numbers) (by decide +kernel)) (fun _ _ _ _ _ => (pg_name (i := 1) scare_numbers.nd rfl (Or.inl rfl))) (fun _ _ _ _ _ => pts_nil) (fun _ _ _ _ _ => (pe_df D_is_integer hG (hr.mono (by first | decide | omega)) passL (by rfl) (pa_cons (pv 1) (pa_cons pe_int (pa_cons (pe_op op_sub (pe_callB (k_len K) (by rfl) B.len Blen (pa_cons (pv 0) pa_nil)) pe_int) pa_nil)))))) pa_nil))))), ?_⟩
    walk_at "s"
    refine ⟨a, _, rfl, h, fun H1 s1 => ?_⟩
    have hA := s1.sq h
    walk_at "s"
    refine ifDT (by rw [vI_len]; omega) ?_
    walk_at "s"
    refine ifNF (by rw [vI_len]; omega) ?_
    walk_at "s"
    have turn : ∀ (i : Nat) (x : V) (H' H'' : Hp) (Yes : V → Hp → Prop) (No : Hp → Prop), i < (vI ns).length → Same H1 H' → (H'' = H' ∧ (vI ns)[i]? = some x) → ((fun _ => true) i = true → ∀ H4, Same H' H4 → Yes ((fun _ => V.bl true) i) H4) → ((fun _ => true) i = false → ∀ H3, Same H' H3 → No H3) →
        gName 1 x (wipe (L2.start Nare_numbers [V.ref a]) [1]) H'' fun σ2 H2 => wipe σ2 [1] = wipe (L2.start Nare_numbers [V.ref a]) [1] ∧ tYes σ2 H2 fun b H3 => if b = true then (tCall spIsInteger [] E0 (tCons (tVar 1) (tCons (tC (.int 0)) (tCons (tOp (rI0 fun i j => V.int (i - j)) (tCB (Lx.rLen K) (tCons (tVar 0) tNil)) (tC (.int 1))) tNil)))) σ2 H3 Yes else No H3 := by
      rintro i x H' H'' Yes No hi s ⟨rfl, hx⟩ hY hN
      rw [vI_len] at hi
      rw [vI_at hi] at hx
      cases hx
      have hB := s.sq hA
      have hm := h3 _ (List.getElem_mem hi)
      walk_at "s"
      refine ⟨rfl, ?_⟩
      walk_at "s"
      refine ⟨_, _, _, rfl, .inl ⟨_, rfl, ?_⟩⟩
      rw [decide_eq_true (by omega : (0 : Int) ≤ ns[i]), decide_eq_true (show ns[i] ≤ ((vI ns).length : Int) - 1 by rw [vI_len]; omega)]
      exact hY rfl _ (Same.refl _)
    have fin : ∀ (Dl : Addr) (H' : Hp), H1 Dl = none → Same H1 H' → H' Dl = some (.lst (giv (vI ns).length (fun _ => true) fun _ => .bl true)) → rAll K [V.ref Dl] H' Q := by
      intro Dl H' nD s hD
      refine ⟨Dl, List.replicate (vI ns).length true, rfl, lst_of (hD.trans ?_), ?_⟩
      · rw [giv_const, List.map_replicate]
      · rw [show (List.replicate (vI ns).length true).all id = true by simp]
        exact q _ (s1.trans s)
    rcases id hA with hL | hL
    · refine .inl ?_
      walk_at "s"
      refine ⟨a, rfl, ⟨_, lst_of hL⟩, fun Dl nD => lc_pure (src_list (xs := vI ns)) _ _ (by rw [vI_len]; omega) (fun H' s => lst_of (s _ _ hL)) turn nD fun H' s hD => ?_⟩
      exact fin Dl H' nD s hD
    · refine .inr ?_
      walk_at "s"
      refine ⟨a, rfl, ⟨_, tup_of hL⟩, fun Dl nD => lc_pure (src_tup (xs := vI ns)) _ _ (by rw [vI_len]; omega) (fun H' s => tup_of (s _ _ hL)) turn nD fun H' s hD => ?_⟩
      exact fin Dl H' nD s hD
end
/-- an order -/
structure IsOrd (ns : List Int) : Prop where
  pos : 1 ≤ ns.length
  top : ns.length ≤ 200
  rng : ∀ x ∈ ns, 0 ≤ x ∧ x < ns.length
  nd : ns.Nodup
def iota (n : Nat) : List Int := (List.range n).map fun i => ((i : Nat) : Int)
theorem iota_len (n : Nat) : (iota n).length = n := by unfold iota; rw [List.length_map, List.length_range]
theorem iota_rg (n : Nat) : rgV 0 (n : Int) = vI (iota n) := by
  unfold rgV vI iota
  rw [List.map_map, show ((n : Int) - 0).toNat = n by omega]
  exact List.map_congr_left fun i _ => by show V.int (0 + (i : Int)) = V.int ((i : Nat) : Int); rw [Int.zero_add]
theorem pw_of_sorted {l : List Int} (h : l.Pairwise (· ≤ ·)) (nd : l.Nodup) : l.Pairwise (· < ·) := by
  induction l with
  | nil => exact .nil
  | cons a r ih =>
    rw [List.pairwise_cons] at h ⊢
    rw [List.nodup_cons] at nd
    refine ⟨fun b hb => ?_, ih h.2 nd.2⟩
    have := h.1 b hb
    have ne : a ≠ b := fun e => nd.1 (e ▸ hb)
    omega
/-- ascending and all in 0 .. n - 1, n of them -/
theorem sorted_iota : ∀ (n : Nat) (lo : Int) (l : List Int), l.length = n → l.Pairwise (· < ·) → (∀ x ∈ l, lo ≤ x ∧ x < lo + n) → l = (List.range n).map fun i => lo + ((i : Nat) : Int)
  | 0, lo, l, hl, _, _ => by rw [List.length_eq_zero_iff.mp hl]; rfl
  | n + 1, lo, [], hl, _, _ => by cases hl
  | n + 1, lo, a :: r, hl, hp, hr => by
    rw [List.pairwise_cons] at hp
    have hlen : r.length = n := Nat.succ.inj hl
    have ha := hr a List.mem_cons_self
    -- a is the least: all above are greater, and there are n of them below lo + n + 1
    have key : ∀ (k : Nat) (b : Int) (q : List Int), q.length = k → q.Pairwise (· < ·) → (∀ x ∈ q, b < x) → ∀ hi, (∀ x ∈ q, x < hi) → q ≠ [] → b + k < hi := by
      intro k
      induction k with
      | zero => intro b q hq _ _ hi _ hne; exact absurd (List.length_eq_zero_iff.mp hq) hne
      | succ k ih =>
        intro b q hq hp hb hi hh hne
        cases q with
        | nil => exact absurd rfl hne
        | cons c t =>
          rw [List.pairwise_cons] at hp
          have hc := hb c List.mem_cons_self
          have hc2 := hh c List.mem_cons_self
          cases t with
          | nil =>
            have : k = 0 := (Nat.succ.inj hq).symm
            subst this
            omega
          | cons d t =>
            have := ih c (d :: t) (Nat.succ.inj hq) hp.2 hp.1 hi (fun x hx => hh x (List.mem_cons_of_mem _ hx)) (List.cons_ne_nil _ _)
            omega
    have ea : a = lo := by
      cases r with
      | nil =>
        have : n = 0 := hlen.symm
        subst this
        omega
      | cons d t =>
        have := key n a (d :: t) hlen hp.2 hp.1 (lo + ((n + 1 : Nat) : Int)) (fun x hx => (hr x (List.mem_cons_of_mem _ hx)).2) (List.cons_ne_nil _ _)
        omega
    subst ea
    have ih := sorted_iota n (a + 1) r hlen hp.2 fun x hx => by
      have h1 := hp.1 x hx
      have h2 := (hr x (List.mem_cons_of_mem _ hx)).2
      constructor <;> omega
    rw [ih, List.range_succ_eq_map, List.map_cons, List.map_map]
    congr 1
    · simp
    · refine List.map_congr_left fun i _ => ?_
      show a + 1 + (i : Int) = a + ((i + 1 : Nat) : Int)
      omega
theorem IsOrd.sorted {ns l : List Int} (h : IsOrd ns) (p : l.Perm ns) (s : l.Pairwise (· ≤ ·)) : l = iota ns.length := by
  have z := sorted_iota ns.length 0 l p.length_eq (pw_of_sorted s (p.nodup_iff.mpr h.nd)) fun x hx => by
    have := h.rng x (p.mem_iff.mp hx)
    constructor <;> omega
  rw [z]
  unfold iota
  refine List.map_congr_left fun i _ => ?_
  show 0 + (i : Int) = (i : Int)
  omega

abbrev Sis_parking : Stmt := topS 30
abbrev Nis_parking : List Str := ["value", "spot", "wish"]
theorem scis_parking : FnScope Nis_parking ["value"] (defScope Sis_parking) := ⟨rfl, rfl, rfl, by decide +kernel, rfl, by decide +kernel, by decide +kernel⟩
abbrev Scheck_wishes : Stmt := topS 31
abbrev Ncheck_wishes : List Str := ["wishes"]
theorem sccheck_wishes : FnScope Ncheck_wishes ["wishes"] (defScope Scheck_wishes) := ⟨rfl, rfl, rfl, by decide +kernel, rfl, by decide +kernel, by decide +kernel⟩
abbrev Sparked_on_ring : Stmt := topS 32
abbrev Nparked_on_ring : List Str := ["wishes", "size", "spots", "car", "wish", "spot"]
theorem scparked_on_ring : FnScope Nparked_on_ring ["wishes", "size"] (defScope Sparked_on_ring) := ⟨rfl, rfl, rfl, by decide +kernel, rfl, by decide +kernel, by decide +kernel⟩
abbrev Scars_parked : Stmt := topS 33
abbrev Ncars_parked : List Str := ["wishes"]
theorem sccars_parked : FnScope Ncars_parked ["wishes"] (defScope Scars_parked) := ⟨rfl, rfl, rfl, by decide +kernel, rfl, by decide +kernel, by decide +kernel⟩

/-- a parking function -/
structure IsPk (ws : List Int) : Prop where
  pos : 1 ≤ ws.length
  top : ws.length ≤ 200
  rng : ∀ x ∈ ws, 0 ≤ x ∧ x < ws.length
  low : ∀ so : List Int, so.Perm ws → so.Pairwise (· ≤ ·) → ∀ i, i < so.length → so.getD i 0 ≤ i
/-- the cars fs park with the wishes ws -/
structure Parks (ws fs : List Int) : Prop where
  len : ws.length = fs.length
  ord : IsOrd fs
  wish : ∀ p : Nat, p < fs.length → ∃ q : Nat, ws.getD (fs.getD p 0).toNat 0 = (q : Int) ∧ q ≤ p ∧ ∀ s : Nat, q ≤ s → s < p → fs.getD s 0 < fs.getD p 0
def spotV (i : Nat) (x : Int) : V := if x < i then .int x else .non
theorem rep_non (n : Nat) : (List.replicate n [V.non]).flatten = List.replicate n V.non := by
  induction n with
  | zero => rfl
  | succ n ih => rw [List.replicate_succ, List.flatten_cons, ih, List.replicate_succ]; rfl
theorem spot0 {fs : List Int} (h : ∀ x ∈ fs, 0 ≤ x) : List.replicate fs.length V.non = fs.map (spotV 0) := by
  refine (List.eq_replicate_iff.mpr ⟨List.length_map _, fun b hb => ?_⟩).symm
  obtain ⟨x, hx, rfl⟩ := List.mem_map.mp hb
  have := h x hx
  unfold spotV
  rw [if_neg (by omega)]
theorem spot_n {fs : List Int} {n : Nat} (h : ∀ x ∈ fs, x < n) : fs.map (spotV n) = vI fs := by
  refine List.map_congr_left fun x hx => ?_
  unfold spotV
  rw [if_pos (h x hx)]
theorem spot_set {fs : List Int} {i p : Nat} (hn : fs.Nodup) (hp : p < fs.length) (e : fs.getD p 0 = (i : Int)) : (fs.map (spotV i)).set p (.int (i : Int)) = fs.map (spotV (i + 1)) := by
  refine List.ext_getElem (by rw [List.length_set, List.length_map, List.length_map]) fun k h1 h2 => ?_
  rw [List.length_set, List.length_map] at h1
  rw [List.getElem_set, List.getElem_map, List.getElem_map]
  rw [getD_el hp] at e
  by_cases hk : p = k
  · subst hk
    rw [if_pos rfl, e]
    unfold spotV
    rw [if_pos (by omega)]
  · rw [if_neg hk]
    have ne : fs[k] ≠ (i : Int) := fun z => hk ((List.getElem_inj hn).mp (e.trans z.symm))
    unfold spotV
    by_cases hlt : fs[k] < (i : Int)
    · rw [if_pos hlt, if_pos (by omega)]
    · rw [if_neg hlt, if_neg (by omega)]
theorem ord_at {fs : List Int} (h : IsOrd fs) {i : Nat} (hi : i < fs.length) : ∃ p : Nat, p < fs.length ∧ fs.getD p 0 = (i : Int) := by
  have hs : (i : Int) ∈ fs := by
    have hp := List.mergeSort_perm fs fun a b => decide (a ≤ b)
    have hw : (fs.mergeSort fun a b => decide (a ≤ b)).Pairwise (· ≤ ·) := by
      have := List.pairwise_mergeSort (le := fun (a b : Int) => decide (a ≤ b)) (fun a b c h1 h2 => by
        have := of_decide_eq_true h1
        have := of_decide_eq_true h2
        exact decide_eq_true (by omega)) (fun a b => by
        rcases Int.le_total a b with h | h
        · simp [h]
        · simp [h]) fs
      exact this.imp fun h => of_decide_eq_true h
    have e := h.sorted hp hw
    refine hp.mem_iff.mp ?_
    rw [e]
    exact List.mem_map.mpr ⟨i, List.mem_range.mpr hi, rfl⟩
  obtain ⟨p, hp⟩ := List.getElem?_of_mem hs
  obtain ⟨hl, e⟩ := List.getElem?_eq_some_iff.mp hp
  exact ⟨p, hl, by rw [getD_el hl]; exact e⟩
section
variable {P : Program} {w : World} {K : PySem.W.Frag} {mg : Str → Option Value} {base : Heap}
def spIsParkT : Sp := fun vs H Q _ => ∃ (a : Addr) (ws : List Int), vs = [.ref a] ∧ H a = some (.lst (vI ws)) ∧ IsPk ws ∧ ∀ H', Same H H' → Q (.bl true) H'
theorem ok_is_parking {f : Addr} {fd : FuncData} (B : Bn mg) (D_are_numbers : Df P w K mg base 2 "are_numbers" [] spAreNumbers) (F : Fun K "is_parking" "is_parking" Sis_parking f fd) : FnG P w K mg base 3 f fd ["value"] spIsParkT := by
  refine gok F scis_parking (fun vs H Q E h => ?_) (fun cdv A fs s H vs Q E hG hr h => ?_)
  · obtain ⟨_, _, rfl, _⟩ := h; rfl
  · obtain ⟨a, ws, rfl, hA, hP, q⟩ := h
    have hu := hr.units
    have tl := hP.top
    refine ⟨_, (pss_one (ps_ret (pe_and (pe_df D_are_numbers hG (hr.mono (by first | decide | omega)) passL (by rfl) (pa_cons (pv 0) pa_nil)) (pe_one (pe_callB (k_all K) (by rfl) B.all Ball (pa_cons (pe_lc (own := [("spot", 1), ("wish", 2)]) rfl scis_parking.nd (k_enum K (by rfl) B.enumerate (pa_cons (pe_callB (k_sorted K) (by rfl) B.sorted Bsorted (pa_cons (pv 0) pa_nil)) pa_nil)) (blkOk_by (own := [("spot", 1), ("wish", 2)]) (N := Nis_parking) (sc := defScope Sis_parking) (by decide +kernel)) (fun _ _ _ _ _ => (k_gtup (n := 2) K rfl (pgs_cons (pg_name (i := 1) scis_parking.nd rfl (Or.inl rfl)) (pgs_cons (pg_name (i := 2) scis_parking.nd rfl (Or.inl rfl)) pgs_nil)))) (fun _ _ _ _ _ => pts_nil) (fun _ _ _ _ _ => (pe_cmpR op_le (pv 2) (pv 1) (nomark _)))) pa_nil)))))), ?_⟩
    walk_at "s"
    refine ⟨a, ws, rfl, .inl hA, hP.pos, hP.top, hP.rng, fun H1 s1 => ?_⟩
    have hA1 := s1 _ _ hA
    walk_at "s"
    refine r_sortI (lst_of hA1) fun so p1 hso hup np1 => ?_
    have s2 := same_new (o := .lst (vI so)) np1
    have hp1 : upd H1 p1 (.lst (vI so)) p1 = some (.lst (vI so)) := upd_same
    generalize upd H1 p1 _ = H2 at *
    have lso : so.length = ws.length := hso.length_eq
    have low := hP.low so hso hup
    walk_at "s"
    refine ⟨p1, _, rfl, lst_of hp1, fun Dl nD => ?_⟩
    refine lc_pure (src_enum (xs := vI so)) (fun _ => true) (fun _ => .bl true) (by rw [vI_len]; omega) (fun H' s' => lst_of (s' _ _ hp1)) ?_ nD fun H3 s3 hD => ?_
    · rintro j v H4 H5 Yes No hj s4 ⟨T, x, rfl, nT, rfl, hx⟩ hY hN
      rw [vI_len] at hj
      rw [vI_getD hj] at hx
      cases hx
      have hlow := low j hj
      have sT := same_new (o := .tup [.int ((j : Nat) : Int), .int (so.getD j 0)]) nT
      have hT : upd H4 T (.tup [.int ((j : Nat) : Int), .int (so.getD j 0)]) T = some (.tup [.int ((j : Nat) : Int), .int (so.getD j 0)]) := upd_same
      generalize upd H4 T _ = H6 at *
      walk_at "s"
      refine ⟨rfl, ?_⟩
      walk_at "s"
      rw [decide_eq_true hlow]
      exact hY rfl _ sT
    · walk_at "s"
      refine ⟨Dl, List.replicate (vI so).length true, rfl, lst_of (hD.trans ?_), ?_⟩
      · rw [giv_const, List.map_replicate]
      · rw [show (List.replicate (vI so).length true).all id = true by simp]
        walk_at "s"
        exact q _ ((s1.trans s2).trans s3)
def spCheckW : Sp := fun vs H Q _ => ∃ (a : Addr) (ws : List Int), vs = [.ref a] ∧ H a = some (.lst (vI ws)) ∧ IsPk ws ∧ ∀ H', Same H H' → Q .non H'
theorem ok_check_wishes {f : Addr} {fd : FuncData} (D_is_parking : Df P w K mg base 3 "is_parking" [] spIsParkT) (F : Fun K "check_wishes" "check_wishes" Scheck_wishes f fd) : FnG P w K mg base 4 f fd ["wishes"] spCheckW := by
  refine gok F sccheck_wishes (fun vs H Q E h => ?_) (fun cdv A fs s H vs Q E hG hr h => ?_)
  · obtain ⟨_, _, rfl, _⟩ := h; rfl
  · obtain ⟨a, ws, rfl, hA, hP, q⟩ := h
    have hu := hr.units
    refine ⟨_, (pss_one (ps_if (pt_not (pt_val (pe_df D_is_parking hG (hr.mono (by first | decide | omega)) passL (by rfl) (pa_cons (pv 0) pa_nil)))) (pss_one ps_never) pss_nil)), ?_⟩
    walk_at "s"
    refine ⟨a, ws, rfl, hA, hP, fun H1 s1 => ?_⟩
    walk_at "s"
    exact q _ s1
def spRing : Sp := fun vs H Q _ => ∃ (a : Addr) (ws fs : List Int), vs = [.ref a, .int (ws.length : Nat)] ∧ H a = some (.lst (vI ws)) ∧ Parks ws fs ∧ ∀ H' p, Same H H' → H p = none → H' p = some (.lst (vI fs)) → Q (.ref p) H'
theorem ok_parked_on_ring {f : Addr} {fd : FuncData} {k : Nat} (B : Bn mg) (F : Fun K "parked_on_ring" "parked_on_ring" Sparked_on_ring f fd) : FnG P w K mg base (k + 1) f fd ["wishes", "size"] spRing := by
  refine gok F scparked_on_ring (fun vs H Q E h => ?_) (fun cdv A fs s H vs Q E hG hr h => ?_)
  · obtain ⟨_, _, _, rfl, _⟩ := h; rfl
  · obtain ⟨a, ws, fl, rfl, hA, hP, q⟩ := h
    have hu := hr.units
    have tl := hP.ord.top
    have lw := hP.len
    have hr0 : ∀ x ∈ fl, 0 ≤ x := fun x hx => (hP.ord.rng x hx).1
    refine ⟨_, (pss_cons (ps_set (i := 2) scparked_on_ring.nd rfl (Or.inl rfl) (pe_op op_rep (pe_lst (pa_cons pe_non pa_nil)) (pv 1))) (pss_cons (ps_for (passes_of rfl) rfl (k_enum K (by rfl) B.enumerate (pa_cons (pv 0) pa_nil)) (k_gtup (n := 2) K rfl (pgs_cons (pg_name (i := 3) scparked_on_ring.nd rfl (Or.inl rfl)) (pgs_cons (pg_name (i := 4) scparked_on_ring.nd rfl (Or.inl rfl)) pgs_nil))) (pss_cons (ps_set (i := 5) scparked_on_ring.nd rfl (Or.inl rfl) (pv 4)) (pss_cons (ps_while (passes_of rfl) (pt_cmpR op_notN' (pe_ix (k_ixL K) (pv 2) (pv 5) (fun _ _ => rfl)) pe_non (nomark _)) (pss_one (ps_set (i := 5) scparked_on_ring.nd rfl (Or.inl rfl) (pe_op op_mod (pe_op op_add (pv 5) pe_int) (pv 1))))) (pss_one (ps_asg (pv 3) (pg_sub (pv 2) (pv 5) set_list)))))) (pss_one (ps_ret (pv 2))))), ?_⟩
    walk_at "s"
    intro p0 np0
    walk_at "s"
    refine r_rep upd_same (by show 1 * _ ≤ 100000; omega) (by omega) fun sp nsp => ?_
    rw [rep_non, lw, spot0 hr0]
    have s1 := (same_new (o := .lst [V.non]) np0).trans (same_new (o := .lst (fl.map (spotV 0))) nsp)
    have hsp : upd (upd H p0 (.lst [V.non])) sp (.lst (fl.map (spotV 0))) sp = some (.lst (fl.map (spotV 0))) := upd_same
    have hA1 := s1 _ _ hA
    have nsp0 := (same_new (o := .lst [V.non]) np0).free nsp
    have nas : a ≠ sp := ne_new nsp ((same_new (o := .lst [V.non]) np0) _ _ hA)
    generalize upd (upd H p0 _) sp _ = H1 at *
    walk_at "s"
    refine ⟨a, _, rfl, lst_of hA1, ?_⟩
    refine for_src (src_enum (xs := vI ws)) (fun i σ H' => ∃ v3 v4 v5, σ = [some (.ref a), some (.int (ws.length : Nat)), some (.ref sp), v3, v4, v5] ∧ Same H H' ∧ H' sp = some (.lst (fl.map (spotV i)))) (fun i σ H' h => by obtain ⟨_, _, _, _, s, _⟩ := h; exact lst_of (s _ _ hA)) ⟨none, none, none, by rw [lw]; rfl, s1, hsp⟩ ?_ ?_
    · rintro i v σ H2 H2' hi ⟨v3, v4, v5, rfl, s2, hs2⟩ ⟨T, x, rfl, nT, rfl, hx⟩
      rw [vI_len] at hi
      rw [vI_getD hi] at hx
      cases hx
      have sT := same_new (o := .tup [.int ((i : Nat) : Int), .int (ws.getD i 0)]) nT
      have hT : upd H2 T (.tup [.int ((i : Nat) : Int), .int (ws.getD i 0)]) T = some (.tup [.int ((i : Nat) : Int), .int (ws.getD i 0)]) := upd_same
      have hs3 := sT _ _ hs2
      have s3 := s2.trans sT
      generalize upd H2 T _ = H3 at *
      obtain ⟨p, hp, ep⟩ := ord_at hP.ord (show i < fl.length by omega)
      obtain ⟨wq, e1, e2, e3⟩ := hP.wish p hp
      rw [ep, Int.toNat_natCast] at e1
      rw [ep] at e3
      rw [e1] at hT
      walk_at "s"
      refine ⟨fun m σ H' => ∃ st : Nat, p - st = m ∧ σ = [some (.ref a), some (.int (ws.length : Nat)), some (.ref sp), some (.int ((i : Nat) : Int)), some (.int ((wq : Nat) : Int)), some (.int ((st : Nat) : Int))] ∧ Same H H' ∧ H' sp = some (.lst (fl.map (spotV i))) ∧ wq ≤ st ∧ st ≤ p, ⟨_, wq, rfl, rfl, s3, hs3, Nat.le_refl _, e2⟩, ?_⟩
      rintro m σ H5 ⟨st, rfl, rfl, s5, hs5, st1, st2⟩
      have eat : atI (fl.map (spotV i)) ((st : Nat) : Int) = some (spotV i (fl.getD st 0)) := by
        refine atI_ok (by omega) ?_
        rw [Int.toNat_natCast, List.getElem?_map, List.getElem?_eq_getElem (show st < fl.length by omega), getD_el (show st < fl.length by omega)]
        rfl
      by_cases hst : st < p
      · have h1 := e3 st st1 hst
        have ev : spotV i (fl.getD st 0) = .int (fl.getD st 0) := by unfold spotV; rw [if_pos h1]
        rw [ev] at eat
        walk_at "s"
        refine r_wN (I := (fun m σ H' => ∃ st : Nat, p - st = m ∧ σ = [some (.ref a), some (.int (ws.length : Nat)), some (.ref sp), some (.int ((i : Nat) : Int)), some (.int ((wq : Nat) : Int)), some (.int ((st : Nat) : Int))] ∧ Same H H' ∧ H' sp = some (.lst (fl.map (spotV i))) ∧ wq ≤ st ∧ st ≤ p)) ?_
        walk_at "s"
        rw [Int.emod_eq_of_lt (by omega) (by omega), show (st : Int) + 1 = ((st + 1 : Nat) : Int) by omega]
        exact ⟨p - (st + 1), by omega, st + 1, rfl, rfl, s5, hs5, by omega, by omega⟩
      · have hst : st = p := by omega
        subst hst
        have ev : spotV i (fl.getD st 0) = .non := by unfold spotV; rw [if_neg (by omega)]
        rw [ev] at eat
        walk_at "s"
        refine r_setL hs5 (n := st) (by rw [List.length_map]; exact ixN_ok (by omega) (by omega)) ?_
        refine ⟨_, _, _, rfl, same_set s5 nsp0, ?_⟩
        rw [upd_same, spot_set hP.ord.nd (by omega) ep]
    · rintro σ H2 ⟨v3, v4, v5, rfl, s2, hs2⟩
      rw [vI_len, spot_n (fun x hx => by have := (hP.ord.rng x hx).2; omega)] at hs2
      walk_at "s"
      exact q _ _ s2 nsp0 hs2
def spCars : Sp := fun vs H Q _ => ∃ (a : Addr) (ws fs : List Int), vs = [.ref a] ∧ H a = some (.lst (vI ws)) ∧ IsPk ws ∧ Parks ws fs ∧ ∀ H' p, Same H H' → H p = none → H' p = some (.lst (vI fs)) → Q (.ref p) H'
theorem ok_cars_parked {f : Addr} {fd : FuncData} (B : Bn mg) (D_check_wishes : Df P w K mg base 4 "check_wishes" [] spCheckW) (D_parked_on_ring : Df P w K mg base 1 "parked_on_ring" [] spRing) (F : Fun K "cars_parked" "cars_parked" Scars_parked f fd) : FnG P w K mg base 5 f fd ["wishes"] spCars := by
  refine gok F sccars_parked (fun vs H Q E h => ?_) (fun cdv A fs s H vs Q E hG hr h => ?_)
  · obtain ⟨_, _, _, rfl, _⟩ := h; rfl
  · obtain ⟨a, ws, fl, rfl, hA, hP, hPk, q⟩ := h
    have hu := hr.units
    have tl := hP.top
    refine ⟨_, (pss_cons (ps_expr (pe_df D_check_wishes hG (hr.mono (by first | decide | omega)) passL (by rfl) (pa_cons (pv 0) pa_nil))) (pss_one (ps_ret (pe_df D_parked_on_ring hG (hr.mono (by first | decide | omega)) passL (by rfl) (pa_cons (pv 0) (pa_cons (pe_callB (k_len K) (by rfl) B.len Blen (pa_cons (pv 0) pa_nil)) pa_nil)))))), ?_⟩
    walk_at "s"
    refine ⟨a, ws, rfl, hA, hP, fun H1 s1 => ?_⟩
    have hA1 := s1 _ _ hA
    walk_at "s"
    rw [vI_len]
    refine ⟨a, ws, fl, rfl, hA1, hPk, fun H2 p s2 np hp => ?_⟩
    exact q _ _ (s1.trans s2) (s1.free np) hp
end

namespace Lx
open PySem PySem.Spec PyProof.Rows L2
/-! ### zip of three: a list or a tuple, and two lists -/
def Itz3L (K : PySem.W.Frag) (a b c : Addr) : It :=
  ⟨fun i H => ∃ (xs ys zs : List V) (x y z : V), SqL K H a xs ∧ SqL K H b ys ∧ SqL K H c zs ∧ xs[i]? = some x ∧ ys[i]? = some y ∧ zs[i]? = some z,
    fun i H v H' => ∃ T x y z, v = .ref T ∧ H T = none ∧ H' = upd H T (.tup [x, y, z]) ∧ (∀ xs, SqL K H a xs → xs[i]? = some x) ∧ (∀ ys, SqL K H b ys → ys[i]? = some y) ∧ ∀ zs, SqL K H c zs → zs[i]? = some z,
    fun i H => ∃ xs ys zs : List V, SqL K H a xs ∧ SqL K H b ys ∧ SqL K H c zs ∧ (xs.length = i ∨ ys.length = i ∨ zs.length = i) ∧ i ≤ xs.length ∧ i ≤ ys.length ∧ i ≤ zs.length⟩
theorem turn_zip3L {P : Program} {w : World} {K : PySem.W.Frag} {elts : List Expr} {kk : Nat} {tpos : Pos} {N a b c : Addr} (la : a < N) (lb : b < N) (lc : c < N) :
    Turn P w K (.Tuple elts kk tpos) (Itz3L K a b c) [N + 5, N + 3, N + 4, N, N + 1, N + 2] (N + 5) (fun i h => IsZip h (N + 5) (N + 3) (N + 4) .none ∧ IsTupOf3 h (N + 3) (.ref N) (.ref (N + 1)) (.ref (N + 2)) ∧ (∃ x y z, IsTupOf3 h (N + 4) x y z) ∧ h.IsListIter N a i ∧ h.IsListIter (N + 1) b i ∧ h.IsListIter (N + 2) c i) where
  mem := by simp
  obj := fun i h st e hc => by
    obtain ⟨hz, hTI, ⟨x, y, z, hTO⟩, ⟨o1, e1, _, d1⟩, ⟨o2, e2, _, d2⟩, ⟨o3, e3, _, d3⟩⟩ := st
    have e' : e = N + 5 ∨ e = N + 3 ∨ e = N + 4 ∨ e = N ∨ e = N + 1 ∨ e = N + 2 := by simpa using hc
    rcases e' with q | q | q | q | q | q
    · rw [q]; exact ⟨_, hz, fun v q => nomatch q⟩
    · rw [q]; exact ⟨_, hTI, fun v q => nomatch q⟩
    · rw [q]; exact ⟨_, hTO, fun v q => nomatch q⟩
    · rw [q]; exact ⟨o1, e1, fun v q => by rw [d1] at q; cases q⟩
    · rw [q]; exact ⟨o2, e2, fun v q => by rw [d2] at q; cases q⟩
    · rw [q]; exact ⟨o3, e3, fun v q => by rw [d3] at q; cases q⟩
  keep := fun i h h' st k => by
    obtain ⟨hz, hTI, ⟨x, y, z, hTO⟩, h1, h2, h3⟩ := st
    exact ⟨k _ (by simp) _ hz, k _ (by simp) _ hTI, ⟨x, y, z, k _ (by simp) _ hTO⟩, h1.at fun o q => k _ (by simp) o q, h2.at fun o q => k _ (by simp) o q, h3.at fun o q => k _ (by simp) o q⟩
  item := by
    intro X hP hw hK hc i pins s σ H E I hf st hg
    subst hP hw hK
    obtain ⟨hz, hTI, ⟨x0, y0, z0, hTO⟩, h1, h2, h3⟩ := st
    obtain ⟨xs, ys, zs, x, y, z, hqx, hqy, hqz, hx, hy, hzz⟩ := hg
    obtain ⟨its, rv, p, _⟩ := I.list hqx
    obtain ⟨its2, rv2, p2, _⟩ := I.list hqy
    obtain ⟨its3, rv3, p3, _⟩ := I.list hqz
    obtain ⟨u, hu, ru⟩ := rv.get hx
    obtain ⟨u2, hu2, ru2⟩ := rv2.get hy
    obtain ⟨u3, hu3, ru3⟩ := rv3.get hzz
    have hh := I.ok.hd hc
    have D1 := Draws.list (prog := X.prog) (w := X.w) (A := X.A.in1) hh N a (Nat.ne_of_lt la) its.toArray
    have D2 := Draws.list (prog := X.prog) (w := X.w) (A := X.A.in1) hh (N + 1) b (Nat.ne_of_lt (Nat.lt_succ_of_lt lb)) its2.toArray
    have D3 := Draws.list (prog := X.prog) (w := X.w) (A := X.A.in1) hh (N + 2) c (Nat.ne_of_lt (Nat.lt_succ_of_lt (Nat.lt_succ_of_lt lc))) its3.toArray
    have S := zip_sep3 (N := N) (fp1 := [a]) (fp2 := [b]) (fp3 := [c]) (fun d hd => by rw [List.mem_singleton.mp hd]; exact la) (fun d hd => by rw [List.mem_singleton.mp hd]; exact lb) (fun d hd => by rw [List.mem_singleton.mp hd]; exact lc)
    have n1 : i < its.toArray.size := by rw [List.size_toArray]; exact (List.getElem?_eq_some_iff.mp hu).1
    have n2 : i < its2.toArray.size := by rw [List.size_toArray]; exact (List.getElem?_eq_some_iff.mp hu2).1
    have n3 : i < its3.toArray.size := by rw [List.size_toArray]; exact (List.getElem?_eq_some_iff.mp hu3).1
    refine wpAny_pyNext_zipD3_item S D1 D2 D3 hz hTI hTO ⟨h1, p.isList⟩ ⟨h2, p2.isList⟩ ⟨h3, p3.isList⟩ n1 n2 n3 fun v1 v2 v3 h' tk pv1 pv2 pv3 z' TO' st1 st2 st3 hT hsz hk => ?_
    have e1 : v1 = u := by
      have z : its[i]? = some v1 := by simpa using pv1
      rw [hu] at z; exact (Option.some.inj z).symm
    have e2 : v2 = u2 := by
      have z : its2[i]? = some v2 := by simpa using pv2
      rw [hu2] at z; exact (Option.some.inj z).symm
    have e3 : v3 = u3 := by
      have z : its3[i]? = some v3 := by simpa using pv3
      rw [hu3] at z; exact (Option.some.inj z).symm
    subst e1 e2 e3
    have hzl : N + 5 < s.heap.objs.size := Heap.lt_size hz
    refine ⟨_, rfl, wpAny_letOwnedTupleGo_zip (s := { s with heap := h', toks := tk }) z' fun h'' z'' sb => ?_⟩
    have hT2 : h''.get? s.heap.objs.size = some { cls := .type "tuple", data := .seq #[v1, v2, v3] } := (sb.2 _ (Nat.ne_of_gt hzl)).trans hT
    have new : ObjOk X.prog X.w (upd H s.heap.objs.size (.tup [x, y, z])) h'' s.heap.objs.size (.tup [x, y, z]) :=
      ⟨by show 3 ≤ sizeLine; decide, [v1, v2, v3], .cons ru (.cons ru2 (.cons ru3 .nil)), ⟨_, hT2, rfl, _, rfl⟩⟩
    have I1 : Inv X pins σ (upd H s.heap.objs.size (.tup [x, y, z])) { s with heap := h'', toks := tk } :=
      I.turnedNew (t' := tk) (ch := [N + 5, N + 3, N + 4, N, N + 1, N + 2]) (fun d o hb q => (sb.2 d (fun q' => hb (by simp [q']))).trans (hk d o (fun q' => hb (by simp [q'])) (fun q' => hb (by simp [q'])) (fun q' => hb (by simp [q'])) (fun q' => hb (by simp [q'])) (fun q' => hb (by simp [q'])) q)) hf (Nat.le_refl _) new
    refine ⟨.ref s.heap.objs.size, _, I1, rfl, ⟨_, x, y, z, rfl, I.hok.fresh (Nat.le_refl _), rfl, fun l hl => by rw [I.list_inj hl hqx]; exact hx, fun l hl => by rw [I.list_inj hl hqy]; exact hy, fun l hl => by rw [I.list_inj hl hqz]; exact hzz⟩, ⟨z'', ?_, ⟨v1, v2, v3, ?_⟩, ?_, ?_, ?_⟩, fun d hcm => ?_⟩
    · exact (sb.2 _ S.TIz).trans (hk _ _ S.TIz S.TITO S.TIi1 S.TIi2 S.TIi3 hTI)
    · exact (sb.2 _ S.TOz).trans TO'
    · exact st1.1.at fun o q => (sb.2 _ (Ne.symm S.zi1)).trans q
    · exact st2.1.at fun o q => (sb.2 _ (Ne.symm S.zi2)).trans q
    · exact st3.1.at fun o q => (sb.2 _ (Ne.symm S.zi3)).trans q
    · have hlt : d < s.heap.objs.size := by
        have e' : d = N + 5 ∨ d = N + 3 ∨ d = N + 4 ∨ d = N ∨ d = N + 1 ∨ d = N + 2 := by simpa using hcm
        have key : ∀ {m k : Nat}, m < k → d ≤ m → d < k := fun h1 h2 => Nat.lt_of_le_of_lt h2 h1
        refine key hzl ?_
        rcases e' with q | q | q | q | q | q
        · rw [q]; exact Nat.le_refl _
        · rw [q]; exact Nat.add_le_add_left (by decide) N
        · rw [q]; exact Nat.add_le_add_left (by decide) N
        · rw [q]; exact Nat.le_add_right N 5
        · rw [q]; exact Nat.add_le_add_left (by decide) N
        · rw [q]; exact Nat.add_le_add_left (by decide) N
      rw [upd_ne (Nat.ne_of_lt hlt)]
      exact (hf d hcm).1
  done := by
    intro X hP hw hK hc i pins s σ H E I hf st hg
    subst hP hw hK
    obtain ⟨hz, hTI, ⟨x0, y0, z0, hTO⟩, h1, h2, h3⟩ := st
    obtain ⟨xs, ys, zs, hqx, hqy, hqz, hend, le1, le2, le3⟩ := hg
    obtain ⟨its, rv, p, _⟩ := I.list hqx
    obtain ⟨its2, rv2, p2, _⟩ := I.list hqy
    obtain ⟨its3, rv3, p3, _⟩ := I.list hqz
    have l1 := rv.length
    have l2 := rv2.length
    have l3 := rv3.length
    have hh := I.ok.hd hc
    have D1 := Draws.list (prog := X.prog) (w := X.w) (A := X.A.in1) hh N a (Nat.ne_of_lt la) its.toArray
    have D2 := Draws.list (prog := X.prog) (w := X.w) (A := X.A.in1) hh (N + 1) b (Nat.ne_of_lt (Nat.lt_succ_of_lt lb)) its2.toArray
    have D3 := Draws.list (prog := X.prog) (w := X.w) (A := X.A.in1) hh (N + 2) c (Nat.ne_of_lt (Nat.lt_succ_of_lt (Nat.lt_succ_of_lt lc))) its3.toArray
    have S := zip_sep3 (N := N) (fp1 := [a]) (fp2 := [b]) (fp3 := [c]) (fun d hd => by rw [List.mem_singleton.mp hd]; exact la) (fun d hd => by rw [List.mem_singleton.mp hd]; exact lb) (fun d hd => by rw [List.mem_singleton.mp hd]; exact lc)
    have z1 : its.toArray.size = xs.length := by rw [List.size_toArray]; exact l1.symm
    have z2 : its2.toArray.size = ys.length := by rw [List.size_toArray]; exact l2.symm
    have z3 : its3.toArray.size = zs.length := by rw [List.size_toArray]; exact l3.symm
    refine wpAny_pyNext_zipD3_end S D1 D2 D3 hz hTI hTO ⟨h1, p.isList⟩ ⟨h2, p2.isList⟩ ⟨h3, p3.isList⟩ (by rw [z1]; exact le1) (by rw [z2]; exact le2) (by rw [z3]; exact le3) (by rw [z1, z2, z3]; exact hend.imp Eq.symm fun h => h.imp Eq.symm Eq.symm) fun h' tk hk => ⟨rfl, I.turnedL (t' := tk) (ch := [N + 5, N + 3, N + 4, N, N + 1, N + 2]) (fun d o hb q =>
      hk d o (fun q' => hb (by simp [q'])) (fun q' => hb (by simp [q'])) (fun q' => hb (by simp [q'])) (fun q' => hb (by simp [q'])) (fun q' => hb (by simp [q'])) q) hf⟩
  self := fun A i s Q E st h => wpAny_pyIter_zip st.1 h
def iZip3L (K : PySem.W.Frag) (ta : TA) : TI := fun σ H R => ta σ H fun vs H1 => ∃ a b c xs ys zs, vs = [.ref a, .ref b, .ref c] ∧ SqL K H1 a xs ∧ SqL K H1 b ys ∧ SqL K H1 c zs ∧ R (Itz3L K a b c) H1
theorem pi_zip3L (K : PySem.W.Frag) {X : Cx} {e e2 e3 : Expr} {ta : TA} {p pos tpos : Pos} {elts : List Expr} {kk : Nat} (hg : Gl X "zip") (hm : X.mg "zip" = none) (ha : PA X [e, e2, e3] ta)
    (hs : starEach [e, e2, e3] X.env = (false, eval e X.env) :: starEach [e2, e3] X.env := by rfl) (hpl : (backTo pos (starEach [e2, e3] X.env)).any (·.1) = false := by rfl) (hK : X.K = K := by rfl) :
    PI X (.Tuple elts kk tpos) (.Call (.Name "zip" p) [e, e2, e3] [] pos) (iZip3L K ta) := by
  subst hK
  refine ⟨fun pins s σ H R I h => ?_⟩
  refine Call_ (ld_blt I hg hm PyProof.Rows.boot_zip (PyProof.Rows.callWith_type1 (thn (ha.run pos pins s σ H _ I h) fun us s1 ⟨vs, H1, I1, r1, q1⟩ => ?_) hs hpl))
  obtain ⟨a, b, c, xs, ys, zs, ex, hqx, hqy, hqz, q⟩ := q1
  subst ex
  cases r1 with
  | cons r rr =>
    cases rr with
    | cons r' rr =>
      cases rr with
      | cons r'' rr =>
      cases rr
      cases r
      cases r'
      cases r''
      obtain ⟨its, rv, p1, _⟩ := I1.list hqx
      obtain ⟨its2, rv2, p2, _⟩ := I1.list hqy
      obtain ⟨its3, rv3, p3, _⟩ := I1.list hqz
      have la : a < s1.heap.objs.size := p1.lt
      have lb := p2.lt
      have lc := p3.lt
      refine PySem.zip_begins3 (begins_list a its.toArray) (begins_list b its2.toArray) (begins_list c its3.toArray) p1.isList p2.isList p3.isList fun h' hz hTI hTO h1 h2 h3 hsz hk => wpAny_pyIter_zip hz ?_
      have I2 : Inv X pins σ H1 { s1 with heap := h' } := I1.kept (t' := s1.toks) hk
      have fresh5 : ∀ d, d ∈ [s1.heap.objs.size + 5, s1.heap.objs.size + 3, s1.heap.objs.size + 4, s1.heap.objs.size, s1.heap.objs.size + 1, s1.heap.objs.size + 2] → FpOk X pins H1 d := fun d hcm => by
        have e' : d = s1.heap.objs.size + 5 ∨ d = s1.heap.objs.size + 3 ∨ d = s1.heap.objs.size + 4 ∨ d = s1.heap.objs.size ∨ d = s1.heap.objs.size + 1 ∨ d = s1.heap.objs.size + 2 := by simpa using hcm
        have hle : s1.heap.objs.size ≤ d := by
          rcases e' with z | z | z | z | z | z
          · rw [z]; exact Nat.le_add_right _ _
          · rw [z]; exact Nat.le_add_right _ _
          · rw [z]; exact Nat.le_add_right _ _
          · rw [z]; exact Nat.le_refl _
          · rw [z]; exact Nat.le_add_right _ _
          · rw [z]; exact Nat.le_add_right _ _
        exact I1.fpOk hle (I1.hok.fresh hle)
      exact ⟨s1.heap.objs.size + 5, _, _, _, H1, rfl, I2, turn_zip3L la lb lc, ⟨hz, hTI, ⟨_, _, _, hTO⟩, ⟨_, h1, rfl, rfl⟩, ⟨_, h2, rfl, rfl⟩, ⟨_, h3, rfl, rfl⟩⟩, fresh5, q⟩
theorem src_zip3L {K : PySem.W.Frag} {a b c : Addr} {xs ys zs : List V} (h2 : ys.length = xs.length) (h3 : zs.length = xs.length) : Src (Itz3L K a b c) xs.length (fun H => SqL K H a xs ∧ SqL K H b ys ∧ SqL K H c zs) (fun i v H H' => ∃ T x y z, v = .ref T ∧ H T = none ∧ H' = upd H T (.tup [x, y, z]) ∧ xs[i]? = some x ∧ ys[i]? = some y ∧ zs[i]? = some z) where
  go := fun i H h hi => ⟨xs, ys, zs, _, _, _, h.1, h.2.1, h.2.2, List.getElem?_eq_getElem hi, List.getElem?_eq_getElem (by omega), List.getElem?_eq_getElem (by omega)⟩
  stop := fun H h => ⟨xs, ys, zs, h.1, h.2.1, h.2.2, .inl rfl, Nat.le_refl _, by omega, by omega⟩
  yld := fun i H v H' h hi y => by
    obtain ⟨T, x, y, z, rfl, nT, rfl, f1, f2, f3⟩ := y
    exact ⟨T, x, y, z, rfl, nT, rfl, f1 xs h.1, f2 ys h.2.1, f3 zs h.2.2⟩
theorem r_iZip3L {K : PySem.W.Frag} {ta : TA} {σ : L2.St} {H : Hp} {R : It → Hp → Prop} (h : ta σ H fun vs H1 => ∃ a b c xs ys zs, vs = [.ref a, .ref b, .ref c] ∧ SqL K H1 a xs ∧ SqL K H1 b ys ∧ SqL K H1 c zs ∧ R (Itz3L K a b c) H1) : iZip3L K ta σ H R := h
def Itz3T (K : PySem.W.Frag) (a b c : Addr) : It :=
  ⟨fun i H => ∃ (xs ys zs : List V) (x y z : V), SqT K H a xs ∧ SqL K H b ys ∧ SqL K H c zs ∧ xs[i]? = some x ∧ ys[i]? = some y ∧ zs[i]? = some z,
    fun i H v H' => ∃ T x y z, v = .ref T ∧ H T = none ∧ H' = upd H T (.tup [x, y, z]) ∧ (∀ xs, SqT K H a xs → xs[i]? = some x) ∧ (∀ ys, SqL K H b ys → ys[i]? = some y) ∧ ∀ zs, SqL K H c zs → zs[i]? = some z,
    fun i H => ∃ xs ys zs : List V, SqT K H a xs ∧ SqL K H b ys ∧ SqL K H c zs ∧ (xs.length = i ∨ ys.length = i ∨ zs.length = i) ∧ i ≤ xs.length ∧ i ≤ ys.length ∧ i ≤ zs.length⟩
theorem turn_zip3T {P : Program} {w : World} {K : PySem.W.Frag} {elts : List Expr} {kk : Nat} {tpos : Pos} {N a b c : Addr} (la : a < N) (lb : b < N) (lc : c < N) :
    Turn P w K (.Tuple elts kk tpos) (Itz3T K a b c) [N + 5, N + 3, N + 4, N, N + 1, N + 2] (N + 5) (fun i h => IsZip h (N + 5) (N + 3) (N + 4) .none ∧ IsTupOf3 h (N + 3) (.ref N) (.ref (N + 1)) (.ref (N + 2)) ∧ (∃ x y z, IsTupOf3 h (N + 4) x y z) ∧ h.IsTupleIter N a i ∧ h.IsListIter (N + 1) b i ∧ h.IsListIter (N + 2) c i) where
  mem := by simp
  obj := fun i h st e hc => by
    obtain ⟨hz, hTI, ⟨x, y, z, hTO⟩, ⟨o1, e1, _, d1⟩, ⟨o2, e2, _, d2⟩, ⟨o3, e3, _, d3⟩⟩ := st
    have e' : e = N + 5 ∨ e = N + 3 ∨ e = N + 4 ∨ e = N ∨ e = N + 1 ∨ e = N + 2 := by simpa using hc
    rcases e' with q | q | q | q | q | q
    · rw [q]; exact ⟨_, hz, fun v q => nomatch q⟩
    · rw [q]; exact ⟨_, hTI, fun v q => nomatch q⟩
    · rw [q]; exact ⟨_, hTO, fun v q => nomatch q⟩
    · rw [q]; exact ⟨o1, e1, fun v q => by rw [d1] at q; cases q⟩
    · rw [q]; exact ⟨o2, e2, fun v q => by rw [d2] at q; cases q⟩
    · rw [q]; exact ⟨o3, e3, fun v q => by rw [d3] at q; cases q⟩
  keep := fun i h h' st k => by
    obtain ⟨hz, hTI, ⟨x, y, z, hTO⟩, h1, h2, h3⟩ := st
    exact ⟨k _ (by simp) _ hz, k _ (by simp) _ hTI, ⟨x, y, z, k _ (by simp) _ hTO⟩, h1.at fun o q => k _ (by simp) o q, h2.at fun o q => k _ (by simp) o q, h3.at fun o q => k _ (by simp) o q⟩
  item := by
    intro X hP hw hK hc i pins s σ H E I hf st hg
    subst hP hw hK
    obtain ⟨hz, hTI, ⟨x0, y0, z0, hTO⟩, h1, h2, h3⟩ := st
    obtain ⟨xs, ys, zs, x, y, z, hqx, hqy, hqz, hx, hy, hzz⟩ := hg
    obtain ⟨its, rv, p, _⟩ := I.tuple hqx
    obtain ⟨its2, rv2, p2, _⟩ := I.list hqy
    obtain ⟨its3, rv3, p3, _⟩ := I.list hqz
    obtain ⟨u, hu, ru⟩ := rv.get hx
    obtain ⟨u2, hu2, ru2⟩ := rv2.get hy
    obtain ⟨u3, hu3, ru3⟩ := rv3.get hzz
    have hh := I.ok.hd hc
    have D1 := Draws.tuple (prog := X.prog) (w := X.w) (A := X.A.in1) hh N a (Nat.ne_of_lt la) its.toArray
    have D2 := Draws.list (prog := X.prog) (w := X.w) (A := X.A.in1) hh (N + 1) b (Nat.ne_of_lt (Nat.lt_succ_of_lt lb)) its2.toArray
    have D3 := Draws.list (prog := X.prog) (w := X.w) (A := X.A.in1) hh (N + 2) c (Nat.ne_of_lt (Nat.lt_succ_of_lt (Nat.lt_succ_of_lt lc))) its3.toArray
    have S := zip_sep3 (N := N) (fp1 := [a]) (fp2 := [b]) (fp3 := [c]) (fun d hd => by rw [List.mem_singleton.mp hd]; exact la) (fun d hd => by rw [List.mem_singleton.mp hd]; exact lb) (fun d hd => by rw [List.mem_singleton.mp hd]; exact lc)
    have n1 : i < its.toArray.size := by rw [List.size_toArray]; exact (List.getElem?_eq_some_iff.mp hu).1
    have n2 : i < its2.toArray.size := by rw [List.size_toArray]; exact (List.getElem?_eq_some_iff.mp hu2).1
    have n3 : i < its3.toArray.size := by rw [List.size_toArray]; exact (List.getElem?_eq_some_iff.mp hu3).1
    refine wpAny_pyNext_zipD3_item S D1 D2 D3 hz hTI hTO ⟨h1, p⟩ ⟨h2, p2.isList⟩ ⟨h3, p3.isList⟩ n1 n2 n3 fun v1 v2 v3 h' tk pv1 pv2 pv3 z' TO' st1 st2 st3 hT hsz hk => ?_
    have e1 : v1 = u := by
      have z : its[i]? = some v1 := by simpa using pv1
      rw [hu] at z; exact (Option.some.inj z).symm
    have e2 : v2 = u2 := by
      have z : its2[i]? = some v2 := by simpa using pv2
      rw [hu2] at z; exact (Option.some.inj z).symm
    have e3 : v3 = u3 := by
      have z : its3[i]? = some v3 := by simpa using pv3
      rw [hu3] at z; exact (Option.some.inj z).symm
    subst e1 e2 e3
    have hzl : N + 5 < s.heap.objs.size := Heap.lt_size hz
    refine ⟨_, rfl, wpAny_letOwnedTupleGo_zip (s := { s with heap := h', toks := tk }) z' fun h'' z'' sb => ?_⟩
    have hT2 : h''.get? s.heap.objs.size = some { cls := .type "tuple", data := .seq #[v1, v2, v3] } := (sb.2 _ (Nat.ne_of_gt hzl)).trans hT
    have new : ObjOk X.prog X.w (upd H s.heap.objs.size (.tup [x, y, z])) h'' s.heap.objs.size (.tup [x, y, z]) :=
      ⟨by show 3 ≤ sizeLine; decide, [v1, v2, v3], .cons ru (.cons ru2 (.cons ru3 .nil)), ⟨_, hT2, rfl, _, rfl⟩⟩
    have I1 : Inv X pins σ (upd H s.heap.objs.size (.tup [x, y, z])) { s with heap := h'', toks := tk } :=
      I.turnedNew (t' := tk) (ch := [N + 5, N + 3, N + 4, N, N + 1, N + 2]) (fun d o hb q => (sb.2 d (fun q' => hb (by simp [q']))).trans (hk d o (fun q' => hb (by simp [q'])) (fun q' => hb (by simp [q'])) (fun q' => hb (by simp [q'])) (fun q' => hb (by simp [q'])) (fun q' => hb (by simp [q'])) q)) hf (Nat.le_refl _) new
    refine ⟨.ref s.heap.objs.size, _, I1, rfl, ⟨_, x, y, z, rfl, I.hok.fresh (Nat.le_refl _), rfl, fun l hl => by rw [I.tuple_inj hl hqx]; exact hx, fun l hl => by rw [I.list_inj hl hqy]; exact hy, fun l hl => by rw [I.list_inj hl hqz]; exact hzz⟩, ⟨z'', ?_, ⟨v1, v2, v3, ?_⟩, ?_, ?_, ?_⟩, fun d hcm => ?_⟩
    · exact (sb.2 _ S.TIz).trans (hk _ _ S.TIz S.TITO S.TIi1 S.TIi2 S.TIi3 hTI)
    · exact (sb.2 _ S.TOz).trans TO'
    · exact st1.1.at fun o q => (sb.2 _ (Ne.symm S.zi1)).trans q
    · exact st2.1.at fun o q => (sb.2 _ (Ne.symm S.zi2)).trans q
    · exact st3.1.at fun o q => (sb.2 _ (Ne.symm S.zi3)).trans q
    · have hlt : d < s.heap.objs.size := by
        have e' : d = N + 5 ∨ d = N + 3 ∨ d = N + 4 ∨ d = N ∨ d = N + 1 ∨ d = N + 2 := by simpa using hcm
        have key : ∀ {m k : Nat}, m < k → d ≤ m → d < k := fun h1 h2 => Nat.lt_of_le_of_lt h2 h1
        refine key hzl ?_
        rcases e' with q | q | q | q | q | q
        · rw [q]; exact Nat.le_refl _
        · rw [q]; exact Nat.add_le_add_left (by decide) N
        · rw [q]; exact Nat.add_le_add_left (by decide) N
        · rw [q]; exact Nat.le_add_right N 5
        · rw [q]; exact Nat.add_le_add_left (by decide) N
        · rw [q]; exact Nat.add_le_add_left (by decide) N
      rw [upd_ne (Nat.ne_of_lt hlt)]
      exact (hf d hcm).1
  done := by
    intro X hP hw hK hc i pins s σ H E I hf st hg
    subst hP hw hK
    obtain ⟨hz, hTI, ⟨x0, y0, z0, hTO⟩, h1, h2, h3⟩ := st
    obtain ⟨xs, ys, zs, hqx, hqy, hqz, hend, le1, le2, le3⟩ := hg
    obtain ⟨its, rv, p, _⟩ := I.tuple hqx
    obtain ⟨its2, rv2, p2, _⟩ := I.list hqy
    obtain ⟨its3, rv3, p3, _⟩ := I.list hqz
    have l1 := rv.length
    have l2 := rv2.length
    have l3 := rv3.length
    have hh := I.ok.hd hc
    have D1 := Draws.tuple (prog := X.prog) (w := X.w) (A := X.A.in1) hh N a (Nat.ne_of_lt la) its.toArray
    have D2 := Draws.list (prog := X.prog) (w := X.w) (A := X.A.in1) hh (N + 1) b (Nat.ne_of_lt (Nat.lt_succ_of_lt lb)) its2.toArray
    have D3 := Draws.list (prog := X.prog) (w := X.w) (A := X.A.in1) hh (N + 2) c (Nat.ne_of_lt (Nat.lt_succ_of_lt (Nat.lt_succ_of_lt lc))) its3.toArray
    have S := zip_sep3 (N := N) (fp1 := [a]) (fp2 := [b]) (fp3 := [c]) (fun d hd => by rw [List.mem_singleton.mp hd]; exact la) (fun d hd => by rw [List.mem_singleton.mp hd]; exact lb) (fun d hd => by rw [List.mem_singleton.mp hd]; exact lc)
    have z1 : its.toArray.size = xs.length := by rw [List.size_toArray]; exact l1.symm
    have z2 : its2.toArray.size = ys.length := by rw [List.size_toArray]; exact l2.symm
    have z3 : its3.toArray.size = zs.length := by rw [List.size_toArray]; exact l3.symm
    refine wpAny_pyNext_zipD3_end S D1 D2 D3 hz hTI hTO ⟨h1, p⟩ ⟨h2, p2.isList⟩ ⟨h3, p3.isList⟩ (by rw [z1]; exact le1) (by rw [z2]; exact le2) (by rw [z3]; exact le3) (by rw [z1, z2, z3]; exact hend.imp Eq.symm fun h => h.imp Eq.symm Eq.symm) fun h' tk hk => ⟨rfl, I.turnedL (t' := tk) (ch := [N + 5, N + 3, N + 4, N, N + 1, N + 2]) (fun d o hb q =>
      hk d o (fun q' => hb (by simp [q'])) (fun q' => hb (by simp [q'])) (fun q' => hb (by simp [q'])) (fun q' => hb (by simp [q'])) (fun q' => hb (by simp [q'])) q) hf⟩
  self := fun A i s Q E st h => wpAny_pyIter_zip st.1 h
def iZip3T (K : PySem.W.Frag) (ta : TA) : TI := fun σ H R => ta σ H fun vs H1 => ∃ a b c xs ys zs, vs = [.ref a, .ref b, .ref c] ∧ SqT K H1 a xs ∧ SqL K H1 b ys ∧ SqL K H1 c zs ∧ R (Itz3T K a b c) H1
theorem pi_zip3T (K : PySem.W.Frag) {X : Cx} {e e2 e3 : Expr} {ta : TA} {p pos tpos : Pos} {elts : List Expr} {kk : Nat} (hg : Gl X "zip") (hm : X.mg "zip" = none) (ha : PA X [e, e2, e3] ta)
    (hs : starEach [e, e2, e3] X.env = (false, eval e X.env) :: starEach [e2, e3] X.env := by rfl) (hpl : (backTo pos (starEach [e2, e3] X.env)).any (·.1) = false := by rfl) (hK : X.K = K := by rfl) :
    PI X (.Tuple elts kk tpos) (.Call (.Name "zip" p) [e, e2, e3] [] pos) (iZip3T K ta) := by
  subst hK
  refine ⟨fun pins s σ H R I h => ?_⟩
  refine Call_ (ld_blt I hg hm PyProof.Rows.boot_zip (PyProof.Rows.callWith_type1 (thn (ha.run pos pins s σ H _ I h) fun us s1 ⟨vs, H1, I1, r1, q1⟩ => ?_) hs hpl))
  obtain ⟨a, b, c, xs, ys, zs, ex, hqx, hqy, hqz, q⟩ := q1
  subst ex
  cases r1 with
  | cons r rr =>
    cases rr with
    | cons r' rr =>
      cases rr with
      | cons r'' rr =>
      cases rr
      cases r
      cases r'
      cases r''
      obtain ⟨its, rv, p1, _⟩ := I1.tuple hqx
      obtain ⟨its2, rv2, p2, _⟩ := I1.list hqy
      obtain ⟨its3, rv3, p3, _⟩ := I1.list hqz
      have la : a < s1.heap.objs.size := by
        obtain ⟨o1, ho1, _⟩ := id p1
        exact Heap.lt_size ho1
      have lb := p2.lt
      have lc := p3.lt
      refine PySem.zip_begins3 (begins_tuple a its.toArray) (begins_list b its2.toArray) (begins_list c its3.toArray) p1 p2.isList p3.isList fun h' hz hTI hTO h1 h2 h3 hsz hk => wpAny_pyIter_zip hz ?_
      have I2 : Inv X pins σ H1 { s1 with heap := h' } := I1.kept (t' := s1.toks) hk
      have fresh5 : ∀ d, d ∈ [s1.heap.objs.size + 5, s1.heap.objs.size + 3, s1.heap.objs.size + 4, s1.heap.objs.size, s1.heap.objs.size + 1, s1.heap.objs.size + 2] → FpOk X pins H1 d := fun d hcm => by
        have e' : d = s1.heap.objs.size + 5 ∨ d = s1.heap.objs.size + 3 ∨ d = s1.heap.objs.size + 4 ∨ d = s1.heap.objs.size ∨ d = s1.heap.objs.size + 1 ∨ d = s1.heap.objs.size + 2 := by simpa using hcm
        have hle : s1.heap.objs.size ≤ d := by
          rcases e' with z | z | z | z | z | z
          · rw [z]; exact Nat.le_add_right _ _
          · rw [z]; exact Nat.le_add_right _ _
          · rw [z]; exact Nat.le_add_right _ _
          · rw [z]; exact Nat.le_refl _
          · rw [z]; exact Nat.le_add_right _ _
          · rw [z]; exact Nat.le_add_right _ _
        exact I1.fpOk hle (I1.hok.fresh hle)
      exact ⟨s1.heap.objs.size + 5, _, _, _, H1, rfl, I2, turn_zip3T la lb lc, ⟨hz, hTI, ⟨_, _, _, hTO⟩, ⟨_, h1, rfl, rfl⟩, ⟨_, h2, rfl, rfl⟩, ⟨_, h3, rfl, rfl⟩⟩, fresh5, q⟩
theorem src_zip3T {K : PySem.W.Frag} {a b c : Addr} {xs ys zs : List V} (h2 : ys.length = xs.length) (h3 : zs.length = xs.length) : Src (Itz3T K a b c) xs.length (fun H => SqT K H a xs ∧ SqL K H b ys ∧ SqL K H c zs) (fun i v H H' => ∃ T x y z, v = .ref T ∧ H T = none ∧ H' = upd H T (.tup [x, y, z]) ∧ xs[i]? = some x ∧ ys[i]? = some y ∧ zs[i]? = some z) where
  go := fun i H h hi => ⟨xs, ys, zs, _, _, _, h.1, h.2.1, h.2.2, List.getElem?_eq_getElem hi, List.getElem?_eq_getElem (by omega), List.getElem?_eq_getElem (by omega)⟩
  stop := fun H h => ⟨xs, ys, zs, h.1, h.2.1, h.2.2, .inl rfl, Nat.le_refl _, by omega, by omega⟩
  yld := fun i H v H' h hi y => by
    obtain ⟨T, x, y, z, rfl, nT, rfl, f1, f2, f3⟩ := y
    exact ⟨T, x, y, z, rfl, nT, rfl, f1 xs h.1, f2 ys h.2.1, f3 zs h.2.2⟩
theorem r_iZip3T {K : PySem.W.Frag} {ta : TA} {σ : L2.St} {H : Hp} {R : It → Hp → Prop} (h : ta σ H fun vs H1 => ∃ a b c xs ys zs, vs = [.ref a, .ref b, .ref c] ∧ SqT K H1 a xs ∧ SqL K H1 b ys ∧ SqL K H1 c zs ∧ R (Itz3T K a b c) H1) : iZip3T K ta σ H R := h
end Lx

abbrev Scheck_full : Stmt := topS 34
abbrev Ncheck_full : List Str := ["places"]
theorem sccheck_full : FnScope Ncheck_full ["places"] (defScope Scheck_full) := ⟨rfl, rfl, rfl, by decide +kernel, rfl, by decide +kernel, by decide +kernel⟩
abbrev Sfirst_fills : Stmt := topS 35
abbrev Nfirst_fills : List Str := ["fills", "number", "length"]
theorem scfirst_fills : FnScope Nfirst_fills ["fills"] (defScope Sfirst_fills) := ⟨rfl, rfl, rfl, by decide +kernel, rfl, by decide +kernel, by decide +kernel⟩
abbrev Swishes_of : Stmt := topS 36
abbrev Nwishes_of : List Str := ["takes", "fills", "wishes", "place", "first", "offset"]
theorem scwishes_of : FnScope Nwishes_of ["takes", "fills"] (defScope Swishes_of) := ⟨rfl, rfl, rfl, by decide +kernel, rfl, by decide +kernel, by decide +kernel⟩

theorem IsOrd.pl {ns : List Int} (h : IsOrd ns) : IsPl ns := ⟨h.top, fun x hx => by
  have := h.rng x hx
  have := h.top
  omega, h.nd⟩
/-- the number of the first fill of each stretch -/
def firF (fs : List Int) : List Int := (List.range fs.length).map fun i : Nat => (i : Int) - ((lensF fs).getD i 0 : Nat) + 1
theorem fir_len (fs : List Int) : (firF fs).length = fs.length := by unfold firF; rw [List.length_map, List.length_range]
section
variable {P : Program} {w : World} {K : PySem.W.Frag} {mg : Str → Option Value} {base : Heap}
def spFull : Sp := fun vs H Q _ => ∃ (a : Addr) (ns : List Int), vs = [.ref a] ∧ Sq H a (vI ns) ∧ IsOrd ns ∧ ∀ H', Same H H' → Q .non H'
theorem ok_check_full {f : Addr} {fd : FuncData} (B : Bn mg) (D_are_numbers : Df P w K mg base 2 "are_numbers" [] spAreNumbers) (F : Fun K "check_full" "check_full" Scheck_full f fd) : FnG P w K mg base 3 f fd ["places"] spFull := by
  refine gok F sccheck_full (fun vs H Q E h => ?_) (fun cdv A fs s H vs Q E hG hr h => ?_)
  · obtain ⟨_, _, rfl, _⟩ := h; rfl
  · obtain ⟨a, ns, rfl, hA, hP, q⟩ := h
    have hu := hr.units
    have tl := hP.top
    refine ⟨_, (pss_one (ps_if (pw_or (pt_not (pt_val (pe_df D_are_numbers hG (hr.mono (by first | decide | omega)) passL (by rfl) (pa_cons (pv 0) pa_nil)))) (pw_or1 (pt_cmpR (k_neD K hu) (pe_callB (call_or (k_sorted K) (k_sortedU K)) (by rfl) B.sorted Bsorted (pa_cons (pv 0) pa_nil)) (pe_listRg rfl (by rfl) B.list (prg_1 (by rfl) B.range (pe_callB (k_len K) (by rfl) B.len Blen (pa_cons (pv 0) pa_nil)))) (nomark _)))).pt (pss_one ps_never) pss_nil)), ?_⟩
    walk_at "s"
    refine ⟨a, ns, rfl, hA, hP.pos, hP.top, hP.rng, fun H1 s1 => ?_⟩
    have hA1 := s1.sq hA
    walk_at "s"
    refine r_sortSq hA1 fun so p1 hso hup np1 => ?_
    have s2 := same_new (o := .lst (vI so)) np1
    have hp1 : upd H1 p1 (.lst (vI so)) p1 = some (.lst (vI so)) := upd_same
    have hA2 := s2.sq hA1
    generalize upd H1 p1 _ = H2 at *
    walk_at "s"
    rw [vI_len]
    refine ⟨⟨by omega, by omega⟩, fun rp nrp => ?_⟩
    rw [iota_rg]
    have s3 := same_new (o := .lst (vI (iota ns.length))) nrp
    have hp1' := s3 _ _ hp1
    refine r_neLI (lst_of hp1') (lst_of upd_same) ?_
    rw [decide_eq_true (hP.sorted hso hup)]
    walk_at "s"
    exact q _ ((s1.trans s2).trans s3)
def spFirst : Sp := fun vs H Q _ => ∃ (a : Addr) (fs : List Int), vs = [.ref a] ∧ Sq H a (vI fs) ∧ IsPl fs ∧ ∀ H' p, Same H H' → H p = none → H' p = some (.lst (vI (firF fs))) → Q (.ref p) H'
theorem ok_first_fills {f : Addr} {fd : FuncData} (B : Bn mg) (D_stretch_lengths : Df P w K mg base 4 "stretch_lengths" [] spStretch) (F : Fun K "first_fills" "first_fills" Sfirst_fills f fd) : FnG P w K mg base 5 f fd ["fills"] spFirst := by
  refine gok F scfirst_fills (fun vs H Q E h => ?_) (fun cdv A fs s H vs Q E hG hr h => ?_)
  · obtain ⟨_, _, rfl, _⟩ := h; rfl
  · obtain ⟨a, fl, rfl, hA, hP, q⟩ := h
    have hu := hr.units
    have tl := hP.top
    refine ⟨_, (pss_one (ps_ret (pe_lc (own := [("number", 1), ("length", 2)]) rfl scfirst_fills.nd (k_enum K (by rfl) B.enumerate (pa_cons (pe_df D_stretch_lengths hG (hr.mono (by first | decide | omega)) passL (by rfl) (pa_cons (pv 0) pa_nil)) pa_nil)) (blkOk_by (own := [("number", 1), ("length", 2)]) (N := Nfirst_fills) (sc := defScope Sfirst_fills) (by decide +kernel)) (fun _ _ _ _ _ => (k_gtup (n := 2) K rfl (pgs_cons (pg_name (i := 1) scfirst_fills.nd rfl (Or.inl rfl)) (pgs_cons (pg_name (i := 2) scfirst_fills.nd rfl (Or.inl rfl)) pgs_nil)))) (fun _ _ _ _ _ => pts_nil) (fun _ _ _ _ _ => (pe_op op_add (pe_op op_sub (pv 1) (pv 2)) pe_int))))), ?_⟩
    walk_at "s"
    refine ⟨a, fl, rfl, hA, hP, fun H1 lp s1 nl hl => ?_⟩
    have ll : (lensF fl).length = fl.length := by rw [lensF, lensR_len]
    walk_at "s"
    refine ⟨lp, _, rfl, lst_of hl, fun Dl nD => ?_⟩
    refine lc_pure (src_enum (xs := vI (iN (lensF fl)))) (fun _ => true) (fun i => .int ((i : Int) - ((lensF fl).getD i 0 : Nat) + 1)) (by rw [vI_len, List.length_map]; omega) (fun H' s' => lst_of (s' _ _ hl)) ?_ nD fun H3 s3 hD => ?_
    · rintro j v H4 H5 Yes No hj s4 ⟨T, x, rfl, nT, rfl, hx⟩ hY hN
      rw [vI_len, List.length_map] at hj
      have hx : V.int ((lensF fl).getD j 0 : Nat) = x := by
        unfold vI iN at hx
        rw [List.getElem?_map, List.getElem?_map, List.getElem?_eq_getElem hj] at hx
        rw [List.getD_eq_getElem?_getD, List.getElem?_eq_getElem hj]
        exact Option.some.inj hx
      subst hx
      have sT := same_new (o := .tup [.int ((j : Nat) : Int), .int ((lensF fl).getD j 0 : Nat)]) nT
      have hT : upd H4 T (.tup [.int ((j : Nat) : Int), .int ((lensF fl).getD j 0 : Nat)]) T = some (.tup [.int ((j : Nat) : Int), .int ((lensF fl).getD j 0 : Nat)]) := upd_same
      generalize upd H4 T _ = H6 at *
      walk_at "s"
      refine ⟨rfl, ?_⟩
      walk_at "s"
      exact hY rfl _ sT
    · refine q _ Dl (s1.trans s3) (s1.free nD) ?_
      rw [hD, giv_all, vI_len, List.length_map, ll]
      unfold firF vI
      rw [List.map_map]
      rfl
def wishF (ts fs : List Int) (i : Nat) : Int := (firF fs).getD i 0 + ((offsF (nb ts) fs).getD i 0 : Nat)
def spWishes : Sp := fun vs H Q _ => ∃ (a b : Addr) (ts fs ws : List Int), vs = [.ref a, .ref b] ∧ Sq H a (vI ts) ∧ Sq H b (vI fs) ∧ IsOrd ts ∧ fs.Perm ts ∧ Poss ts fs ∧ ws.length = fs.length ∧ (∀ i, i < fs.length → ws.getD (fs.getD i 0).toNat 0 = wishF ts fs i) ∧ ∀ H' p, Same H H' → H p = none → H' p = some (.lst (vI ws)) → Q (.ref p) H'
theorem ok_wishes_of {f : Addr} {fd : FuncData} (B : Bn mg) (D_check_full : Df P w K mg base 3 "check_full" [] spFull) (D_first_fills : Df P w K mg base 5 "first_fills" [] spFirst) (D_offsets_of : Df P w K mg base 6 "offsets_of" [] spOffOf) (F : Fun K "wishes_of" "wishes_of" Swishes_of f fd) : FnG P w K mg base 7 f fd ["takes", "fills"] spWishes := by
  refine gok F scwishes_of (fun vs H Q E h => ?_) (fun cdv A fs s H vs Q E hG hr h => ?_)
  · obtain ⟨_, _, _, _, _, rfl, _⟩ := h; rfl
  · obtain ⟨a, b, ts, fl, ws, rfl, hA, hB, hT, hpm, hPo, lw, hws, q⟩ := h
    have hu := hr.units
    have tl := hT.top
    have lf := hpm.length_eq
    have hF : IsOrd fl := ⟨by rw [lf]; exact hT.pos, by rw [lf]; exact hT.top, fun x hx => by rw [lf]; exact hT.rng x (hpm.mem_iff.mp hx), hpm.nodup_iff.mpr hT.nd⟩
    refine ⟨_, (pss_cons (ps_expr (pe_df D_check_full hG (hr.mono (by first | decide | omega)) passL (by rfl) (pa_cons (pv 0) pa_nil))) (pss_cons (ps_expr (pe_df D_check_full hG (hr.mono (by first | decide | omega)) passL (by rfl) (pa_cons (pv 1) pa_nil))) (pss_cons (ps_set (i := 2) scwishes_of.nd rfl (Or.inl rfl) (pe_op op_rep (pe_lst (pa_cons pe_int pa_nil)) (pe_callB (k_len K) (by rfl) B.len Blen (pa_cons (pv 1) pa_nil)))) (pss_cons (ps_for (passes_of rfl) rfl (pi_or (pi_zip3L K (by rfl) B.zip (pa_cons (pv 1) (pa_cons (pe_df D_first_fills hG (hr.mono (by first | decide | omega)) passL (by rfl) (pa_cons (pv 1) pa_nil)) (pa_cons (pe_df D_offsets_of hG (hr.mono (by first | decide | omega)) passL (by rfl) (pa_cons (pv 0) (pa_cons (pv 1) pa_nil))) pa_nil)))) (pi_zip3T K (by rfl) B.zip (pa_cons (pv 1) (pa_cons (pe_df D_first_fills hG (hr.mono (by first | decide | omega)) passL (by rfl) (pa_cons (pv 1) pa_nil)) (pa_cons (pe_df D_offsets_of hG (hr.mono (by first | decide | omega)) passL (by rfl) (pa_cons (pv 0) (pa_cons (pv 1) pa_nil))) pa_nil))))) (k_gtup (n := 3) K rfl (pgs_cons (pg_name (i := 3) scwishes_of.nd rfl (Or.inl rfl)) (pgs_cons (pg_name (i := 4) scwishes_of.nd rfl (Or.inl rfl)) (pgs_cons (pg_name (i := 5) scwishes_of.nd rfl (Or.inl rfl)) pgs_nil)))) (pss_one (ps_asg (pe_op op_add (pv 4) (pv 5)) (pg_sub (pv 2) (pv 3) set_list)))) (pss_one (ps_ret (pv 2))))))), ?_⟩
    walk_at "s"
    refine ⟨a, ts, rfl, hA, hT, fun H1 s1 => ?_⟩
    have hA1 := s1.sq hA
    have hB1 := s1.sq hB
    walk_at "s"
    refine ⟨b, fl, rfl, hB1, hF, fun H2 s2 => ?_⟩
    have hA2 := s2.sq hA1
    have hB2 := s2.sq hB1
    have s12 := s1.trans s2
    walk_at "s"
    intro p0 np0
    have s3 := same_new (o := .lst [.int 0]) np0
    have hB3 := s3.sq hB2
    walk_at "s"
    rw [vI_len]
    refine r_rep upd_same (by show 1 * _ ≤ 100000; omega) (by omega) fun wp nwp => ?_
    have e0 : (List.replicate fl.length [V.int 0]).flatten = vI (List.replicate fl.length 0) := by
      generalize fl.length = n
      induction n with
      | zero => rfl
      | succ n ih => rw [List.replicate_succ, List.flatten_cons, ih, List.replicate_succ]; rfl
    rw [e0]
    have s4 := same_new (o := .lst (vI (List.replicate fl.length 0))) nwp
    have hw4 : upd (upd H2 p0 (.lst [.int 0])) wp (.lst (vI (List.replicate fl.length 0))) wp = some (.lst (vI (List.replicate fl.length 0))) := upd_same
    have s34 := s3.trans s4
    have nwp2 := s3.free nwp
    generalize upd (upd H2 p0 _) wp _ = H4 at *
    have hA4 := s34.sq hA2
    have hB4 := s34.sq hB2
    have s04 := s12.trans s34
    have nwp0 := s12.free nwp2
    have lo : (offsF (nb ts) fl).length = fl.length := by rw [offsF, offsR_len]
    have nbw : b ≠ wp := fun z => by
      rw [z] at hB2
      rcases hB2 with h | h
      · rw [h] at nwp2; cases nwp2
      · rw [h] at nwp2; cases nwp2
    walk_at "s"
    rcases id hB4 with hL | hL
    · refine .inl (r_iZip3L ?_)
      walk_at "s"
      refine ⟨b, fl, rfl, hB4, hF.pl, fun H5 fp s5 nfp hfp => ?_⟩
      have hA5 := s5.sq hA4
      have hB5 := s5.sq hB4
      have hw5 := s5 _ _ hw4
      have hL5 := s5 _ _ hL
      have nfw : fp ≠ wp := fun z => by rw [z, hw4] at nfp; cases nfp
      walk_at "s"
      refine ⟨a, b, ts, fl, rfl, hA5, hB5, hT.pl, hpm, hPo, fun H6 op s6 nop hop => ?_⟩
      have hw6 := s6 _ _ hw5
      have hL6 := s6 _ _ hL5
      have hfp6 := s6 _ _ hfp
      have now : op ≠ wp := fun z => by rw [z, hw5] at nop; cases nop
      have s06 := (s04.trans s5).trans s6
      walk_at "s"
      refine ⟨b, fp, op, _, _, _, rfl, lst_of hL6, lst_of hfp6, lst_of hop, ?_⟩
      refine for_src (src_zip3L (K := K) (xs := vI fl) (ys := vI (firF fl)) (zs := vI (iN (offsF (nb ts) fl))) (by rw [vI_len, vI_len, fir_len]) (by rw [vI_len, vI_len, List.length_map, lo])) (fun i σ H' => ∃ W v3 v4 v5, σ = [some (.ref a), some (.ref b), some (.ref wp), v3, v4, v5] ∧ Same H H' ∧ H' b = some (.lst (vI fl)) ∧ H' fp = some (.lst (vI (firF fl))) ∧ H' op = some (.lst (vI (iN (offsF (nb ts) fl)))) ∧ H' wp = some (.lst (vI W)) ∧ W.length = fl.length ∧ ∀ k, k < i → W.getD (fl.getD k 0).toNat 0 = wishF ts fl k)
        (fun i σ H' h => by obtain ⟨_, _, _, _, _, _, h1, h2, h3, _⟩ := h; exact ⟨lst_of h1, lst_of h2, lst_of h3⟩) ⟨_, none, none, none, rfl, s06, hL6, hfp6, hop, hw6, List.length_replicate, fun k hk => absurd hk (Nat.not_lt_zero _)⟩ ?_ ?_
      · rintro i v σ H7 H7' hi ⟨W, v3, v4, v5, rfl, s7, hb7, hf7, ho7, hw7, lW, hWk⟩ ⟨T, x, y, z, rfl, nT, rfl, hx, hy, hz⟩
        rw [vI_len] at hi
        rw [vI_getD hi] at hx
        rw [vI_getD (show i < (firF fl).length by rw [fir_len]; exact hi)] at hy
        rw [vI_getD (show i < (iN (offsF (nb ts) fl)).length by rw [List.length_map, lo]; exact hi)] at hz
        cases hx
        cases hy
        cases hz
        have eo : (iN (offsF (nb ts) fl)).getD i 0 = ((offsF (nb ts) fl).getD i 0 : Nat) := by
          rw [List.getD_eq_getElem?_getD, List.getElem?_map, List.getD_eq_getElem?_getD, List.getElem?_eq_getElem (show i < (offsF (nb ts) fl).length by rw [lo]; exact hi)]
          rfl
        have ew : (firF fl).getD i 0 + (iN (offsF (nb ts) fl)).getD i 0 = wishF ts fl i := by rw [eo]; rfl
        have hr := hF.rng (fl.getD i 0) (by rw [getD_el hi]; exact List.getElem_mem _)
        have sT := same_new (o := (.tup [.int (fl.getD i 0), .int ((firF fl).getD i 0), .int ((iN (offsF (nb ts) fl)).getD i 0)])) nT
        have hT7 : upd H7 T (.tup [.int (fl.getD i 0), .int ((firF fl).getD i 0), .int ((iN (offsF (nb ts) fl)).getD i 0)]) T = some (.tup [.int (fl.getD i 0), .int ((firF fl).getD i 0), .int ((iN (offsF (nb ts) fl)).getD i 0)]) := upd_same
        have hb8 := sT _ _ hb7
        have hf8 := sT _ _ hf7
        have ho8 := sT _ _ ho7
        have hw8 := sT _ _ hw7
        have s8 := s7.trans sT
        generalize upd H7 T (.tup [.int (fl.getD i 0), .int ((firF fl).getD i 0), .int ((iN (offsF (nb ts) fl)).getD i 0)]) = H8 at *
        walk_at "s"
        refine r_setL hw8 (n := (fl.getD i 0).toNat) (by rw [vI_len]; exact ixN_ok hr.1 (by omega)) ?_
        refine ⟨W.set (fl.getD i 0).toNat (wishF ts fl i), _, _, _, rfl, same_set s8 nwp0, (upd_ne nbw).trans hb8, (upd_ne nfw).trans hf8, (upd_ne now).trans ho8, ?_, by rw [List.length_set]; exact lW, fun k hk => ?_⟩
        · rw [upd_same, vI_set, ew]
        · by_cases hki : k = i
          · subst hki
            rw [List.getD_eq_getElem?_getD, List.getElem?_set_self (by omega)]
            rfl
          · have hk2 : k < i := by omega
            have hne : (fl.getD i 0).toNat ≠ (fl.getD k 0).toNat := fun e => by
              have hrk := hF.rng (fl.getD k 0) (by rw [getD_el (show k < fl.length by omega)]; exact List.getElem_mem _)
              have e2 : fl.getD i 0 = fl.getD k 0 := by omega
              rw [getD_el hi, getD_el (show k < fl.length by omega)] at e2
              exact hki ((List.getElem_inj hF.nd).mp e2).symm
            rw [List.getD_eq_getElem?_getD, List.getElem?_set_ne hne, ← List.getD_eq_getElem?_getD]
            exact hWk k hk2
      · rintro σ H7 ⟨W, v3, v4, v5, rfl, s7, hb7, hf7, ho7, hw7, lW, hWk⟩
        rw [vI_len] at hWk
        have eW : W = ws := List.ext_getElem (by omega) fun n h1 h2 => by
          obtain ⟨p, hp, ep⟩ := ord_at hF (show n < fl.length by omega)
          have a1 := hWk p hp
          have a2 := hws p hp
          rw [ep, Int.toNat_natCast, getD_el h1] at a1
          rw [ep, Int.toNat_natCast, getD_el h2] at a2
          rw [a1, a2]
        rw [eW] at hw7
        walk_at "s"
        exact q _ wp s7 nwp0 hw7
    · refine .inr (r_iZip3T ?_)
      walk_at "s"
      refine ⟨b, fl, rfl, hB4, hF.pl, fun H5 fp s5 nfp hfp => ?_⟩
      have hA5 := s5.sq hA4
      have hB5 := s5.sq hB4
      have hw5 := s5 _ _ hw4
      have hL5 := s5 _ _ hL
      have nfw : fp ≠ wp := fun z => by rw [z, hw4] at nfp; cases nfp
      walk_at "s"
      refine ⟨a, b, ts, fl, rfl, hA5, hB5, hT.pl, hpm, hPo, fun H6 op s6 nop hop => ?_⟩
      have hw6 := s6 _ _ hw5
      have hL6 := s6 _ _ hL5
      have hfp6 := s6 _ _ hfp
      have now : op ≠ wp := fun z => by rw [z, hw5] at nop; cases nop
      have s06 := (s04.trans s5).trans s6
      walk_at "s"
      refine ⟨b, fp, op, _, _, _, rfl, tup_of hL6, lst_of hfp6, lst_of hop, ?_⟩
      refine for_src (src_zip3T (K := K) (xs := vI fl) (ys := vI (firF fl)) (zs := vI (iN (offsF (nb ts) fl))) (by rw [vI_len, vI_len, fir_len]) (by rw [vI_len, vI_len, List.length_map, lo])) (fun i σ H' => ∃ W v3 v4 v5, σ = [some (.ref a), some (.ref b), some (.ref wp), v3, v4, v5] ∧ Same H H' ∧ H' b = some (.tup (vI fl)) ∧ H' fp = some (.lst (vI (firF fl))) ∧ H' op = some (.lst (vI (iN (offsF (nb ts) fl)))) ∧ H' wp = some (.lst (vI W)) ∧ W.length = fl.length ∧ ∀ k, k < i → W.getD (fl.getD k 0).toNat 0 = wishF ts fl k)
        (fun i σ H' h => by obtain ⟨_, _, _, _, _, _, h1, h2, h3, _⟩ := h; exact ⟨tup_of h1, lst_of h2, lst_of h3⟩) ⟨_, none, none, none, rfl, s06, hL6, hfp6, hop, hw6, List.length_replicate, fun k hk => absurd hk (Nat.not_lt_zero _)⟩ ?_ ?_
      · rintro i v σ H7 H7' hi ⟨W, v3, v4, v5, rfl, s7, hb7, hf7, ho7, hw7, lW, hWk⟩ ⟨T, x, y, z, rfl, nT, rfl, hx, hy, hz⟩
        rw [vI_len] at hi
        rw [vI_getD hi] at hx
        rw [vI_getD (show i < (firF fl).length by rw [fir_len]; exact hi)] at hy
        rw [vI_getD (show i < (iN (offsF (nb ts) fl)).length by rw [List.length_map, lo]; exact hi)] at hz
        cases hx
        cases hy
        cases hz
        have eo : (iN (offsF (nb ts) fl)).getD i 0 = ((offsF (nb ts) fl).getD i 0 : Nat) := by
          rw [List.getD_eq_getElem?_getD, List.getElem?_map, List.getD_eq_getElem?_getD, List.getElem?_eq_getElem (show i < (offsF (nb ts) fl).length by rw [lo]; exact hi)]
          rfl
        have ew : (firF fl).getD i 0 + (iN (offsF (nb ts) fl)).getD i 0 = wishF ts fl i := by rw [eo]; rfl
        have hr := hF.rng (fl.getD i 0) (by rw [getD_el hi]; exact List.getElem_mem _)
        have sT := same_new (o := (.tup [.int (fl.getD i 0), .int ((firF fl).getD i 0), .int ((iN (offsF (nb ts) fl)).getD i 0)])) nT
        have hT7 : upd H7 T (.tup [.int (fl.getD i 0), .int ((firF fl).getD i 0), .int ((iN (offsF (nb ts) fl)).getD i 0)]) T = some (.tup [.int (fl.getD i 0), .int ((firF fl).getD i 0), .int ((iN (offsF (nb ts) fl)).getD i 0)]) := upd_same
        have hb8 := sT _ _ hb7
        have hf8 := sT _ _ hf7
        have ho8 := sT _ _ ho7
        have hw8 := sT _ _ hw7
        have s8 := s7.trans sT
        generalize upd H7 T (.tup [.int (fl.getD i 0), .int ((firF fl).getD i 0), .int ((iN (offsF (nb ts) fl)).getD i 0)]) = H8 at *
        walk_at "s"
        refine r_setL hw8 (n := (fl.getD i 0).toNat) (by rw [vI_len]; exact ixN_ok hr.1 (by omega)) ?_
        refine ⟨W.set (fl.getD i 0).toNat (wishF ts fl i), _, _, _, rfl, same_set s8 nwp0, (upd_ne nbw).trans hb8, (upd_ne nfw).trans hf8, (upd_ne now).trans ho8, ?_, by rw [List.length_set]; exact lW, fun k hk => ?_⟩
        · rw [upd_same, vI_set, ew]
        · by_cases hki : k = i
          · subst hki
            rw [List.getD_eq_getElem?_getD, List.getElem?_set_self (by omega)]
            rfl
          · have hk2 : k < i := by omega
            have hne : (fl.getD i 0).toNat ≠ (fl.getD k 0).toNat := fun e => by
              have hrk := hF.rng (fl.getD k 0) (by rw [getD_el (show k < fl.length by omega)]; exact List.getElem_mem _)
              have e2 : fl.getD i 0 = fl.getD k 0 := by omega
              rw [getD_el hi, getD_el (show k < fl.length by omega)] at e2
              exact hki ((List.getElem_inj hF.nd).mp e2).symm
            rw [List.getD_eq_getElem?_getD, List.getElem?_set_ne hne, ← List.getD_eq_getElem?_getD]
            exact hWk k hk2
      · rintro σ H7 ⟨W, v3, v4, v5, rfl, s7, hb7, hf7, ho7, hw7, lW, hWk⟩
        rw [vI_len] at hWk
        have eW : W = ws := List.ext_getElem (by omega) fun n h1 h2 => by
          obtain ⟨p, hp, ep⟩ := ord_at hF (show n < fl.length by omega)
          have a1 := hWk p hp
          have a2 := hws p hp
          rw [ep, Int.toNat_natCast, getD_el h1] at a1
          rw [ep, Int.toNat_natCast, getD_el h2] at a2
          rw [a1, a2]
        rw [eW] at hw7
        walk_at "s"
        exact q _ wp s7 nwp0 hw7
end

/-! ### the cars of the wishes of a pair (no program here) -/
theorem wish_at {ts fs : List Int} {i : Nat} (hi : i < fs.length) : ∃ q : Nat, wishF ts fs i = (q : Int) ∧ q ≤ i ∧ ∀ s : Nat, q ≤ s → s < i → fs.getD s 0 < fs.getD i 0 := by
  have hg1 : (lensF fs)[i]? = some ((((fs.take i).reverse).takeWhile fun y => decide (y < fs.getD i 0)).length + 1) := lens_at hi
  have hg2 : (offsF (nb ts) fs)[i]? = some (((((fs.take i).reverse).takeWhile fun y => decide (y < fs.getD i 0)).filter fun y => decide (nb ts y < nb ts (fs.getD i 0))).length) := offs_at hi
  have ew : wishF ts fs i = (i : Int) - ((((fs.take i).reverse).takeWhile fun y => decide (y < fs.getD i 0)).length : Nat) + (((((fs.take i).reverse).takeWhile fun y => decide (y < fs.getD i 0)).filter fun y => decide (nb ts y < nb ts (fs.getD i 0))).length : Nat) := by
    unfold wishF firF
    rw [List.getD_eq_getElem?_getD, List.getElem?_map, List.getElem?_range hi, List.getD_eq_getElem?_getD, hg2]
    show (i : Int) - ((lensF fs).getD i 0 : Nat) + 1 + _ = _
    rw [List.getD_eq_getElem?_getD, hg1]
    show (i : Int) - ((_ + 1 : Nat) : Int) + 1 + _ = _
    rw [Int.natCast_add]
    show _ = _ + ((_ : Nat) : Int)
    simp only [Option.getD_some]
    omega
  have hct := tw_drop (fun y => decide (y < fs.getD i 0)) (fs.take i)
  have hwl := tw_le (fun y => decide (y < fs.getD i 0)) (fs.take i).reverse
  have hfl := List.length_filter_le (fun y => decide (nb ts y < nb ts (fs.getD i 0))) (((fs.take i).reverse).takeWhile fun y => decide (y < fs.getD i 0))
  have hm : ∀ y ∈ ((fs.take i).reverse).takeWhile (fun y => decide (y < fs.getD i 0)), y < fs.getD i 0 := fun y hy => of_decide_eq_true (tw_mem _ hy).1
  rw [List.length_take, Nat.min_eq_left (by omega)] at hct
  rw [List.length_reverse, List.length_take, Nat.min_eq_left (by omega)] at hwl
  generalize ((fs.take i).reverse).takeWhile (fun y => decide (y < fs.getD i 0)) = W at *
  generalize (W.filter fun y => decide (nb ts y < nb ts (fs.getD i 0))).length = o at *
  refine ⟨i - W.length + o, by rw [ew]; omega, by omega, fun s h1 h2 => hm _ ?_⟩
  rw [← List.mem_reverse, hct]
  refine List.mem_of_getElem? (i := s - (i - W.length)) ?_
  rw [List.getElem?_drop, show i - W.length + (s - (i - W.length)) = s by omega, List.getElem?_take_of_lt h2, List.getElem?_eq_getElem (by omega), getD_el (by omega)]
theorem low_of {w : Nat → Int} {n : Nat} (hw : ∀ i, i < n → w i ≤ i) {so : List Int} (hp : so.Perm ((List.range n).map w)) (up : so.Pairwise (· ≤ ·)) {k : Nat} (hk : k < so.length) : so.getD k 0 ≤ k := by
  refine Int.not_lt.mp fun hc => ?_
  have ln : so.length = n := by rw [hp.length_eq, List.length_map, List.length_range]
  have c1 : so.countP (fun x => decide (x ≤ (k : Int))) ≤ k := by
    rw [← List.take_append_drop k so, List.countP_append]
    have z : (so.drop k).countP (fun x => decide (x ≤ (k : Int))) = 0 := by
      rw [List.countP_eq_zero]
      intro x hx
      obtain ⟨j, hj⟩ := List.getElem?_of_mem hx
      rw [List.getElem?_drop] at hj
      obtain ⟨hl, e⟩ := List.getElem?_eq_some_iff.mp hj
      rw [getD_el hk] at hc
      have : so[k] ≤ x := by
        rcases Nat.eq_zero_or_pos j with h0 | h0
        · subst h0
          have : so[k + 0] = so[k] := rfl
          omega
        · rw [← e]
          exact (List.pairwise_iff_getElem.mp up) k (k + j) hk hl (by omega)
      simp
      omega
    rw [z]
    have := List.countP_le_length (p := fun x => decide (x ≤ (k : Int))) (l := so.take k)
    have := List.length_take_le k so
    omega
  have c2 : k + 1 ≤ ((List.range n).map w).countP (fun x => decide (x ≤ (k : Int))) := by
    have e : List.range n = List.range (k + 1) ++ (List.range n).drop (k + 1) := by
      conv => lhs; rw [← List.take_append_drop (k + 1) (List.range n)]
      rw [List.take_range, Nat.min_eq_left (by omega)]
    rw [e, List.map_append, List.countP_append]
    have z : ((List.range (k + 1)).map w).countP (fun x => decide (x ≤ (k : Int))) = k + 1 := by
      rw [List.countP_eq_length.mpr]
      · rw [List.length_map, List.length_range]
      · intro x hx
        obtain ⟨i, hi, rfl⟩ := List.mem_map.mp hx
        have := List.mem_range.mp hi
        have := hw i (by omega)
        exact decide_eq_true (by omega)
    omega
  rw [hp.countP_eq] at c1
  omega
/-- the wishes of a pair of full lists -/
def wsF (ts fs : List Int) : List Int := (List.range fs.length).map fun x => wishF ts fs (fs.idxOf ((x : Nat) : Int))
theorem ws_len (ts fs : List Int) : (wsF ts fs).length = fs.length := by unfold wsF; rw [List.length_map, List.length_range]
theorem ws_at {ts fs : List Int} (hF : IsOrd fs) {i : Nat} (hi : i < fs.length) : (wsF ts fs).getD (fs.getD i 0).toNat 0 = wishF ts fs i := by
  have hr := hF.rng (fs.getD i 0) (by rw [getD_el hi]; exact List.getElem_mem _)
  unfold wsF
  rw [List.getD_eq_getElem?_getD, List.getElem?_map, List.getElem?_range (by omega)]
  show wishF ts fs (fs.idxOf (((fs.getD i 0).toNat : Nat) : Int)) = _
  rw [Int.toNat_of_nonneg hr.1]
  congr 1
  rw [getD_el hi]
  exact List.Nodup.idxOf_getElem hF.nd i hi
theorem ws_perm {ts fs : List Int} (hF : IsOrd fs) (hp : fs.Perm (iota fs.length)) : (wsF ts fs).Perm ((List.range fs.length).map (wishF ts fs)) := by
  have e1 : fs.map (fun x => (wsF ts fs).getD x.toNat 0) = (List.range fs.length).map (wishF ts fs) := by
    refine List.ext_getElem (by rw [List.length_map, List.length_map, List.length_range]) fun i h1 h2 => ?_
    rw [List.length_map] at h1
    rw [List.getElem_map, List.getElem_map, List.getElem_range]
    have := ws_at (ts := ts) hF h1
    rwa [getD_el h1] at this
  have e2 : (iota fs.length).map (fun x => (wsF ts fs).getD x.toNat 0) = wsF ts fs := by
    refine List.ext_getElem (by rw [List.length_map, iota_len, ws_len]) fun i h1 h2 => ?_
    rw [List.getElem_map]
    unfold iota
    rw [List.getElem_map, List.getElem_range, Int.toNat_natCast, getD_el h2]
  have := hp.map (fun x => (wsF ts fs).getD x.toNat 0)
  rw [e1, e2] at this
  exact this.symm
theorem ws_parks {ts fs : List Int} (hF : IsOrd fs) : Parks (wsF ts fs) fs :=
  ⟨ws_len ts fs, hF, fun p hp => by
    obtain ⟨q, e, h1, h2⟩ := wish_at (ts := ts) hp
    exact ⟨q, by rw [ws_at hF hp, e], h1, h2⟩⟩
theorem ws_pk {ts fs : List Int} (hF : IsOrd fs) (hp : fs.Perm (iota fs.length)) : IsPk (wsF ts fs) :=
  ⟨by rw [ws_len]; exact hF.pos, by rw [ws_len]; exact hF.top, fun x hx => by
    obtain ⟨i, hi, rfl⟩ := List.mem_map.mp ((ws_perm hF hp).mem_iff.mp hx)
    obtain ⟨q, e, h1, _⟩ := wish_at (ts := ts) (List.mem_range.mp hi)
    have := List.mem_range.mp hi
    rw [ws_len, e]
    omega, fun so hso hup i hi => low_of (w := wishF ts fs) (n := fs.length) (fun j hj => by
      obtain ⟨q, e, h1, _⟩ := wish_at (ts := ts) hj
      rw [e]; omega) (hso.trans (ws_perm hF hp)) hup hi⟩

abbrev Slaw_wishes : Stmt := topS 44
abbrev Nlaw_wishes : List Str := ["takes", "fills", "found", "number", "place", "first", "early", "other"]
theorem sclaw_wishes : FnScope Nlaw_wishes ["takes", "fills"] (defScope Slaw_wishes) := ⟨rfl, rfl, rfl, by decide +kernel, rfl, by decide +kernel, by decide +kernel⟩

theorem tw_atS (p : Int → Bool) : ∀ {l : List Int} {n : Nat} (h : n < l.length), n ≤ (l.takeWhile p).length → (p l[n] = true → n + 1 ≤ (l.takeWhile p).length) ∧ (p l[n] = false → (l.takeWhile p).length = n)
  | x :: l, 0, h, _ => by
    rw [List.takeWhile_cons]
    show (p x = true → _) ∧ (p x = false → _)
    cases p x <;> simp
  | x :: l, n + 1, h, h2 => by
    rw [List.takeWhile_cons] at h2 ⊢
    by_cases hx : p x = true
    · rw [if_pos hx] at h2 ⊢
      rw [List.length_cons] at h2 ⊢
      have := tw_atS p (l := l) (n := n) (by simpa using h) (by omega)
      exact ⟨fun z => by have := this.1 z; omega, fun z => by have := this.2 z; omega⟩
    · rw [if_neg hx] at h2
      cases h2
section
variable {P : Program} {w : World} {K : PySem.W.Frag} {mg : Str → Option Value} {base : Heap}
def spWishL : Sp := fun vs H Q _ => ∃ (a b : Addr) (ts fs ws : List Int), vs = [.ref a, .ref b] ∧ H a = some (.lst (vI ts)) ∧ H b = some (.lst (vI fs)) ∧ IsOrd ts ∧ fs.Perm ts ∧ ws.length = fs.length ∧ (∀ i, i < fs.length → ws.getD (fs.getD i 0).toNat 0 = wishF ts fs i) ∧ ∀ H' p, Same H H' → H p = none → H' p = some (.lst (vI ws)) → Q (.ref p) H'
theorem ok_law_wishes {f : Addr} {fd : FuncData} {k : Nat} (B : Bn mg) (F : Fun K "_law_wishes" "_law_wishes" Slaw_wishes f fd) : FnG P w K mg base (k + 1) f fd ["takes", "fills"] spWishL := by
  refine gok F sclaw_wishes (fun vs H Q E h => ?_) (fun cdv A fs s H vs Q E hG hr h => ?_)
  · obtain ⟨_, _, _, _, _, rfl, _⟩ := h; rfl
  · obtain ⟨a, b, ts, fl, ws, rfl, hA, hB, hT, hpm, lw, hws, q⟩ := h
    have hu := hr.units
    have tl := hT.top
    have hT0 := hT
    have lf := hpm.length_eq
    have hF : IsOrd fl := ⟨by rw [lf]; exact hT.pos, by rw [lf]; exact hT.top, fun x hx => by rw [lf]; exact hT.rng x (hpm.mem_iff.mp hx), hpm.nodup_iff.mpr hT.nd⟩
    refine ⟨_, (pss_cons (ps_set (i := 2) sclaw_wishes.nd rfl (Or.inl rfl) (pe_op op_rep (pe_lst (pa_cons pe_int pa_nil)) (pe_callB (k_len K) (by rfl) B.len Blen (pa_cons (pv 1) pa_nil)))) (pss_cons (ps_for (passes_of rfl) rfl (k_enum K (by rfl) B.enumerate (pa_cons (pv 1) pa_nil)) (k_gtup (n := 2) K rfl (pgs_cons (pg_name (i := 3) sclaw_wishes.nd rfl (Or.inl rfl)) (pgs_cons (pg_name (i := 4) sclaw_wishes.nd rfl (Or.inr rfl)) pgs_nil))) (pss_cons (ps_set (i := 5) sclaw_wishes.nd rfl (Or.inl rfl) (pv 3)) (pss_cons (ps_while (passes_of rfl) (pw_and (pt_cmpR op_gt (pv 5) pe_int (nomark _)) (pw_and1 (pt_cmpR op_lt (pe_ix (k_ixL K) (pv 1) (pe_op op_sub (pv 5) pe_int) (fun _ _ => rfl)) (pv 4) (nomark _)))).pt (pss_one (ps_set (i := 5) sclaw_wishes.nd rfl (Or.inl rfl) (pe_op op_sub (pv 5) pe_int)))) (pss_cons (ps_setLc (i := 6) (own := [("other", 7)]) rfl sclaw_wishes.nd rfl rfl (sw_true rfl rfl rfl (by decide +kernel)) (k_piL K (pe_slice (k_slL K) (pv 1) (po_some (pv 5)) (po_some (pv 3)))) (blkOk_by (own := [("other", 7)]) (N := Nlaw_wishes) (sc := defScope Slaw_wishes) (by decide +kernel)) (fun _ _ _ _ _ => (pg_name (i := 7) sclaw_wishes.nd rfl (Or.inl rfl))) (fun _ _ _ _ _ => (pts_one (pt_cmpR op_lt (k_bmP K (pe_bm PySem.F.plainAttrs_list PySem.F.slot_list_index PySem.F.type_list_index (k_index K) (pv 0) (pa_cons (pv 7) pa_nil))) (k_bmP K (pe_bm PySem.F.plainAttrs_list PySem.F.slot_list_index PySem.F.type_list_index (k_index K) (pv 0) (pa_cons (pv 4) pa_nil))) (nomark _)))) (fun _ _ _ _ _ => (pv 7))) (pss_one (ps_asg (pe_op op_add (pv 5) (pe_callB (k_len K) (by rfl) B.len Blen (pa_cons (pv 6) pa_nil))) (pg_sub (pv 2) (pv 4) set_list))))))) (pss_one (ps_ret (pv 2))))), ?_⟩
    walk_at "s"
    intro p0 np0
    have s3 := same_new (o := .lst [.int 0]) np0
    have hB3 := s3 _ _ hB
    walk_at "s"
    rw [vI_len]
    refine r_rep upd_same (by show 1 * _ ≤ 100000; omega) (by omega) fun wp nwp => ?_
    have e0 : (List.replicate fl.length [V.int 0]).flatten = vI (List.replicate fl.length 0) := by
      generalize fl.length = n
      induction n with
      | zero => rfl
      | succ n ih => rw [List.replicate_succ, List.flatten_cons, ih, List.replicate_succ]; rfl
    rw [e0]
    have s4 := same_new (o := .lst (vI (List.replicate fl.length 0))) nwp
    have hw4 : upd (upd H p0 (.lst [.int 0])) wp (.lst (vI (List.replicate fl.length 0))) wp = some (.lst (vI (List.replicate fl.length 0))) := upd_same
    have s04 := s3.trans s4
    have nwp0 := s3.free nwp
    have nbw : b ≠ wp := ne_new nwp0 hB
    generalize upd (upd H p0 _) wp _ = H4 at *
    have hB4 := s04 _ _ hB
    walk_at "s"
    refine ⟨b, vI fl, rfl, lst_of hB4, ?_⟩
    refine for_src src_enum (fun i σ H' => ∃ W v3 v4 v5 v6 v7, σ = [some (.ref a), some (.ref b), some (.ref wp), v3, v4, v5, v6, v7] ∧ Same H H' ∧ H' wp = some (.lst (vI W)) ∧ W.length = fl.length ∧ ∀ k, k < i → W.getD (fl.getD k 0).toNat 0 = wishF ts fl k) (fun i σ H' h => by
      obtain ⟨_, _, _, _, _, _, _, s, _⟩ := h
      exact lst_of (s _ _ hB)) ⟨_, none, none, none, none, none, rfl, s04, hw4, List.length_replicate, fun k hk => absurd hk (Nat.not_lt_zero _)⟩ ?_ ?_
    · rintro i v σ H3 H3' hi ⟨W, v3, v4, v5, v6, v7, rfl, s3, hw3, lW, hWk⟩ ⟨T, x, rfl, nT, rfl, hx⟩
      rw [vI_len] at hi
      rw [vI_getD hi] at hx
      cases hx
      have sT := same_new (o := .tup [.int ((i : Nat) : Int), .int (fl.getD i 0)]) nT
      have hT : upd H3 T (.tup [.int ((i : Nat) : Int), .int (fl.getD i 0)]) T = some (.tup [.int ((i : Nat) : Int), .int (fl.getD i 0)]) := upd_same
      have hw4 := sT _ _ hw3
      have s4 := s3.trans sT
      generalize upd H3 T _ = H4 at *
      have erp : ((fl.take i).reverse).length = i := by rw [List.length_reverse, List.length_take]; omega
      have hg1 : (lensF fl)[i]? = some ((((fl.take i).reverse).takeWhile fun y => decide (y < fl.getD i 0)).length + 1) := lens_at hi
      have hg2 : (offsF (nb ts) fl)[i]? = some (((((fl.take i).reverse).takeWhile fun y => decide (y < fl.getD i 0)).filter fun y => decide (nb ts y < nb ts (fl.getD i 0))).length) := offs_at hi
      have ew : wishF ts fl i = (i : Int) - ((((fl.take i).reverse).takeWhile fun y => decide (y < fl.getD i 0)).length : Nat) + (((((fl.take i).reverse).takeWhile fun y => decide (y < fl.getD i 0)).filter fun y => decide (nb ts y < nb ts (fl.getD i 0))).length : Nat) := by
        unfold wishF firF
        rw [List.getD_eq_getElem?_getD, List.getElem?_map, List.getElem?_range hi, List.getD_eq_getElem?_getD, hg2]
        show (i : Int) - ((lensF fl).getD i 0 : Nat) + 1 + _ = _
        rw [List.getD_eq_getElem?_getD, hg1]
        show (i : Int) - ((_ + 1 : Nat) : Int) + 1 + _ = _
        rw [Int.natCast_add]
        show _ = _ + ((_ : Nat) : Int)
        simp only [Option.getD_some]
        omega
      have hxm : fl.getD i 0 ∈ ts := hpm.mem_iff.mp (by rw [getD_el hi]; exact List.getElem_mem _)
      have hw : ∀ st : Nat, 0 < st → st ≤ i → i - st ≤ (((fl.take i).reverse).takeWhile fun y => decide (y < fl.getD i 0)).length → (fl.getD (st - 1) 0 < fl.getD i 0 → i - (st - 1) ≤ (((fl.take i).reverse).takeWhile fun y => decide (y < fl.getD i 0)).length) ∧ (¬ fl.getD (st - 1) 0 < fl.getD i 0 → (((fl.take i).reverse).takeWhile fun y => decide (y < fl.getD i 0)).length = i - st) := by
        intro st h0 h1 h2
        have hlt : i - st < ((fl.take i).reverse).length := by omega
        have hg : ((fl.take i).reverse)[i - st] = fl.getD (st - 1) 0 := by
          rw [List.getElem_reverse, List.getElem_take, getD_el (by omega)]
          congr 1
          rw [List.length_take]
          omega
        obtain ⟨z1, z2⟩ := tw_atS (fun y => decide (y < fl.getD i 0)) hlt h2
        rw [hg] at z1 z2
        exact ⟨fun h => by have := z1 (decide_eq_true h); omega, fun h => z2 (decide_eq_false h)⟩
      have hwl := tw_le (fun y => decide (y < fl.getD i 0)) (fl.take i).reverse
      rw [erp] at hwl
      have hct := tw_drop (fun y => decide (y < fl.getD i 0)) (fl.take i)
      rw [List.length_take, Nat.min_eq_left (by omega)] at hct
      generalize hW : ((fl.take i).reverse).takeWhile (fun y => decide (y < fl.getD i 0)) = Wl at *
      have hWm : ∀ y ∈ Wl, y ∈ ts := fun y hy => by
        rw [← hW] at hy
        have := (tw_mem _ hy).2
        exact hpm.mem_iff.mp (List.mem_of_mem_take (List.mem_reverse.mp this))
      walk_at "s"
      refine ⟨fun m σ H' => ∃ st : Nat, st = m ∧ σ = [some (.ref a), some (.ref b), some (.ref wp), some (.int ((i : Nat) : Int)), some (.int (fl.getD i 0)), some (.int ((st : Nat) : Int)), v6, v7] ∧ Same H H' ∧ H' wp = some (.lst (vI W)) ∧ st ≤ i ∧ i - st ≤ Wl.length, ⟨_, i, rfl, rfl, s4, hw4, Nat.le_refl _, by omega⟩, ?_⟩
      rintro m σ H5 ⟨st, rfl, rfl, s5, hw5, st1, st2⟩
      have hA5 := s5 _ _ hA
      have hB5 := s5 _ _ hB
      walk_at "s"
      by_cases h0 : 0 < st
      · refine ifDT (by omega) ?_
        have ea : atI (vI fl) ((st : Int) - 1) = some (.int (fl.getD (st - 1) 0)) := by
          have := atI_ints (ns := fl) (i := (st : Int) - 1) (by omega) (by omega)
          rw [show ((st : Int) - 1).toNat = st - 1 by omega] at this
          exact this
        obtain ⟨w1, w2⟩ := hw st h0 st1 st2
        walk_at "s"
        by_cases hc : fl.getD (st - 1) 0 < fl.getD i 0
        · refine ifDT hc ?_
          refine r_wN (I := fun m σ H' => ∃ st : Nat, st = m ∧ σ = [some (.ref a), some (.ref b), some (.ref wp), some (.int ((i : Nat) : Int)), some (.int (fl.getD i 0)), some (.int ((st : Nat) : Int)), v6, v7] ∧ Same H H' ∧ H' wp = some (.lst (vI W)) ∧ st ≤ i ∧ i - st ≤ Wl.length) ?_
          walk_at "s"
          rw [show (st : Int) - 1 = ((st - 1 : Nat) : Int) by omega]
          exact ⟨st - 1, by omega, st - 1, rfl, rfl, s5, hw5, by omega, w1 hc⟩
        · refine ifDF hc ?_
          have hk := w2 hc
          walk_at "s"
          intro sl nsl
          have est : st = i - Wl.length := by omega
          subst est
          rw [cut_mid (by omega), vI_take, vI_drop, ← hct]
          have ss := same_new (o := .lst (vI Wl.reverse)) nsl
          have hsl : upd H5 sl (.lst (vI Wl.reverse)) sl = some (.lst (vI Wl.reverse)) := upd_same
          have hw6 := ss _ _ hw5
          have hA6 := ss _ _ hA5
          have s6 := s5.trans ss
          generalize upd H5 sl (.lst (vI Wl.reverse)) = H6 at *
          refine ⟨sl, rfl, ⟨_, lst_of hsl⟩, fun Dl nD => ?_⟩
          refine lc_src (src_list (xs := vI Wl.reverse)) (fun j H' => H' Dl = some (.lst (vI ((Wl.reverse.take j).filter fun y => decide (nb ts y < nb ts (fl.getD i 0))))) ∧ Same H6 H')
            (fun i H' h => lst_of (h.2 _ _ hsl)) ⟨upd_same, same_new nD⟩ ?_ ?_
          · rintro j v H7 H8 hj ⟨hD, s7⟩ ⟨rfl, hv⟩
            rw [vI_len] at hj
            rw [vI_getD hj] at hv
            cases hv
            have hA7 := s7 _ _ hA6
            have hym : Wl.reverse.getD j 0 ∈ ts := hWm _ (by rw [getD_el hj]; exact List.mem_reverse.mp (List.getElem_mem _))
            have et : Wl.reverse.take (j + 1) = Wl.reverse.take j ++ [Wl.reverse.getD j 0] := by rw [List.take_add_one, List.getElem?_eq_getElem hj, getD_el hj]; rfl
            rw [et, List.filter_append]
            generalize Wl.reverse.getD j 0 = y at *
            refine ⟨rfl, ?_⟩
            walk_at "s"
            refine r_indexN (lst_of hA7) hT0.nd hym ?_
            walk_at "s"
            refine r_indexN (lst_of hA7) hT0.nd hxm ?_
            walk_at "s"
            refine ifD (fun hc => ?_) (fun hc => ?_)
            · have hc' : nb ts y < nb ts (fl.getD i 0) := hc
              walk_at "s"
              have hlw : ((Wl.reverse.take j).filter fun y => decide (nb ts y < nb ts (fl.getD i 0))).length ≤ j := Nat.le_trans (List.length_filter_le _ _) (List.length_take_le _ _)
              have hlr : Wl.reverse.length = Wl.length := List.length_reverse
              refine ⟨_, hD, szl (by rw [vI_len]; omega), ?_⟩
              rw [List.filter_cons, if_pos (decide_eq_true hc'), List.filter_nil, ← vI_app]
              exact ⟨upd_same, same_set s7 nD⟩
            · have hc' : ¬ nb ts y < nb ts (fl.getD i 0) := hc
              rw [List.filter_cons, if_neg (by simpa using hc'), List.filter_nil, List.append_nil]
              exact ⟨hD, s7⟩
          · rintro H7 ⟨hD, s7⟩
            rw [vI_len, List.take_length] at hD
            have hw7 := s7 _ _ hw6
            have s07 := s6.trans s7
            have hr := hF.rng (fl.getD i 0) (by rw [getD_el hi]; exact List.getElem_mem _)
            walk_at "s"
            refine r_setL hw7 (n := (fl.getD i 0).toNat) (by rw [vI_len]; exact ixN_ok hr.1 (by omega)) ?_
            refine ⟨W.set (fl.getD i 0).toNat (wishF ts fl i), _, _, _, _, _, rfl, same_set s07 nwp0, ?_, by rw [List.length_set]; exact lW, fun k hk => ?_⟩
            · rw [upd_same, vI_set, ew, vI_len, List.filter_reverse, List.length_reverse]
              refine congrArg (fun x => some (HO.lst (vI (W.set (fl.getD i 0).toNat x)))) ?_
              omega
            · by_cases hki : k = i
              · subst hki
                rw [List.getD_eq_getElem?_getD, List.getElem?_set_self (by omega)]
                rfl
              · have hk2 : k < i := by omega
                have hne : (fl.getD i 0).toNat ≠ (fl.getD k 0).toNat := fun e => by
                  have hrk := hF.rng (fl.getD k 0) (by rw [getD_el (show k < fl.length by omega)]; exact List.getElem_mem _)
                  have e2 : fl.getD i 0 = fl.getD k 0 := by omega
                  rw [getD_el hi, getD_el (show k < fl.length by omega)] at e2
                  exact hki ((List.getElem_inj hF.nd).mp e2).symm
                rw [List.getD_eq_getElem?_getD, List.getElem?_set_ne hne, ← List.getD_eq_getElem?_getD]
                exact hWk k hk2
      · refine ifDF (by omega) ?_
        have hk : Wl.length = i - st := by omega
        walk_at "s"
        intro sl nsl
        have est : st = i - Wl.length := by omega
        subst est
        rw [cut_mid (by omega), vI_take, vI_drop, ← hct]
        have ss := same_new (o := .lst (vI Wl.reverse)) nsl
        have hsl : upd H5 sl (.lst (vI Wl.reverse)) sl = some (.lst (vI Wl.reverse)) := upd_same
        have hw6 := ss _ _ hw5
        have hA6 := ss _ _ hA5
        have s6 := s5.trans ss
        generalize upd H5 sl (.lst (vI Wl.reverse)) = H6 at *
        refine ⟨sl, rfl, ⟨_, lst_of hsl⟩, fun Dl nD => ?_⟩
        refine lc_src (src_list (xs := vI Wl.reverse)) (fun j H' => H' Dl = some (.lst (vI ((Wl.reverse.take j).filter fun y => decide (nb ts y < nb ts (fl.getD i 0))))) ∧ Same H6 H')
          (fun i H' h => lst_of (h.2 _ _ hsl)) ⟨upd_same, same_new nD⟩ ?_ ?_
        · rintro j v H7 H8 hj ⟨hD, s7⟩ ⟨rfl, hv⟩
          rw [vI_len] at hj
          rw [vI_getD hj] at hv
          cases hv
          have hA7 := s7 _ _ hA6
          have hym : Wl.reverse.getD j 0 ∈ ts := hWm _ (by rw [getD_el hj]; exact List.mem_reverse.mp (List.getElem_mem _))
          have et : Wl.reverse.take (j + 1) = Wl.reverse.take j ++ [Wl.reverse.getD j 0] := by rw [List.take_add_one, List.getElem?_eq_getElem hj, getD_el hj]; rfl
          rw [et, List.filter_append]
          generalize Wl.reverse.getD j 0 = y at *
          refine ⟨rfl, ?_⟩
          walk_at "s"
          refine r_indexN (lst_of hA7) hT0.nd hym ?_
          walk_at "s"
          refine r_indexN (lst_of hA7) hT0.nd hxm ?_
          walk_at "s"
          refine ifD (fun hc => ?_) (fun hc => ?_)
          · have hc' : nb ts y < nb ts (fl.getD i 0) := hc
            walk_at "s"
            have hlw : ((Wl.reverse.take j).filter fun y => decide (nb ts y < nb ts (fl.getD i 0))).length ≤ j := Nat.le_trans (List.length_filter_le _ _) (List.length_take_le _ _)
            have hlr : Wl.reverse.length = Wl.length := List.length_reverse
            refine ⟨_, hD, szl (by rw [vI_len]; omega), ?_⟩
            rw [List.filter_cons, if_pos (decide_eq_true hc'), List.filter_nil, ← vI_app]
            exact ⟨upd_same, same_set s7 nD⟩
          · have hc' : ¬ nb ts y < nb ts (fl.getD i 0) := hc
            rw [List.filter_cons, if_neg (by simpa using hc'), List.filter_nil, List.append_nil]
            exact ⟨hD, s7⟩
        · rintro H7 ⟨hD, s7⟩
          rw [vI_len, List.take_length] at hD
          have hw7 := s7 _ _ hw6
          have s07 := s6.trans s7
          have hr := hF.rng (fl.getD i 0) (by rw [getD_el hi]; exact List.getElem_mem _)
          walk_at "s"
          refine r_setL hw7 (n := (fl.getD i 0).toNat) (by rw [vI_len]; exact ixN_ok hr.1 (by omega)) ?_
          refine ⟨W.set (fl.getD i 0).toNat (wishF ts fl i), _, _, _, _, _, rfl, same_set s07 nwp0, ?_, by rw [List.length_set]; exact lW, fun k hk => ?_⟩
          · rw [upd_same, vI_set, ew, vI_len, List.filter_reverse, List.length_reverse]
            refine congrArg (fun x => some (HO.lst (vI (W.set (fl.getD i 0).toNat x)))) ?_
            omega
          · by_cases hki : k = i
            · subst hki
              rw [List.getD_eq_getElem?_getD, List.getElem?_set_self (by omega)]
              rfl
            · have hk2 : k < i := by omega
              have hne : (fl.getD i 0).toNat ≠ (fl.getD k 0).toNat := fun e => by
                have hrk := hF.rng (fl.getD k 0) (by rw [getD_el (show k < fl.length by omega)]; exact List.getElem_mem _)
                have e2 : fl.getD i 0 = fl.getD k 0 := by omega
                rw [getD_el hi, getD_el (show k < fl.length by omega)] at e2
                exact hki ((List.getElem_inj hF.nd).mp e2).symm
              rw [List.getD_eq_getElem?_getD, List.getElem?_set_ne hne, ← List.getD_eq_getElem?_getD]
              exact hWk k hk2
    · rintro σ H3 ⟨W, v3, v4, v5, v6, v7, rfl, s3, hw3, lW, hWk⟩
      rw [vI_len] at hWk
      have eW : W = ws := List.ext_getElem (by omega) fun n h1 h2 => by
        obtain ⟨p, hp, ep⟩ := ord_at hF (show n < fl.length by omega)
        have a1 := hWk p hp
        have a2 := hws p hp
        rw [ep, Int.toNat_natCast, getD_el h1] at a1
        rw [ep, Int.toNat_natCast, getD_el h2] at a2
        rw [a1, a2]
      rw [eW] at hw3
      walk_at "s"
      exact q _ wp s3 nwp0 hw3
end

abbrev Slaw_spring : Stmt := topS 38
abbrev Nlaw_spring : List Str := ["script", "digits", "seed", "cell"]
theorem sclaw_spring : FnScope Nlaw_spring ["script"] (defScope Slaw_spring) := ⟨rfl, rfl, rfl, by decide +kernel, rfl, by decide +kernel, by decide +kernel⟩
abbrev Slaw_draw : Stmt := topS 39
abbrev Nlaw_draw : List Str := ["spring", "many", "found", "mix"]
theorem sclaw_draw : FnScope Nlaw_draw ["spring", "many"] (defScope Slaw_draw) := ⟨rfl, rfl, rfl, by decide +kernel, rfl, by decide +kernel, by decide +kernel⟩
abbrev Slaw_mixed : Stmt := topS 42
abbrev Nlaw_mixed : List Str := ["spring", "row", "left", "k"]
theorem sclaw_mixed : FnScope Nlaw_mixed ["spring", "row"] (defScope Slaw_mixed) := ⟨rfl, rfl, rfl, by decide +kernel, rfl, by decide +kernel, by decide +kernel⟩

def SpringAt (H : Hp) (r : Addr) : Prop := ∃ dg sd c : Int, H r = some (.lst [.int dg, .int sd, .int c]) ∧ 0 ≤ dg ∧ 0 ≤ sd ∧ sd < 2305843009213693951
theorem SpringAt.same {H H' : Hp} {r : Addr} (h : SpringAt H r) (s : Same H H') : SpringAt H' r := by
  obtain ⟨dg, sd, c, h, z⟩ := h
  exact ⟨dg, sd, c, s _ _ h, z⟩
theorem SpringAt.upd {H : Hp} {r p : Addr} {o : HO} (h : SpringAt H r) (n : r ≠ p) : SpringAt (L2.upd H p o) r := by
  obtain ⟨dg, sd, c, h, z⟩ := h
  exact ⟨dg, sd, c, (upd_ne n).trans h, z⟩
theorem SpringAt.ne {H : Hp} {r p : Addr} (h : SpringAt H r) (n : H p = none) : r ≠ p := by
  obtain ⟨dg, sd, c, h, z⟩ := h
  exact ne_new n h
theorem SpringAt.got {H : Hp} {r : Addr} (h : SpringAt H r) : H r ≠ none := by
  obtain ⟨dg, sd, c, h, z⟩ := h
  rw [h]; simp
def spDraw : Sp := fun vs H Q _ => ∃ (r : Addr) (n : Int), vs = [.ref r, .int n] ∧ SpringAt H r ∧ 0 < n ∧ n < 2 ^ 200 ∧ ∀ d H', 0 ≤ d → d < n → SpringAt H' r → Kp r H H' → Q (.int d) H'
def spSpring (K : PySem.W.Frag) : Sp := fun vs H Q _ => ∃ (a : Addr) (ns : List Int), vs = [.ref a] ∧ SqL K H a (ns.map V.int) ∧ ∀ H' r, Same H H' → H r = none → SpringAt H' r → Q (.ref r) H'
section
variable {P : Program} {w : World} {K : PySem.W.Frag} {mg : Str → Option Value} {base : Heap}
theorem ok_law_draw {f : Addr} {fd : FuncData} {k : Nat} (F : Fun K "_law_draw" "_law_draw" Slaw_draw f fd) : FnG P w K mg base (k + 1) f fd ["spring", "many"] spDraw := by
  refine gok F sclaw_draw (fun vs H Q E h => ?_) (fun cdv A fs s H vs Q E hG hr h => ?_)
  · obtain ⟨r, n, rfl, _⟩ := h; rfl
  · obtain ⟨r, n, rfl, ⟨dg, sd, c, hR, h0, h1, h2⟩, hn, hn2, q⟩ := h
    have hu := hr.units
    refine ⟨_, (pss_cons (ps_if (pt_cmpR op_gt (pe_ix (k_ixL K) (pv 0) pe_int (fun _ _ => rfl)) pe_int (nomark _)) (pss_cons (ps_set (i := 2) sclaw_draw.nd rfl (Or.inl rfl) (pe_op op_mod (pe_ix (k_ixL K) (pv 0) pe_int (fun _ _ => rfl)) (pv 1))) (pss_cons (ps_asg (pe_op op_fdivW (pe_ix (k_ixL K) (pv 0) pe_int (fun _ _ => rfl)) (pv 1)) (pg_sub (pv 0) pe_int set_list)) (pss_one (ps_ret (pv 2))))) pss_nil) (pss_cons (ps_asg (pe_op op_add (pe_ix (k_ixL K) (pv 0) pe_int (fun _ _ => rfl)) pe_int) (pg_sub (pv 0) pe_int set_list)) (pss_cons (ps_set (i := 3) sclaw_draw.nd rfl (Or.inl rfl) (pe_op op_mod (pe_op op_mul (pe_ix (k_ixL K) (pv 0) pe_int (fun _ _ => rfl)) (pe_ix (k_ixL K) (pv 0) pe_int (fun _ _ => rfl))) pe_int)) (pss_cons (ps_asg (pe_op op_mod (pe_op op_add (pe_op op_add (pv 3) (pe_op op_mul (pe_op op_mul pe_int (pe_ix (k_ixL K) (pv 0) pe_int (fun _ _ => rfl))) (pe_ix (k_ixL K) (pv 0) pe_int (fun _ _ => rfl)))) pe_int) pe_int) (pg_sub (pv 0) pe_int set_list)) (pss_one (ps_ret (pe_op op_mod (pe_op op_fdivW (pe_ix (k_ixL K) (pv 0) pe_int (fun _ _ => rfl)) pe_int) (pv 1)))))))), ?_⟩
    walk_at "s"
    refine ifD (fun hd => ?_) (fun hd => ?_)
    · walk_at "s"
      refine q _ _ (Int.emod_nonneg _ (by omega)) (Int.emod_lt_of_pos _ hn) ⟨_, _, _, upd_same, Int.ediv_nonneg (by omega) (by omega), h1, h2⟩ Kp.set
    · walk_at "s"
      refine q _ _ (Int.emod_nonneg _ (by omega)) (Int.emod_lt_of_pos _ hn) ⟨_, _, _, upd_same, h0, Int.emod_nonneg _ (by decide), Int.emod_lt_of_pos _ (by decide)⟩ (Kp.set.trans Kp.set)
theorem dig (dg i : Nat) (x : Int) (h : dg < 10 ^ (60 * i)) (h0 : 0 ≤ x) (h1 : x < 10 ^ 60) : ∃ d : Nat, (dg : Int) * 10 ^ 60 + x = (d : Int) ∧ d < 10 ^ (60 * (i + 1)) := by
  refine ⟨dg * 10 ^ 60 + x.toNat, ?_, ?_⟩
  · have := Int.toNat_of_nonneg h0
    rw [Int.natCast_add, this, Int.natCast_mul]
    rfl
  · have hx : x.toNat < 10 ^ 60 := by omega
    rw [show (10 : Nat) ^ (60 * (i + 1)) = 10 ^ (60 * i) * 10 ^ 60 from by rw [Nat.mul_succ 60 i, Nat.pow_add]]
    generalize (10 : Nat) ^ (60 * i) = u at h ⊢
    generalize (10 : Nat) ^ 60 = v at hx ⊢
    have z : (dg + 1) * v ≤ u * v := Nat.mul_le_mul_right v h
    rw [Nat.succ_mul] at z
    omega
theorem ok_law_spring {f : Addr} {fd : FuncData} {k : Nat} (B : Bn mg) (F : Fun K "_law_spring" "_law_spring" Slaw_spring f fd) : FnG P w K mg base (k + 1) f fd ["script"] (spSpring K) := by
  refine gok F sclaw_spring (fun vs H Q E h => ?_) (fun cdv A fs s H vs Q E hG hr h => ?_)
  · obtain ⟨_, _, rfl, _⟩ := h; rfl
  · obtain ⟨a, ns, rfl, hA, q⟩ := h
    have hu := hr.units
    refine ⟨_, (pss_cons (ps_set (i := 1) sclaw_spring.nd rfl (Or.inl rfl) pe_int) (pss_cons (ps_set (i := 2) sclaw_spring.nd rfl (Or.inl rfl) pe_int) (pss_cons (ps_for (passes_of rfl) rfl (k_piL K (pe_slice (k_slL K) (pv 0) po_none (po_some pe_int))) (pg_name (i := 3) sclaw_spring.nd rfl (Or.inl rfl)) (pss_cons (ps_if (pt_cmpR op_ge (pe_callB call_abs' (by rfl) B.abs Babs (pa_cons (pv 3) pa_nil)) (pe_op op_pow pe_int pe_int) (nomark _)) (pss_one (ps_set (i := 1) sclaw_spring.nd rfl (Or.inl rfl) (pe_op op_add (pe_op op_mulW (pv 1) (pe_op op_pow pe_int pe_int)) (pe_op op_mod (pe_callB call_abs' (by rfl) B.abs Babs (pa_cons (pv 3) pa_nil)) (pe_op op_pow pe_int pe_int))))) pss_nil) (pss_one (ps_set (i := 2) sclaw_spring.nd rfl (Or.inl rfl) (pe_op op_mod (pe_op op_add (pe_op op_add (pe_op op_mul (pv 2) pe_int) (pe_op op_mod (pv 3) pe_int)) pe_int) pe_int))))) (pss_one (ps_ret (pe_lst (pa_cons (pv 1) (pa_cons (pv 2) (pa_cons pe_int pa_nil))))))))), ?_⟩
    walk_at "s"
    intro t nt
    rw [show cutV (ns.map V.int) none (some 63) = vI (ns.take 63) from (cut_hi (k := 63)).trans (vI_take ns 63)]
    have lc : (ns.take 63).length ≤ 63 := by rw [List.length_take]; omega
    generalize ns.take 63 = cs at lc
    have s1 := same_new (o := .lst (vI cs)) nt
    refine ⟨t, rfl, ⟨_, lst_of upd_same⟩, ?_⟩
    refine for_src (src_list (xs := vI cs)) (fun i σ H' => ∃ (dg : Nat) (sd : Int) (v3 : Option V), σ = [some (.ref a), some (.int (dg : Int)), some (.int sd), v3] ∧ Same H H' ∧ H' t = some (.lst (vI cs)) ∧ dg < 10 ^ (60 * i) ∧ 0 ≤ sd ∧ sd < 2305843009213693951)
      (fun i σ H h => by obtain ⟨_, _, _, _, _, h, _⟩ := h; exact lst_of h) ⟨0, 88651, none, rfl, s1, upd_same, by decide, by decide, by decide⟩ ?_ ?_
    · rintro i v σ H1 H1' hi ⟨dg, sd, v3, rfl, sA, hT, d1, s0, s1⟩ ⟨rfl, hv⟩
      rw [vI_len] at hi
      rw [vI_at hi] at hv
      cases hv
      have m0 : ∀ x : Int, 0 ≤ x % 2305843009213693951 ∧ x % 2305843009213693951 < 2305843009213693951 := fun x => ⟨Int.emod_nonneg _ (by decide), Int.emod_lt_of_pos _ (by decide)⟩
      walk_at "s"
      refine ifD (fun hd => ?_) (fun hd => ?_)
      · walk_at "s"
        have hc : CMulW (dg : Int) (10 ^ Int.toNat 60) := by
          refine wide_mul (a := 13000) (b := 200) ?_ ?_ (by decide) (by decide) (by decide)
          · have e1 : (10 : Nat) ^ (60 * i) ≤ 10 ^ 3780 := Nat.pow_le_pow_right (by decide) (by omega)
            have e2 : (10 : Nat) ^ 3780 < 2 ^ 13000 := by decide +kernel
            show dg < 2 ^ 13000
            exact Nat.lt_trans (Nat.lt_of_lt_of_le d1 e1) e2
          · decide +kernel
        refine r_I hc ?_
        walk_at "s"
        obtain ⟨d, e, d2⟩ := dig dg i ((if cs[i] < 0 then -cs[i] else cs[i]) % 10 ^ 60) d1 (Int.emod_nonneg _ (by decide)) (Int.emod_lt_of_pos _ (by decide))
        have e' : (dg : Int) * 10 ^ Int.toNat 60 + (if cs[i] < 0 then -cs[i] else cs[i]) % 10 ^ Int.toNat 60 = (d : Int) := e
        rw [e']
        exact ⟨d, _, _, rfl, sA, hT, d2, (m0 _).1, (m0 _).2⟩
      · walk_at "s"
        refine ⟨dg, _, _, rfl, sA, hT, Nat.lt_of_lt_of_le d1 (Nat.pow_le_pow_right (by decide) (by omega)), (m0 _).1, (m0 _).2⟩
    · rintro σ H1 ⟨dg, sd, v3, rfl, sA, hT, d1, s0, s1⟩
      walk_at "s"
      intro r nr
      exact q _ r (sA.trans (same_new nr)) (sA.free nr) ⟨_, _, _, upd_same, by omega, s0, s1⟩
theorem erase_perm {α : Type} : ∀ (l : List α) (i : Nat) (h : i < l.length), ([l[i]] ++ l.eraseIdx i).Perm l
  | x :: l, 0, _ => .refl _
  | x :: l, i + 1, h => by
    have ih := erase_perm l i (Nat.lt_of_succ_lt_succ h)
    exact (List.Perm.swap x _ _).trans (ih.cons x)
def spMixed : Sp := fun vs H Q _ => ∃ (r a : Addr) (xs : List V), vs = [.ref r, .ref a] ∧ SpringAt H r ∧ H a = some (.lst xs) ∧ a ≠ r ∧ xs.length ≤ 100000 ∧ ∀ ys p H', ys.Perm xs → SpringAt H' r → Kp r H H' → H p = none → H' p = some (.lst ys) → Q (.ref p) H'
theorem ok_law_mixed {f : Addr} {fd : FuncData} (B : Bn mg) (D_law_draw : Df P w K mg base 1 "_law_draw" [] spDraw) (F : Fun K "_law_mixed" "_law_mixed" Slaw_mixed f fd) : FnG P w K mg base 2 f fd ["spring", "row"] spMixed := by
  refine gok F sclaw_mixed (fun vs H Q E h => ?_) (fun cdv A fs s H vs Q E hG hr h => ?_)
  · obtain ⟨_, _, _, rfl, _⟩ := h; rfl
  · obtain ⟨r, a, xs, rfl, hS, hA, nar, hl, q⟩ := h
    have hu := hr.units
    refine ⟨_, (pss_cons (ps_set (i := 2) sclaw_mixed.nd rfl (Or.inr rfl) (pe_callTy (k_list K) (by rfl) B.list Tlist (pa_cons (pv 1) pa_nil))) (pss_one (ps_ret (pe_lc (own := [("k", 3)]) rfl sclaw_mixed.nd (pi_range1 (by rfl) B.range (pa_cons (pe_callB (k_len K) (by rfl) B.len Blen (pa_cons (pv 1) pa_nil)) pa_nil)) (blkOk_by (own := [("k", 3)]) (N := Nlaw_mixed) (sc := defScope Slaw_mixed) (by decide +kernel)) (fun _ _ _ _ _ => (pg_name (i := 3) sclaw_mixed.nd rfl (Or.inl rfl))) (fun _ _ _ _ _ => pts_nil) (fun _ _ _ _ _ => (k_bmP K (pe_bm PySem.F.plainAttrs_list PySem.F.slot_list_pop PySem.F.type_list_pop mt_popAt (pv 2) (pa_cons (pe_df D_law_draw hG (hr.mono (by first | decide | omega)) passL (by rfl) (pa_cons (pv 0) (pa_cons (pe_callB (k_len K) (by rfl) B.len Blen (pa_cons (pv 2) pa_nil)) pa_nil))) pa_nil)))))))), ?_⟩
    walk_at "s"
    intro left nl
    have s1 := same_new (o := .lst xs) nl
    have hA1 := s1 _ _ hA
    have hS1 := hS.same s1
    walk_at "s"
    refine ⟨_, rfl, by omega, by omega, fun Dl nD => ?_⟩
    rw [Int.toNat_natCast]
    have nr : r ≠ left := hS.ne nl
    have nrD : r ≠ Dl := hS1.ne nD
    have nlD : left ≠ Dl := ne_new nD upd_same
    refine lc_src src_range (fun i H' => ∃ acc lf, acc.length = i ∧ (acc ++ lf).Perm xs ∧ H' left = some (.lst lf) ∧ H' Dl = some (.lst acc) ∧ Kp r H H' ∧ SpringAt H' r) (fun _ _ _ => trivial) ⟨[], xs, rfl, .refl _, (upd_ne nlD).trans upd_same, upd_same, Kp.of (s1.trans (same_new nD)), hS1.same (same_new nD)⟩ ?_ ?_
    · rintro i v H1 H1' hi ⟨acc, lf, ha, hp, hL, hD, hK, hS2⟩ ⟨rfl, rfl⟩
      have ll : acc.length + lf.length = xs.length := by rw [← List.length_append]; exact hp.length_eq
      walk_at "s"
      refine ⟨rfl, ?_⟩
      walk_at "s"
      refine ⟨r, _, rfl, hS2, by omega, by have : (lf.length : Int) ≤ 100000 := by omega
                                           have e : (100000 : Int) < 2 ^ 200 := by decide
                                           omega, fun d H3 d0 d1 hS3 hK3 => ?_⟩
      have hL3 := hK3.get nr.symm hL
      have hD3 := hK3.get nrD.symm hD
      have hx : lf[d.toNat]? = some (lf[d.toNat]'(by omega)) := List.getElem?_eq_getElem (by omega)
      walk_at "s"
      refine ⟨left, lf, d, d.toNat, _, rfl, rfl, hL3, by omega, by omega, seq_ix d0 d1, hx, ?_⟩
      walk_at "s"
      refine ⟨acc, (upd_ne nlD.symm).trans hD3, szl (by omega), ?_⟩
      refine ⟨acc ++ [lf[d.toNat]'(by omega)], lf.eraseIdx d.toNat, by rw [List.length_append, ha]; rfl, ?_, (upd_ne nlD).trans upd_same, upd_same, ((hK.trans hK3).put nl).put (s1.free nD), (hS3.upd nr).upd nrD⟩
      refine List.Perm.trans ?_ hp
      rw [List.append_assoc]
      refine List.Perm.append_left acc ?_
      exact erase_perm _ _ (by omega)
    · rintro H1 ⟨acc, lf, ha, hp, hL, hD, hK, hS2⟩
      have ll : acc.length + lf.length = xs.length := by rw [← List.length_append]; exact hp.length_eq
      have e : lf = [] := List.length_eq_zero_iff.mp (by omega)
      subst e
      rw [List.append_nil] at hp
      exact q acc Dl H1 hp hS2 hK (s1.free nD) hD
end

abbrev Slaw_pair : Stmt := topS 43
abbrev Nlaw_pair : List Str := ["spring", "size", "takes", "left", "gaps", "fills", "liking"]
theorem sclaw_pair : FnScope Nlaw_pair ["spring", "size"] (defScope Slaw_pair) := ⟨rfl, rfl, rfl, by decide +kernel, rfl, by decide +kernel, by decide +kernel⟩

theorem r_ifT {T : TT} {ts tu : TS} {D : Ends} {σ : L2.St} {H : Hp} (J : Bool → Hp → Prop) (h : ∀ R : Bool → Hp → Prop, (∀ b H1, J b H1 → R b H1) → T σ H R) (m : ∀ b H1, J b H1 → if b = true then ts D σ H1 else tu D σ H1) : tIfS T ts tu D σ H := h _ m
section
variable {P : Program} {w : World} {K : PySem.W.Frag} {mg : Str → Option Value} {base : Heap}
def spPairS : Sp := fun vs H Q _ => ∃ (r : Addr) (n : Nat), vs = [.ref r, .int (n : Int)] ∧ SpringAt H r ∧ 1 ≤ n ∧ n ≤ 200 ∧ ∀ tp fp pp ts p H', ts.Perm (iota n) → IsPat p n → SpringAt H' r → Kp r H H' → H tp = none → H fp = none → H pp = none → tp ≠ fp → H' tp = some (.lst (vI ts)) → H' fp = some (.lst (vI (fillF ts p))) → H' pp = some (.lst [.ref tp, .ref fp]) → Q (.ref pp) H'
theorem ok_law_pair {f : Addr} {fd : FuncData} (B : Bn mg) (D_law_draw : Df P w K mg base 1 "_law_draw" [] spDraw) (D_law_mixed : Df P w K mg base 2 "_law_mixed" [] spMixed) (F : Fun K "_law_pair" "_law_pair" Slaw_pair f fd) : FnG P w K mg base 3 f fd ["spring", "size"] spPairS := by
  refine gok F sclaw_pair (fun vs H Q E h => ?_) (fun cdv A fs s H vs Q E hG hr h => ?_)
  · obtain ⟨_, _, rfl, _⟩ := h; rfl
  · obtain ⟨r, n, rfl, hS, n1, n2, q⟩ := h
    have hu := hr.units
    refine ⟨_, (pss_cons (ps_set (i := 2) sclaw_pair.nd rfl (Or.inl rfl) (pe_ix (k_ixL K) (pe_lst (pa_cons (pe_df D_law_mixed hG (hr.mono (by first | decide | omega)) passL (by rfl) (pa_cons (pv 0) (pa_cons (pe_listRg rfl (by rfl) B.list (prg_1 (by rfl) B.range (pv 1))) pa_nil))) (pa_cons (pe_listRg rfl (by rfl) B.list (prg_1 (by rfl) B.range (pv 1))) (pa_cons (k_rev K (pe_listRg rfl (by rfl) B.list (prg_1 (by rfl) B.range (pv 1)))) pa_nil)))) (pe_df D_law_draw hG (hr.mono (by first | decide | omega)) passL (by rfl) (pa_cons (pv 0) (pa_cons pe_int pa_nil))) (fun _ _ => rfl))) (pss_cons (ps_par3 (i := 3) (j := 4) (l := 5) rfl sclaw_pair.nd rfl rfl rfl (by decide) (by decide) (by decide) rfl rfl rfl (pa_cons (pe_callTy (k_list K) (by rfl) B.list Tlist (pa_cons (pv 2) pa_nil)) (pa_cons (pe_lst pa_nil) (pa_cons (pe_lst pa_nil) pa_nil))) (by with_unfolding_all rfl)) (pss_cons (ps_set (i := 6) sclaw_pair.nd rfl (Or.inl rfl) (pe_op op_add pe_int (pe_df D_law_draw hG (hr.mono (by first | decide | omega)) passL (by rfl) (pa_cons (pv 0) (pa_cons pe_int pa_nil))))) (pss_cons (ps_while (passes_of rfl) (pt_cmpR op_lt (pe_callB (k_len K) (by rfl) B.len Blen (pa_cons (pv 5) pa_nil)) (pv 1) (nomark _)) (pss_one (ps_if (pw_and (pt_cmpR (k_neD K hu) (pv 3) (pe_lst pa_nil) (nomark _)) (pw_and1 (pw_or (pt_cmpR (k_eqD K hu) (pv 4) (pe_lst pa_nil) (nomark _)) (pw_or1 (pt_cmpR op_gt (pe_df D_law_draw hG (hr.mono (by first | decide | omega)) passL (by rfl) (pa_cons (pv 0) (pa_cons (pv 6) pa_nil))) pe_int (nomark _)))).pt)).pt (pss_one (ps_set (i := 4) sclaw_pair.nd rfl (Or.inl rfl) (pe_callB (k_sorted K) (by rfl) B.sorted Bsorted (pa_cons (pe_op op_cat (pv 4) (pe_lst (pa_cons (k_bmP K (pe_bm PySem.F.plainAttrs_list PySem.F.slot_list_pop PySem.F.type_list_pop mt_popAt (pv 3) (pa_cons pe_int pa_nil))) pa_nil))) pa_nil)))) (pss_one (ps_expr (k_bmP K (pe_bm PySem.F.plainAttrs_list PySem.F.slot_list_append PySem.F.type_list_append mt_append (pv 5) (pa_cons (k_bmP K (pe_bm PySem.F.plainAttrs_list PySem.F.slot_list_pop PySem.F.type_list_pop mt_popAt (pv 4) (pa_cons pe_int pa_nil))) pa_nil)))))))) (pss_one (ps_ret (pe_lst (pa_cons (pv 2) (pa_cons (pv 5) pa_nil))))))))), ?_⟩
    walk_at "s"
    refine ⟨⟨by omega, by omega⟩, fun a1 na1 => ?_⟩
    rw [iota_rg]
    have li := iota_len n
    have s1 := same_new (o := .lst (vI (iota n))) na1
    have ha1 : upd H a1 (.lst (vI (iota n))) a1 = some (.lst (vI (iota n))) := upd_same
    have hS1 := hS.same s1
    have n1r : a1 ≠ r := (hS.ne na1).symm
    generalize upd H a1 (.lst (vI (iota n))) = H1 at *
    walk_at "s"
    refine ⟨r, a1, vI (iota n), rfl, hS1, ha1, n1r, by rw [vI_len]; omega, fun ys m1 H2 hys hS2 hK2 nm1 hm1 => ?_⟩
    obtain ⟨ms, rfl, hms⟩ := perm_vI hys
    have nm1r : m1 ≠ r := fun z => by rw [z] at nm1; exact hS1.got nm1
    have nm10 := s1.free nm1
    have hK02 := (Kp.of s1).trans hK2
    walk_at "s"
    refine ⟨⟨by omega, by omega⟩, fun a2 na2 => ?_⟩
    rw [iota_rg]
    have s3 := same_new (o := .lst (vI (iota n))) na2
    have ha2 : upd H2 a2 (.lst (vI (iota n))) a2 = some (.lst (vI (iota n))) := upd_same
    have hm13 := s3 _ _ hm1
    have hS3 := hS2.same s3
    have n2r : a2 ≠ r := (hS2.ne na2).symm
    have na20 := hK02.free na2 n2r
    have hK03 := hK02.trans (Kp.of s3)
    generalize upd H2 a2 (.lst (vI (iota n))) = H3 at *
    walk_at "s"
    refine ⟨⟨by omega, by omega⟩, fun a3 na3 => ?_⟩
    rw [iota_rg]
    have s4 := same_new (o := .lst (vI (iota n))) na3
    have ha3 : upd H3 a3 (.lst (vI (iota n))) a3 = some (.lst (vI (iota n))) := upd_same
    have hm14 := s4 _ _ hm13
    have ha24 := s4 _ _ ha2
    have hS4 := hS3.same s4
    have hK04 := hK03.trans (Kp.of s4)
    generalize upd H3 a3 (.lst (vI (iota n))) = H4 at *
    walk_at "s"
    refine ⟨a3, _, rfl, lst_of ha3, fun a4 na4 => ?_⟩
    rw [vI_rev]
    have s5 := same_new (o := .lst (vI (iota n).reverse)) na4
    have ha4 : upd H4 a4 (.lst (vI (iota n).reverse)) a4 = some (.lst (vI (iota n).reverse)) := upd_same
    have hm15 := s5 _ _ hm14
    have ha25 := s5 _ _ ha24
    have hS5 := hS4.same s5
    have n4r : a4 ≠ r := (hS4.ne na4).symm
    have na40 := hK04.free na4 n4r
    have hK05 := hK04.trans (Kp.of s5)
    generalize upd H4 a4 (.lst (vI (iota n).reverse)) = H5 at *
    walk_at "s"
    intro z nz
    have sz1 := same_new (o := .lst [.ref m1, .ref a2, .ref a4]) nz
    have hz : upd H5 z (.lst [.ref m1, .ref a2, .ref a4]) z = some (.lst [.ref m1, .ref a2, .ref a4]) := upd_same
    have hm16 := sz1 _ _ hm15
    have ha26 := sz1 _ _ ha25
    have ha46 := sz1 _ _ ha4
    have hS6 := hS5.same sz1
    have nzr : z ≠ r := (hS5.ne nz).symm
    have hK06 := hK05.trans (Kp.of sz1)
    generalize upd H5 z _ = H6 at *
    walk_at "s"
    refine ⟨r, 3, rfl, hS6, by decide, by decide, fun d H7 d0 d1 hS7 hK7 => ?_⟩
    have hz7 := hK7.get nzr hz
    have hK07 := hK06.trans hK7
    have hch : ∃ (tp : Addr) (ts : List Int), atI [V.ref m1, V.ref a2, V.ref a4] d = some (.ref tp) ∧ H tp = none ∧ tp ≠ r ∧ H7 tp = some (.lst (vI ts)) ∧ ts.Perm (iota n) := by
      have : d = 0 ∨ d = 1 ∨ d = 2 := by omega
      rcases this with rfl | rfl | rfl
      · exact ⟨m1, ms, rfl, nm10, nm1r, hK7.get nm1r hm16, hms⟩
      · exact ⟨a2, iota n, rfl, na20, n2r, hK7.get n2r ha26, .refl _⟩
      · exact ⟨a4, _, rfl, na40, n4r, hK7.get n4r ha46, List.reverse_perm _⟩
    obtain ⟨tp, ts, hch, ntp0, ntr, htp, hts⟩ := hch
    have lts : ts.length = n := hts.length_eq.trans li
    refine r_ixL (lst_of hz7) hch ?_
    walk_at "s"
    intro lp nlp
    have s8 := same_new (o := .lst (vI ts)) nlp
    have hlp : upd H7 lp (.lst (vI ts)) lp = some (.lst (vI ts)) := upd_same
    have htp8 := s8 _ _ htp
    have hS8 := hS7.same s8
    have nlr : lp ≠ r := (hS7.ne nlp).symm
    have nlt : tp ≠ lp := ne_new nlp htp
    have nlp0 := hK07.free nlp nlr
    have hK08 := hK07.trans (Kp.of s8)
    generalize upd H7 lp (.lst (vI ts)) = H8 at *
    walk_at "s"
    intro g ng
    have s9 := same_new (o := .lst []) ng
    have hg : upd H8 g (.lst []) g = some (.lst (vI [])) := upd_same
    have htp9 := s9 _ _ htp8
    have hlp9 := s9 _ _ hlp
    have hS9 := hS8.same s9
    have ngr : g ≠ r := (hS8.ne ng).symm
    have ngt : tp ≠ g := ne_new ng htp8
    have ngl : lp ≠ g := ne_new ng hlp
    have ng0 := hK08.free ng ngr
    have hK09 := hK08.trans (Kp.of s9)
    generalize upd H8 g (.lst []) = H9 at *
    walk_at "s"
    intro fo nfo
    have s10 := same_new (o := .lst []) nfo
    have hfo : upd H9 fo (.lst []) fo = some (.lst (vI [])) := upd_same
    have htp10 := s10 _ _ htp9
    have hlp10 := s10 _ _ hlp9
    have hg10 := s10 _ _ hg
    have hS10 := hS9.same s10
    have nfr : fo ≠ r := (hS9.ne nfo).symm
    have nft : tp ≠ fo := ne_new nfo htp9
    have nfl : lp ≠ fo := ne_new nfo hlp9
    have nfg : g ≠ fo := ne_new nfo hg
    have nfo0 := hK09.free nfo nfr
    have hK10 := hK09.trans (Kp.of s10)
    generalize upd H9 fo (.lst []) = H10 at *
    walk_at "s"
    refine ⟨r, 6, rfl, hS10, by decide, by decide, fun d2 H11 d20 d21 hS11 hK11 => ?_⟩
    have htp11 := hK11.get ntr htp10
    have hlp11 := hK11.get nlr hlp10
    have hg11 := hK11.get ngr hg10
    have hfo11 := hK11.get nfr hfo
    have hK011 := hK10.trans hK11
    walk_at "s"
    refine ⟨fun m σ H' => ∃ (p : List Bool) (gp : Addr) (gs : List Int), 2 * n - p.length = m ∧ Way p n p.length ∧ σ = [some (.ref r), some (.int (n : Int)), some (.ref tp), some (.ref lp), some (.ref gp), some (.ref fo), some (.int (2 + d2))] ∧ SpringAt H' r ∧ Kp r H H' ∧ H' tp = some (.lst (vI ts)) ∧ H' lp = some (.lst (vI (ts.drop (tks p)))) ∧ H' gp = some (.lst (vI gs)) ∧ gs.Perm (runF ts p).1 ∧ gs.Pairwise (· ≤ ·) ∧ H' fo = some (.lst (vI (runF ts p).2.1)) ∧ gp ≠ fo ∧ lp ≠ gp ∧ tp ≠ gp ∧ gp ≠ r ∧ H gp = none, ⟨_, [], g, [], rfl, .nil n, rfl, hS11, hK011, htp11, by exact hlp11, hg11, .refl _, .nil, hfo11, nfg, ngl, ngt, ngr, ng0⟩, ?_⟩
    rintro m σ H12 ⟨p, gp, gs, rfl, hW, rfl, hS12, hK12, ht12, hl12, hg12, hgs, hup, hf12, b1, b2, b3, b4, b5⟩
    obtain ⟨r1, r2, r3⟩ := runF_tk ts hW.pos p.length (Nat.le_refl _)
    rw [List.take_length] at r1 r2 r3
    have e := dif_tks p
    have hfew := hW.few
    have hdf := hW.pos p.length
    rw [List.take_length] at hdf
    have gl := hgs.length_eq
    walk_at "s"
    rw [vI_len]
    by_cases hlt : (runF ts p).2.1.length < n
    · refine ifDT (by omega) ?_
      refine r_wN (I := fun m σ H' => ∃ (p : List Bool) (gp : Addr) (gs : List Int), 2 * n - p.length = m ∧ Way p n p.length ∧ σ = [some (.ref r), some (.int (n : Int)), some (.ref tp), some (.ref lp), some (.ref gp), some (.ref fo), some (.int (2 + d2))] ∧ SpringAt H' r ∧ Kp r H H' ∧ H' tp = some (.lst (vI ts)) ∧ H' lp = some (.lst (vI (ts.drop (tks p)))) ∧ H' gp = some (.lst (vI gs)) ∧ gs.Perm (runF ts p).1 ∧ gs.Pairwise (· ≤ ·) ∧ H' fo = some (.lst (vI (runF ts p).2.1)) ∧ gp ≠ fo ∧ lp ≠ gp ∧ tp ≠ gp ∧ gp ≠ r ∧ H gp = none) ?_
      have lle : (ts.drop (tks p)).length = n - tks p := by rw [List.length_drop, lts]
      refine r_ifT (fun b H' => SpringAt H' r ∧ Kp r H12 H' ∧ (b = true → tks p < n) ∧ (b = false → gs ≠ [])) (fun R hR => ?_) (fun b H13 hb => ?_)
      · walk_at "s"
        intro x1 nx1
        have sx := same_new (o := .lst []) nx1
        refine r_neLI (xs := ts.drop (tks p)) (ys := []) (lst_of (sx _ _ hl12)) (lst_of upd_same) ?_
        refine ⟨_, rfl, ?_⟩
        refine ifN (c := ts.drop (tks p) = []) (fun hne => ?_) (fun he => ?_)
        · have hlt2 : tks p < n := by
            refine Nat.lt_of_not_le fun h => hne ?_
            exact List.length_eq_zero_iff.mp (by omega)
          have hS13 := hS12.same sx
          have hK13 := Kp.of (r := r) sx
          have hg13 := sx _ _ hg12
          generalize upd H12 x1 (.lst []) = H13 at *
          walk_at "s"
          intro x2 nx2
          have sx2 := same_new (o := .lst []) nx2
          refine r_eqLI (xs := gs) (ys := []) (lst_of (sx2 _ _ hg13)) (lst_of upd_same) ?_
          refine ⟨_, rfl, ?_⟩
          refine ifD (c := gs = []) (fun hge => ?_) (fun hge => ?_)
          · exact hR true _ ⟨hS13.same sx2, hK13.trans (Kp.of sx2), fun _ => hlt2, fun h => (by cases h)⟩
          · walk_at "s"
            refine ⟨r, 2 + d2, rfl, hS13.same sx2, by omega, Int.lt_of_le_of_lt (show 2 + d2 ≤ 8 by omega) (by decide), fun d3 H14 d30 d31 hS14 hK14 => ?_⟩
            walk_at "s"
            exact hR _ _ ⟨hS14, (hK13.trans (Kp.of sx2)).trans hK14, fun _ => hlt2, fun _ => hge⟩
        · refine hR false _ ⟨hS12.same sx, Kp.of sx, fun h => (by cases h), fun _ hgn => ?_⟩
          have : (ts.drop (tks p)).length = 0 := by rw [he]; rfl
          have : gs.length = 0 := by rw [hgn]; rfl
          omega
      · obtain ⟨hS13, hK13, hT, hRf⟩ := hb
        have ht13 := hK13.get ntr ht12
        have hl13 := hK13.get nlr hl12
        have hg13 := hK13.get b4 hg12
        have hf13 := hK13.get nfr hf12
        have hK013 := hK12.trans hK13
        cases b with
        | true =>
          have hlt2 := hT rfl
          have hx : (vI (ts.drop (tks p)))[0]? = some (.int (ts.getD (tks p) 0)) := by
            rw [vI_getD (show 0 < (ts.drop (tks p)).length by omega), List.getD_eq_getElem?_getD, List.getElem?_drop, Nat.add_zero, ← List.getD_eq_getElem?_getD]
          have hz : 1 ≤ (ts.drop (tks p)).length := by omega
          have e0 : (vI (ts.drop (tks p))).eraseIdx (Int.toNat 0) = vI (ts.drop (tks p + 1)) := by
            rw [show Int.toNat 0 = 0 from rfl, List.eraseIdx_zero, ← List.drop_one, vI_drop, List.drop_drop]
          walk_at "s"
          refine r_popAt hl13 (by decide) (by rw [vI_len]; omega) (by rw [vI_len]; omega) hx ?_
          rw [e0]
          have ht14 : upd H13 lp (.lst (vI (ts.drop (tks p + 1)))) tp = _ := (upd_ne nlt).trans ht13
          have hg14 : upd H13 lp (.lst (vI (ts.drop (tks p + 1)))) gp = _ := (upd_ne b2.symm).trans hg13
          have hf14 : upd H13 lp (.lst (vI (ts.drop (tks p + 1)))) fo = _ := (upd_ne nfl.symm).trans hf13
          have hl14 : upd H13 lp (.lst (vI (ts.drop (tks p + 1)))) lp = some (.lst (vI (ts.drop (tks p + 1)))) := upd_same
          have hS14 := hS13.upd (p := lp) (o := .lst (vI (ts.drop (tks p + 1)))) nlr.symm
          have hK14 := hK013.put (o := .lst (vI (ts.drop (tks p + 1)))) nlp0
          generalize upd H13 lp (.lst (vI (ts.drop (tks p + 1)))) = H14 at *
          walk_at "s"
          intro x3 nx3
          have s3 := same_new (o := .lst [.int (ts.getD (tks p) 0)]) nx3
          refine r_cat (xs := vI gs) (zs := vI [ts.getD (tks p) 0]) (s3 _ _ hg14) upd_same (sz (by rw [vI_len]; show gs.length + 1 ≤ _; omega)) fun x4 nx4 => ?_
          rw [vI_app]
          have s4 := s3.trans (same_new (o := .lst (vI (gs ++ [ts.getD (tks p) 0]))) nx4)
          have h4 : upd (upd H14 x3 (.lst [.int (ts.getD (tks p) 0)])) x4 (.lst (vI (gs ++ [ts.getD (tks p) 0]))) x4 = some (.lst (vI (gs ++ [ts.getD (tks p) 0]))) := upd_same
          generalize upd (upd H14 x3 _) x4 _ = H16 at *
          walk_at "s"
          refine r_sortI (lst_of h4) fun so x5 hso hup5 nx5 => ?_
          have s5 := s4.trans (same_new (o := .lst (vI so)) nx5)
          have nx5r : x5 ≠ r := ((hS14.same s4).ne nx5).symm
          have nx50 : H x5 = none := hK14.free (s4.free nx5) nx5r
          walk_at "s"
          have er : runF ts (p ++ [true]) = ((runF ts p).1 ++ [ts.getD (tks p) 0], (runF ts p).2.1, (runF ts p).2.2 + 1) := by rw [runF_app, ← r1]; rfl
          refine ⟨2 * n - (p ++ [true]).length, by rw [List.length_append]; show 2 * n - (p.length + 1) < _; omega, p ++ [true], x5, so, rfl, ?_, rfl, hS14.same s5, hK14.trans (Kp.of s5), s5 _ _ ht14, ?_, upd_same, ?_, hup5, ?_, ?_, ?_, ?_, nx5r, nx50⟩
          · rw [List.length_append]
            exact hW.add (by rw [tks_app]; show tks p + 1 ≤ n; omega) (by rw [dif_app]; show 0 ≤ dif p + 1; omega)
          · rw [tks_app]; exact s5 _ _ hl14
          · rw [er]; exact hso.trans (hgs.append_right _)
          · rw [er]; exact s5 _ _ hf14
          · exact fun z => by rw [z, s4 _ _ hf14] at nx5; cases nx5
          · exact fun z => by rw [← z, s4 _ _ hl14] at nx5; cases nx5
          · exact fun z => by rw [← z, s4 _ _ ht14] at nx5; cases nx5
        | false =>
          have hgn := hRf rfl
          obtain ⟨y, g', rfl⟩ : ∃ y g', gs = y :: g' := by
            cases gs with
            | nil => exact absurd rfl hgn
            | cons y g' => exact ⟨y, g', rfl⟩
          rw [List.pairwise_cons] at hup
          have em : minI (runF ts p).1 = y := by
            rw [← minI_perm hgs]
            exact (minI_eq List.mem_cons_self fun z hz => by
              rcases List.mem_cons.mp hz with e | hz
              · omega
              · exact hup.1 z hz).symm
          have e0 : (vI (y :: g')).eraseIdx (Int.toNat 0) = vI g' := rfl
          have gl' : g'.length + 1 = (runF ts p).1.length := gl
          walk_at "s"
          refine r_popAt hg13 (by decide) (by rw [vI_len]; show (0 : Int) < ((g'.length + 1 : Nat) : Int); omega) (by rw [vI_len]; show g'.length + 1 ≤ _; omega) rfl ?_
          rw [e0]
          have hf14 : upd H13 gp (.lst (vI g')) fo = _ := (upd_ne b1.symm).trans hf13
          walk_at "s"
          have er : runF ts (p ++ [false]) = ((runF ts p).1.erase y, (runF ts p).2.1 ++ [y], (runF ts p).2.2) := by rw [runF_app, ← em]; rfl
          refine ⟨2 * n - (p ++ [false]).length, by rw [List.length_append]; show 2 * n - (p.length + 1) < _; omega, p ++ [false], gp, g', rfl, ?_, rfl, (hS13.upd b4.symm).upd nfr.symm, (hK013.put b5).put nfo0, (upd_ne nft).trans ((upd_ne b3).trans ht13), ?_, (upd_ne b1).trans upd_same, ?_, hup.2, ?_, b1, b2, b3, b4, b5⟩
          · rw [List.length_append]
            exact hW.add (by rw [tks_app]; show tks p + 0 ≤ n; omega) (by rw [dif_app]; show 0 ≤ dif p + -1; omega)
          · rw [tks_app]; exact (upd_ne nfl).trans ((upd_ne b2).trans hl13)
          · rw [er]
            have := hgs.erase y
            rwa [List.erase_cons_head] at this
          · rw [er, upd_same]
            exact congrArg (fun l => some (HO.lst l)) (vI_app _ [y])
    · refine ifDF (by omega) ?_
      have hP : IsPat p n := Way.all (by have := hW; rw [show p.length = 2 * n by omega] at this; exact this) n2
      walk_at "s"
      intro pp npp
      have s13 := same_new (o := .lst [.ref tp, .ref fo]) npp
      have nppr : pp ≠ r := (hS12.ne npp).symm
      exact q tp fo pp ts p _ hts hP (hS12.same s13) (hK12.trans (Kp.of s13)) ntp0 nfo0 (hK12.free npp nppr) nft (s13 _ _ ht12) (s13 _ _ hf12) upd_same
end

abbrev Slaw_dressed : Stmt := topS 41
abbrev Nlaw_dressed : List Str := ["spring", "value", "parts", "part"]
theorem sclaw_dressed : FnScope Nlaw_dressed ["spring", "value"] (defScope Slaw_dressed) := ⟨rfl, rfl, rfl, by decide +kernel, rfl, by decide +kernel, by decide +kernel⟩

section
variable {P : Program} {w : World} {K : PySem.W.Frag} {mg : Str → Option Value} {base : Heap}
def spDressed (m : Nat) : Sp := fun vs H Q _ => ∃ (r : Addr) (x : V) (d : PyData), vs = [.ref r, x] ∧ SpringAt H r ∧ Tr (fun a => a ≠ r) H x d ∧ d.depth < m ∧ ∀ y e H', Drs d e → SpringAt H' r → Kp r H H' → Tr (fun a => a ≠ r ∧ H a = none) H' y e → Q y H'
theorem ok_law_dressed {f : Addr} {fd : FuncData} (B : Bn mg) (D_law_draw : Df P w K mg base 1 "_law_draw" [] spDraw) (F : Fun K "_law_dressed" "_law_dressed" Slaw_dressed f fd) (mk : ∀ m, FnG P w K mg base (m + 2) f fd ["spring", "value"] (spDressed m) → Df P w K mg base (m + 2) "_law_dressed" [] (spDressed m)) :
    ∀ m, FnG P w K mg base (m + 2) f fd ["spring", "value"] (spDressed m) := by
  intro m
  induction m with
  | zero => exact ⟨fun vs H Q E h => by obtain ⟨_, _, _, rfl, _⟩ := h; rfl, fun A fs s H ar us vs Q E _ _ _ _ _ h => by obtain ⟨_, _, _, _, _, _, h, _⟩ := h; exact absurd h (Nat.not_lt_zero _)⟩
  | succ m ih =>
  have D_law_dressed := mk m ih
  refine gok F sclaw_dressed (fun vs H Q E h => ?_) (fun cdv A fs s H vs Q E hG hr h => ?_)
  · obtain ⟨_, _, _, rfl, _⟩ := h; rfl
  · obtain ⟨r, x, d, rfl, hS, hx, hd, q⟩ := h
    have hu := hr.units
    refine ⟨_, (pss_cons (ps_if (pt_not (pt_val (pe_callB (k_isiT K) (by rfl) B.isinstance Bisinstance (pa_cons (pv 1) (pa_cons (pe_tup (pa_cons (pe_bltn (v := .ty "list") (by rfl) B.list Tlist rfl) (pa_cons (pe_bltn (v := .ty "tuple") (by rfl) B.tuple Ttuple rfl) pa_nil))) pa_nil))))) (pss_one (ps_ret (pv 1))) pss_nil) (pss_cons (ps_setLc (i := 2) (own := [("part", 3)]) rfl sclaw_dressed.nd rfl rfl (sw_true rfl rfl rfl (by decide +kernel)) (pi_or (k_piL K (pv 1)) (k_piT K (pv 1))) (blkOk_by (own := [("part", 3)]) (N := Nlaw_dressed) (sc := defScope Slaw_dressed) (by decide +kernel)) (fun _ _ _ _ _ => (pg_name (i := 3) sclaw_dressed.nd rfl (Or.inl rfl))) (fun _ _ _ _ _ => pts_nil) (fun _ _ _ _ _ => (pe_df D_law_dressed hG (hr.mono (by first | decide | omega)) passL (by rfl) (pa_cons (pv 0) (pa_cons (pv 3) pa_nil))))) (pss_one (ps_ret (pe_ifExp (pt_cmpR op_eq (pe_df D_law_draw hG (hr.mono (by first | decide | omega)) passL (by rfl) (pa_cons (pv 0) (pa_cons pe_int pa_nil))) pe_int (nomark _)) (pv 2) (pe_callTy (k_tuple K) (by rfl) B.tuple Ttuple (pa_cons (pv 2) pa_nil))))))), ?_⟩
    walk_at "s"
    intro t nt
    have s1 := same_new (o := .tup [.ty "list", .ty "tuple"]) nt
    have hx1 := hx.same s1
    have hS1 := hS.same s1
    cases hx1 with
    | non =>
      walk_at "s"
      exact q _ _ _ .non hS1 (Kp.of s1) .non
    | int i =>
      walk_at "s"
      exact q _ _ _ (.int i) hS1 (Kp.of s1) (.int i)
    | bl i =>
      walk_at "s"
      exact q _ _ _ (.bl i) hS1 (Kp.of s1) (.bl i)
    | str i =>
      walk_at "s"
      exact q _ _ _ (.str i) hS1 (Kp.of s1) (.str i)
    | lst h1 g1 hz h2 =>
      rename_i a xs ds
      walk_at "s"
      refine .inl ?_
      walk_at "s"
      have lx := h2.len
      refine ⟨a, rfl, ⟨_, lst_of h1⟩, fun Dl nD => ?_⟩
      have s2 := same_new (o := .lst []) nD
      have nrD : r ≠ Dl := hS1.ne nD
      have naD : a ≠ Dl := ne_new nD h1
      refine lc_src (src_list (xs := xs)) (fun i H' => ∃ acc es, DrsAll (ds.take i) es ∧ TrAll (fun b => b ≠ r ∧ H b = none ∧ b ≠ Dl) H' acc es ∧ H' Dl = some (.lst acc) ∧ acc.length = i ∧ Kp r (upd H t (.tup [.ty "list", .ty "tuple"])) H' ∧ SpringAt H' r)
        (fun i H' h => by obtain ⟨_, _, _, _, _, _, k, _⟩ := h; exact lst_of (k.get g1 h1)) ⟨[], [], by rw [List.take_zero]; exact .nil, .nil, upd_same, rfl, Kp.of s2, hS1.same s2⟩ ?_ ?_
      · rintro i v H3 H3' hi ⟨acc, es, hd1, ht1, hD, la, hK, hS3⟩ ⟨rfl, hv⟩
        obtain ⟨d, gd, td⟩ := h2.at hv
        have td' : Tr (fun b => b ≠ r) H3' v d := td.move fun b o g e => ⟨hK.get g e, g⟩
        walk_at "s"
        refine ⟨rfl, ?_⟩
        walk_at "s"
        have z1 := depth_mem (List.mem_of_getElem? gd)
        have z2 : PyData.depthAll ds + 1 < m + 1 := hd
        refine ⟨r, v, d, rfl, hS3, td', by omega, fun y e H4 he hS4 hK4 ht4 => ?_⟩
        have hD4 := hK4.get nrD.symm hD
        refine ⟨acc, hD4, szl (by omega), acc ++ [y], es ++ [e], ?_, ?_, upd_same, by rw [List.length_append, la]; rfl, (hK.trans hK4).put nD, hS4.upd nrD⟩
        · rw [List.take_add_one, gd]
          exact hd1.snoc he
        · refine TrAll.snoc (ht1.move fun b o g e => ⟨?_, g⟩) (ht4.move fun b o g e => ?_)
          · rw [upd_ne g.2.2]; exact hK4.get g.1 e
          · have nb : b ≠ Dl := fun z => by rw [z, hD] at g; cases g.2
            refine ⟨(upd_ne nb).trans e, g.1, ?_, nb⟩
            exact s1.free (hK.free g.2 g.1)
      · rintro H3 ⟨acc, es, hd1, ht1, hD, la, hK, hS3⟩
        rw [List.take_of_length_le (by omega)] at hd1
        walk_at "s"
        refine ⟨r, 2, rfl, hS3, by decide, by decide, fun c H4 c0 c1 hS4 hK4 => ?_⟩
        have hD4 := hK4.get nrD.symm hD
        have ht4 : TrAll (fun b => b ≠ r ∧ H b = none) H4 acc es := ht1.move fun b o g e => ⟨hK4.get g.1 e, g.1, g.2.1⟩
        have hK5 : Kp r H H4 := ((Kp.of s1).trans hK).trans hK4
        have n0 : H Dl = none := s1.free nD
        walk_at "s"
        refine ifD (fun _ => ?_) (fun _ => ?_)
        · walk_at "s"
          exact q _ _ _ (.ll hd1) hS4 hK5 (.lst hD4 ⟨nrD.symm, n0⟩ (by omega) ht4)
        · walk_at "s"
          refine r_tupleL (lst_of hD4) fun u nu => ?_
          walk_at "s"
          have s5 := same_new (o := .tup acc) nu
          exact q _ _ _ (.lt hd1) (hS4.same s5) (hK5.put (hK5.free nu (hS4.ne nu).symm)) (.tup upd_same ⟨(hS4.ne nu).symm, hK5.free nu (hS4.ne nu).symm⟩ (by omega) (ht4.same s5))
    | tup h1 g1 hz h2 =>
      rename_i a xs ds
      walk_at "s"
      refine .inr ?_
      walk_at "s"
      have lx := h2.len
      refine ⟨a, rfl, ⟨_, tup_of h1⟩, fun Dl nD => ?_⟩
      have s2 := same_new (o := .lst []) nD
      have nrD : r ≠ Dl := hS1.ne nD
      have naD : a ≠ Dl := ne_new nD h1
      refine lc_src (src_tup (xs := xs)) (fun i H' => ∃ acc es, DrsAll (ds.take i) es ∧ TrAll (fun b => b ≠ r ∧ H b = none ∧ b ≠ Dl) H' acc es ∧ H' Dl = some (.lst acc) ∧ acc.length = i ∧ Kp r (upd H t (.tup [.ty "list", .ty "tuple"])) H' ∧ SpringAt H' r)
        (fun i H' h => by obtain ⟨_, _, _, _, _, _, k, _⟩ := h; exact tup_of (k.get g1 h1)) ⟨[], [], by rw [List.take_zero]; exact .nil, .nil, upd_same, rfl, Kp.of s2, hS1.same s2⟩ ?_ ?_
      · rintro i v H3 H3' hi ⟨acc, es, hd1, ht1, hD, la, hK, hS3⟩ ⟨rfl, hv⟩
        obtain ⟨d, gd, td⟩ := h2.at hv
        have td' : Tr (fun b => b ≠ r) H3' v d := td.move fun b o g e => ⟨hK.get g e, g⟩
        walk_at "s"
        refine ⟨rfl, ?_⟩
        walk_at "s"
        have z1 := depth_mem (List.mem_of_getElem? gd)
        have z2 : PyData.depthAll ds + 1 < m + 1 := hd
        refine ⟨r, v, d, rfl, hS3, td', by omega, fun y e H4 he hS4 hK4 ht4 => ?_⟩
        have hD4 := hK4.get nrD.symm hD
        refine ⟨acc, hD4, szl (by omega), acc ++ [y], es ++ [e], ?_, ?_, upd_same, by rw [List.length_append, la]; rfl, (hK.trans hK4).put nD, hS4.upd nrD⟩
        · rw [List.take_add_one, gd]
          exact hd1.snoc he
        · refine TrAll.snoc (ht1.move fun b o g e => ⟨?_, g⟩) (ht4.move fun b o g e => ?_)
          · rw [upd_ne g.2.2]; exact hK4.get g.1 e
          · have nb : b ≠ Dl := fun z => by rw [z, hD] at g; cases g.2
            refine ⟨(upd_ne nb).trans e, g.1, ?_, nb⟩
            exact s1.free (hK.free g.2 g.1)
      · rintro H3 ⟨acc, es, hd1, ht1, hD, la, hK, hS3⟩
        rw [List.take_of_length_le (by omega)] at hd1
        walk_at "s"
        refine ⟨r, 2, rfl, hS3, by decide, by decide, fun c H4 c0 c1 hS4 hK4 => ?_⟩
        have hD4 := hK4.get nrD.symm hD
        have ht4 : TrAll (fun b => b ≠ r ∧ H b = none) H4 acc es := ht1.move fun b o g e => ⟨hK4.get g.1 e, g.1, g.2.1⟩
        have hK5 : Kp r H H4 := ((Kp.of s1).trans hK).trans hK4
        have n0 : H Dl = none := s1.free nD
        walk_at "s"
        refine ifD (fun _ => ?_) (fun _ => ?_)
        · walk_at "s"
          exact q _ _ _ (.tl hd1) hS4 hK5 (.lst hD4 ⟨nrD.symm, n0⟩ (by omega) ht4)
        · walk_at "s"
          refine r_tupleL (lst_of hD4) fun u nu => ?_
          walk_at "s"
          have s5 := same_new (o := .tup acc) nu
          exact q _ _ _ (.tt hd1) (hS4.same s5) (hK5.put (hK5.free nu (hS4.ne nu).symm)) (.tup upd_same ⟨(hS4.ne nu).symm, hK5.free nu (hS4.ne nu).symm⟩ (by omega) (ht4.same s5))
theorem D_dressed {f : Addr} {fd : FuncData} (B : Bn mg) (D_law_draw : Df P w K mg base 1 "_law_draw" [] spDraw) (F : Fun K "_law_dressed" "_law_dressed" Slaw_dressed f fd) (hm : mg "_law_dressed" = some (.ref f)) (hk : PySem.W.keepIn K (.ref f) = true) (hb : Binds K fd ["spring", "value"] []) (m : Nat) : Df P w K mg base (m + 2) "_law_dressed" [] (spDressed m) :=
  ⟨_, _, _, _, ok_law_dressed B D_law_draw F (fun _ G => ⟨_, _, _, _, G, hm, hk, hb, .nil⟩) m, hm, hk, hb, .nil⟩
end

abbrev Slaw_same : Stmt := topS 40
abbrev Nlaw_same : List Str := ["found", "due", "k"]
theorem sclaw_same : FnScope Nlaw_same ["found", "due"] (defScope Slaw_same) := ⟨rfl, rfl, rfl, by decide +kernel, rfl, by decide +kernel, by decide +kernel⟩

section
variable {P : Program} {w : World} {K : PySem.W.Frag} {mg : Str → Option Value} {base : Heap}
def spSame (m : Nat) : Sp := fun vs H Q _ => ∃ (x y : V) (d : PyData), vs = [x, y] ∧ Tr (fun _ => True) H x d ∧ Tr (fun _ => True) H y d ∧ d.depth < m ∧ ∀ H', Same H H' → Q (.bl true) H'
theorem ok_law_same {f : Addr} {fd : FuncData} (B : Bn mg) (F : Fun K "_law_same" "_law_same" Slaw_same f fd) (mk : ∀ m, FnG P w K mg base m f fd ["found", "due"] (spSame m) → Df P w K mg base m "_law_same" [] (spSame m)) :
    ∀ m, FnG P w K mg base m f fd ["found", "due"] (spSame m) := by
  intro m
  induction m with
  | zero => exact ⟨fun vs H Q E h => by obtain ⟨_, _, _, rfl, _⟩ := h; rfl, fun A fs s H ar us vs Q E _ _ _ _ _ h => by obtain ⟨_, _, _, _, _, _, h, _⟩ := h; exact absurd h (Nat.not_lt_zero _)⟩
  | succ m ih =>
  have D_law_same := mk m ih
  refine gok F sclaw_same (fun vs H Q E h => ?_) (fun cdv A fs s H vs Q E hG hr h => ?_)
  · obtain ⟨_, _, _, rfl, _⟩ := h; rfl
  · obtain ⟨x, y, d, rfl, hx, hy, hd, q⟩ := h
    have hu := hr.units
    refine ⟨_, (pss_cons (ps_if (pt_val (pe_callB (k_isiT K) (by rfl) B.isinstance Bisinstance (pa_cons (pv 1) (pa_cons (pe_tup (pa_cons (pe_bltn (v := .ty "list") (by rfl) B.list Tlist rfl) (pa_cons (pe_bltn (v := .ty "tuple") (by rfl) B.tuple Ttuple rfl) pa_nil))) pa_nil)))) (pss_cons (ps_if (pw_or (pt_cmpR op_ne (pe_callB (k_isi K) (by rfl) B.isinstance Bisinstance (pa_cons (pv 0) (pa_cons (pe_bltn (v := .ty "list") (by rfl) B.list Tlist rfl) pa_nil))) (pe_callB (k_isi K) (by rfl) B.isinstance Bisinstance (pa_cons (pv 1) (pa_cons (pe_bltn (v := .ty "list") (by rfl) B.list Tlist rfl) pa_nil))) (nomark _)) (pw_or1 (pt_cmpR op_ne (pe_callB (k_isi K) (by rfl) B.isinstance Bisinstance (pa_cons (pv 0) (pa_cons (pe_bltn (v := .ty "tuple") (by rfl) B.tuple Ttuple rfl) pa_nil))) (pe_callB (k_isi K) (by rfl) B.isinstance Bisinstance (pa_cons (pv 1) (pa_cons (pe_bltn (v := .ty "tuple") (by rfl) B.tuple Ttuple rfl) pa_nil))) (nomark _)))).pt (pss_one (ps_ret pe_bl)) pss_nil) (pss_one (ps_ret (pe_and (pe_cmpR op_eq (pe_callB (k_len K) (by rfl) B.len Blen (pa_cons (pv 0) pa_nil)) (pe_callB (k_len K) (by rfl) B.len Blen (pa_cons (pv 1) pa_nil)) (nomark _)) (pe_one (pe_callB (k_all K) (by rfl) B.all Ball (pa_cons (pe_lc (own := [("k", 2)]) rfl sclaw_same.nd (pi_range1 (by rfl) B.range (pa_cons (pe_callB (k_len K) (by rfl) B.len Blen (pa_cons (pv 1) pa_nil)) pa_nil)) (blkOk_by (own := [("k", 2)]) (N := Nlaw_same) (sc := defScope Slaw_same) (by decide +kernel)) (fun _ _ _ _ _ => (pg_name (i := 2) sclaw_same.nd rfl (Or.inl rfl))) (fun _ _ _ _ _ => pts_nil) (fun _ _ _ _ _ => (pe_df D_law_same hG (hr.mono (by first | decide | omega)) passL (by rfl) (pa_cons (pe_ix (ix_or (k_ixL K) (k_ixT K)) (pv 0) (pv 2) (fun _ _ => rfl)) (pa_cons (pe_ix (ix_or (k_ixL K) (k_ixT K)) (pv 1) (pv 2) (fun _ _ => rfl)) pa_nil))))) pa_nil))))))) pss_nil) (pss_cons (ps_if (pw_or (pt_cmpR op_isN' (pv 1) pe_non (nomark _)) (pw_or1 (pt_cmpR op_isN' (pv 0) pe_non (nomark _)))).pt (pss_one (ps_ret (pe_and (pe_cmpR op_isN' (pv 1) pe_non (nomark _)) (pe_one (pe_cmpR op_isN' (pv 0) pe_non (nomark _)))))) pss_nil) (pss_cons (ps_if (pw_or (pt_cmpR op_ne (pe_callB (k_isi K) (by rfl) B.isinstance Bisinstance (pa_cons (pv 1) (pa_cons (pe_bltn (v := .ty "bool") (by rfl) B.bool Tbool rfl) pa_nil))) (pe_callB (k_isi K) (by rfl) B.isinstance Bisinstance (pa_cons (pv 0) (pa_cons (pe_bltn (v := .ty "bool") (by rfl) B.bool Tbool rfl) pa_nil))) (nomark _)) (pw_or1 (pt_cmpR op_ne (pe_callB (k_isi K) (by rfl) B.isinstance Bisinstance (pa_cons (pv 1) (pa_cons (pe_bltn (v := .ty "str") (by rfl) B.str Tstr rfl) pa_nil))) (pe_callB (k_isi K) (by rfl) B.isinstance Bisinstance (pa_cons (pv 0) (pa_cons (pe_bltn (v := .ty "str") (by rfl) B.str Tstr rfl) pa_nil))) (nomark _)))).pt (pss_one (ps_ret pe_bl)) pss_nil) (pss_one (ps_ret (pe_cmpR op_eq (pv 0) (pv 1) (nomark _))))))), ?_⟩
    walk_at "s"
    intro t nt
    have s1 := same_new (o := .tup [.ty "list", .ty "tuple"]) nt
    have hx1 := hx.same s1
    have hy1 := hy.same s1
    cases hx1 with
    | non =>
      cases hy1
      walk_at "s"
      exact q _ s1
    | int i =>
      cases hy1
      walk_at "s"
      rw [decide_eq_true rfl]
      exact q _ s1
    | bl b =>
      cases hy1
      walk_at "s"
      rw [decide_eq_true rfl]
      exact q _ s1
    | str b =>
      cases hy1
      walk_at "s"
      rw [decide_eq_true rfl]
      exact q _ s1
    | lst h1 _ hz h2 =>
      cases hy1 with
      | lst h3 _ hz2 h4 =>
        rename_i x xs ds _ y ys _
        have l1 := h2.len
        have l2 := h4.len
        have hA : Sq _ x xs := .inl h1
        have hB : Sq _ y ys := .inl h3
        walk_at "s"
        refine ifDT (by rw [l1, l2]) ?_
        walk_at "s"
        refine ⟨_, rfl, by omega, by omega, fun Dl nD => ?_⟩
        rw [Int.toNat_natCast]
        refine lc_pure src_range (fun _ => true) (fun _ => .bl true) hz2 (fun _ _ => trivial) ?_ nD fun H3 s3 hD => ?_
        · rintro i v H3 H3' Yes No hi s3 ⟨rfl, rfl⟩ hY hN
          rw [Int.zero_add]
          have hA3 := s3.sq hA
          have hB3 := s3.sq hB
          have e1 := List.getElem?_eq_getElem (show i < xs.length by omega)
          have e2 := List.getElem?_eq_getElem hi
          obtain ⟨d1, g1, t1⟩ := h2.at e1
          obtain ⟨d2, g2, t2⟩ := h4.at e2
          rw [g1] at g2
          cases g2
          walk_at "s"
          refine ⟨rfl, ?_⟩
          walk_at "s"
          refine r_ixLT hA3 (atI_nat e1) ?_
          walk_at "s"
          refine r_ixLT hB3 (atI_nat e2) ?_
          walk_at "s"
          refine ⟨_, _, d1, rfl, t1.same s3, t2.same s3, ?_, fun H4 s4 => hY rfl _ s4⟩
          have z1 := depth_mem (List.mem_of_getElem? g1)
          have z2 : PyData.depthAll ds + 1 < m + 1 := hd
          omega
        · walk_at "s"
          refine ⟨Dl, List.replicate ys.length true, rfl, lst_of (hD.trans ?_), ?_⟩
          · rw [giv_const, List.map_replicate]
          · rw [show (List.replicate ys.length true).all id = true by simp]
            exact q _ (s1.trans s3)
    | tup h1 _ hz h2 =>
      cases hy1 with
      | tup h3 _ hz2 h4 =>
        rename_i x xs ds _ y ys _
        have l1 := h2.len
        have l2 := h4.len
        have hA : Sq _ x xs := .inr h1
        have hB : Sq _ y ys := .inr h3
        walk_at "s"
        refine ifDT (by rw [l1, l2]) ?_
        walk_at "s"
        refine ⟨_, rfl, by omega, by omega, fun Dl nD => ?_⟩
        rw [Int.toNat_natCast]
        refine lc_pure src_range (fun _ => true) (fun _ => .bl true) hz2 (fun _ _ => trivial) ?_ nD fun H3 s3 hD => ?_
        · rintro i v H3 H3' Yes No hi s3 ⟨rfl, rfl⟩ hY hN
          rw [Int.zero_add]
          have hA3 := s3.sq hA
          have hB3 := s3.sq hB
          have e1 := List.getElem?_eq_getElem (show i < xs.length by omega)
          have e2 := List.getElem?_eq_getElem hi
          obtain ⟨d1, g1, t1⟩ := h2.at e1
          obtain ⟨d2, g2, t2⟩ := h4.at e2
          rw [g1] at g2
          cases g2
          walk_at "s"
          refine ⟨rfl, ?_⟩
          walk_at "s"
          refine r_ixLT hA3 (atI_nat e1) ?_
          walk_at "s"
          refine r_ixLT hB3 (atI_nat e2) ?_
          walk_at "s"
          refine ⟨_, _, d1, rfl, t1.same s3, t2.same s3, ?_, fun H4 s4 => hY rfl _ s4⟩
          have z1 := depth_mem (List.mem_of_getElem? g1)
          have z2 : PyData.depthAll ds + 1 < m + 1 := hd
          omega
        · walk_at "s"
          refine ⟨Dl, List.replicate ys.length true, rfl, lst_of (hD.trans ?_), ?_⟩
          · rw [giv_const, List.map_replicate]
          · rw [show (List.replicate ys.length true).all id = true by simp]
            exact q _ (s1.trans s3)
theorem D_same {f : Addr} {fd : FuncData} (B : Bn mg) (F : Fun K "_law_same" "_law_same" Slaw_same f fd) (hm : mg "_law_same" = some (.ref f)) (hk : PySem.W.keepIn K (.ref f) = true) (hb : Binds K fd ["found", "due"] []) (m : Nat) : Df P w K mg base m "_law_same" [] (spSame m) :=
  ⟨_, _, _, _, ok_law_same B F (fun _ G => ⟨_, _, _, _, G, hm, hk, hb, .nil⟩) m, hm, hk, hb, .nil⟩
end

abbrev Slaw_right : Stmt := topS 46
abbrev Nlaw_right : List Str := ["spring", "takes", "fills", "due", "handed", "before", "again", "found"]
theorem sclaw_right : FnScope Nlaw_right ["spring", "takes", "fills"] (defScope Slaw_right) := ⟨rfl, rfl, rfl, by decide +kernel, rfl, by decide +kernel, by decide +kernel⟩

theorem shows_ints {ns : List Int} {n : Nat} (h : ∀ x ∈ ns, 0 ≤ x ∧ x < 10 ^ 6) (hl : ns.length ≤ n) : Shows (.list (dI ns)) 1 (n * 8 + 2) ∧ Shows (.tuple (dI ns)) 1 (n * 8 + 3) :=
  have a : ∀ d ∈ dI ns, Shows d 0 6 := fun d hd => by
    obtain ⟨x, hx, rfl⟩ := dI_mem hd
    exact shows_int (by decide) (by decide) (h x hx).1 (h x hx).2
  ⟨shows_list (n := n) a (by show (List.map _ ns).length ≤ n; rw [List.length_map]; exact hl), shows_tup (n := n) a (by show (List.map _ ns).length ≤ n; rw [List.length_map]; exact hl)⟩
theorem ord_shows {ns : List Int} {e : PyData} (h : IsOrd ns) (he : e = .list (dI ns) ∨ e = .tuple (dI ns)) : Shows e 1 1603 := by
  have := shows_ints (n := 200) (fun x hx => ⟨(h.rng x hx).1, Int.lt_of_lt_of_le (h.rng x hx).2 (by
    have := h.top
    have : (1000 : Int) ≤ 10 ^ 6 := by decide
    omega)⟩) h.top
  rcases he with rfl | rfl
  · exact ⟨this.1.s, this.1.n, this.1.k, Nat.le_succ_of_le this.1.z⟩
  · exact this.2
section
variable {P : Program} {w : World} {K : PySem.W.Frag} {mg : Str → Option Value} {base : Heap}
def spRight : Sp := fun vs H Q _ => ∃ (r a b : Addr) (ts fs : List Int), vs = [.ref r, .ref a, .ref b] ∧ SpringAt H r ∧ H a = some (.lst (vI ts)) ∧ H b = some (.lst (vI fs)) ∧ a ≠ r ∧ b ≠ r ∧ IsOrd ts ∧ fs.Perm ts ∧ fs.Perm (iota fs.length) ∧ Poss ts fs ∧ ∀ H', SpringAt H' r → Kp r H H' → Q (.bl true) H'
theorem ok_law_right {f : Addr} {fd : FuncData} (B : Bn mg) (D_law_wishes : Df P w K mg base 1 "_law_wishes" [] spWishL) (D_law_dressed : Df P w K mg base 4 "_law_dressed" [] (spDressed 2)) (D_wishes_of : Df P w K mg base 7 "wishes_of" [] spWishes)
    (D_law_same : Df P w K mg base 2 "_law_same" [] (spSame 2)) (D_is_parking : Df P w K mg base 3 "is_parking" [] spIsParkT) (D_cars_parked : Df P w K mg base 5 "cars_parked" [] spCars) (F : Fun K "_law_right" "_law_right" Slaw_right f fd) : FnG P w K mg base 8 f fd ["spring", "takes", "fills"] spRight := by
  refine gok F sclaw_right (fun vs H Q E h => ?_) (fun cdv A fs s H vs Q E hG hr h => ?_)
  · obtain ⟨_, _, _, _, _, rfl, _⟩ := h; rfl
  · obtain ⟨r, a, b, ts, fl, rfl, hS, hA, hB, nar, nbr, hT, hpm, hio, hPo, q⟩ := h
    have hu := hr.units
    have tl := hT.top
    have lf := hpm.length_eq
    have hF : IsOrd fl := ⟨by rw [lf]; exact hT.pos, by rw [lf]; exact hT.top, fun x hx => by rw [lf]; exact hT.rng x (hpm.mem_iff.mp hx), hpm.nodup_iff.mpr hT.nd⟩
    have lw := ws_len ts fl
    have hws : ∀ i, i < fl.length → (wsF ts fl).getD (fl.getD i 0).toNat 0 = wishF ts fl i := fun i hi => ws_at hF hi
    have hpk := ws_pk (ts := ts) hF hio
    have hprk := ws_parks (ts := ts) hF
    generalize wsF ts fl = ws at *
    refine ⟨_, (pss_cons (ps_set (i := 3) sclaw_right.nd rfl (Or.inl rfl) (pe_df D_law_wishes hG (hr.mono (by first | decide | omega)) passL (by rfl) (pa_cons (pv 1) (pa_cons (pv 2) pa_nil)))) (pss_cons (ps_set (i := 4) sclaw_right.nd rfl (Or.inl rfl) (pe_lst (pa_cons (pe_df D_law_dressed hG (hr.mono (by first | decide | omega)) passL (by rfl) (pa_cons (pv 0) (pa_cons (pv 1) pa_nil))) (pa_cons (pe_df D_law_dressed hG (hr.mono (by first | decide | omega)) passL (by rfl) (pa_cons (pv 0) (pa_cons (pv 2) pa_nil))) pa_nil)))) (pss_cons (ps_set (i := 5) sclaw_right.nd rfl (Or.inl rfl) (pe_callB (k_repr K hG hu) (by rfl) B.repr Brepr (pa_cons (pv 4) pa_nil))) (pss_cons (ps_for (passes_of rfl) rfl (pi_range1 (by rfl) B.range (pa_cons pe_int pa_nil)) (pg_name (i := 6) sclaw_right.nd rfl (Or.inl rfl)) (pss_cons (ps_set (i := 7) sclaw_right.nd rfl (Or.inl rfl) (pe_df D_wishes_of hG (hr.mono (by first | decide | omega)) passL (by rfl) (pa_cons (pe_ix (k_ixL K) (pv 4) pe_int (fun _ _ => rfl)) (pa_cons (pe_ix (k_ixL K) (pv 4) pe_int (fun _ _ => rfl)) pa_nil)))) (pss_cons (ps_if (pw_or (pt_not (pt_val (pe_df D_law_same hG (hr.mono (by first | decide | omega)) passL (by rfl) (pa_cons (pv 7) (pa_cons (pv 3) pa_nil))))) (pw_or1 (pt_cmpR op_ne (pe_callB (k_repr K hG hu) (by rfl) B.repr Brepr (pa_cons (pv 4) pa_nil)) (pv 5) (nomark _)))).pt (pss_one (ps_ret pe_bl)) pss_nil) (pss_cons (ps_if (pw_or (pt_cmpR op_notB (pe_df D_is_parking hG (hr.mono (by first | decide | omega)) passL (by rfl) (pa_cons (pv 7) pa_nil)) pe_bl (nomark _)) (pw_or1 (pt_cmpR (k_neD K hu) (pe_df D_cars_parked hG (hr.mono (by first | decide | omega)) passL (by rfl) (pa_cons (pv 7) pa_nil)) (pv 2) (nomark _)))).pt (pss_one (ps_ret pe_bl)) pss_nil) (pss_one (ps_expr (k_bmP K (pe_bm PySem.F.plainAttrs_list PySem.F.slot_list_append PySem.F.type_list_append mt_append (pv 7) (pa_cons pe_non pa_nil))))))))) (pss_one (ps_ret pe_bl)))))), ?_⟩
    walk_at "s"
    refine ⟨a, b, ts, fl, ws, rfl, hA, hB, hT, hpm, lw, hws, fun H1 dp0 s1 ndp hdp => ?_⟩
    have hS1 := hS.same s1
    have hA1 := s1 _ _ hA
    have hB1 := s1 _ _ hB
    have ndr : dp0 ≠ r := (hS.ne ndp).symm
    have dep : ∀ ns : List Int, (PyData.list (dI ns)).depth < 2 := fun ns => by
      show PyData.depthAll (dI ns) + 1 < 2
      rw [Lx.depthAll_ints]
      decide
    walk_at "s"
    refine ⟨r, .ref a, .list (dI ts), rfl, hS1, .lst hA1 nar (by rw [vI_len]; omega) (.ints ts), dep _, fun y1 e1 H2 he1 hS2 hK2 hy1 => ?_⟩
    have he1 := he1.ints
    obtain ⟨x1, rfl, ⟨nx1, _⟩, hx1⟩ := hy1.sq he1
    have hB2 := hK2.get nbr hB1
    have hd2 := hK2.get ndr hdp
    walk_at "s"
    refine ⟨r, .ref b, .list (dI fl), rfl, hS2, .lst hB2 nbr (by rw [vI_len]; omega) (.ints fl), dep _, fun y2 e2 H3 he2 hS3 hK3 hy2 => ?_⟩
    have he2 := he2.ints
    obtain ⟨x2, rfl, ⟨nx2, _⟩, hx2⟩ := hy2.sq he2
    have hB3 := hK3.get nbr hB2
    have hd3 := hK3.get ndr hd2
    have hx13 := hK3.sq nx1 hx1
    have hy13 : Tr (fun a => a ≠ r) H3 (.ref x1) e1 := hy1.move fun b o g e => ⟨hK3.get g.1 e, g.1⟩
    have hK03 := ((Kp.of s1).trans hK2).trans hK3
    walk_at "s"
    intro hp nhp
    have sh := same_new (o := .lst [.ref x1, .ref x2]) nhp
    have hh : upd H3 hp (.lst [.ref x1, .ref x2]) hp = some (.lst [.ref x1, .ref x2]) := upd_same
    have hB4 := sh _ _ hB3
    have hd4 := sh _ _ hd3
    have hx14 := sh.sq hx13
    have hx24 := sh.sq hx2
    have hy14 := hy13.same sh
    have hy24 := hy2.same sh
    have hS4 := hS3.same sh
    have hK04 := hK03.trans (Kp.of sh)
    generalize upd H3 hp (.lst [.ref x1, .ref x2]) = H4 at *
    have sd : Shows (.list [e1, e2]) 2 10000 := by
      have z := shows_list (k := 1) (m := 1603) (n := 2) (ds := [e1, e2]) (fun d hd => by
        rcases List.mem_cons.mp hd with rfl | hd
        · exact ord_shows hT he1
        · rw [List.mem_singleton.mp hd]; exact ord_shows hF he2) (Nat.le_refl _)
      exact ⟨z.s, z.n, z.k, Nat.le_trans z.z (by decide)⟩
    have dp : ∀ H', Same H4 H' → Dp K H' (.ref hp) (.list [e1, e2]) := fun H' s => .lst (lst_of (s _ _ hh)) (.cons (hy14.same s).dp (.cons (hy24.same s).dp .nil))
    walk_at "s"
    refine r_repr (dp _ (Same.refl _)) sd (by decide) (by decide) ?_
    walk_at "s"
    refine ⟨_, rfl, by omega, by omega, ?_⟩
    refine for_src src_range (fun i σ H' => ∃ v6 v7, σ = [some (.ref r), some (.ref a), some (.ref b), some (.ref dp0), some (.ref hp), some (.str (PyData.list [e1, e2]).shown), v6, v7] ∧ Same H4 H') (fun _ _ _ _ => trivial) ⟨none, none, rfl, Same.refl _⟩ ?_ ?_
    · rintro i v σ H5' H5 hi ⟨v6, v7, rfl, s5⟩ ⟨rfl, rfl⟩
      have hx15 := s5.sq hx14
      have hx25 := s5.sq hx24
      walk_at "s"
      refine ⟨x1, x2, ts, fl, ws, rfl, hx15, hx25, hT, hpm, hPo, lw, hws, fun H6 g s6 ng hg => ?_⟩
      have hd6 := s6 _ _ (s5 _ _ hd4)
      have ng4 := s5.free ng
      have s46 := s5.trans s6
      walk_at "s"
      refine ⟨.ref g, .ref dp0, .list (dI ws), rfl, .lst hg trivial (by rw [vI_len]; omega) (.ints ws), .lst hd6 trivial (by rw [vI_len]; omega) (.ints ws), dep _, fun H7 s7 => ?_⟩
      have s47 := s46.trans s7
      walk_at "s"
      refine r_repr (dp _ s47) sd (by decide) (by decide) ?_
      walk_at "s"
      refine ⟨g, ws, rfl, s7 _ _ hg, hpk, fun H8 s8 => ?_⟩
      have hg8 := s8 _ _ (s7 _ _ hg)
      walk_at "s"
      refine r_notB ?_
      walk_at "s"
      refine ⟨g, ws, fl, rfl, hg8, hpk, hprk, fun H9 cp s9 ncp hcp => ?_⟩
      have hg9 := s9 _ _ hg8
      have s49 := (s47.trans s8).trans s9
      have hB9 := s49 _ _ hB4
      walk_at "s"
      refine r_neLI (lst_of hcp) (lst_of hB9) ?_
      rw [decide_eq_true rfl]
      walk_at "s"
      exact ⟨_, _, rfl, same_set s49 ng4⟩
    · rintro σ H5 ⟨v6, v7, rfl, s5⟩
      walk_at "s"
      exact q _ (hS4.same s5) (hK04.trans (Kp.of s5))
end

/-! ### a greatest place more, taken anywhere and filled last (no program here) -/
theorem ins_perm (ts : List Int) (k : Nat) (z : Int) : (ts.take k ++ [z] ++ ts.drop k).Perm (ts ++ [z]) := by
  have h : (ts.take k ++ ([z] ++ ts.drop k)).Perm (ts.take k ++ (ts.drop k ++ [z])) := List.Perm.append_left _ List.perm_append_comm
  rw [← List.append_assoc, ← List.append_assoc, List.take_append_drop] at h
  exact h
theorem poss_ins {ts fs : List Int} {z : Int} (k0 : Nat) (hn : ts.Nodup) (hp : fs.Perm ts) (hPo : Poss ts fs) (hz : ∀ x ∈ ts, x < z) : Poss (ts.take k0 ++ [z] ++ ts.drop k0) (fs ++ [z]) := by
  have hpt := ins_perm ts k0 z
  have hnz : (ts ++ [z]).Nodup := by
    rw [List.nodup_append]
    exact ⟨hn, by simp, fun a ha b hb => by rw [List.mem_singleton.mp hb]; have := hz a ha; omega⟩
  have hn' := hpt.nodup_iff.mpr hnz
  have sub : ts.Sublist (ts.take k0 ++ [z] ++ ts.drop k0) := by
    conv => lhs; rw [← List.take_append_drop k0 ts]
    exact (List.sublist_append_left _ _).append (.refl _)
  have pw := (nb_up hn').sublist sub
  have hm' : ∀ x, x ∈ ts.take k0 ++ [z] ++ ts.drop k0 ↔ x ∈ ts ∨ x = z := fun x => by rw [hpt.mem_iff]; simp
  generalize ts.take k0 ++ [z] ++ ts.drop k0 = ts' at *
  have mono : ∀ x y, x ∈ ts → y ∈ ts → nb ts x < nb ts y → nb ts' x < nb ts' y := fun x y hx hy h => by
    have h1 := List.idxOf_lt_length_of_mem hx
    have h2 := List.idxOf_lt_length_of_mem hy
    unfold nb at h
    have := (List.pairwise_iff_getElem.mp pw) (ts.idxOf x) (ts.idxOf y) h1 h2 (by omega)
    rwa [List.getElem_idxOf, List.getElem_idxOf] at this
  have memf : ∀ (j : Nat) (f : Int), (fs ++ [z])[j]? = some f → f ∈ ts' := fun j f h => (hm' f).mpr (by
    rcases List.mem_append.mp (List.mem_of_getElem? h) with h | h
    · exact .inl (hp.mem_iff.mp h)
    · exact .inr (List.mem_singleton.mp h))
  refine LeAll.of (by rw [lows_len, highs_len]) fun i x y e1 e2 => ?_
  rcases lows_src e1 with rfl | ⟨j, f, hj, hf, rfl⟩
  · rcases highs_src e2 with rfl | ⟨k, l, a, b, _, _, _, _, _, rfl⟩
    · omega
    · exact nb_nn ts' b
  · rcases highs_src e2 with rfl | ⟨k, l, a, b, hk, hkl, ha, hb, hab, rfl⟩
    · have := nb_lt (memf j f hf)
      omega
    · have hl : l < fs.length := by
        refine Nat.lt_of_not_le fun hge => ?_
        have hl2 := (List.getElem?_eq_some_iff.mp hb).1
        rw [List.length_append, List.length_singleton] at hl2
        have e : l = fs.length := by omega
        rw [e, List.getElem?_append_right (Nat.le_refl _), Nat.sub_self] at hb
        have : z = b := Option.some.inj hb
        rcases (hm' a).mp (memf k a ha) with h | h
        · have := hz a h; omega
        · omega
      rw [List.getElem?_append_left hl] at hb
      rw [List.getElem?_append_left (by omega)] at ha
      rw [List.getElem?_append_left (by omega)] at hf
      obtain ⟨hk2, ea⟩ := List.getElem?_eq_some_iff.mp ha
      have es : fs = fs.take k ++ a :: fs.drop (k + 1) := by
        rw [← ea, ← List.drop_eq_getElem_cons hk2, List.take_append_drop]
      have hfm : f ∈ fs.take k ++ [a] := by
        by_cases hjk : j = k
        · subst hjk
          rw [ha] at hf
          cases hf
          exact List.mem_append_right _ (List.mem_singleton.mpr rfl)
        · refine List.mem_append_left _ (List.mem_of_getElem? (i := j) ?_)
          rw [List.getElem?_take_of_lt (by omega)]
          exact hf
      have hbm : b ∈ fs.drop (k + 1) := by
        refine List.mem_of_getElem? (i := l - (k + 1)) ?_
        rw [List.getElem?_drop, show k + 1 + (l - (k + 1)) = l by omega]
        exact hb
      have h1 := lows_geA (nm := nb ts) (C := fs.drop (k + 1)) (h := a) (lo := 0) (A := fs.take k) (z := f) hfm
      have h2 := highs_leA (nm := nb ts) (n := (ts.length : Int)) (A := fs.take k) (h := a) hbm hab
      unfold Poss at hPo
      rw [es] at hPo
      have hl1 : (fs.take k).length < (lows (nb ts) 0 (fs.take k ++ a :: fs.drop (k + 1))).length := by rw [lows_len]; simp
      have hl2 : (fs.take k).length < (highs (nb ts) ts.length (fs.take k ++ a :: fs.drop (k + 1))).length := by rw [highs_len]; simp
      have h3 := hPo.at (getD_at hl1) (getD_at hl2)
      have := mono f b (hp.mem_iff.mp (List.mem_of_getElem? hf)) (hp.mem_iff.mp (List.mem_of_getElem? hb)) (by omega)
      omega

abbrev Slaw : Stmt := topS 47
abbrev Nlaw : List Str := ["script", "spring", "turn", "size", "takes", "fills", "at"]
theorem sclaw : FnScope Nlaw ["script"] (defScope Slaw) := ⟨rfl, rfl, rfl, by decide +kernel, rfl, by decide +kernel, by decide +kernel⟩

theorem ord_iota {ns : List Int} {n : Nat} (h : ns.Perm (iota n)) (h1 : 1 ≤ n) (h2 : n ≤ 200) : IsOrd ns := by
  have l : ns.length = n := h.length_eq.trans (iota_len n)
  have hn : (iota n).Nodup := by
    unfold iota
    rw [List.nodup_iff_pairwise_ne, List.pairwise_map]
    exact (List.pairwise_lt_range (n := n)).imp fun h => by omega
  refine ⟨by omega, by omega, fun x hx => ?_, h.nodup_iff.mpr hn⟩
  obtain ⟨i, hi, rfl⟩ := List.mem_map.mp (h.mem_iff.mp hx)
  have := List.mem_range.mp hi
  rw [l]
  exact ⟨by omega, by omega⟩
theorem iota_succ (n : Nat) : iota (n + 1) = iota n ++ [(n : Int)] := by unfold iota; rw [List.range_succ, List.map_append]; rfl
theorem poss_1 : Poss [0] [0] := by
  unfold Poss
  rw [show lows (nb [0]) 0 [0] = [1] by decide +kernel, show highs (nb [0]) ([0] : List Int).length [0] = [1] by decide +kernel]
  exact ⟨by decide, trivial⟩
theorem poss_2 : Poss [1, 0] [0, 1] := by
  unfold Poss
  rw [show lows (nb [1, 0]) 0 [0, 1] = [2, 2] by decide +kernel, show highs (nb [1, 0]) ([1, 0] : List Int).length [0, 1] = [2, 2] by decide +kernel]
  exact ⟨by decide, by decide, trivial⟩
section
variable {P : Program} {w : World} {K : PySem.W.Frag} {mg : Str → Option Value} {base : Heap}
def spLaw (K : PySem.W.Frag) : Sp := fun vs H Q _ => ∃ (a : Addr) (ns : List Int), vs = [.ref a] ∧ SqL K H a (ns.map V.int) ∧ ns.length ≤ 63 ∧ ∀ H', Q (.bl true) H'
theorem ok_law {f : Addr} {fd : FuncData} (B : Bn mg) (D_law_spring : Df P w K mg base 1 "_law_spring" [] (spSpring K)) (D_law_draw : Df P w K mg base 1 "_law_draw" [] spDraw) (D_law_pair : Df P w K mg base 3 "_law_pair" [] spPairS)
    (D_law_right : Df P w K mg base 8 "_law_right" [] spRight) (D_wishes_of : Df P w K mg base 7 "wishes_of" [] spWishes) (F : Fun K "law" "law" Slaw f fd) : FnG P w K mg base 9 f fd ["script"] (spLaw K) := by
  refine gok F sclaw (fun vs H Q E h => ?_) (fun cdv A fs s H vs Q E hG hr h => ?_)
  · obtain ⟨_, _, rfl, _⟩ := h; rfl
  · obtain ⟨a, ns, rfl, hA, hl, q⟩ := h
    have hu := hr.units
    refine ⟨_, (pss_cons (ps_set (i := 1) sclaw.nd rfl (Or.inl rfl) (pe_df D_law_spring hG (hr.mono (by first | decide | omega)) passL (by rfl) (pa_cons (pv 0) pa_nil))) (pss_cons (ps_for (passes_of rfl) rfl (pi_range1 (by rfl) B.range (pa_cons (pe_op op_add pe_int (pe_callB (call_min2' rfl) (by rfl) B.min Bmin (pa_cons (pe_callB (k_len K) (by rfl) B.len Blen (pa_cons (pv 0) pa_nil)) (pa_cons pe_int pa_nil)))) pa_nil)) (pg_name (i := 2) sclaw.nd rfl (Or.inl rfl)) (pss_cons (ps_set (i := 3) sclaw.nd rfl (Or.inl rfl) (pe_op op_add pe_int (pe_df D_law_draw hG (hr.mono (by first | decide | omega)) passL (by rfl) (pa_cons (pv 1) (pa_cons (pe_ix (k_ixL K) (pe_lst (pa_cons pe_int (pa_cons pe_int (pa_cons pe_int pa_nil)))) (pe_callB (call_min2' rfl) (by rfl) B.min Bmin (pa_cons (pv 2) (pa_cons (pe_op op_add pe_int (pe_df D_law_draw hG (hr.mono (by first | decide | omega)) passL (by rfl) (pa_cons (pv 1) (pa_cons pe_int pa_nil)))) pa_nil))) (fun _ _ => rfl)) pa_nil))))) (pss_cons (ps_asg (pe_df D_law_pair hG (hr.mono (by first | decide | omega)) passL (by rfl) (pa_cons (pv 1) (pa_cons (pv 3) pa_nil))) (k_gunl (n := 2) K rfl (pgs_cons (pg_name (i := 4) sclaw.nd rfl (Or.inl rfl)) (pgs_cons (pg_name (i := 5) sclaw.nd rfl (Or.inl rfl)) pgs_nil)))) (pss_cons (ps_if (pt_not (pt_val (pe_df D_law_right hG (hr.mono (by first | decide | omega)) passL (by rfl) (pa_cons (pv 1) (pa_cons (pv 4) (pa_cons (pv 5) pa_nil)))))) (pss_one (ps_ret pe_bl)) pss_nil) (pss_cons (ps_set (i := 6) sclaw.nd rfl (Or.inl rfl) (pe_df D_law_draw hG (hr.mono (by first | decide | omega)) passL (by rfl) (pa_cons (pv 1) (pa_cons (pe_op op_add (pv 3) pe_int) pa_nil)))) (pss_one (ps_if (pt_cmpR op_lt (pv 3) pe_int (nomark _)) (pss_cons (ps_expr (k_bmP K (pe_bm PySem.F.plainAttrs_list PySem.F.slot_list_insert PySem.F.type_list_insert mt_insertV (pv 4) (pa_cons (pv 6) (pa_cons (pv 3) pa_nil))))) (pss_cons (ps_expr (k_bmP K (pe_bm PySem.F.plainAttrs_list PySem.F.slot_list_append PySem.F.type_list_append mt_append (pv 5) (pa_cons (pv 3) pa_nil)))) (pss_one (ps_if (pt_not (pt_val (pe_df D_law_right hG (hr.mono (by first | decide | omega)) passL (by rfl) (pa_cons (pv 1) (pa_cons (pv 4) (pa_cons (pv 5) pa_nil)))))) (pss_one (ps_ret pe_bl)) pss_nil)))) pss_nil))))))) (pss_one (ps_ret (pe_and (pe_cmpR (k_eqD K hu) (pe_df D_wishes_of hG (hr.mono (by first | decide | omega)) passL (by rfl) (pa_cons (pe_lst (pa_cons pe_int pa_nil)) (pa_cons (pe_lst (pa_cons pe_int pa_nil)) pa_nil))) (pe_lst (pa_cons pe_int pa_nil)) (nomark _)) (pe_one (pe_cmpR (k_eqD K hu) (pe_df D_wishes_of hG (hr.mono (by first | decide | omega)) passL (by rfl) (pa_cons (pe_lst (pa_cons pe_int (pa_cons pe_int pa_nil))) (pa_cons (pe_lst (pa_cons pe_int (pa_cons pe_int pa_nil))) pa_nil))) (pe_lst (pa_cons pe_int (pa_cons pe_int pa_nil))) (nomark _)))))))), ?_⟩
    have two : ∀ x : Int, x ≤ 100000 → x < 2 ^ 200 := fun x h => Int.lt_of_le_of_lt h (by decide)
    walk_at "s"
    refine ⟨a, ns, rfl, hA, fun H1 r s1 nr hS1 => ?_⟩
    have hA1 := s1.seq hA
    walk_at "s"
    rw [List.length_map]
    have hc : 0 ≤ 2 + (if (5 : Int) < (ns.length : Int) then (5 : Int) else (ns.length : Int)) ∧ 2 + (if (5 : Int) < (ns.length : Int) then (5 : Int) else (ns.length : Int)) ≤ 7 := by split <;> omega
    generalize 2 + (if (5 : Int) < (ns.length : Int) then (5 : Int) else (ns.length : Int)) = c at hc
    refine ⟨_, rfl, by omega, by omega, ?_⟩
    refine for_src src_range (fun i σ H' => ∃ v2 v3 v4 v5 v6, σ = [some (.ref a), some (.ref r), v2, v3, v4, v5, v6] ∧ SpringAt H' r) (fun _ _ _ _ => trivial) ⟨none, none, none, none, none, rfl, hS1⟩ ?_ ?_
    · rintro i v σ H3 H2 hi ⟨v2, v3, v4, v5, v6, rfl, hS2⟩ ⟨rfl, rfl⟩
      walk_at "s"
      intro t nt
      have hS3 := hS2.same (same_new (o := .lst [.int 200, .int 40, .int 6]) nt)
      have ht : upd H2 t (.lst [.int 200, .int 40, .int 6]) t = some (.lst [.int 200, .int 40, .int 6]) := upd_same
      have ntr : t ≠ r := (hS2.ne nt).symm
      generalize upd H2 t (.lst [.int 200, .int 40, .int 6]) = H3 at *
      walk_at "s"
      refine ⟨r, 2, rfl, hS3, by decide, by decide, fun d0 H4 d00 d01 hS4 hK4 => ?_⟩
      have ht4 := hK4.get ntr ht
      walk_at "s"
      obtain ⟨many, hm, hm0, hm1⟩ : ∃ many : Int, atI [V.int 200, V.int 40, V.int 6] (if 1 + d0 < 0 + (i : Int) then 1 + d0 else 0 + (i : Int)) = some (.int many) ∧ 0 < many ∧ many ≤ 200 := by
        have : ∃ k : Nat, (if 1 + d0 < 0 + (i : Int) then 1 + d0 else 0 + (i : Int)) = (k : Int) ∧ k < 3 := by
          split
          · exact ⟨(1 + d0).toNat, by omega, by omega⟩
          · exact ⟨i, by omega, by omega⟩
        obtain ⟨k, e, hk⟩ := this
        rw [e]
        match k, hk with
        | 0, _ => exact ⟨200, rfl, by decide, by decide⟩
        | 1, _ => exact ⟨40, rfl, by decide, by decide⟩
        | 2, _ => exact ⟨6, rfl, by decide, by decide⟩
      refine r_ixL (lst_of ht4) hm ?_
      walk_at "s"
      refine ⟨r, many, rfl, hS4, hm0, two _ (by omega), fun d H5 d1 d2 hS5 hK5 => ?_⟩
      obtain ⟨n, hn⟩ := Int.eq_ofNat_of_zero_le (show 0 ≤ 1 + d by omega)
      walk_at "s"
      rw [hn]
      refine ⟨r, n, rfl, hS5, by omega, by omega, fun tp fp pp ts p H6 hts hp hS6 hK6 ntp nfp npp ntf htp hfp hpp => ?_⟩
      have npr : tp ≠ r := fun z => hS5.got (z ▸ ntp)
      have nfr : fp ≠ r := fun z => hS5.got (z ▸ nfp)
      have hO := ord_iota hts (by omega) (by omega)
      have lt : ts.length = n := hts.length_eq.trans (iota_len n)
      have hp' : IsPat p ts.length := by rw [lt]; exact hp
      obtain ⟨hpm, hPo⟩ := leads_perm hO.nd (fs := fillF ts p) ⟨hp', rfl⟩
      generalize fillF ts p = fl at *
      have lf : fl.length = n := hpm.length_eq.trans lt
      walk_at "s"
      refine ⟨r, tp, fp, ts, fl, rfl, hS6, htp, hfp, npr, nfr, hO, hpm, by rw [lf]; exact hpm.trans hts, hPo, fun H7 hS7 hK7 => ?_⟩
      have htp7 := hK7.get npr htp
      have hfp7 := hK7.get nfr hfp
      walk_at "s"
      refine ⟨r, _, rfl, hS7, by omega, two _ (by omega), fun d3 H8 e0 e1 hS8 hK8 => ?_⟩
      have htp8 := hK8.get npr htp7
      have hfp8 := hK8.get nfr hfp7
      obtain ⟨k, rfl⟩ := Int.eq_ofNat_of_zero_le e0
      walk_at "s"
      refine ifD (fun h200 => ?_) (fun h200 => ?_)
      · walk_at "s"
        refine r_insert htp8 (by rw [vI_len]; omega) (by omega) ?_
        have ei : (vI ts).take k ++ [V.int (n : Int)] ++ (vI ts).drop k = vI (ts.take k ++ [(n : Int)] ++ ts.drop k) := by rw [vI_take, vI_drop]; exact (congrArg (· ++ vI (ts.drop k)) (vI_app (ts.take k) [(n : Int)])).trans (vI_app _ _)
        rw [ei]
        have hfp9 : upd H8 tp (.lst (vI (ts.take k ++ [(n : Int)] ++ ts.drop k))) fp = some (.lst (vI fl)) := (upd_ne ntf.symm).trans hfp8
        walk_at "s"
        have hzt : ∀ x ∈ ts, x < (n : Int) := fun x hx => by have := (hO.rng x hx).2; omega
        have hPo2 := poss_ins k hO.nd hpm hPo hzt
        have hpi := ins_perm ts k (n : Int)
        have hti : (ts.take k ++ [(n : Int)] ++ ts.drop k).Perm (iota (n + 1)) := by rw [iota_succ]; exact hpi.trans (hts.append_right _)
        have hpm2 : (fl ++ [(n : Int)]).Perm (ts.take k ++ [(n : Int)] ++ ts.drop k) := (hpm.append_right _).trans hpi.symm
        refine ⟨r, tp, fp, _, fl ++ [(n : Int)], rfl, (hS8.upd npr.symm).upd nfr.symm, (upd_ne ntf).trans upd_same, by rw [upd_same]; exact congrArg (fun l => some (HO.lst l)) (vI_app fl [(n : Int)]), npr, nfr, ord_iota hti (by omega) (by omega), hpm2, by rw [List.length_append, List.length_singleton, lf]; exact hpm2.trans hti, hPo2, fun H9 hS9 hK9 => ?_⟩
        walk_at "s"
        exact ⟨_, _, _, _, _, rfl, hS9⟩
      · walk_at "s"
        exact ⟨_, _, _, _, _, rfl, hS8⟩
    · rintro σ H2 ⟨v2, v3, v4, v5, v6, rfl, hS2⟩
      walk_at "s"
      intro t1 nt1
      walk_at "s"
      intro t2 nt2
      have g1 : upd (upd H2 t1 (.lst [.int 0])) t2 (.lst [.int 0]) t1 = some (.lst (vI [0])) := (upd_ne (ne_new nt2 upd_same)).trans upd_same
      refine ⟨t1, t2, [0], [0], [0], rfl, .inl g1, .inl upd_same, ⟨by decide, by decide, by decide, by decide⟩, .refl _, poss_1, rfl, fun i hi => ?_, fun H3 p3 s3 np3 hp3 => ?_⟩
      · have : i = 0 := by have : i < 1 := hi; omega
        subst this
        decide +kernel
      walk_at "s"
      intro t3 nt3
      refine r_eqLI (xs := [0]) (ys := [0]) (lst_of ((same_new nt3) _ _ hp3)) (lst_of upd_same) ?_
      walk_at "s"
      intro t4 nt4
      walk_at "s"
      intro t5 nt5
      have g4 := (same_new (o := .lst [.int 0, .int 1]) nt5) _ _ (upd_same (H := upd H3 t3 (.lst [.int 0])) (a := t4) (o := .lst [.int 1, .int 0]))
      refine ⟨t4, t5, [1, 0], [0, 1], [0, 0], rfl, .inl g4, .inl upd_same, ⟨by decide, by decide, by decide, by decide⟩, .swap _ _ _, poss_2, rfl, fun i hi => ?_, fun H5 p5 s5 np5 hp5 => ?_⟩
      · have : i = 0 ∨ i = 1 := by have : i < 2 := hi; omega
        rcases this with rfl | rfl
        · decide +kernel
        · decide +kernel
      walk_at "s"
      intro t6 nt6
      refine r_eqLI (xs := [0, 0]) (ys := [0, 0]) (lst_of ((same_new nt6) _ _ hp5)) (lst_of upd_same) ?_
      walk_at "s"
      exact q _
end

theorem all_mk {l : PySem.W.OpenLaw} {w : World} {K : PySem.W.Frag} {h : Heap} {mg : Str → Option Value} {fa : Addr} (X : K.In h) (G : h.Ns mainGlobals mg) (hfa : mg "law" = some (.ref fa))
    {f_is_integer : Addr} {od_is_integer an_is_integer : Option Addr} {sl_is_integer : Array (Option Value)} {oc_is_integer kV_is_integer dc_is_integer pm_is_integer cd_is_integer ct_is_integer : Value}
    {T_is_integer : Addr} {oT_is_integer : Value} {dT_is_integer : Option Addr} {nT_is_integer : Nat} {sT_is_integer : Array (Option Value)}
    {f_is_listed : Addr} {od_is_listed an_is_listed : Option Addr} {sl_is_listed : Array (Option Value)} {oc_is_listed kV_is_listed dc_is_listed pm_is_listed cd_is_listed ct_is_listed : Value}
    {f_is_place_list : Addr} {od_is_place_list an_is_place_list : Option Addr} {sl_is_place_list : Array (Option Value)} {oc_is_place_list kV_is_place_list dc_is_place_list pm_is_place_list cd_is_place_list ct_is_place_list : Value}
    {f_checked_places : Addr} {od_checked_places an_checked_places : Option Addr} {sl_checked_places : Array (Option Value)} {oc_checked_places kV_checked_places dc_checked_places pm_checked_places cd_checked_places ct_checked_places : Value}
    {f_checked_pair : Addr} {od_checked_pair an_checked_pair : Option Addr} {sl_checked_pair : Array (Option Value)} {oc_checked_pair kV_checked_pair dc_checked_pair pm_checked_pair cd_checked_pair ct_checked_pair : Value}
    {f_numbered : Addr} {od_numbered an_numbered : Option Addr} {sl_numbered : Array (Option Value)} {oc_numbered kV_numbered dc_numbered pm_numbered cd_numbered ct_numbered : Value}
    {f_bounds_by : Addr} {od_bounds_by an_bounds_by : Option Addr} {sl_bounds_by : Array (Option Value)} {oc_bounds_by kV_bounds_by dc_bounds_by pm_bounds_by cd_bounds_by ct_bounds_by : Value}
    {f_obstruction_of : Addr} {od_obstruction_of an_obstruction_of : Option Addr} {sl_obstruction_of : Array (Option Value)} {oc_obstruction_of kV_obstruction_of dc_obstruction_of pm_obstruction_of cd_obstruction_of ct_obstruction_of : Value}
    {f_possible_pair : Addr} {od_possible_pair an_possible_pair : Option Addr} {sl_possible_pair : Array (Option Value)} {oc_possible_pair kV_possible_pair dc_possible_pair pm_possible_pair cd_possible_pair ct_possible_pair : Value}
    {f_lengths_of : Addr} {od_lengths_of an_lengths_of : Option Addr} {sl_lengths_of : Array (Option Value)} {oc_lengths_of kV_lengths_of dc_lengths_of pm_lengths_of cd_lengths_of ct_lengths_of : Value}
    {f_stretch_lengths : Addr} {od_stretch_lengths an_stretch_lengths : Option Addr} {sl_stretch_lengths : Array (Option Value)} {oc_stretch_lengths kV_stretch_lengths dc_stretch_lengths pm_stretch_lengths cd_stretch_lengths ct_stretch_lengths : Value}
    {f_offset_list : Addr} {od_offset_list an_offset_list : Option Addr} {sl_offset_list : Array (Option Value)} {oc_offset_list kV_offset_list dc_offset_list pm_offset_list cd_offset_list ct_offset_list : Value}
    {f_offsets_of : Addr} {od_offsets_of an_offsets_of : Option Addr} {sl_offsets_of : Array (Option Value)} {oc_offsets_of kV_offsets_of dc_offsets_of pm_offsets_of cd_offsets_of ct_offsets_of : Value}
    {f_are_numbers : Addr} {od_are_numbers an_are_numbers : Option Addr} {sl_are_numbers : Array (Option Value)} {oc_are_numbers kV_are_numbers dc_are_numbers pm_are_numbers cd_are_numbers ct_are_numbers : Value}
    {f_is_parking : Addr} {od_is_parking an_is_parking : Option Addr} {sl_is_parking : Array (Option Value)} {oc_is_parking kV_is_parking dc_is_parking pm_is_parking cd_is_parking ct_is_parking : Value}
    {f_check_wishes : Addr} {od_check_wishes an_check_wishes : Option Addr} {sl_check_wishes : Array (Option Value)} {oc_check_wishes kV_check_wishes dc_check_wishes pm_check_wishes cd_check_wishes ct_check_wishes : Value}
    {f_parked_on_ring : Addr} {od_parked_on_ring an_parked_on_ring : Option Addr} {sl_parked_on_ring : Array (Option Value)} {oc_parked_on_ring kV_parked_on_ring dc_parked_on_ring pm_parked_on_ring cd_parked_on_ring ct_parked_on_ring : Value}
    {f_cars_parked : Addr} {od_cars_parked an_cars_parked : Option Addr} {sl_cars_parked : Array (Option Value)} {oc_cars_parked kV_cars_parked dc_cars_parked pm_cars_parked cd_cars_parked ct_cars_parked : Value}
    {f_check_full : Addr} {od_check_full an_check_full : Option Addr} {sl_check_full : Array (Option Value)} {oc_check_full kV_check_full dc_check_full pm_check_full cd_check_full ct_check_full : Value}
    {f_first_fills : Addr} {od_first_fills an_first_fills : Option Addr} {sl_first_fills : Array (Option Value)} {oc_first_fills kV_first_fills dc_first_fills pm_first_fills cd_first_fills ct_first_fills : Value}
    {f_wishes_of : Addr} {od_wishes_of an_wishes_of : Option Addr} {sl_wishes_of : Array (Option Value)} {oc_wishes_of kV_wishes_of dc_wishes_of pm_wishes_of cd_wishes_of ct_wishes_of : Value}
    {f_law_spring : Addr} {od_law_spring an_law_spring : Option Addr} {sl_law_spring : Array (Option Value)} {oc_law_spring kV_law_spring dc_law_spring pm_law_spring cd_law_spring ct_law_spring : Value}
    {f_law_draw : Addr} {od_law_draw an_law_draw : Option Addr} {sl_law_draw : Array (Option Value)} {oc_law_draw kV_law_draw dc_law_draw pm_law_draw cd_law_draw ct_law_draw : Value}
    {f_law_same : Addr} {od_law_same an_law_same : Option Addr} {sl_law_same : Array (Option Value)} {oc_law_same kV_law_same dc_law_same pm_law_same cd_law_same ct_law_same : Value}
    {f_law_dressed : Addr} {od_law_dressed an_law_dressed : Option Addr} {sl_law_dressed : Array (Option Value)} {oc_law_dressed kV_law_dressed dc_law_dressed pm_law_dressed cd_law_dressed ct_law_dressed : Value}
    {f_law_mixed : Addr} {od_law_mixed an_law_mixed : Option Addr} {sl_law_mixed : Array (Option Value)} {oc_law_mixed kV_law_mixed dc_law_mixed pm_law_mixed cd_law_mixed ct_law_mixed : Value}
    {f_law_pair : Addr} {od_law_pair an_law_pair : Option Addr} {sl_law_pair : Array (Option Value)} {oc_law_pair kV_law_pair dc_law_pair pm_law_pair cd_law_pair ct_law_pair : Value}
    {f_law_wishes : Addr} {od_law_wishes an_law_wishes : Option Addr} {sl_law_wishes : Array (Option Value)} {oc_law_wishes kV_law_wishes dc_law_wishes pm_law_wishes cd_law_wishes ct_law_wishes : Value}
    {f_law_right : Addr} {od_law_right an_law_right : Option Addr} {sl_law_right : Array (Option Value)} {oc_law_right kV_law_right dc_law_right pm_law_right cd_law_right ct_law_right : Value}
    {f_law : Addr} {od_law an_law : Option Addr} {sl_law : Array (Option Value)} {oc_law kV_law dc_law pm_law cd_law ct_law : Value}
    {t_MAX_SIZE : Tok}
    {t_MAX_PLACE : Tok}
    (a_is_integer : PySem.W.nsIn K mainGlobals "is_integer" = some (some (.ref f_is_integer)))
    (l_is_integer : K.lookup f_is_integer = some ⟨oc_is_integer, od_is_integer, .func (PySem.W.fnOf "is_integer" "is_integer" (defArgs Sis_integer) (defBody Sis_integer) (defScope Sis_integer) (.ref T_is_integer) kV_is_integer dc_is_integer pm_is_integer an_is_integer cd_is_integer ct_is_integer), sl_is_integer⟩)
    (t_is_integer : K.lookup T_is_integer = some ⟨oT_is_integer, dT_is_integer, .seq #[.none] nT_is_integer, sT_is_integer⟩)
    (c_is_integer : PySem.W.codeIn K cd_is_integer "is_integer" = true)
    (k_is_integer : PySem.W.keepIn K (.ref f_is_integer) = true)
    (a_is_listed : PySem.W.nsIn K mainGlobals "is_listed" = some (some (.ref f_is_listed)))
    (l_is_listed : K.lookup f_is_listed = some ⟨oc_is_listed, od_is_listed, .func (PySem.W.fnOf "is_listed" "is_listed" (defArgs Sis_listed) (defBody Sis_listed) (defScope Sis_listed) .none kV_is_listed dc_is_listed pm_is_listed an_is_listed cd_is_listed ct_is_listed), sl_is_listed⟩)
    (c_is_listed : PySem.W.codeIn K cd_is_listed "is_listed" = true)
    (k_is_listed : PySem.W.keepIn K (.ref f_is_listed) = true)
    (a_is_place_list : PySem.W.nsIn K mainGlobals "is_place_list" = some (some (.ref f_is_place_list)))
    (l_is_place_list : K.lookup f_is_place_list = some ⟨oc_is_place_list, od_is_place_list, .func (PySem.W.fnOf "is_place_list" "is_place_list" (defArgs Sis_place_list) (defBody Sis_place_list) (defScope Sis_place_list) .none kV_is_place_list dc_is_place_list pm_is_place_list an_is_place_list cd_is_place_list ct_is_place_list), sl_is_place_list⟩)
    (c_is_place_list : PySem.W.codeIn K cd_is_place_list "is_place_list" = true)
    (k_is_place_list : PySem.W.keepIn K (.ref f_is_place_list) = true)
    (a_checked_places : PySem.W.nsIn K mainGlobals "checked_places" = some (some (.ref f_checked_places)))
    (l_checked_places : K.lookup f_checked_places = some ⟨oc_checked_places, od_checked_places, .func (PySem.W.fnOf "checked_places" "checked_places" (defArgs Schecked_places) (defBody Schecked_places) (defScope Schecked_places) .none kV_checked_places dc_checked_places pm_checked_places an_checked_places cd_checked_places ct_checked_places), sl_checked_places⟩)
    (c_checked_places : PySem.W.codeIn K cd_checked_places "checked_places" = true)
    (k_checked_places : PySem.W.keepIn K (.ref f_checked_places) = true)
    (a_checked_pair : PySem.W.nsIn K mainGlobals "checked_pair" = some (some (.ref f_checked_pair)))
    (l_checked_pair : K.lookup f_checked_pair = some ⟨oc_checked_pair, od_checked_pair, .func (PySem.W.fnOf "checked_pair" "checked_pair" (defArgs Schecked_pair) (defBody Schecked_pair) (defScope Schecked_pair) .none kV_checked_pair dc_checked_pair pm_checked_pair an_checked_pair cd_checked_pair ct_checked_pair), sl_checked_pair⟩)
    (c_checked_pair : PySem.W.codeIn K cd_checked_pair "checked_pair" = true)
    (k_checked_pair : PySem.W.keepIn K (.ref f_checked_pair) = true)
    (a_numbered : PySem.W.nsIn K mainGlobals "numbered" = some (some (.ref f_numbered)))
    (l_numbered : K.lookup f_numbered = some ⟨oc_numbered, od_numbered, .func (PySem.W.fnOf "numbered" "numbered" (defArgs Snumbered) (defBody Snumbered) (defScope Snumbered) .none kV_numbered dc_numbered pm_numbered an_numbered cd_numbered ct_numbered), sl_numbered⟩)
    (c_numbered : PySem.W.codeIn K cd_numbered "numbered" = true)
    (k_numbered : PySem.W.keepIn K (.ref f_numbered) = true)
    (a_bounds_by : PySem.W.nsIn K mainGlobals "bounds_by" = some (some (.ref f_bounds_by)))
    (l_bounds_by : K.lookup f_bounds_by = some ⟨oc_bounds_by, od_bounds_by, .func (PySem.W.fnOf "bounds_by" "bounds_by" (defArgs Sbounds_by) (defBody Sbounds_by) (defScope Sbounds_by) .none kV_bounds_by dc_bounds_by pm_bounds_by an_bounds_by cd_bounds_by ct_bounds_by), sl_bounds_by⟩)
    (c_bounds_by : PySem.W.codeIn K cd_bounds_by "bounds_by" = true)
    (k_bounds_by : PySem.W.keepIn K (.ref f_bounds_by) = true)
    (a_obstruction_of : PySem.W.nsIn K mainGlobals "obstruction_of" = some (some (.ref f_obstruction_of)))
    (l_obstruction_of : K.lookup f_obstruction_of = some ⟨oc_obstruction_of, od_obstruction_of, .func (PySem.W.fnOf "obstruction_of" "obstruction_of" (defArgs Sobstruction_of) (defBody Sobstruction_of) (defScope Sobstruction_of) .none kV_obstruction_of dc_obstruction_of pm_obstruction_of an_obstruction_of cd_obstruction_of ct_obstruction_of), sl_obstruction_of⟩)
    (c_obstruction_of : PySem.W.codeIn K cd_obstruction_of "obstruction_of" = true)
    (k_obstruction_of : PySem.W.keepIn K (.ref f_obstruction_of) = true)
    (a_possible_pair : PySem.W.nsIn K mainGlobals "possible_pair" = some (some (.ref f_possible_pair)))
    (l_possible_pair : K.lookup f_possible_pair = some ⟨oc_possible_pair, od_possible_pair, .func (PySem.W.fnOf "possible_pair" "possible_pair" (defArgs Spossible_pair) (defBody Spossible_pair) (defScope Spossible_pair) .none kV_possible_pair dc_possible_pair pm_possible_pair an_possible_pair cd_possible_pair ct_possible_pair), sl_possible_pair⟩)
    (c_possible_pair : PySem.W.codeIn K cd_possible_pair "possible_pair" = true)
    (k_possible_pair : PySem.W.keepIn K (.ref f_possible_pair) = true)
    (a_lengths_of : PySem.W.nsIn K mainGlobals "lengths_of" = some (some (.ref f_lengths_of)))
    (l_lengths_of : K.lookup f_lengths_of = some ⟨oc_lengths_of, od_lengths_of, .func (PySem.W.fnOf "lengths_of" "lengths_of" (defArgs Slengths_of) (defBody Slengths_of) (defScope Slengths_of) .none kV_lengths_of dc_lengths_of pm_lengths_of an_lengths_of cd_lengths_of ct_lengths_of), sl_lengths_of⟩)
    (c_lengths_of : PySem.W.codeIn K cd_lengths_of "lengths_of" = true)
    (k_lengths_of : PySem.W.keepIn K (.ref f_lengths_of) = true)
    (a_stretch_lengths : PySem.W.nsIn K mainGlobals "stretch_lengths" = some (some (.ref f_stretch_lengths)))
    (l_stretch_lengths : K.lookup f_stretch_lengths = some ⟨oc_stretch_lengths, od_stretch_lengths, .func (PySem.W.fnOf "stretch_lengths" "stretch_lengths" (defArgs Sstretch_lengths) (defBody Sstretch_lengths) (defScope Sstretch_lengths) .none kV_stretch_lengths dc_stretch_lengths pm_stretch_lengths an_stretch_lengths cd_stretch_lengths ct_stretch_lengths), sl_stretch_lengths⟩)
    (c_stretch_lengths : PySem.W.codeIn K cd_stretch_lengths "stretch_lengths" = true)
    (k_stretch_lengths : PySem.W.keepIn K (.ref f_stretch_lengths) = true)
    (a_offset_list : PySem.W.nsIn K mainGlobals "offset_list" = some (some (.ref f_offset_list)))
    (l_offset_list : K.lookup f_offset_list = some ⟨oc_offset_list, od_offset_list, .func (PySem.W.fnOf "offset_list" "offset_list" (defArgs Soffset_list) (defBody Soffset_list) (defScope Soffset_list) .none kV_offset_list dc_offset_list pm_offset_list an_offset_list cd_offset_list ct_offset_list), sl_offset_list⟩)
    (c_offset_list : PySem.W.codeIn K cd_offset_list "offset_list" = true)
    (k_offset_list : PySem.W.keepIn K (.ref f_offset_list) = true)
    (a_offsets_of : PySem.W.nsIn K mainGlobals "offsets_of" = some (some (.ref f_offsets_of)))
    (l_offsets_of : K.lookup f_offsets_of = some ⟨oc_offsets_of, od_offsets_of, .func (PySem.W.fnOf "offsets_of" "offsets_of" (defArgs Soffsets_of) (defBody Soffsets_of) (defScope Soffsets_of) .none kV_offsets_of dc_offsets_of pm_offsets_of an_offsets_of cd_offsets_of ct_offsets_of), sl_offsets_of⟩)
    (c_offsets_of : PySem.W.codeIn K cd_offsets_of "offsets_of" = true)
    (k_offsets_of : PySem.W.keepIn K (.ref f_offsets_of) = true)
    (a_are_numbers : PySem.W.nsIn K mainGlobals "are_numbers" = some (some (.ref f_are_numbers)))
    (l_are_numbers : K.lookup f_are_numbers = some ⟨oc_are_numbers, od_are_numbers, .func (PySem.W.fnOf "are_numbers" "are_numbers" (defArgs Sare_numbers) (defBody Sare_numbers) (defScope Sare_numbers) .none kV_are_numbers dc_are_numbers pm_are_numbers an_are_numbers cd_are_numbers ct_are_numbers), sl_are_numbers⟩)
    (c_are_numbers : PySem.W.codeIn K cd_are_numbers "are_numbers" = true)
    (k_are_numbers : PySem.W.keepIn K (.ref f_are_numbers) = true)
    (a_is_parking : PySem.W.nsIn K mainGlobals "is_parking" = some (some (.ref f_is_parking)))
    (l_is_parking : K.lookup f_is_parking = some ⟨oc_is_parking, od_is_parking, .func (PySem.W.fnOf "is_parking" "is_parking" (defArgs Sis_parking) (defBody Sis_parking) (defScope Sis_parking) .none kV_is_parking dc_is_parking pm_is_parking an_is_parking cd_is_parking ct_is_parking), sl_is_parking⟩)
    (c_is_parking : PySem.W.codeIn K cd_is_parking "is_parking" = true)
    (k_is_parking : PySem.W.keepIn K (.ref f_is_parking) = true)
    (a_check_wishes : PySem.W.nsIn K mainGlobals "check_wishes" = some (some (.ref f_check_wishes)))
    (l_check_wishes : K.lookup f_check_wishes = some ⟨oc_check_wishes, od_check_wishes, .func (PySem.W.fnOf "check_wishes" "check_wishes" (defArgs Scheck_wishes) (defBody Scheck_wishes) (defScope Scheck_wishes) .none kV_check_wishes dc_check_wishes pm_check_wishes an_check_wishes cd_check_wishes ct_check_wishes), sl_check_wishes⟩)
    (c_check_wishes : PySem.W.codeIn K cd_check_wishes "check_wishes" = true)
    (k_check_wishes : PySem.W.keepIn K (.ref f_check_wishes) = true)
    (a_parked_on_ring : PySem.W.nsIn K mainGlobals "parked_on_ring" = some (some (.ref f_parked_on_ring)))
    (l_parked_on_ring : K.lookup f_parked_on_ring = some ⟨oc_parked_on_ring, od_parked_on_ring, .func (PySem.W.fnOf "parked_on_ring" "parked_on_ring" (defArgs Sparked_on_ring) (defBody Sparked_on_ring) (defScope Sparked_on_ring) .none kV_parked_on_ring dc_parked_on_ring pm_parked_on_ring an_parked_on_ring cd_parked_on_ring ct_parked_on_ring), sl_parked_on_ring⟩)
    (c_parked_on_ring : PySem.W.codeIn K cd_parked_on_ring "parked_on_ring" = true)
    (k_parked_on_ring : PySem.W.keepIn K (.ref f_parked_on_ring) = true)
    (a_cars_parked : PySem.W.nsIn K mainGlobals "cars_parked" = some (some (.ref f_cars_parked)))
    (l_cars_parked : K.lookup f_cars_parked = some ⟨oc_cars_parked, od_cars_parked, .func (PySem.W.fnOf "cars_parked" "cars_parked" (defArgs Scars_parked) (defBody Scars_parked) (defScope Scars_parked) .none kV_cars_parked dc_cars_parked pm_cars_parked an_cars_parked cd_cars_parked ct_cars_parked), sl_cars_parked⟩)
    (c_cars_parked : PySem.W.codeIn K cd_cars_parked "cars_parked" = true)
    (k_cars_parked : PySem.W.keepIn K (.ref f_cars_parked) = true)
    (a_check_full : PySem.W.nsIn K mainGlobals "check_full" = some (some (.ref f_check_full)))
    (l_check_full : K.lookup f_check_full = some ⟨oc_check_full, od_check_full, .func (PySem.W.fnOf "check_full" "check_full" (defArgs Scheck_full) (defBody Scheck_full) (defScope Scheck_full) .none kV_check_full dc_check_full pm_check_full an_check_full cd_check_full ct_check_full), sl_check_full⟩)
    (c_check_full : PySem.W.codeIn K cd_check_full "check_full" = true)
    (k_check_full : PySem.W.keepIn K (.ref f_check_full) = true)
    (a_first_fills : PySem.W.nsIn K mainGlobals "first_fills" = some (some (.ref f_first_fills)))
    (l_first_fills : K.lookup f_first_fills = some ⟨oc_first_fills, od_first_fills, .func (PySem.W.fnOf "first_fills" "first_fills" (defArgs Sfirst_fills) (defBody Sfirst_fills) (defScope Sfirst_fills) .none kV_first_fills dc_first_fills pm_first_fills an_first_fills cd_first_fills ct_first_fills), sl_first_fills⟩)
    (c_first_fills : PySem.W.codeIn K cd_first_fills "first_fills" = true)
    (k_first_fills : PySem.W.keepIn K (.ref f_first_fills) = true)
    (a_wishes_of : PySem.W.nsIn K mainGlobals "wishes_of" = some (some (.ref f_wishes_of)))
    (l_wishes_of : K.lookup f_wishes_of = some ⟨oc_wishes_of, od_wishes_of, .func (PySem.W.fnOf "wishes_of" "wishes_of" (defArgs Swishes_of) (defBody Swishes_of) (defScope Swishes_of) .none kV_wishes_of dc_wishes_of pm_wishes_of an_wishes_of cd_wishes_of ct_wishes_of), sl_wishes_of⟩)
    (c_wishes_of : PySem.W.codeIn K cd_wishes_of "wishes_of" = true)
    (k_wishes_of : PySem.W.keepIn K (.ref f_wishes_of) = true)
    (a_law_spring : PySem.W.nsIn K mainGlobals "_law_spring" = some (some (.ref f_law_spring)))
    (l_law_spring : K.lookup f_law_spring = some ⟨oc_law_spring, od_law_spring, .func (PySem.W.fnOf "_law_spring" "_law_spring" (defArgs Slaw_spring) (defBody Slaw_spring) (defScope Slaw_spring) .none kV_law_spring dc_law_spring pm_law_spring an_law_spring cd_law_spring ct_law_spring), sl_law_spring⟩)
    (c_law_spring : PySem.W.codeIn K cd_law_spring "_law_spring" = true)
    (k_law_spring : PySem.W.keepIn K (.ref f_law_spring) = true)
    (a_law_draw : PySem.W.nsIn K mainGlobals "_law_draw" = some (some (.ref f_law_draw)))
    (l_law_draw : K.lookup f_law_draw = some ⟨oc_law_draw, od_law_draw, .func (PySem.W.fnOf "_law_draw" "_law_draw" (defArgs Slaw_draw) (defBody Slaw_draw) (defScope Slaw_draw) .none kV_law_draw dc_law_draw pm_law_draw an_law_draw cd_law_draw ct_law_draw), sl_law_draw⟩)
    (c_law_draw : PySem.W.codeIn K cd_law_draw "_law_draw" = true)
    (k_law_draw : PySem.W.keepIn K (.ref f_law_draw) = true)
    (a_law_same : PySem.W.nsIn K mainGlobals "_law_same" = some (some (.ref f_law_same)))
    (l_law_same : K.lookup f_law_same = some ⟨oc_law_same, od_law_same, .func (PySem.W.fnOf "_law_same" "_law_same" (defArgs Slaw_same) (defBody Slaw_same) (defScope Slaw_same) .none kV_law_same dc_law_same pm_law_same an_law_same cd_law_same ct_law_same), sl_law_same⟩)
    (c_law_same : PySem.W.codeIn K cd_law_same "_law_same" = true)
    (k_law_same : PySem.W.keepIn K (.ref f_law_same) = true)
    (a_law_dressed : PySem.W.nsIn K mainGlobals "_law_dressed" = some (some (.ref f_law_dressed)))
    (l_law_dressed : K.lookup f_law_dressed = some ⟨oc_law_dressed, od_law_dressed, .func (PySem.W.fnOf "_law_dressed" "_law_dressed" (defArgs Slaw_dressed) (defBody Slaw_dressed) (defScope Slaw_dressed) .none kV_law_dressed dc_law_dressed pm_law_dressed an_law_dressed cd_law_dressed ct_law_dressed), sl_law_dressed⟩)
    (c_law_dressed : PySem.W.codeIn K cd_law_dressed "_law_dressed" = true)
    (k_law_dressed : PySem.W.keepIn K (.ref f_law_dressed) = true)
    (a_law_mixed : PySem.W.nsIn K mainGlobals "_law_mixed" = some (some (.ref f_law_mixed)))
    (l_law_mixed : K.lookup f_law_mixed = some ⟨oc_law_mixed, od_law_mixed, .func (PySem.W.fnOf "_law_mixed" "_law_mixed" (defArgs Slaw_mixed) (defBody Slaw_mixed) (defScope Slaw_mixed) .none kV_law_mixed dc_law_mixed pm_law_mixed an_law_mixed cd_law_mixed ct_law_mixed), sl_law_mixed⟩)
    (c_law_mixed : PySem.W.codeIn K cd_law_mixed "_law_mixed" = true)
    (k_law_mixed : PySem.W.keepIn K (.ref f_law_mixed) = true)
    (a_law_pair : PySem.W.nsIn K mainGlobals "_law_pair" = some (some (.ref f_law_pair)))
    (l_law_pair : K.lookup f_law_pair = some ⟨oc_law_pair, od_law_pair, .func (PySem.W.fnOf "_law_pair" "_law_pair" (defArgs Slaw_pair) (defBody Slaw_pair) (defScope Slaw_pair) .none kV_law_pair dc_law_pair pm_law_pair an_law_pair cd_law_pair ct_law_pair), sl_law_pair⟩)
    (c_law_pair : PySem.W.codeIn K cd_law_pair "_law_pair" = true)
    (k_law_pair : PySem.W.keepIn K (.ref f_law_pair) = true)
    (a_law_wishes : PySem.W.nsIn K mainGlobals "_law_wishes" = some (some (.ref f_law_wishes)))
    (l_law_wishes : K.lookup f_law_wishes = some ⟨oc_law_wishes, od_law_wishes, .func (PySem.W.fnOf "_law_wishes" "_law_wishes" (defArgs Slaw_wishes) (defBody Slaw_wishes) (defScope Slaw_wishes) .none kV_law_wishes dc_law_wishes pm_law_wishes an_law_wishes cd_law_wishes ct_law_wishes), sl_law_wishes⟩)
    (c_law_wishes : PySem.W.codeIn K cd_law_wishes "_law_wishes" = true)
    (k_law_wishes : PySem.W.keepIn K (.ref f_law_wishes) = true)
    (a_law_right : PySem.W.nsIn K mainGlobals "_law_right" = some (some (.ref f_law_right)))
    (l_law_right : K.lookup f_law_right = some ⟨oc_law_right, od_law_right, .func (PySem.W.fnOf "_law_right" "_law_right" (defArgs Slaw_right) (defBody Slaw_right) (defScope Slaw_right) .none kV_law_right dc_law_right pm_law_right an_law_right cd_law_right ct_law_right), sl_law_right⟩)
    (c_law_right : PySem.W.codeIn K cd_law_right "_law_right" = true)
    (k_law_right : PySem.W.keepIn K (.ref f_law_right) = true)
    (a_law : PySem.W.nsIn K mainGlobals "law" = some (some (.ref f_law)))
    (l_law : K.lookup f_law = some ⟨oc_law, od_law, .func (PySem.W.fnOf "law" "law" (defArgs Slaw) (defBody Slaw) (defScope Slaw) .none kV_law dc_law pm_law an_law cd_law ct_law), sl_law⟩)
    (c_law : PySem.W.codeIn K cd_law "law" = true)
    (k_law : PySem.W.keepIn K (.ref f_law) = true)
    (g_MAX_SIZE : PySem.W.nsIn K mainGlobals "MAX_SIZE" = some (some (.int (200) t_MAX_SIZE)))
    (g_MAX_PLACE : PySem.W.nsIn K mainGlobals "MAX_PLACE" = some (some (.int (1000000000000000000000000000000) t_MAX_PLACE)))
    (z_len : PySem.W.nsIn K mainGlobals "len" = some none)
    (z_range : PySem.W.nsIn K mainGlobals "range" = some none)
    (z_isinstance : PySem.W.nsIn K mainGlobals "isinstance" = some none)
    (z_int : PySem.W.nsIn K mainGlobals "int" = some none)
    (z_bool : PySem.W.nsIn K mainGlobals "bool" = some none)
    (z_str : PySem.W.nsIn K mainGlobals "str" = some none)
    (z_list : PySem.W.nsIn K mainGlobals "list" = some none)
    (z_tuple : PySem.W.nsIn K mainGlobals "tuple" = some none)
    (z_set : PySem.W.nsIn K mainGlobals "set" = some none)
    (z_sorted : PySem.W.nsIn K mainGlobals "sorted" = some none)
    (z_min : PySem.W.nsIn K mainGlobals "min" = some none)
    (z_max : PySem.W.nsIn K mainGlobals "max" = some none)
    (z_sum : PySem.W.nsIn K mainGlobals "sum" = some none)
    (z_all : PySem.W.nsIn K mainGlobals "all" = some none)
    (z_any : PySem.W.nsIn K mainGlobals "any" = some none)
    (z_abs : PySem.W.nsIn K mainGlobals "abs" = some none)
    (z_repr : PySem.W.nsIn K mainGlobals "repr" = some none)
    (z_enumerate : PySem.W.nsIn K mainGlobals "enumerate" = some none)
    (z_zip : PySem.W.nsIn K mainGlobals "zip" = some none)
    (z_reversed : PySem.W.nsIn K mainGlobals "reversed" = some none)
    (z_dict : PySem.W.nsIn K mainGlobals "dict" = some none) :
    ∃ fd : FuncData, (∀ (s : Shared) (v : Value), BindsTo s fd ⟨[v], []⟩ [("script", v)]) ∧ ∀ base : Heap, K.In base → base.Ns mainGlobals mg → FnG l.prog w K mg base 9 fa fd ["script"] (spLaw K) := by
  have e := hfa.symm.trans (PySem.W.mg_of X G a_law)
  cases e
  have B : Bn mg := ⟨PySem.W.mg_none_of X G z_len, PySem.W.mg_none_of X G z_range, PySem.W.mg_none_of X G z_isinstance, PySem.W.mg_none_of X G z_int, PySem.W.mg_none_of X G z_bool, PySem.W.mg_none_of X G z_str, PySem.W.mg_none_of X G z_list, PySem.W.mg_none_of X G z_tuple, PySem.W.mg_none_of X G z_set, PySem.W.mg_none_of X G z_sorted, PySem.W.mg_none_of X G z_min, PySem.W.mg_none_of X G z_max, PySem.W.mg_none_of X G z_sum, PySem.W.mg_none_of X G z_all, PySem.W.mg_none_of X G z_any, PySem.W.mg_none_of X G z_abs, PySem.W.mg_none_of X G z_repr, PySem.W.mg_none_of X G z_enumerate, PySem.W.mg_none_of X G z_zip, PySem.W.mg_none_of X G z_reversed, PySem.W.mg_none_of X G z_dict⟩
  have c_MAX_SIZE : Gc mg "MAX_SIZE" (.int (200)) := ⟨_, PySem.W.mg_of X G g_MAX_SIZE, ⟨_, rfl⟩⟩
  have c_MAX_PLACE : Gc mg "MAX_PLACE" (.int (1000000000000000000000000000000)) := ⟨_, PySem.W.mg_of X G g_MAX_PLACE, ⟨_, rfl⟩⟩
  have F_is_integer : FunD K "is_integer" "is_integer" (defArgs Sis_integer) (defBody Sis_integer) (defScope Sis_integer) [.non] [] f_is_integer _ := ⟨⟨_, _, _, _, _, _, _, _, _, _, rfl, l_is_integer, c_is_integer, .inr ⟨List.cons_ne_nil _ _, _, _, [.none], _, rfl, t_is_integer, rfl, .cons rfl (.nil)⟩, .inl rfl⟩, k_is_integer⟩
  have b_is_integer := F_is_integer.binds1 (ps := ["value", "low", "high"]) 3 1 (List.cons_ne_nil _ _) rfl fun T kV doc pm an cdv ct us its hl hi => match us, its, hl, hi with | [_, _, _], [_], _, _ => ⟨_, rfl, rfl⟩
  obtain ⟨ds_is_integer, v_is_integer, b_is_integer⟩ := b_is_integer
  have bd1_is_integer := F_is_integer.binds1 (ps := ["value", "low", "high"]) 2 0 (List.cons_ne_nil _ _) rfl fun T kV doc pm an cdv ct us its hl hi => match us, its, hl, hi with | [_, _], [_], _, _ => ⟨_, rfl, rfl⟩
  obtain ⟨ds1_is_integer, v1_is_integer, b1_is_integer⟩ := bd1_is_integer
  have F_is_listed := fun_mk (st := Sis_listed) l_is_listed c_is_listed k_is_listed
  have b_is_listed := F_is_listed.binds (ps := ["value"]) fun _ _ _ _ _ _ us hl => match us, hl with | [_], _ => rfl
  have F_is_place_list := fun_mk (st := Sis_place_list) l_is_place_list c_is_place_list k_is_place_list
  have b_is_place_list := F_is_place_list.binds (ps := ["value"]) fun _ _ _ _ _ _ us hl => match us, hl with | [_], _ => rfl
  have F_checked_places := fun_mk (st := Schecked_places) l_checked_places c_checked_places k_checked_places
  have b_checked_places := F_checked_places.binds (ps := ["value"]) fun _ _ _ _ _ _ us hl => match us, hl with | [_], _ => rfl
  have F_checked_pair := fun_mk (st := Schecked_pair) l_checked_pair c_checked_pair k_checked_pair
  have b_checked_pair := F_checked_pair.binds (ps := ["takes", "fills"]) fun _ _ _ _ _ _ us hl => match us, hl with | [_, _], _ => rfl
  have F_numbered := fun_mk (st := Snumbered) l_numbered c_numbered k_numbered
  have b_numbered := F_numbered.binds (ps := ["places"]) fun _ _ _ _ _ _ us hl => match us, hl with | [_], _ => rfl
  have F_bounds_by := fun_mk (st := Sbounds_by) l_bounds_by c_bounds_by k_bounds_by
  have b_bounds_by := F_bounds_by.binds (ps := ["takes", "fills"]) fun _ _ _ _ _ _ us hl => match us, hl with | [_, _], _ => rfl
  have F_obstruction_of := fun_mk (st := Sobstruction_of) l_obstruction_of c_obstruction_of k_obstruction_of
  have b_obstruction_of := F_obstruction_of.binds (ps := ["takes", "fills"]) fun _ _ _ _ _ _ us hl => match us, hl with | [_, _], _ => rfl
  have F_possible_pair := fun_mk (st := Spossible_pair) l_possible_pair c_possible_pair k_possible_pair
  have b_possible_pair := F_possible_pair.binds (ps := ["takes", "fills"]) fun _ _ _ _ _ _ us hl => match us, hl with | [_, _], _ => rfl
  have F_lengths_of := fun_mk (st := Slengths_of) l_lengths_of c_lengths_of k_lengths_of
  have b_lengths_of := F_lengths_of.binds (ps := ["fills"]) fun _ _ _ _ _ _ us hl => match us, hl with | [_], _ => rfl
  have F_stretch_lengths := fun_mk (st := Sstretch_lengths) l_stretch_lengths c_stretch_lengths k_stretch_lengths
  have b_stretch_lengths := F_stretch_lengths.binds (ps := ["fills"]) fun _ _ _ _ _ _ us hl => match us, hl with | [_], _ => rfl
  have F_offset_list := fun_mk (st := Soffset_list) l_offset_list c_offset_list k_offset_list
  have b_offset_list := F_offset_list.binds (ps := ["takes", "fills"]) fun _ _ _ _ _ _ us hl => match us, hl with | [_, _], _ => rfl
  have F_offsets_of := fun_mk (st := Soffsets_of) l_offsets_of c_offsets_of k_offsets_of
  have b_offsets_of := F_offsets_of.binds (ps := ["takes", "fills"]) fun _ _ _ _ _ _ us hl => match us, hl with | [_, _], _ => rfl
  have F_are_numbers := fun_mk (st := Sare_numbers) l_are_numbers c_are_numbers k_are_numbers
  have b_are_numbers := F_are_numbers.binds (ps := ["value"]) fun _ _ _ _ _ _ us hl => match us, hl with | [_], _ => rfl
  have F_is_parking := fun_mk (st := Sis_parking) l_is_parking c_is_parking k_is_parking
  have b_is_parking := F_is_parking.binds (ps := ["value"]) fun _ _ _ _ _ _ us hl => match us, hl with | [_], _ => rfl
  have F_check_wishes := fun_mk (st := Scheck_wishes) l_check_wishes c_check_wishes k_check_wishes
  have b_check_wishes := F_check_wishes.binds (ps := ["wishes"]) fun _ _ _ _ _ _ us hl => match us, hl with | [_], _ => rfl
  have F_parked_on_ring := fun_mk (st := Sparked_on_ring) l_parked_on_ring c_parked_on_ring k_parked_on_ring
  have b_parked_on_ring := F_parked_on_ring.binds (ps := ["wishes", "size"]) fun _ _ _ _ _ _ us hl => match us, hl with | [_, _], _ => rfl
  have F_cars_parked := fun_mk (st := Scars_parked) l_cars_parked c_cars_parked k_cars_parked
  have b_cars_parked := F_cars_parked.binds (ps := ["wishes"]) fun _ _ _ _ _ _ us hl => match us, hl with | [_], _ => rfl
  have F_check_full := fun_mk (st := Scheck_full) l_check_full c_check_full k_check_full
  have b_check_full := F_check_full.binds (ps := ["places"]) fun _ _ _ _ _ _ us hl => match us, hl with | [_], _ => rfl
  have F_first_fills := fun_mk (st := Sfirst_fills) l_first_fills c_first_fills k_first_fills
  have b_first_fills := F_first_fills.binds (ps := ["fills"]) fun _ _ _ _ _ _ us hl => match us, hl with | [_], _ => rfl
  have F_wishes_of := fun_mk (st := Swishes_of) l_wishes_of c_wishes_of k_wishes_of
  have b_wishes_of := F_wishes_of.binds (ps := ["takes", "fills"]) fun _ _ _ _ _ _ us hl => match us, hl with | [_, _], _ => rfl
  have F_law_spring := fun_mk (st := Slaw_spring) l_law_spring c_law_spring k_law_spring
  have b_law_spring := F_law_spring.binds (ps := ["script"]) fun _ _ _ _ _ _ us hl => match us, hl with | [_], _ => rfl
  have F_law_draw := fun_mk (st := Slaw_draw) l_law_draw c_law_draw k_law_draw
  have b_law_draw := F_law_draw.binds (ps := ["spring", "many"]) fun _ _ _ _ _ _ us hl => match us, hl with | [_, _], _ => rfl
  have F_law_same := fun_mk (st := Slaw_same) l_law_same c_law_same k_law_same
  have b_law_same := F_law_same.binds (ps := ["found", "due"]) fun _ _ _ _ _ _ us hl => match us, hl with | [_, _], _ => rfl
  have F_law_dressed := fun_mk (st := Slaw_dressed) l_law_dressed c_law_dressed k_law_dressed
  have b_law_dressed := F_law_dressed.binds (ps := ["spring", "value"]) fun _ _ _ _ _ _ us hl => match us, hl with | [_, _], _ => rfl
  have F_law_mixed := fun_mk (st := Slaw_mixed) l_law_mixed c_law_mixed k_law_mixed
  have b_law_mixed := F_law_mixed.binds (ps := ["spring", "row"]) fun _ _ _ _ _ _ us hl => match us, hl with | [_, _], _ => rfl
  have F_law_pair := fun_mk (st := Slaw_pair) l_law_pair c_law_pair k_law_pair
  have b_law_pair := F_law_pair.binds (ps := ["spring", "size"]) fun _ _ _ _ _ _ us hl => match us, hl with | [_, _], _ => rfl
  have F_law_wishes := fun_mk (st := Slaw_wishes) l_law_wishes c_law_wishes k_law_wishes
  have b_law_wishes := F_law_wishes.binds (ps := ["takes", "fills"]) fun _ _ _ _ _ _ us hl => match us, hl with | [_, _], _ => rfl
  have F_law_right := fun_mk (st := Slaw_right) l_law_right c_law_right k_law_right
  have b_law_right := F_law_right.binds (ps := ["spring", "takes", "fills"]) fun _ _ _ _ _ _ us hl => match us, hl with | [_, _, _], _ => rfl
  have F_law := fun_mk (st := Slaw) l_law c_law k_law
  refine ⟨PySem.W.fnOf "law" "law" (defArgs Slaw) (defBody Slaw) (defScope Slaw) .none kV_law dc_law pm_law an_law cd_law ct_law, fun s v => .of_eq rfl, fun base _ _ => ?_⟩
  have D_is_integer : Df l.prog w K mg base 1 "is_integer" [] spIsInteger := ⟨_, _, _, _, ok_is_integer (k := 0) B F_is_integer, PySem.W.mg_of X G a_is_integer, k_is_integer, b_is_integer, v_is_integer⟩
  have D_is_listed : Df l.prog w K mg base 1 "is_listed" [] spIsListed := ⟨_, _, _, _, ok_is_listed (k := 0) B F_is_listed, PySem.W.mg_of X G a_is_listed, k_is_listed, b_is_listed, .nil⟩
  have D_is_place_list : Df l.prog w K mg base 2 "is_place_list" [] spIsPlaceList := ⟨_, _, _, _, ok_is_place_list B c_MAX_SIZE c_MAX_PLACE D_is_listed D_is_integer F_is_place_list, PySem.W.mg_of X G a_is_place_list, k_is_place_list, b_is_place_list, .nil⟩
  have D_checked_places : Df l.prog w K mg base 3 "checked_places" [] spCheckedPlaces := ⟨_, _, _, _, ok_checked_places B D_is_place_list F_checked_places, PySem.W.mg_of X G a_checked_places, k_checked_places, b_checked_places, .nil⟩
  have D_numbered : Df l.prog w K mg base 1 "numbered" [] spNumbered := ⟨_, _, _, _, ok_numbered (k := 0) B F_numbered, PySem.W.mg_of X G a_numbered, k_numbered, b_numbered, .nil⟩
  have D_bounds_by : Df l.prog w K mg base 2 "bounds_by" [] spBoundsBy := ⟨_, _, _, _, ok_bounds_by B D_numbered F_bounds_by, PySem.W.mg_of X G a_bounds_by, k_bounds_by, b_bounds_by, .nil⟩
  have D_checked_pair : Df l.prog w K mg base 4 "checked_pair" [] spCheckedPair := ⟨_, _, _, _, ok_checked_pair B D_checked_places F_checked_pair, PySem.W.mg_of X G a_checked_pair, k_checked_pair, b_checked_pair, .nil⟩
  have D_obstruction_of : Df l.prog w K mg base 3 "obstruction_of" [] spObsNone := ⟨_, _, _, _, ok_obstruction_of B D_bounds_by F_obstruction_of, PySem.W.mg_of X G a_obstruction_of, k_obstruction_of, b_obstruction_of, .nil⟩
  have D_possible_pair : Df l.prog w K mg base 5 "possible_pair" [] spPossiblePair := ⟨_, _, _, _, ok_possible_pair B D_checked_pair D_obstruction_of D_bounds_by F_possible_pair, PySem.W.mg_of X G a_possible_pair, k_possible_pair, b_possible_pair, .nil⟩
  have D_lengths_of : Df l.prog w K mg base 1 "lengths_of" [] spLengths := ⟨_, _, _, _, ok_lengths_of (k := 0) B F_lengths_of, PySem.W.mg_of X G a_lengths_of, k_lengths_of, b_lengths_of, .nil⟩
  have D_stretch_lengths : Df l.prog w K mg base 4 "stretch_lengths" [] spStretch := ⟨_, _, _, _, ok_stretch_lengths D_checked_places D_lengths_of F_stretch_lengths, PySem.W.mg_of X G a_stretch_lengths, k_stretch_lengths, b_stretch_lengths, .nil⟩
  have D_offset_list : Df l.prog w K mg base 2 "offset_list" [] spOffList := ⟨_, _, _, _, ok_offset_list B D_numbered D_lengths_of F_offset_list, PySem.W.mg_of X G a_offset_list, k_offset_list, b_offset_list, .nil⟩
  have D_offsets_of : Df l.prog w K mg base 6 "offsets_of" [] spOffOf := ⟨_, _, _, _, ok_offsets_of D_possible_pair D_offset_list F_offsets_of, PySem.W.mg_of X G a_offsets_of, k_offsets_of, b_offsets_of, .nil⟩
  have D_are_numbers : Df l.prog w K mg base 2 "are_numbers" [] spAreNumbers := ⟨_, _, _, _, ok_are_numbers B c_MAX_SIZE D_is_listed D_is_integer F_are_numbers, PySem.W.mg_of X G a_are_numbers, k_are_numbers, b_are_numbers, .nil⟩
  have D_is_parking : Df l.prog w K mg base 3 "is_parking" [] spIsParkT := ⟨_, _, _, _, ok_is_parking B D_are_numbers F_is_parking, PySem.W.mg_of X G a_is_parking, k_is_parking, b_is_parking, .nil⟩
  have D_check_wishes : Df l.prog w K mg base 4 "check_wishes" [] spCheckW := ⟨_, _, _, _, ok_check_wishes D_is_parking F_check_wishes, PySem.W.mg_of X G a_check_wishes, k_check_wishes, b_check_wishes, .nil⟩
  have D_parked_on_ring : Df l.prog w K mg base 1 "parked_on_ring" [] spRing := ⟨_, _, _, _, ok_parked_on_ring (k := 0) B F_parked_on_ring, PySem.W.mg_of X G a_parked_on_ring, k_parked_on_ring, b_parked_on_ring, .nil⟩
  have D_cars_parked : Df l.prog w K mg base 5 "cars_parked" [] spCars := ⟨_, _, _, _, ok_cars_parked B D_check_wishes D_parked_on_ring F_cars_parked, PySem.W.mg_of X G a_cars_parked, k_cars_parked, b_cars_parked, .nil⟩
  have D_check_full : Df l.prog w K mg base 3 "check_full" [] spFull := ⟨_, _, _, _, ok_check_full B D_are_numbers F_check_full, PySem.W.mg_of X G a_check_full, k_check_full, b_check_full, .nil⟩
  have D_first_fills : Df l.prog w K mg base 5 "first_fills" [] spFirst := ⟨_, _, _, _, ok_first_fills B D_stretch_lengths F_first_fills, PySem.W.mg_of X G a_first_fills, k_first_fills, b_first_fills, .nil⟩
  have D_wishes_of : Df l.prog w K mg base 7 "wishes_of" [] spWishes := ⟨_, _, _, _, ok_wishes_of B D_check_full D_first_fills D_offsets_of F_wishes_of, PySem.W.mg_of X G a_wishes_of, k_wishes_of, b_wishes_of, .nil⟩
  have D_law_spring : Df l.prog w K mg base 1 "_law_spring" [] (spSpring K) := ⟨_, _, _, _, ok_law_spring (k := 0) B F_law_spring, PySem.W.mg_of X G a_law_spring, k_law_spring, b_law_spring, .nil⟩
  have D_law_draw : Df l.prog w K mg base 1 "_law_draw" [] spDraw := ⟨_, _, _, _, ok_law_draw (k := 0) F_law_draw, PySem.W.mg_of X G a_law_draw, k_law_draw, b_law_draw, .nil⟩
  have D_law_mixed : Df l.prog w K mg base 2 "_law_mixed" [] spMixed := ⟨_, _, _, _, ok_law_mixed B D_law_draw F_law_mixed, PySem.W.mg_of X G a_law_mixed, k_law_mixed, b_law_mixed, .nil⟩
  have D_law_pair : Df l.prog w K mg base 3 "_law_pair" [] spPairS := ⟨_, _, _, _, ok_law_pair B D_law_draw D_law_mixed F_law_pair, PySem.W.mg_of X G a_law_pair, k_law_pair, b_law_pair, .nil⟩
  have D_law_wishes : Df l.prog w K mg base 1 "_law_wishes" [] spWishL := ⟨_, _, _, _, ok_law_wishes (k := 0) B F_law_wishes, PySem.W.mg_of X G a_law_wishes, k_law_wishes, b_law_wishes, .nil⟩
  have D_law_same : Df l.prog w K mg base 2 "_law_same" [] (spSame 2) := D_same B F_law_same (PySem.W.mg_of X G a_law_same) k_law_same b_law_same 2
  have D_law_dressed : Df l.prog w K mg base 4 "_law_dressed" [] (spDressed 2) := D_dressed B D_law_draw F_law_dressed (PySem.W.mg_of X G a_law_dressed) k_law_dressed b_law_dressed 2
  have D_law_right : Df l.prog w K mg base 8 "_law_right" [] spRight := ⟨_, _, _, _, ok_law_right B D_law_wishes D_law_dressed D_wishes_of D_law_same D_is_parking D_cars_parked F_law_right, PySem.W.mg_of X G a_law_right, k_law_right, b_law_right, .nil⟩
  exact ok_law B D_law_spring D_law_draw D_law_pair D_law_right D_wishes_of F_law
theorem the_walk {l : PySem.W.OpenLaw} {q : Program} {loose : List Str} {XP : (Str → Option Value) → Heap → Prop} {YP : World → Heap → Prop} {d : DefRec} {K : Params → PySem.W.Frag} (hn : l.most = some 63) (hdf : d.params.defaults = [])
    (hY : ∀ (w : World) (h : Heap), YP w h → (K w.params).In h)
    (F : ∀ (w : World) (mg : Str → Option Value) (fa : Addr) (h : Heap), (K w.params).In h → h.Ns mainGlobals mg → mg d.name = some (.ref fa) →
      ∃ fd : FuncData, (∀ (s : Shared) (u : Value), BindsTo s fd ⟨[u], []⟩ [("script", u)]) ∧ ∀ base : Heap, (K w.params).In base → base.Ns mainGlobals mg → FnG l.prog w (K w.params) mg base 9 fa fd ["script"] (spLaw (K w.params))) :
    PySem.W.WalkO q loose XP YP l.row.toRowW d [] (fun f vs => PySem.call f vs) :=
  Lx.gwalk (n := 63) (k := 9) (x := "script") (sp := fun w => spLaw (K w.params)) hn (by decide) hdf ⟨rfl, by decide, by decide⟩ hY F (fun _ _ a ns hl hb hS => ⟨a, ns, rfl, hS, hl, fun _ => rfl⟩)
end My
open PySem PySem.W PyProof.Rows in
set_option maxRecDepth 100000 in
set_option maxHeartbeats 0 in
theorem PySem.Challenge.cw_leftreturn_k32_wishes_of_pairs_holds : PySem.Challenge.rw_leftreturn_k32_wishes_of_pairs.Holds := by
  w_on; o_law; k_head; (case hw => w_witness2)
  k_fill
  refine My.the_walk (l := PySem.Challenge.rw_leftreturn_k32_wishes_of_pairs) rfl rfl (fun w h Y => PySem.W.kIn_of Y) ?F
  case F =>
    intro w mg fa h KX G hmg
    refine' My.all_mk KX G hmg ?a_is_integer ?l_is_integer ?t_is_integer ?c_is_integer ?k_is_integer ?a_is_listed ?l_is_listed ?c_is_listed ?k_is_listed ?a_is_place_list ?l_is_place_list ?c_is_place_list ?k_is_place_list ?a_checked_places ?l_checked_places ?c_checked_places ?k_checked_places ?a_checked_pair ?l_checked_pair ?c_checked_pair ?k_checked_pair ?a_numbered ?l_numbered ?c_numbered ?k_numbered ?a_bounds_by ?l_bounds_by ?c_bounds_by ?k_bounds_by ?a_obstruction_of ?l_obstruction_of ?c_obstruction_of ?k_obstruction_of ?a_possible_pair ?l_possible_pair ?c_possible_pair ?k_possible_pair ?a_lengths_of ?l_lengths_of ?c_lengths_of ?k_lengths_of ?a_stretch_lengths ?l_stretch_lengths ?c_stretch_lengths ?k_stretch_lengths ?a_offset_list ?l_offset_list ?c_offset_list ?k_offset_list ?a_offsets_of ?l_offsets_of ?c_offsets_of ?k_offsets_of ?a_are_numbers ?l_are_numbers ?c_are_numbers ?k_are_numbers ?a_is_parking ?l_is_parking ?c_is_parking ?k_is_parking ?a_check_wishes ?l_check_wishes ?c_check_wishes ?k_check_wishes ?a_parked_on_ring ?l_parked_on_ring ?c_parked_on_ring ?k_parked_on_ring ?a_cars_parked ?l_cars_parked ?c_cars_parked ?k_cars_parked ?a_check_full ?l_check_full ?c_check_full ?k_check_full ?a_first_fills ?l_first_fills ?c_first_fills ?k_first_fills ?a_wishes_of ?l_wishes_of ?c_wishes_of ?k_wishes_of ?a_law_spring ?l_law_spring ?c_law_spring ?k_law_spring ?a_law_draw ?l_law_draw ?c_law_draw ?k_law_draw ?a_law_same ?l_law_same ?c_law_same ?k_law_same ?a_law_dressed ?l_law_dressed ?c_law_dressed ?k_law_dressed ?a_law_mixed ?l_law_mixed ?c_law_mixed ?k_law_mixed ?a_law_pair ?l_law_pair ?c_law_pair ?k_law_pair ?a_law_wishes ?l_law_wishes ?c_law_wishes ?k_law_wishes ?a_law_right ?l_law_right ?c_law_right ?k_law_right ?a_law ?l_law ?c_law ?k_law ?g_MAX_SIZE ?g_MAX_PLACE ?z_len ?z_range ?z_isinstance ?z_int ?z_bool ?z_str ?z_list ?z_tuple ?z_set ?z_sorted ?z_min ?z_max ?z_sum ?z_all ?z_any ?z_abs ?z_repr ?z_enumerate ?z_zip ?z_reversed ?z_dict
    (case a_is_integer => k_is)
    (case l_is_integer => k_is)
    (case t_is_integer => k_is)
    (case c_is_integer => k_is)
    (case k_is_integer => k_is)
    (case a_is_listed => k_is)
    (case l_is_listed => k_is)
    (case c_is_listed => k_is)
    (case k_is_listed => k_is)
    (case a_is_place_list => k_is)
    (case l_is_place_list => k_is)
    (case c_is_place_list => k_is)
    (case k_is_place_list => k_is)
    (case a_checked_places => k_is)
    (case l_checked_places => k_is)
    (case c_checked_places => k_is)
    (case k_checked_places => k_is)
    (case a_checked_pair => k_is)
    (case l_checked_pair => k_is)
    (case c_checked_pair => k_is)
    (case k_checked_pair => k_is)
    (case a_numbered => k_is)
    (case l_numbered => k_is)
    (case c_numbered => k_is)
    (case k_numbered => k_is)
    (case a_bounds_by => k_is)
    (case l_bounds_by => k_is)
    (case c_bounds_by => k_is)
    (case k_bounds_by => k_is)
    (case a_obstruction_of => k_is)
    (case l_obstruction_of => k_is)
    (case c_obstruction_of => k_is)
    (case k_obstruction_of => k_is)
    (case a_possible_pair => k_is)
    (case l_possible_pair => k_is)
    (case c_possible_pair => k_is)
    (case k_possible_pair => k_is)
    (case a_lengths_of => k_is)
    (case l_lengths_of => k_is)
    (case c_lengths_of => k_is)
    (case k_lengths_of => k_is)
    (case a_stretch_lengths => k_is)
    (case l_stretch_lengths => k_is)
    (case c_stretch_lengths => k_is)
    (case k_stretch_lengths => k_is)
    (case a_offset_list => k_is)
    (case l_offset_list => k_is)
    (case c_offset_list => k_is)
    (case k_offset_list => k_is)
    (case a_offsets_of => k_is)
    (case l_offsets_of => k_is)
    (case c_offsets_of => k_is)
    (case k_offsets_of => k_is)
    (case a_are_numbers => k_is)
    (case l_are_numbers => k_is)
    (case c_are_numbers => k_is)
    (case k_are_numbers => k_is)
    (case a_is_parking => k_is)
    (case l_is_parking => k_is)
    (case c_is_parking => k_is)
    (case k_is_parking => k_is)
    (case a_check_wishes => k_is)
    (case l_check_wishes => k_is)
    (case c_check_wishes => k_is)
    (case k_check_wishes => k_is)
    (case a_parked_on_ring => k_is)
    (case l_parked_on_ring => k_is)
    (case c_parked_on_ring => k_is)
    (case k_parked_on_ring => k_is)
    (case a_cars_parked => k_is)
    (case l_cars_parked => k_is)
    (case c_cars_parked => k_is)
    (case k_cars_parked => k_is)
    (case a_check_full => k_is)
    (case l_check_full => k_is)
    (case c_check_full => k_is)
    (case k_check_full => k_is)
    (case a_first_fills => k_is)
    (case l_first_fills => k_is)
    (case c_first_fills => k_is)
    (case k_first_fills => k_is)
    (case a_wishes_of => k_is)
    (case l_wishes_of => k_is)
    (case c_wishes_of => k_is)
    (case k_wishes_of => k_is)
    (case a_law_spring => k_is)
    (case l_law_spring => k_is)
    (case c_law_spring => k_is)
    (case k_law_spring => k_is)
    (case a_law_draw => k_is)
    (case l_law_draw => k_is)
    (case c_law_draw => k_is)
    (case k_law_draw => k_is)
    (case a_law_same => k_is)
    (case l_law_same => k_is)
    (case c_law_same => k_is)
    (case k_law_same => k_is)
    (case a_law_dressed => k_is)
    (case l_law_dressed => k_is)
    (case c_law_dressed => k_is)
    (case k_law_dressed => k_is)
    (case a_law_mixed => k_is)
    (case l_law_mixed => k_is)
    (case c_law_mixed => k_is)
    (case k_law_mixed => k_is)
    (case a_law_pair => k_is)
    (case l_law_pair => k_is)
    (case c_law_pair => k_is)
    (case k_law_pair => k_is)
    (case a_law_wishes => k_is)
    (case l_law_wishes => k_is)
    (case c_law_wishes => k_is)
    (case k_law_wishes => k_is)
    (case a_law_right => k_is)
    (case l_law_right => k_is)
    (case c_law_right => k_is)
    (case k_law_right => k_is)
    (case a_law => k_is)
    (case l_law => k_is)
    (case c_law => k_is)
    (case k_law => k_is)
    (case g_MAX_SIZE => k_is)
    (case g_MAX_PLACE => k_is)
    (case z_len => k_is)
    (case z_range => k_is)
    (case z_isinstance => k_is)
    (case z_int => k_is)
    (case z_bool => k_is)
    (case z_str => k_is)
    (case z_list => k_is)
    (case z_tuple => k_is)
    (case z_set => k_is)
    (case z_sorted => k_is)
    (case z_min => k_is)
    (case z_max => k_is)
    (case z_sum => k_is)
    (case z_all => k_is)
    (case z_any => k_is)
    (case z_abs => k_is)
    (case z_repr => k_is)
    (case z_enumerate => k_is)
    (case z_zip => k_is)
    (case z_reversed => k_is)
    (case z_dict => k_is)
